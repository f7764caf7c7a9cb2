import PyProof.Rows.All
import Wide.All
import OpenK.AllK
import Wide.FinOn
import KE.KStateDown
import Lean
import HandS.ForMost
import HandS.ForExc
import HandS.Conv
import HandS.Rev
import HandS.RevTup
import HandS.Style
import HandS.Flow
import HandS.Replace
import HandS.ReplaceList
import HandS.IsInst
import HandS.ExcIs
import HandS.ExcCtx
import HandS.HotCalls
import HandS.TryMany
import HandS.Defaults
import HandS.DictTup
import HandS.SetKeys
import HandS.Zip
import HandS.Head0
import HandS.Head1
import HandS.Head2
import HandS.HeadEnd
import HandS.HeadHook1
import HandS.HeadHook2
import KE.KDictKeyed
import KE.KDictLaw
import KE.SortData
import KE.KSortTupG
import KE.GoesEnum
import KE.GoesMore
import HandS.TupLen
import HandS.Deep
import PyProof.DictMoreH
import KE.DataFind
import HandS.Set
import HandS.SetFor
import HandS.Strs
import KE.KDictDisplayH
import KE.KDictPairs
import HandS.DictEq
import KE.KDictList
import PyProof.NeKinds
import PyProof.StrBlock2
import PyProof.SumWalkG
import HandS.BoundDict
import PySem.Challenge.RW_gluewords_k05_whole_read_is_made
set_option Elab.async false
set_option linter.all false
set_option maxRecDepth 100000
set_option maxHeartbeats 4000000
/-! W0: the base of the walks: defs by name, readings in short, heaps that grow. -/
namespace Gw
open PySem PySem.Spec PyProof.Rows L2

/-! ### defs by name -/
/-- a def of the top, by its name -/
def FnT (K : PySem.W.Frag) (mg : Str → Option Value) (x : Str) (st : Stmt) : Prop :=
  (∃ fd, FunD K x x (defArgs st) (defBody st) (defScope st) [] [] (He.ga K x) fd) ∧ mg x = some (.ref (He.ga K x))
/-- the def called x keeps sp, by k levels at most -/
structure Ok (P : Program) (w : World) (K : PySem.W.Frag) (mg : Str → Option Value) (base : Heap) (k : Nat) (x : Str) (ps : List Str) (sp : Sp) : Prop where
  ex : ∃ fd, FnOk P w K mg base (L2N.CX P w) k (He.ga K x) fd ps sp ∧ Binds K fd ps []
  kp : PySem.W.keepIn K (.ref (He.ga K x)) = true
  gl : mg x = some (.ref (He.ga K x))
section
variable {P : Program} {w : World} {K : PySem.W.Frag} {mg : Str → Option Value} {base : Heap} {x : Str} {st : Stmt} {N ps : List Str} {k : Nat} {sp : Sp}
theorem Ok.lift {j : Nat} (G : Ok P w K mg base j x ps sp) (h : j ≤ k) : Ok P w K mg base k x ps sp := by
  obtain ⟨⟨fd, F, b⟩, kp, gl⟩ := G
  exact ⟨⟨fd, F.mono h, b⟩, kp, gl⟩
theorem Ok.weak {sp' : Sp} (G : Ok P w K mg base k x ps sp) (h : ∀ vs H Q E, sp' vs H Q E → sp vs H Q E) : Ok P w K mg base k x ps sp' := by
  obtain ⟨⟨fd, F, b⟩, kp, gl⟩ := G
  exact ⟨⟨fd, F.imp h, b⟩, kp, gl⟩
/-- how the written parameters are bound -/
abbrev BindsT (x : Str) (st : Stmt) (ps : List Str) : Prop := ∀ (kV doc pm : Value) (an : Option Addr) (cdv ct : Value) (us : List Value), us.length = ps.length →
  bindArgs (PySem.W.fnOf x x (defArgs st) (defBody st) (defScope st) .none kV doc pm an cdv ct) ⟨us, []⟩ = pure (ps.zip us)
/-- a def that lets nothing out -/
theorem Ok.of (T : FnT K mg x st) (S : FnScope N ps (defScope st)) (b : BindsT x st ps) (len : ∀ vs H Q E, sp vs H Q E → vs.length = ps.length)
    (hbody : ∀ (cdv : Value) (A : Around) (outer : List Env) (s : Shared) (H : Hp) (vs : List V) (Q : VK) (E : XK), Room k (A.deeper (envOfC x (defScope st) s.heap.objs.size (He.ga K x) cdv)) → sp vs H Q E →
      ∃ t, PSs (cxOf (L2N.CX P w) P w K mg base N x (defScope st) (He.ga K x) cdv A outer s H E).nox (defBody st) t ∧ t { nx := fun _ H' => Q .non H', rt := Q } (start N vs) H) : Ok P w K mg base (k + 1) x ps sp := by
  obtain ⟨⟨fd, F⟩, g⟩ := T
  refine ⟨⟨fd, F.ok S len fun cdv A outer s H vs Q E hr h => ?_, F.bindsN b⟩, F.kp, g⟩
  obtain ⟨t, h1, h2⟩ := hbody cdv A outer s H vs Q E hr h
  exact ⟨t, h1.nox, h2⟩
/-- a def that may raise -/
theorem Ok.ofX (T : FnT K mg x st) (S : FnScope N ps (defScope st)) (b : BindsT x st ps) (len : ∀ vs H Q E, sp vs H Q E → vs.length = ps.length)
    (hbody : ∀ (cdv : Value) (A : Around) (outer : List Env) (s : Shared) (H : Hp) (vs : List V) (Q : VK) (E : XK), Room k (A.deeper (envOfC x (defScope st) s.heap.objs.size (He.ga K x) cdv)) → sp vs H Q E →
      ∃ t, PSs (cxOf (L2N.CX P w) P w K mg base N x (defScope st) (He.ga K x) cdv A outer s H E) (defBody st) t ∧ t { nx := fun _ H' => Q .non H', rt := Q } (start N vs) H) : Ok P w K mg base (k + 1) x ps sp := by
  obtain ⟨⟨fd, F⟩, g⟩ := T
  exact ⟨⟨fd, F.ok S len hbody, F.bindsN b⟩, F.kp, g⟩
end
section
variable {X : Cx} {x : Str} {ps : List Str} {sp : Sp} {k : Nat} {e : Expr} {es : List Expr} {t : TA} {p pos : Pos}
theorem passN {X : Cx} : Passes (L2N.CX X.prog X.w) X E0 := fun _ _ _ _ _ _ _ h => by
  obtain ⟨_, _, _, _, _, _, _, _, _, _, _, _, z⟩ := h
  exact z.elim
/-- around a body nothing is let out -/
theorem takesN0 {X : Cx} : L2N.Takes X (fun _ _ _ _ => False) := fun _ _ x => by
  obtain ⟨_, _, _, _, _, _, _, _, _, _, _, _, _, _, _, _, z⟩ := x
  exact z.elim
/-- a call that lets nothing out -/
theorem pe_g (G : Ok X.prog X.w X.K X.mg X.base k x ps sp) (hr : Room k X.A) (hg : Gl X x) (ha : PA X (e :: es) t) (hdb : (x == ("__debug__" : Str)) = false := by decide)
    (he : starEach (e :: es) X.env = (false, eval e X.env) :: starEach es X.env := by rfl) (hpl : (backTo pos (starEach es X.env)).any (·.1) = false := by rfl) : PE X (.Call (.Name x p) (e :: es) [] pos) (tCall sp [] E0 t) := by
  obtain ⟨⟨fd, F, b⟩, kp, gl⟩ := G
  exact pe_call F hr hg gl kp b .nil passN ha hdb he hpl
/-- a call whose exceptions leave this def too -/
theorem pe_gx {E : XK} (G : Ok X.prog X.w X.K X.mg X.base k x ps sp) (hr : Room k X.A) (hg : Gl X x) (tk : L2N.Takes X (fun cls d _ H => E cls d H)) (ha : PA X (e :: es) t) (hdb : (x == ("__debug__" : Str)) = false := by decide)
    (he : starEach (e :: es) X.env = (false, eval e X.env) :: starEach es X.env := by rfl) (hpl : (backTo pos (starEach es X.env)).any (·.1) = false := by rfl) : PE X (.Call (.Name x p) (e :: es) [] pos) (tCall sp [] E t) := by
  obtain ⟨⟨fd, F, b⟩, kp, gl⟩ := G
  exact pe_call F hr hg gl kp b .nil (L2N.passes_call tk fun _ _ _ _ h => h) ha hdb he hpl
/-- a call within a try -/
theorem pe_gt {W : WX} (G : Ok X.prog X.w X.K X.mg X.base k x ps sp) (hr : Room k X.A) (hg : Gl X x) (tk : L2N.Takes X W) (ha : PA X (e :: es) t) (hdb : (x == ("__debug__" : Str)) = false := by decide)
    (he : starEach (e :: es) X.env = (false, eval e X.env) :: starEach es X.env := by rfl) (hpl : (backTo pos (starEach es X.env)).any (·.1) = false := by rfl) : PE X (.Call (.Name x p) (e :: es) [] pos) (tCallS sp (WE W) t) := by
  obtain ⟨⟨fd, F, b⟩, kp, gl⟩ := G
  exact pe_callS F hr hg gl kp b (fun σ => L2N.passAt tk σ) ha hdb he hpl
end

/-! ### heaps that grow -/
abbrev Ex (H H' : Hp) : Prop := L2.Same H H'
theorem Ex.new {H : Hp} {p : Addr} {o : HO} (h : H p = none) : Ex H (upd H p o) := fun b u e => by
  rw [upd_ne (ne_of_none e h)]
  exact e
/-- the object at p may have changed -/
def But (p : Addr) (H H' : Hp) : Prop := ∀ b o, b ≠ p → H b = some o → H' b = some o
theorem But.upd {H : Hp} {p : Addr} {o : HO} : But p H (upd H p o) := fun b u h e => by
  rw [upd_ne h]
  exact e
theorem Ex.but {H0 H H' : Hp} {p : Addr} (e : Ex H0 H) (b : But p H H') (h : H0 p = none) : Ex H0 H' := fun c o q => b c o (ne_of_none q h) (e c o q)
theorem Ex.to_but {H H' : Hp} (p : Addr) (e : Ex H H') : But p H H' := fun b o _ q => e b o q
theorem But.trans {H H1 H2 : Hp} {p : Addr} (a : But p H H1) (b : But p H1 H2) : But p H H2 := fun c o n q => b c o n (a c o n q)
theorem But.ex {H H1 H2 : Hp} {p : Addr} (a : But p H H1) (b : Ex H1 H2) : But p H H2 := fun c o n q => b c o (a c o n q)
/-- tuples stay -/
def Tu (H H' : Hp) : Prop := ∀ b xs, Rd H b (.tup xs) → Rd H' b (.tup xs)
theorem Tu.refl (H : Hp) : Tu H H := fun _ _ h => h
theorem Tu.trans {H H1 H2 : Hp} (a : Tu H H1) (b : Tu H1 H2) : Tu H H2 := fun c xs h => b c xs (a c xs h)
theorem Ex.tu {H H' : Hp} (e : Ex H H') : Tu H H' := fun b xs h => by
  rcases h with h | ⟨o, h⟩
  · exact .inl (e b _ h)
  · exact .inr ⟨o, e b _ h⟩
/-- no tuple -/
def NoTup : HO → Prop
  | .tup _ => False
  | .frz _ _ => False
  | _ => True
theorem But.tu {H H' : Hp} {p : Addr} {o : HO} (b : But p H H') (h : H p = some o) (n : NoTup o) : Tu H H' := fun c xs q => by
  rcases q with q | ⟨ob, q⟩
  · exact .inl (b c _ (fun e => by
      rw [e, h] at q
      cases q
      exact n) q)
  · exact .inr ⟨ob, b c _ (fun e => by
      rw [e, h] at q
      cases q
      exact n) q⟩
theorem Tu.sq {K : PySem.W.Frag} {H H' : Hp} {a : Addr} {xs : List V} (t : Tu H H') (h : SqT K H a xs) : SqT K H' a xs := by
  rcases h with h | h
  · exact .inl (t a xs h)
  · exact .inr h
theorem Ex.sqT {K : PySem.W.Frag} {H H' : Hp} {a : Addr} {xs : List V} (e : Ex H H') (h : SqT K H a xs) : SqT K H' a xs := e.tu.sq h
theorem Ex.sqL {K : PySem.W.Frag} {H H' : Hp} {a : Addr} {xs : List V} (e : Ex H H') (h : SqL K H a xs) : SqL K H' a xs := e.seq h
theorem sqL_of {K : PySem.W.Frag} {H : Hp} {a : Addr} {xs : List V} (h : H a = some (.lst xs)) : SqL K H a xs := .inl (.inl h)
theorem sqT_of {K : PySem.W.Frag} {H : Hp} {a : Addr} {xs : List V} (h : H a = some (.tup xs)) : SqT K H a xs := .inl (.inl h)
/-- small sizes -/
theorem line_le {n : Nat} (h : n ≤ 16000000) : n ≤ sizeLine := by rw [sizeLine_eq]; omega
theorem line_lt {n : Nat} (h : n < 16000000) : n < sizeLine := by rw [sizeLine_eq]; omega

/-! ### readings -/
section
variable {K : PySem.W.Frag} {σ : L2.St} {H : Hp} {Q : VK} {D : Ends} {ta tb te : TE} {t u : TS} {tt : TT} {v x y : V} {i : Nat} {r : R2}
theorem w_var (h : σ[i]? = some (some v)) (q : Q v H) : tVar i σ H Q := ⟨v, h, q⟩
theorem w_var0 (q : ∃ v, σ[i]? = some (some v) ∧ Q v H) : tVar i σ H Q := q
theorem w_c (q : Q v H) : tC v σ H Q := q
theorem w_op (q : ta σ H fun x H1 => tb σ H1 fun y H2 => r x y H2 Q) : tOp r ta tb σ H Q := q
theorem w_un {r : V → Hp → VK → Prop} (q : ta σ H fun x H1 => r x H1 Q) : tUn r ta σ H Q := q
theorem w_rI0 {g : Int → Int → V} {a b : Int} (q : Q (g a b) H) : rI0 g (.int a) (.int b) H Q := ⟨a, b, rfl, rfl, q⟩
theorem w_rI {C : Int → Int → Prop} {g : Int → Int → V} {a b : Int} (c : C a b) (q : Q (g a b) H) : rI C g (.int a) (.int b) H Q := ⟨a, b, rfl, rfl, c, q⟩
theorem w_rU {g : Int → V} {a : Int} (q : Q (g a) H) : rU g (.int a) H Q := ⟨a, rfl, q⟩
theorem w_rEq (s : scal x y = true) (q : Q (.bl (decide (x = y))) H) : rEq x y H Q := ⟨s, q⟩
theorem w_rNe (s : scal x y = true) (q : Q (.bl (!decide (x = y))) H) : rNe x y H Q := ⟨s, q⟩
theorem w_test {Q : Bool → Hp → Prop} (q : te σ H fun x H' => ∃ k, x = .bl k ∧ Q k H') : tTest te σ H Q := q
theorem w_tB {Q : Bool → Hp → Prop} (q : te σ H fun x H' => ∃ k, x = .bl k ∧ Q k H') : tB te σ H Q := q
theorem w_nil {Q : List V → Hp → Prop} (q : Q [] H) : tNil σ H Q := q
theorem w_cons {tr : TA} {Q : List V → Hp → Prop} (q : te σ H fun x H1 => tr σ H1 fun xs H2 => Q (x :: xs) H2) : tCons te tr σ H Q := q
theorem w_seqA {j : Nat} (q : te σ H fun x H1 => u D (σ.set j (some x)) H1) : tSeq (tAsg te (gName j)) u D σ H := q
theorem w_seq (q : t { D with nx := u D } σ H) : tSeq t u D σ H := q
theorem w_asg {j : Nat} (q : te σ H fun x H1 => D.nx (σ.set j (some x)) H1) : tAsg te (gName j) D σ H := q
theorem w_asgG {g : TG} (q : te σ H fun x H1 => g x σ H1 D.nx) : tAsg te g D σ H := q
theorem w_ret (q : te σ H fun x H1 => D.rt x H1) : tRet te D σ H := q
theorem w_drop (q : te σ H fun _ H1 => D.nx σ H1) : tDrop te D σ H := q
theorem w_if (q : tt σ H fun b H1 => if b = true then t D σ H1 else u D σ H1) : tIfS tt t u D σ H := q
theorem w_next (q : D.nx σ H) : tNext D σ H := q
theorem w_and {t u : TT} {Q : Bool → Hp → Prop} (q : t σ H fun c H1 => if c = true then u σ H1 Q else Q false H1) : tAnd t u σ H Q := q
theorem w_or {t u : TT} {Q : Bool → Hp → Prop} (q : t σ H fun c H1 => if c = true then Q true H1 else u σ H1 Q) : tOr t u σ H Q := q
theorem w_not {t : TT} {Q : Bool → Hp → Prop} (q : t σ H fun c H1 => Q (!c) H1) : tNot t σ H Q := q
theorem w_andV (q : ta σ H fun x H1 => ∃ c, x = .bl c ∧ if c = true then tb σ H1 Q else Q (.bl false) H1) : tAndV ta tb σ H Q := q
theorem w_orV (q : ta σ H fun x H1 => ∃ c, x = .bl c ∧ if c = true then Q (.bl true) H1 else tb σ H1 Q) : tOrV ta tb σ H Q := q
theorem w_notV (q : ta σ H fun x H1 => ∃ c, x = .bl c ∧ Q (.bl (!c)) H1) : tNotV ta σ H Q := q
theorem w_ife (q : tt σ H fun c H1 => if c = true then ta σ H1 Q else tb σ H1 Q) : tIf tt ta tb σ H Q := q
theorem w_CB {r : List V → Hp → VK → Prop} {t : TA} (q : t σ H fun vs H1 => r vs H1 Q) : tCB r t σ H Q := q
theorem w_call {sp : Sp} {E : XK} {t : TA} (q : t σ H fun vs H1 => sp (vs ++ []) H1 Q E) : tCall sp [] E t σ H Q := q
theorem w_isN (q : te σ H fun x H1 => Q (.bl (decide (x = .non))) H1) : tIsN te σ H Q := q
theorem w_notN (q : te σ H fun x H1 => Q (.bl (!decide (x = .non))) H1) : tNotN te σ H Q := q
end
end Gw

/-! R1: reversed(a text), walked. -/
namespace Gw
open PySem PySem.Spec PyProof.Rows L2 RT

theorem norev_str : typeLookup (.type "str") "__reversed__" = pure none := by rw [typeLookup_type, builtinLookup_eq_fast]; kernel_rfl
theorem get_str : typeLookup (.type "str") "__getitem__" = pure (some (.builtin "str.__getitem__")) := by rw [typeLookup_type, builtinLookup_eq_fast]; kernel_rfl
def rsObj (z : Str) (t : Tok) (i : Int) : Obj := { cls := .type "reversed", data := .fields #[.str z t, rawInt i] }
/-- reversed(z), the next place i -/
def IsRs (h : Heap) (a : Addr) (z : Str) (t : Tok) (i : Int) : Prop := ∃ o, h.get? a = some o ∧ o.cls = .type "reversed" ∧ o.data = .fields #[.str z t, rawInt i]
theorem IsRs.at {h h' : Heap} {a : Addr} {z : Str} {t : Tok} {i : Int} (x : IsRs h a z t i) (e : ∀ o, h.get? a = some o → h'.get? a = some o) : IsRs h' a z t i := let ⟨o, ho, r⟩ := x; ⟨o, e _ ho, r⟩
section
variable {prog : Program} {w : World} {A : Around} {E : Value → Shared → Prop} {s : Shared}
theorem IsRs.typeIs {a : Addr} {z : Str} {t : Tok} {i : Int} (x : IsRs s.heap a z t i) : s.TypeIs (.ref a) "reversed" := let ⟨o, ho, hc, _⟩ := x; ⟨o, ho, hc⟩
theorem code_reversed_str {z : Str} {t : Tok} {Q₁ : Value → Shared → Prop} (hz : (z.length : Int) < 2 ^ 63)
    (h : Q₁ (.ref s.heap.objs.size) { s with heap := s.heap.push (rsObj z t ((z.length : Int) - 1)), toks := s.toks + 1 + 1 }) :
    codeAny (model prog w) A (.call (.builtin "reversed.__new__") ⟨[.type "reversed", .str z t], []⟩) (wants Q₁ E) s := by
  have hT : s.TypeIs (.str z t) "str" := typeIs_str _ _ _
  refine codeAny_of_tree ?_
  show wpAny _ A.in1 (do checkBuiltinCall "reversed.__new__" ⟨[.type "reversed", .str z t], []⟩; again (.builtin "reversed.__new__" ⟨[.type "reversed", .str z t], []⟩)) _ _ s
  refine wpAny_bind (wpAny_of_eq (F.newCall_reversed_1 _) (wpAny_pure ⟨plainId_quiet F.plain_reversed_new _, codeAny_builtin F.entry_reversed_new ?_⟩))
  rw [Around.under_plainId F.plain_reversed_new _]
  unfold Builtin.«reversed.__new__»
  refine wpAny_bind (wpAny_of_eq (newClass_reversed _) ?_)
  try dsimp only
  refine wpAny_bind (wpAny_of_eq (a := ()) (by first | rfl | kernel_rfl) ?_)
  try dsimp only
  refine wpAny_bind (wpAny_of_eq (a := ()) (by first | rfl | kernel_rfl) ?_)
  try dsimp only
  refine wpAny_bind (wpAny_specialOf hT norev_str ?_)
  try dsimp only
  refine wpAny_bind ?_
  wp_delta
  refine wpAny_bind (wpAny_isInstance (T := "str") (U := "dict") (b := false) hT PySem.F.sub_str_dict ?_)
  try dsimp only
  try rw [if_neg Bool.false_ne_true]
  try dsimp only
  refine wpAny_bind (wpAny_specialOf hT get_str ?_)
  try dsimp only
  try rw [if_pos (by decide +kernel)]
  refine wpAny_pure ?_
  try dsimp only
  try rw [if_neg (by decide)]
  try dsimp only
  refine wpAny_bind (len_str (by omega) ?_)
  refine wpAny_bind (wpAny_of_eq (a := some ((z.length : Nat) : Int)) rfl ?_)
  try dsimp only
  refine wpAny_bind ?_
  show wpAny _ _ (newObj (.type "reversed") (.fields #[.str z t, rawInt ((z.length : Int) - 1)])) _ _ _
  refine wpAny_newObj_type ?_
  exact wpAny_pure h
theorem call_reversed_str {z : Str} {t : Tok} {Q : Value → Shared → Prop} (hz : (z.length : Int) < 2 ^ 63)
    (h : Q (.ref s.heap.objs.size) { s with heap := s.heap.push (rsObj z t ((z.length : Int) - 1)), toks := s.toks + 1 + 1 }) : wpAny (model prog w) A (call (.type "reversed") [.str z t]) Q E s := by
  refine callType_codes (Q₁ := fun obj s₁ => s₁.TypeIs obj "reversed" ∧ Q obj s₁) called_rt (F.typeCall_reversed_1 _) F.entry_object_init
    (code_reversed_str (A := A.in1) hz ⟨⟨_, Heap.get?_push_size _ rfl, rfl⟩, h⟩) fun obj s₁ h₁ => ?_
  exact ⟨h₁.1, F.args_object_init_2 obj _, object_init_meets called_rt.init.lookup called_rt.made (by decide) prog w A.in1 _ s₁ ⟨h₁.1, rfl, h₁.2⟩⟩
theorem next_rs_item {it : Addr} {z : Str} {t : Tok} {i c : Nat} {Q : Option Value → Shared → Prop} (hit : IsRs s.heap it z t (i : Int)) (hx : z.cps[i]? = some c) (hsz : z.length ≤ sizeLine)
    (hQ : ∀ h' u tk, IsRs h' it z t ((i : Int) - 1) → Heap.SameBut it s.heap h' → Q (some (.str ⟨#[c]⟩ u)) { s with heap := h', toks := tk }) : wpAny (model prog w) A (pyNext (.ref it)) Q E s := by
  obtain ⟨o, ho, hc, hd⟩ := id hit
  have hi : i < z.cps.size := (Array.getElem?_eq_some_iff.mp hx).1
  have hil : i < z.length := hi
  have hT : s.TypeIs (.str z t) "str" := typeIs_str _ _ _
  rw [sizeLine_eq] at hsz
  unfold pyNext
  refine wpAny_bind (wpAny_attempt (wpAny_callSpecial?_slot (name := Str.ofString "__next__") hit.typeIs slot_rt_next
    (wpAny_call_entry slot_rt_next hit.typeIs entry_rt_next ?_ (args_rt_next _))))
  unfold Builtin.«reversed.__next__»
  refine wpAny_bind (wpAny_of_eq (a := (Value.ref it, [])) rfl ?_)
  try dsimp only
  refine wpAny_bind (wpAny_field ho hd (x := .str z t) rfl ?_)
  try dsimp only
  refine wpAny_bind (wpAny_field ho hd (x := rawInt (i : Int)) rfl ?_)
  show wpAny _ _ (if (i : Int) < 0 then _ else _) _ _ s
  rw [if_neg (by omega)]
  try dsimp only
  refine wpAny_bind (wpAny_specialOf hT get_str ?_)
  try dsimp only
  try rw [if_neg (by decide)]
  try dsimp only
  refine wpAny_bind (wpAny_mkInt ?_)
  refine wpAny_bind (wpAny_attempt ?_)
  have fin : seqIndex? (i : Int) z.length = some i := seqIndex_of (by omega) (by omega)
  refine getItem_str (s := { s with toks := s.toks + 1 }) (c := c) (by
    have e1 : decide ((i : Int) < -(2 ^ 63 : Int)) = false := decide_eq_false (by omega)
    have e2 : decide ((i : Int) ≥ 2 ^ 63) = false := decide_eq_false (by omega)
    rw [e1, e2, Bool.or_false]) (by rw [fin]; simpa using hx) ?_
  try dsimp only
  refine wpAny_bind (wpAny_field ho hd (x := rawInt (i : Int)) rfl ?_)
  try dsimp only
  refine wpAny_bind (wpAny_setField ho hd (by simp) ?_)
  first
  | refine wpAny_pure ⟨_, rfl, wpAny_pure (hQ _ _ _ ?_ (Heap.SameBut.update ..))⟩
  | refine wpAny_bind (wpAny_pure (wpAny_pure ⟨_, rfl, wpAny_pure (hQ _ _ _ ?_ (Heap.SameBut.update ..))⟩))
  exact ⟨_, Heap.get?_update_self _ ho (Obj.isFreed_of_fields (Obj.data_mapFields hd _)), (Obj.cls_mapFields ..).trans hc, by
    rw [Obj.data_mapFields hd]; simp⟩
theorem next_rs_end {it : Addr} {z : Str} {t : Tok} {Q : Option Value → Shared → Prop} (hh : A.handled = none) (hit : IsRs s.heap it z t (-1))
    (hQ : ∀ h', Heap.ExtBut it s.heap h' → Q none { s with heap := h' }) : wpAny (model prog w) A (pyNext (.ref it)) Q E s := by
  obtain ⟨o, ho, hc, hd⟩ := id hit
  unfold pyNext
  refine wpAny_bind (wpAny_attempt (wpAny_callSpecial?_slot (name := Str.ofString "__next__") hit.typeIs slot_rt_next
    (wpAny_call_entry slot_rt_next hit.typeIs entry_rt_next ?_ (args_rt_next _))))
  unfold Builtin.«reversed.__next__»
  refine wpAny_bind (wpAny_of_eq (a := (Value.ref it, [])) rfl ?_)
  try dsimp only
  refine wpAny_bind (wpAny_field ho hd (x := .str z t) rfl ?_)
  try dsimp only
  refine wpAny_bind (wpAny_field ho hd (x := rawInt (-1)) rfl ?_)
  show wpAny _ _ (if (-1 : Int) < 0 then _ else _) _ _ s
  rw [if_pos (by decide)]
  try dsimp only
  refine wpAny_bind (wpAny_rule ?_)
  refine wpAny_bind ?_
  wp_delta
  refine wpAny_bind (wpAny_setField ho hd (by simp) ?_)
  have ho2 := Heap.get?_update_self (Obj.mapFields (·.setIfInBounds 1 (rawInt (-1)))) ho (Obj.isFreed_of_fields (Obj.data_mapFields hd _))
  refine wpAny_setField (s := { s with heap := s.heap.update it (Obj.mapFields (·.setIfInBounds 1 (rawInt (-1)))) }) ho2 (Obj.data_mapFields hd _) (by simp) ?_
  try dsimp only
  first
  | show wpAny _ _ (newExc (.type "StopIteration") [] >>= _) _ _ _
  | (refine wpAny_bind ?_; show wpAny _ _ (newExc (.type "StopIteration") [] >>= _) _ _ _)
  | (refine wpAny_bind ?_; wp_delta; show wpAny _ _ (newExc (.type "StopIteration") [] >>= _) _ _ _)
  refine wpAny_bind ?_
  simp only [newExc, newTuple]
  refine wpAny_bind (wpAny_newObj_type ?_ (by size_fits))
  refine wpAny_bind (m := firstArgMember _ _) (wpAny_of_eq (a := Value.none) (by first | rfl | (simp only [firstArgMember]; rfl)) ?_)
  refine wpAny_newObj_type ?_ (by size_fits)
  simp only [raiseNew]
  refine wpAny_bind (wpAny_handled ?_)
  first | rw [show A.in1.handled = none from hh] | rw [hh]
  refine wpAny_bind (wpAny_pure (wpAny_throw ?_))
  refine wpAny_bind (wpAny_isInstance (T := "StopIteration") (b := true) ⟨_, Heap.get?_push_size _ rfl, rfl⟩ isSubtype_stop ?_)
  refine wpAny_pure (hQ _ ?_)
  refine ((?_ : Heap.ExtBut it s.heap _).push _).push _
  exact fun b ob hb e => (Heap.get?_update_other _ _ (Ne.symm hb)).trans ((Heap.get?_update_other _ _ (Ne.symm hb)).trans e)
theorem iter_rs {it : Addr} {z : Str} {t : Tok} {i : Int} {Q : Value → Shared → Prop} (hit : IsRs s.heap it z t i) (h : Q (.ref it) s) : wpAny (model prog w) A (pyIter (.ref it)) Q E s := by
  refine wpAny_pyIter_slot hit.typeIs slot_rt_iter (wpAny_call_entry slot_rt_iter hit.typeIs entry_rt_iter ?_ (args_rt_iter _))
  show wpAny _ _ (ret (.ref it)) _ _ s
  exact wpAny_pure ⟨_, rfl, "reversed", _, hit.typeIs, slot_rt_next.lookup, h⟩
end
/-- the signs of z from the last on -/
def Itrs (z : Str) : It := ⟨fun i _ => i < z.length, fun i H x H' => H' = H ∧ ∃ c, z.cps[z.length - 1 - i]? = some c ∧ x = .str ⟨#[c]⟩, fun i _ => z.length ≤ i⟩
theorem turn_rs {P : Program} {w : World} {K : PySem.W.Frag} {tg : Expr} (it : Addr) (z : Str) (t : Tok) (hz : z.length ≤ sizeLine) : Turn P w K tg (Itrs z) [it] it (fun i h => i ≤ z.length ∧ IsRs h it z t ((z.length : Int) - 1 - (i : Nat))) where
  mem := by simp
  obj := fun i h st b hb => by
    have e : b = it := by simpa using hb
    subst e
    obtain ⟨_, o, e, c, d⟩ := st
    exact ⟨o, e, fun v z => by rw [d] at z; cases z⟩
  keep := fun i h h' st k => ⟨st.1, st.2.at fun o e => k it (by simp) o e⟩
  item := by
    intro X hP hw hK hc i pins s σ H E I hf st hg
    subst hP hw hK
    have hin : i < z.length := hg
    obtain ⟨f0, f1, f2, f3, f4, f5⟩ := hf it (by simp)
    obtain ⟨_, hit⟩ := st
    have e1 : (z.length : Int) - 1 - ((i : Nat) : Int) = ((z.length - 1 - i : Nat) : Int) := by omega
    rw [e1] at hit
    have hlt : z.length - 1 - i < z.cps.size := by
      show z.length - 1 - i < z.length
      omega
    have hx : z.cps[z.length - 1 - i]? = some z.cps[z.length - 1 - i] := Array.getElem?_eq_getElem hlt
    refine next_rs_item hit hx hz fun h' u tk st' sb => ?_
    have e2 : ((z.length - 1 - i : Nat) : Int) - 1 = (z.length : Int) - 1 - ((i + 1 : Nat) : Int) := by omega
    rw [e2] at st'
    have I1 : Inv X pins σ H { s with heap := h', toks := tk } := I.turned (t' := tk) (fun b o hb e => (sb.2 b hb).trans e) f0 f1 f3 f4 f5
    obtain ⟨o, e, c, d⟩ := id st'
    exact ⟨_, rfl, go_of (s := { s with heap := h', toks := tk }) e c d (by decide) ⟨.str ⟨#[z.cps[z.length - 1 - i]]⟩, H, I1, ⟨u, rfl⟩, ⟨rfl, _, hx, rfl⟩, ⟨hin, st'⟩, fun b hb => (hf b hb).1⟩⟩
  done := by
    intro X hP hw hK hc i pins s σ H E I hf st hg
    subst hP hw hK
    obtain ⟨f0, f1, f2, f3, f4, f5⟩ := hf it (by simp)
    obtain ⟨hin, hit⟩ := st
    have hge : z.length ≤ i := hg
    have e1 : (z.length : Int) - 1 - ((i : Nat) : Int) = -1 := by omega
    rw [e1] at hit
    exact next_rs_end (I.ok.hd hc) hit fun h' eb => ⟨rfl, I.turned (t' := s.toks) (fun b o hb e => eb b o hb e) f0 f1 f3 f4 f5⟩
  self := fun A i s Q E st h => iter_rs st.2 h
/-- reversed(z), z a text -/
def iRevS (te : TE) : TI := fun σ H R => te σ H fun v H1 => ∃ z : Str, v = .str z ∧ z.length ≤ sizeLine ∧ R (Itrs z) H1
theorem pi_revS {X : Cx} {tg e : Expr} {te : TE} {p pos : Pos} (hg : Gl X "reversed") (hm : X.mg "reversed" = none) (he : PE X e te) (hs : starEach [e] X.env = (false, eval e X.env) :: starEach [] X.env := by rfl) : PI X tg (.Call (.Name "reversed" p) [e] [] pos) (iRevS te) := by
  refine ⟨fun pins s σ H R I h => ?_⟩
  refine Call_ (ld_blt I hg hm PyProof.Rows.boot_reversed (PyProof.Rows.callWith_type1 (args_cons (thn (he.run pins s σ H _ I h) fun u s1 ⟨v, H1, I1, r1, q1⟩ => args_nil ?_) hs) hs rfl))
  obtain ⟨z, ev, hz, q⟩ := q1
  subst ev
  obtain ⟨t, rfl⟩ := r1
  have hn := line63
  refine call_reversed_str (by omega) (iter_rs (z := z) (t := t) (i := (z.length : Int) - 1) ⟨_, Heap.get?_push_size _ rfl, rfl, rfl⟩ ?_)
  refine pi_one (tk := s1.toks + 1 + 1) I1 _ (turn_rs _ z t hz) ⟨Nat.zero_le _, ?_⟩ q
  have e1 : (z.length : Int) - 1 - ((0 : Nat) : Int) = (z.length : Int) - 1 := by omega
  rw [e1]
  exact ⟨_, Heap.get?_push_size _ rfl, rfl, rfl⟩
end Gw

/-! W1: rules whose readings name the new heap; loops and comprehensions by folds. -/
namespace Gw
open PySem PySem.Spec PyProof.Rows L2 RT

/-- a new object o at p, all else kept -/
structure New (H : Hp) (p : Addr) (o : HO) (H2 : Hp) : Prop where
  no : H p = none
  ex : Ex H H2
  at_ : H2 p = some o
theorem New.of {H : Hp} {p : Addr} {o : HO} (h : H p = none) : New H p o (upd H p o) := ⟨h, Ex.new h, upd_same⟩
/-- the object at p is now o, all else kept -/
structure Chg (H : Hp) (p : Addr) (o : HO) (H2 : Hp) : Prop where
  but : But p H H2
  at_ : H2 p = some o
theorem Chg.of {H : Hp} {p : Addr} {o : HO} : Chg H p o (upd H p o) := ⟨But.upd, upd_same⟩

theorem Chg.ex {H0 H H2 : Hp} {p : Addr} {o : HO} (c : Chg H p o H2) (e : Ex H0 H) (n : H0 p = none) : Ex H0 H2 := Ex.but e c.but n
section
variable {X : Cx} {es : List Expr} {e : Expr} {pos : Pos} {t : TA} {te : TE}
theorem PE.imp {t t' : TE} (h : PE X e t) (i : ∀ σ H Q, t' σ H Q → t σ H Q) : PE X e t' := ⟨fun pins s σ H Q I q => h.run pins s σ H Q I (i σ H Q q)⟩
theorem CallR.imp {f : Value} {r r' : List V → Hp → VK → Prop} (h : CallR X f r) (i : ∀ xs H Q, r' xs H Q → r xs H Q) : CallR X f r' := fun pins s σ H xs us Q I r1 q => h pins s σ H xs us Q I r1 (i xs H Q q)
theorem OpR.imp {f : Value → Value → Sem Value} {r r' : R2} (h : OpR X f r) (i : ∀ x y H Q, r' x y H Q → r x y H Q) : OpR X f r' := fun pins s σ H x y v u Q I r1 r2 q => h pins s σ H x y v u Q I r1 r2 (i x y H Q q)
theorem MtR.imp {id : String} {r r' : V → List V → Hp → VK → Prop} (h : MtR X id r) (i : ∀ x xs H Q, r' x xs H Q → r x xs H Q) : MtR X id r' := fun pins s σ H x xs v us Q I r1 r2 q => h pins s σ H x xs v us Q I r1 r2 (i x xs H Q q)
theorem SlR.imp {r r' : V → Option Int → Option Int → Hp → VK → Prop} (h : SlR X r) (i : ∀ x a b H Q, r' x a b H Q → r x a b H Q) : SlR X r' := fun pins s σ H x v vl vu lo hi sl Q I r1 hs p1 p2 q => h pins s σ H x v vl vu lo hi sl Q I r1 hs p1 p2 (i x lo hi H Q q)
/-- a tuple, a list written -/
def tTupN (t : TA) : TE := fun σ H Q => t σ H fun xs H1 => xs.length ≤ sizeLine ∧ ∀ p H2, New H1 p (.tup xs) H2 → Q (.ref p) H2
def tLstN (t : TA) : TE := fun σ H Q => t σ H fun xs H1 => xs.length ≤ sizeLine ∧ ∀ p H2, New H1 p (.lst xs) H2 → Q (.ref p) H2
theorem pe_tupN {k} (h : PA X es t) : PE X (.Tuple es k pos) (tTupN t) := by
  refine ⟨fun pins s σ H Q I hq => ?_⟩
  refine wpAny_Tuple_spliced (thn (h.run pos pins s σ H _ I hq) fun us s1 ⟨xs, H1, I1, r, z, q⟩ => ⟨by rw [← r.length]; exact z, ?_⟩)
  have hf : H1 s1.heap.objs.size = none := I1.hok.fresh (Nat.le_refl _)
  exact ⟨.ref s1.heap.objs.size, upd H1 s1.heap.objs.size (.tup xs), I1.laid (t' := s1.toks) (fun b u e => Heap.get?_push_of_some _ e) (Nat.le_refl _) ⟨z, us, r, ⟨_, Heap.get?_push_size _ rfl, rfl, _, rfl⟩⟩, rfl, q _ _ (.of hf)⟩
theorem pe_lstN (h : PA X es t) : PE X (.List es pos) (tLstN t) := by
  refine ⟨fun pins s σ H Q I hq => ?_⟩
  refine wpAny_List_spliced (thn (h.run pos pins s σ H _ I hq) fun us s1 ⟨xs, H1, I1, r, z, q⟩ => ⟨by rw [← r.length]; exact z, ?_⟩)
  have hf : H1 s1.heap.objs.size = none := I1.hok.fresh (Nat.le_refl _)
  exact ⟨.ref s1.heap.objs.size, upd H1 s1.heap.objs.size (.lst xs), I1.laid (t' := s1.toks) (fun b u e => Heap.get?_push_of_some _ e) (Nat.le_refl _) ⟨z, us, 0, r, Heap.get?_push_size _ rfl⟩, rfl, q _ _ (.of hf)⟩
def rSlLN (K : PySem.W.Frag) : V → Option Int → Option Int → Hp → VK → Prop := fun x lo hi H Q => ∃ a xs, x = .ref a ∧ SqL K H a xs ∧ ∀ p H2, New H p (.lst (cutV xs lo hi)) H2 → Q (.ref p) H2
theorem sl_listN : SlR X (rSlLN X.K) := SlR.imp sl_list fun x lo hi H Q ⟨a, xs, e, h, q⟩ => ⟨a, xs, e, h, fun p hp => q p _ (.of hp)⟩
def rListN (K : PySem.W.Frag) : List V → Hp → VK → Prop := fun xs H Q => ∃ p ys, xs = [.ref p] ∧ (SqL K H p ys ∨ SqT K H p ys) ∧ ∀ l H2, New H l (.lst ys) H2 → Q (.ref l) H2
theorem call_listN : CallR X (.type "list") (rListN X.K) := CallR.imp call_list_of fun xs H Q ⟨p, ys, e, h, q⟩ => ⟨p, ys, e, h, fun l hl => q l _ (.of hl)⟩
/-- tuple(a list) -/
def rTupN (K : PySem.W.Frag) : List V → Hp → VK → Prop := fun xs H Q => ∃ p ys, xs = [.ref p] ∧ SqL K H p ys ∧ ∀ l H2, New H l (.tup ys) H2 → Q (.ref l) H2
theorem call_tupN : CallR X (.type "tuple") (rTupN X.K) := CallR.imp call_tuple_of fun xs H Q ⟨p, ys, e, h, q⟩ => ⟨p, ys, e, .inl ⟨h, fun l hl => q l _ (.of hl)⟩⟩
def rCatN : R2 := fun x y H Q => ∃ l b xs zs, x = .ref l ∧ y = .ref b ∧ H l = some (.lst xs) ∧ H b = some (.lst zs) ∧ xs.length + zs.length ≤ sizeLine ∧ ∀ p H2, New H p (.lst (xs ++ zs)) H2 → Q (.ref p) H2
theorem op_catN : OpR X (binaryOp .Add) rCatN := OpR.imp op_cat fun x y H Q ⟨l, b, xs, zs, e1, e2, h1, h2, z, q⟩ => ⟨l, b, xs, zs, e1, e2, h1, h2, z, fun p hp => q p _ (.of hp)⟩
def rRepN : R2 := fun x y H Q => ∃ l k xs, x = .ref l ∧ y = .int k ∧ H l = some (.lst xs) ∧ -(2 ^ 63) ≤ k ∧ k < 2 ^ 63 ∧ xs.length * k.toNat ≤ sizeLine ∧ ∀ p H2, New H p (.lst (List.replicate k.toNat xs).flatten) H2 → Q (.ref p) H2
theorem op_repN : OpR X (binaryOp .Mult) rRepN := OpR.imp op_rep fun x y H Q ⟨l, k, xs, e1, e2, h1, h2, h3, z, q⟩ => ⟨l, k, xs, e1, e2, h1, h2, h3, z, fun p hp => q p _ (.of hp)⟩
def rAppN : V → List V → Hp → VK → Prop := fun x vs H Q => ∃ l xs y, x = .ref l ∧ vs = [y] ∧ H l = some (.lst xs) ∧ xs.length < sizeLine ∧ ∀ H2, Chg H l (.lst (xs ++ [y])) H2 → Q .non H2
theorem mt_appN : MtR X "list.append" rAppN := MtR.imp mt_append fun x xs H Q ⟨l, ys, y, e1, e2, h, z, q⟩ => ⟨l, ys, y, e1, e2, h, z, q _ .of⟩
def rPopN : V → List V → Hp → VK → Prop := fun x vs H Q => ∃ l xs y, x = .ref l ∧ vs = [] ∧ H l = some (.lst (xs ++ [y])) ∧ ∀ H2, Chg H l (.lst xs) H2 → Q y H2
theorem mt_popN : MtR X "list.pop" rPopN := MtR.imp mt_pop fun x vs H Q ⟨l, xs, y, e1, e2, h, q⟩ => ⟨l, _, y, e1, e2, h, by simp, by rw [List.dropLast_concat]; exact q _ .of⟩
theorem ty_list {K : PySem.W.Frag} {H : Hp} {p : Addr} {xs : List V} (h : SqL K H p xs) : tyV K "list" (.ref p) H := .inl ⟨rfl, xs, h⟩
theorem ty_lst {K : PySem.W.Frag} {H : Hp} {p : Addr} {xs : List V} (h : H p = some (.lst xs)) : tyV K "list" (.ref p) H := .inl ⟨rfl, xs, sqL_of h⟩
theorem ty_str {K : PySem.W.Frag} {H : Hp} {z : Str} : tyV K "str" (.str z) H := rfl
end

theorem paired_app {α β : Type} {R : α → β → Prop} : ∀ {xs xs' : List α} {ys ys' : List β}, Paired R xs ys → Paired R xs' ys' → Paired R (xs ++ xs') (ys ++ ys')
  | _, _, _, _, .nil, s => s
  | _, _, _, _, .cons r t, s => .cons r (paired_app t s)
/-! ### what evaluates to what -/
def Ev (te : TE) (σ : L2.St) (H : Hp) (P : V → Hp → Prop) : Prop := ∀ Q : VK, (∀ v H', Ex H H' → P v H' → Q v H') → te σ H Q
def EvT (tt : TT) (σ : L2.St) (H : Hp) (P : Bool → Prop) : Prop := ∀ Q : Bool → Hp → Prop, (∀ b H', Ex H H' → P b → Q b H') → tt σ H Q
def EvG (g : TG) (x : V) (σ : L2.St) (H : Hp) (P : L2.St → Hp → Prop) : Prop := ∀ Q : L2.St → Hp → Prop, (∀ σ' H', Ex H H' → P σ' H' → Q σ' H') → g x σ H Q
/-- a promise's end: the heap grows, the value is as P says -/
def Ret (H : Hp) (Q : VK) (P : V → Hp → Prop) : Prop := ∀ v H', Ex H H' → P v H' → Q v H'
/-- a new list of vs -/
def NewL (H : Hp) (v : V) (H' : Hp) (vs : List V) : Prop := ∃ l, v = .ref l ∧ H l = none ∧ H' l = some (.lst vs)

/-! ### what is walked -/
structure Seqs {β : Type} (J : It) (Ok : Hp → Prop) (bs : List β) (Y : β → V → Hp → Prop) : Prop where
  go : ∀ i H, Ok H → i < bs.length → J.go i H
  yld : ∀ i H x H' b, Ok H → bs[i]? = some b → J.yld i H x H' → Ex H H' ∧ Y b x H'
  stop : ∀ i H, Ok H → bs.length ≤ i → J.stop i H
theorem take_snoc {β : Type} {bs : List β} {i : Nat} {b : β} (h : bs[i]? = some b) : bs.take (i + 1) = bs.take i ++ [b] := by
  rw [List.take_add_one, h]
  rfl
theorem split_at {β : Type} {bs : List β} {i : Nat} {b : β} (h : bs[i]? = some b) : bs = bs.take i ++ b :: bs.drop (i + 1) := by
  obtain ⟨hi, e⟩ := List.getElem?_eq_some_iff.mp h
  have e2 : bs.drop i = b :: bs.drop (i + 1) := by
    rw [List.drop_eq_getElem_cons hi, e]
  calc bs = bs.take i ++ bs.drop i := (List.take_append_drop i bs).symm
    _ = bs.take i ++ b :: bs.drop (i + 1) := by rw [e2]
/-- what is left of a for, of a comprehension, once it is known what is walked -/
def ForG (J : It) (g : TG) (tb : TS) (D : Ends) (σ : L2.St) (H : Hp) : Prop := ∃ W : Nat → Nat → L2.St → Hp → Prop, (∃ m, W 0 m σ H) ∧ ∀ i m σ H, W i m σ H →
  (J.stop i H ∧ D.nx σ H) ∨ (J.go i H ∧ ∃ N : L2.St → Hp → Prop, (∀ σ' H', N σ' H' → ∃ m', m' < m ∧ W (i + 1) m' σ' H') ∧ ∀ x H', J.yld i H x H' → g x σ H' fun σ2 H2 => tb { D with nx := N, ct := N, bk := D.nx } σ2 H2)
def LcG (J : It) (g : TG) (tt : TT) (te : TE) (vs : List Nat) (σ : L2.St) (Q : VK) (H : Hp) : Prop := ∀ D, H D = none → ∃ W : Nat → Nat → Hp → Prop, (∃ m, W 0 m (upd H D (.lst []))) ∧ ∀ i m H, W i m H →
  (J.stop i H ∧ Q (.ref D) H) ∨ (J.go i H ∧ ∃ Nx : Hp → Prop, (∀ H', Nx H' → ∃ m', m' < m ∧ W (i + 1) m' H') ∧ ∀ x H', J.yld i H x H' → g x (wipe σ vs) H' fun σ2 H2 => wipe σ2 vs = wipe σ vs ∧ tt σ2 H2 fun b H3 =>
    if b = true then te σ2 H3 fun y H4 => ∃ acc, H4 D = some (.lst acc) ∧ acc.length < sizeLine ∧ Nx (upd H4 D (.lst (acc ++ [y]))) else Nx H3)
theorem w_for {wi : TI} {g : TG} {tb : TS} {D : Ends} {σ : L2.St} {H : Hp} (q : wi σ H fun J H1 => ForG J g tb D σ H1) : tFor wi g tb D σ H := q
theorem w_lc {wi : TI} {g : TG} {tt : TT} {te : TE} {vs : List Nat} {σ : L2.St} {Q : VK} {H : Hp} (q : wi σ H fun J H1 => LcG J g tt te vs σ Q H1) : tLc wi g tt te vs σ H Q := q
theorem w_iStr {te : TE} {σ : L2.St} {H : Hp} {R : It → Hp → Prop} (q : te σ H fun v H1 => ∃ x, v = .str x ∧ R (Its x) H1) : iStr te σ H R := q
theorem w_iRevS {te : TE} {σ : L2.St} {H : Hp} {R : It → Hp → Prop} (q : te σ H fun v H1 => ∃ z : Str, v = .str z ∧ z.length ≤ sizeLine ∧ R (Itrs z) H1) : iRevS te σ H R := q
theorem w_iList {K : PySem.W.Frag} {te : TE} {σ : L2.St} {H : Hp} {R : It → Hp → Prop} (q : te σ H fun x H1 => ∃ a, x = .ref a ∧ (∃ xs, SqL K H1 a xs) ∧ R (Itl K a) H1) : iList K te σ H R := q
theorem w_iTup {K : PySem.W.Frag} {te : TE} {σ : L2.St} {H : Hp} {R : It → Hp → Prop} (q : te σ H fun x H1 => ∃ a, x = .ref a ∧ (∃ xs, SqT K H1 a xs) ∧ R (Itt K a) H1) : iTup K te σ H R := q
theorem w_iRng1 {ta : TA} {σ : L2.St} {H : Hp} {R : It → Hp → Prop} (q : ta σ H fun vs H1 => ∃ j : Int, vs = [.int j] ∧ -(2 ^ 62) ≤ j ∧ j < 2 ^ 62 ∧ R (Itr 0 j.toNat) H1) : iRng1 ta σ H R := q
theorem ex_rng1 {n : Nat} (h : n ≤ 16000000) {R : Int → Prop} (q : R ((n : Nat) : Int)) : ∃ j : Int, [V.int ((n : Nat) : Int)] = [.int j] ∧ -(2 ^ 62) ≤ j ∧ j < 2 ^ 62 ∧ R j := ⟨n, rfl, by omega, by omega, q⟩
section
variable {β : Type} {J : It} {Ok : Hp → Prop} {bs : List β} {Y : β → V → Hp → Prop} {g : TG} {tb : TS} {D : Ends} {σ : L2.St} {H : Hp}
/-- a for: Rel by what was taken so far -/
theorem forS (S : Seqs J Ok bs Y) (Rel : List β → L2.St → Hp → Prop) (h0 : Rel [] σ H) (ok : ∀ pre σ H, Rel pre σ H → Ok H)
    (hs : ∀ pre b post x σ H H', bs = pre ++ b :: post → Rel pre σ H → Ex H H' → Y b x H' → g x σ H' fun σ2 H2 => tb { D with nx := Rel (pre ++ [b]), ct := Rel (pre ++ [b]), bk := D.nx } σ2 H2) (hd : ∀ σ H, Rel bs σ H → D.nx σ H) :
    ForG J g tb D σ H := by
  refine ⟨fun i m σ H => m = bs.length - i ∧ i ≤ bs.length ∧ Rel (bs.take i) σ H, ⟨bs.length, by omega, Nat.zero_le _, by rw [List.take_zero]; exact h0⟩, ?_⟩
  rintro i m σ H ⟨rfl, hi, p⟩
  have q := ok _ σ H p
  by_cases hlt : i < bs.length
  · have hb : bs[i]? = some bs[i] := List.getElem?_eq_getElem hlt
    refine .inr ⟨S.go i H q hlt, Rel (bs.take (i + 1)), fun σ' H' p' => ⟨bs.length - (i + 1), by omega, rfl, hlt, p'⟩, fun x H' y => ?_⟩
    obtain ⟨e1, e2⟩ := S.yld i H x H' _ q hb y
    rw [take_snoc hb]
    exact hs _ _ _ x σ H H' (split_at hb) p e1 e2
  · have e : i = bs.length := by omega
    subst e
    refine .inl ⟨S.stop _ H q (Nat.le_refl _), hd σ H ?_⟩
    rw [List.take_length] at p
    exact p
/-- a comprehension: El of what it makes, monotone -/
theorem lcS {tt : TT} {te : TE} {vs : List Nat} {Q : VK} (S : Seqs J Ok bs Y) (p : β → Bool) (El : β → V → Hp → Prop) (mono : ∀ b v H1 H2, Tu H1 H2 → El b v H1 → El b v H2) (ok : ∀ H', Ex H H' → Ok H') (len : bs.length < 16000000)
    (hs : ∀ b x H', b ∈ bs → Ex H H' → Y b x H' → EvG g x (wipe σ vs) H' fun σ2 H2 => wipe σ2 vs = wipe σ vs ∧ EvT tt σ2 H2 (fun c => c = p b) ∧ ∀ H3, Ex H2 H3 → p b = true → Ev te σ2 H3 fun y H4 => El b y H4)
    (hq : ∀ l H' ys, H l = none → Ex H H' → H' l = some (.lst ys) → Paired (fun b y => El b y H') (bs.filter p) ys → Q (.ref l) H') :
    LcG J g tt te vs σ Q H := fun D hD => by
  -- what holds between two turns
  obtain ⟨Rel, hRel⟩ : ∃ Rel : List β → Hp → Prop, Rel = fun pre H' => Ex H H' ∧ ∃ ys, H' D = some (.lst ys) ∧ Paired (fun b y => El b y H') (pre.filter p) ys := ⟨_, rfl⟩
  have rel0 : Rel [] (upd H D (.lst [])) := by
    rw [hRel]
    exact ⟨Ex.new hD, [], upd_same, .nil⟩
  refine ⟨fun i m H' => m = bs.length - i ∧ i ≤ bs.length ∧ Rel (bs.take i) H', ⟨bs.length, by omega, Nat.zero_le _, by rw [List.take_zero]; exact rel0⟩, ?_⟩
  rintro i m H0 ⟨rfl, hi, r⟩
  have r' := r
  rw [hRel] at r'
  obtain ⟨ex0, ys, hy, py⟩ := r'
  have q := ok H0 ex0
  by_cases hlt : i < bs.length
  · have hb : bs[i]? = some bs[i] := List.getElem?_eq_getElem hlt
    have hm : bs[i] ∈ bs := List.getElem_mem hlt
    refine .inr ⟨S.go i H0 q hlt, Rel (bs.take (i + 1)), fun H' p' => ⟨bs.length - (i + 1), by omega, rfl, hlt, p'⟩, fun x H' yl => ?_⟩
    obtain ⟨e1, e2⟩ := S.yld i H0 x H' _ q hb yl
    refine hs _ x H' hm (ex0.trans e1) e2 _ fun σ2 H2 e3 ⟨hw, ht, he⟩ => ⟨hw, ht _ fun c H3 e4 hc => ?_⟩
    subst hc
    have e03 : Ex H0 H3 := (e1.trans e3).trans e4
    have fs : (bs.take (i + 1)).filter p = (bs.take i).filter p ++ [bs[i]].filter p := by rw [take_snoc hb, List.filter_append]
    cases hc : p bs[i] with
    | false =>
      rw [if_neg Bool.false_ne_true, hRel]
      show Ex H H3 ∧ ∃ ys, H3 D = some (.lst ys) ∧ Paired (fun b y => El b y H3) ((bs.take (i + 1)).filter p) ys
      rw [fs]
      refine ⟨ex0.trans e03, ys, e03 _ _ hy, ?_⟩
      rw [List.filter_cons_of_neg (by rw [hc]; exact Bool.false_ne_true), List.filter_nil, List.append_nil]
      exact Paired.mapP py fun b y z => mono b y _ _ e03.tu z
    | true =>
      rw [if_pos rfl]
      refine he H3 e4 hc _ fun y H4 e5 el => ⟨ys, (e03.trans e5) _ _ hy, ?_, ?_⟩
      · have l1 := Paired.length py
        have l2 := List.length_filter_le p (bs.take i)
        have l3 : (bs.take i).length ≤ bs.length := by rw [List.length_take]; exact Nat.min_le_right _ _
        exact line_lt (by omega)
      · have e04 : Ex H0 H4 := e03.trans e5
        have tu : Tu H4 (upd H4 D (.lst (ys ++ [y]))) := But.tu But.upd (e04 _ _ hy) trivial
        rw [hRel]
        show Ex H _ ∧ ∃ ys', (upd H4 D (.lst (ys ++ [y]))) D = some (.lst ys') ∧ Paired (fun b y' => El b y' (upd H4 D (.lst (ys ++ [y])))) ((bs.take (i + 1)).filter p) ys'
        rw [fs]
        refine ⟨Ex.but (ex0.trans e04) But.upd hD, ys ++ [y], upd_same, ?_⟩
        rw [List.filter_cons_of_pos hc, List.filter_nil]
        have h1 : Paired (fun b y' => El b y' (upd H4 D (.lst (ys ++ [y])))) ((bs.take i).filter p) ys := Paired.mapP py fun b y' z => mono b y' _ _ (e04.tu.trans tu) z
        have h2 : Paired (fun b y' => El b y' (upd H4 D (.lst (ys ++ [y])))) [bs[i]] [y] := .cons (mono _ _ _ _ tu el) .nil
        exact paired_app h1 h2
  · have e : i = bs.length := by omega
    subst e
    refine .inl ⟨S.stop _ H0 q (Nat.le_refl _), hq D H0 ys hD ex0 hy ?_⟩
    rw [List.take_length] at py
    exact py
end

/-! ### the sources -/
abbrev sg (c : Nat) : Str := ⟨#[c]⟩
theorem seqs_list {K : PySem.W.Frag} {a : Addr} {xs : List V} : Seqs (Itl K a) (fun H => SqL K H a xs) xs (fun b x _ => x = b) where
  go := fun i H h hi => ⟨xs, xs[i], h, List.getElem?_eq_getElem hi⟩
  yld := fun i H x H' b h hb y => by
    obtain ⟨e, y⟩ := y
    subst e
    exact ⟨L2.Same.refl _, Option.some.inj ((y xs h).symm.trans hb)⟩
  stop := fun i H h hi => ⟨xs, h, hi⟩
theorem seqs_tup {K : PySem.W.Frag} {a : Addr} {xs : List V} : Seqs (Itt K a) (fun H => SqT K H a xs) xs (fun b x _ => x = b) where
  go := fun i H h hi => ⟨xs, xs[i], h, List.getElem?_eq_getElem hi⟩
  yld := fun i H x H' b h hb y => by
    obtain ⟨e, y⟩ := y
    subst e
    exact ⟨L2.Same.refl _, Option.some.inj ((y xs h).symm.trans hb)⟩
  stop := fun i H h hi => ⟨xs, h, hi⟩
theorem seqs_revT {K : PySem.W.Frag} {a : Addr} {xs : List V} : Seqs (ItvT K a xs.length) (fun H => SqT K H a xs) xs.reverse (fun b x _ => x = b) where
  go := fun i H h hi => by
    rw [List.length_reverse] at hi
    exact ⟨hi, xs, xs[xs.length - 1 - i], h, List.getElem?_eq_getElem (by omega)⟩
  yld := fun i H x H' b h hb y => by
    obtain ⟨e, y⟩ := y
    subst e
    refine ⟨L2.Same.refl _, ?_⟩
    have hi := (List.getElem?_eq_some_iff.mp hb).1
    rw [List.length_reverse] at hi
    rw [List.getElem?_reverse hi] at hb
    exact Option.some.inj ((y xs h).symm.trans hb)
  stop := fun i H h hi => by
    rw [List.length_reverse] at hi
    exact hi
theorem cps_get (z : Str) (i : Nat) : z.cps[i]? = z.cps.toList[i]? := by simp
theorem seqs_str {z : Str} : Seqs (Its z) (fun _ => True) z.cps.toList (fun c x _ => x = .str (sg c)) where
  go := fun i H _ hi => by
    show i < z.cps.size
    rw [← Array.length_toList]
    exact hi
  yld := fun i H x H' b _ hb y => by
    obtain ⟨e, c, hc, y⟩ := y
    subst e
    rw [cps_get, hb] at hc
    cases hc
    exact ⟨L2.Same.refl _, y⟩
  stop := fun i H _ hi => by
    show z.cps.size ≤ i
    rw [← Array.length_toList]
    exact hi
theorem len_cps (z : Str) : z.length = z.cps.toList.length := by simp [Str.length]
theorem seqs_revS {z : Str} : Seqs (Itrs z) (fun _ => True) z.cps.toList.reverse (fun c x _ => x = .str (sg c)) where
  go := fun i H _ hi => by
    rw [List.length_reverse, ← len_cps] at hi
    exact hi
  yld := fun i H x H' b _ hb y => by
    obtain ⟨e, c, hc, y⟩ := y
    subst e
    have hi := (List.getElem?_eq_some_iff.mp hb).1
    rw [List.length_reverse] at hi
    rw [List.getElem?_reverse hi] at hb
    rw [cps_get, len_cps, hb] at hc
    cases hc
    exact ⟨L2.Same.refl _, y⟩
  stop := fun i H _ hi => by
    rw [List.length_reverse, ← len_cps] at hi
    exact hi
theorem seqs_rng {lo : Int} {n : Nat} : Seqs (Itr lo n) (fun _ => True) (List.range n) (fun i x _ => x = .int (lo + (i : Nat))) where
  go := fun i H _ hi => by
    rw [List.length_range] at hi
    exact hi
  yld := fun i H x H' b _ hb y => by
    obtain ⟨e, y⟩ := y
    subst e
    obtain ⟨hi, e2⟩ := List.getElem?_eq_some_iff.mp hb
    rw [List.getElem_range] at e2
    subst e2
    exact ⟨L2.Same.refl _, y⟩
  stop := fun i H _ hi => by
    rw [List.length_range] at hi
    exact hi
/-- enumerate(a list): a new tuple at each turn -/
theorem seqs_enum {K : PySem.W.Frag} {a : Addr} {xs : List V} : Seqs (Ite K a) (fun H => SqL K H a xs) xs.zipIdx (fun b x H' => ∃ T, x = .ref T ∧ H' T = some (.tup [.int ((b.2 : Nat) : Int), b.1])) where
  go := fun i H h hi => by
    rw [List.length_zipIdx] at hi
    exact ⟨xs, xs[i], h, List.getElem?_eq_getElem hi⟩
  yld := fun i H x H' b h hb y => by
    obtain ⟨T, y, rfl, nT, rfl, f⟩ := y
    have h1 : xs.zipIdx[i]? = (xs[i]?).map fun v => (v, i) := by
      rw [List.getElem?_zipIdx]
      simp
    rw [h1] at hb
    obtain ⟨v, hv, rfl⟩ := Option.map_eq_some_iff.mp hb
    have e := (f xs h).symm.trans hv
    cases e
    exact ⟨Ex.new nT, T, rfl, upd_same⟩
  stop := fun i H h hi => by
    rw [List.length_zipIdx] at hi
    exact ⟨xs, h, hi⟩

/-! ### more short readings -/
section
variable {K : PySem.W.Frag} {σ : L2.St} {H : Hp} {Q : VK}
theorem ex_bl {b : Bool} {R : Bool → Prop} (q : R b) : ∃ k, V.bl b = .bl k ∧ R k := ⟨b, rfl, q⟩
theorem ex_str {a : Str} {R : Str → Prop} (q : R a) : ∃ i, V.str a = .str i ∧ R i := ⟨a, rfl, q⟩
theorem ex_str2 {a b : Str} {R : Str → Str → Prop} (q : R a b) : ∃ i j, V.str a = .str i ∧ V.str b = .str j ∧ R i j := ⟨a, b, rfl, rfl, q⟩
theorem ex_sgn {c : Nat} {z : Str} {R : Nat → Str → Prop} (q : R c z) : ∃ (c' : Nat) (z' : Str), V.str ⟨#[c]⟩ = .str ⟨#[c']⟩ ∧ V.str z = .str z' ∧ R c' z' := ⟨c, z, rfl, rfl, q⟩
theorem ex_lenS {z : Str} (h : z.length ≤ 16000000) {R : Str → Prop} (q : R z) : ∃ z', [V.str z] = [V.str z'] ∧ z'.length ≤ sizeLine ∧ R z' := ⟨z, rfl, line_le h, q⟩
theorem ex_lenL {p : Addr} {xs : List V} {R : Addr → List V → Prop} (h : SqL K H p xs) (q : R p xs) : ∃ p' ys, [V.ref p] = [V.ref p'] ∧ (SqL K H p' ys ∨ SqT K H p' ys) ∧ R p' ys := ⟨p, xs, rfl, .inl h, q⟩
theorem ex_lenT {p : Addr} {xs : List V} {R : Addr → List V → Prop} (h : SqT K H p xs) (q : R p xs) : ∃ p' ys, [V.ref p] = [V.ref p'] ∧ (SqL K H p' ys ∨ SqT K H p' ys) ∧ R p' ys := ⟨p, xs, rfl, .inr h, q⟩
theorem w_ixL {p : Addr} {xs : List V} {i : Int} {v : V} (h : SqL K H p xs) (a : atI xs i = some v) (q : Q v H) : rIxL K (.ref p) (.int i) H Q := ⟨p, xs, i, v, rfl, rfl, h, a, q⟩
theorem w_ixT {p : Addr} {xs : List V} {i : Int} {v : V} (h : SqT K H p xs) (a : atI xs i = some v) (q : Q v H) : rIxT K (.ref p) (.int i) H Q := ⟨p, xs, i, v, rfl, rfl, h, a, q⟩
theorem w_ixS {z : Str} {i : Int} {c : Nat} (h : z.length ≤ 16000000) (a : atI z.cps.toList i = some c) (q : Q (.str ⟨#[c]⟩) H) : rIxS (.str z) (.int i) H Q := ⟨z, i, c, rfl, rfl, line_le h, a, q⟩
end
theorem iteNT {a b : Prop} (q : b) : if (!true) = true then a else b := q
theorem iteNF {a b : Prop} (q : a) : if (!false) = true then a else b := q
theorem w_bm {T : String} {r : V → List V → Hp → VK → Prop} {K : PySem.W.Frag} {σ : L2.St} {H : Hp} {Q : VK} {to : TE} {t : TA} (q : to σ H fun x H1 => tyV K T x H1 ∧ t σ H1 fun xs H2 => r x xs H2 Q) : tBM K T r to t σ H Q := q
theorem w_bm0 {T : String} {r : V → List V → Hp → VK → Prop} {K : PySem.W.Frag} {σ : L2.St} {H : Hp} {Q : VK} {to : TE} (q : to σ H fun x H1 => tyV K T x H1 ∧ r x [] H1 Q) : tBM0 K T r to σ H Q := q
theorem ty_and_str {K : PySem.W.Frag} {H : Hp} {z : Str} {R : Prop} (q : R) : tyV K "str" (.str z) H ∧ R := ⟨rfl, q⟩
theorem ty_and_lst {K : PySem.W.Frag} {H : Hp} {p : Addr} {xs : List V} {R : Prop} (h : H p = some (.lst xs)) (q : R) : tyV K "list" (.ref p) H ∧ R := ⟨ty_lst h, q⟩
theorem ty_and_lst0 {K : PySem.W.Frag} {H : Hp} {p : Addr} {R : Prop} (h : ∃ xs, H p = some (.lst xs)) (q : R) : tyV K "list" (.ref p) H ∧ R := let ⟨_, h⟩ := h; ⟨ty_lst h, q⟩
theorem list_end {α : Type} (l : List α) : l = [] ∨ ∃ k d, l = k ++ [d] := by
  rcases List.eq_nil_or_concat l with e | ⟨k, d, e⟩
  · exact .inl e
  · exact .inr ⟨k, d, by rw [e, List.concat_eq_append]⟩
theorem w_app {l : Addr} {xs : List V} {y : V} {H : Hp} {Q : VK} (h : H l = some (.lst xs)) (z : xs.length < 16000000) (q : ∀ H2, Chg H l (.lst (xs ++ [y])) H2 → Q .non H2) : rAppN (.ref l) [y] H Q := ⟨l, xs, y, rfl, rfl, h, line_lt z, q⟩
theorem w_pop {l : Addr} {xs : List V} {y : V} {H : Hp} {Q : VK} (h : H l = some (.lst (xs ++ [y]))) (q : ∀ H2, Chg H l (.lst xs) H2 → Q y H2) : rPopN (.ref l) [] H Q := ⟨l, xs, y, rfl, rfl, h, q⟩
theorem w_lst {t : TA} {σ : L2.St} {H : Hp} {Q : VK} (q : t σ H fun xs H1 => xs.length ≤ sizeLine ∧ ∀ p H2, New H1 p (.lst xs) H2 → Q (.ref p) H2) : tLstN t σ H Q := q
theorem w_tup {t : TA} {σ : L2.St} {H : Hp} {Q : VK} (q : t σ H fun xs H1 => xs.length ≤ sizeLine ∧ ∀ p H2, New H1 p (.tup xs) H2 → Q (.ref p) H2) : tTupN t σ H Q := q
theorem sz_and {n : Nat} {R : Prop} (h : n ≤ 16000000) (q : R) : n ≤ sizeLine ∧ R := ⟨line_le h, q⟩
theorem w_m1 {r : V → List V → Hp → VK → Prop} {to te : TE} {σ : L2.St} {H : Hp} {Q : VK} (q : to σ H fun x H1 => (∃ a, x = .str a) ∧ te σ H1 fun y H2 => r x [y] H2 Q) : tM1 r to te σ H Q := q
theorem w_m0 {r : V → List V → Hp → VK → Prop} {to : TE} {σ : L2.St} {H : Hp} {Q : VK} (q : to σ H fun x H1 => (∃ a, x = .str a) ∧ r x [] H1 Q) : tM0 r to σ H Q := q
theorem str_and {a : Str} {R : Prop} (q : R) : (∃ b, V.str a = .str b) ∧ R := ⟨⟨a, rfl⟩, q⟩
theorem w_slS {e : TE} {tl th : TO} {r : V → Option Int → Option Int → Hp → VK → Prop} {σ : L2.St} {H : Hp} {Q : VK} (q : e σ H fun x H1 => tl σ H1 fun l H2 => th σ H2 fun u H3 => r x l u H3 Q) : tSl r e tl th σ H Q := q
theorem w_nopart {σ : L2.St} {H : Hp} {Q : Option Int → Hp → Prop} (q : Q none H) : tNoPart σ H Q := q
theorem w_part {te : TE} {σ : L2.St} {H : Hp} {Q : Option Int → Hp → Prop} (q : te σ H fun x H1 => ∃ i, x = .int i ∧ Q (some i) H1) : tPart te σ H Q := q
theorem ex_int {i : Int} {R : Int → Prop} (q : R i) : ∃ j, V.int i = .int j ∧ R j := ⟨i, rfl, q⟩
theorem w_cut {z : Str} {lo hi : Option Int} {H : Hp} {Q : VK} (h : z.length ≤ 16000000) (q : Q (.str (cutS z lo hi)) H) : rSlS (.str z) lo hi H Q := ⟨z, rfl, line_le h, q⟩
theorem w_nx {N : L2.St → Hp → Prop} {r : VK} {b c : L2.St → Hp → Prop} {σ : L2.St} {H : Hp} (q : N σ H) : Ends.nx ⟨N, r, b, c⟩ σ H := q
theorem w_rt {N : L2.St → Hp → Prop} {r : VK} {b c : L2.St → Hp → Prop} {v : V} {H : Hp} (q : r v H) : Ends.rt ⟨N, r, b, c⟩ v H := q
theorem w_bk {N : L2.St → Hp → Prop} {r : VK} {b c : L2.St → Hp → Prop} {σ : L2.St} {H : Hp} (q : b σ H) : Ends.bk ⟨N, r, b, c⟩ σ H := q
theorem w_ct {N : L2.St → Hp → Prop} {r : VK} {b c : L2.St → Hp → Prop} {σ : L2.St} {H : Hp} (q : c σ H) : Ends.ct ⟨N, r, b, c⟩ σ H := q
theorem evG_name {i : Nat} {v : V} {σ : L2.St} {H : Hp} {P : L2.St → Hp → Prop} (p : P (σ.set i (some v)) H) : EvG (gName i) v σ H P := fun _ q => q _ _ (L2.Same.refl _) p
theorem evT_yes {σ : L2.St} {H : Hp} {P : Bool → Prop} (p : P true) : EvT tYes σ H P := fun _ q => q _ _ (L2.Same.refl _) p
/-- a comprehension with a name as its target and no test -/
theorem lcN {β : Type} {J : It} {Ok : Hp → Prop} {bs : List β} {Y : β → V → Hp → Prop} {σ : L2.St} {H : Hp} {te : TE} {j : Nat} {Q : VK} (S : Seqs J Ok bs Y) (El : β → V → Hp → Prop) (mono : ∀ b v H1 H2, Tu H1 H2 → El b v H1 → El b v H2) (ok : ∀ H', Ex H H' → Ok H') (len : bs.length < 16000000)
    (hw : ∀ x, wipe ((wipe σ [j]).set j (some x)) [j] = wipe σ [j])
    (hs : ∀ b x H', b ∈ bs → Ex H H' → Y b x H' → Ev te ((wipe σ [j]).set j (some x)) H' (El b))
    (ym : ∀ b x H1 H2, Ex H1 H2 → Y b x H1 → Y b x H2)
    (hq : ∀ l H' ys, H l = none → Ex H H' → H' l = some (.lst ys) → Paired (fun b y => El b y H') bs ys → Q (.ref l) H') :
    LcG J (gName j) tYes te [j] σ Q H :=
  lcS S (fun _ => true) El mono ok len (fun b x H' hb e y => evG_name ⟨hw x, evT_yes rfl, fun H3 e3 _ => hs b x H3 hb (e.trans e3) (ym b x _ _ e3 y)⟩) fun l H' ys h1 h2 h3 h4 => hq l H' ys h1 h2 h3 (by
    rw [show bs.filter (fun _ => true) = bs by simp] at h4
    exact h4)
/-- .. with a test -/
theorem lcT {β : Type} {J : It} {Ok : Hp → Prop} {bs : List β} {Y : β → V → Hp → Prop} {σ : L2.St} {H : Hp} {tt : TT} {te : TE} {j : Nat} {Q : VK} (S : Seqs J Ok bs Y) (p : β → Bool) (El : β → V → Hp → Prop) (mono : ∀ b v H1 H2, Tu H1 H2 → El b v H1 → El b v H2) (ok : ∀ H', Ex H H' → Ok H') (len : bs.length < 16000000)
    (hw : ∀ x, wipe ((wipe σ [j]).set j (some x)) [j] = wipe σ [j])
    (ht : ∀ b x H', b ∈ bs → Ex H H' → Y b x H' → EvT tt ((wipe σ [j]).set j (some x)) H' (fun c => c = p b))
    (hs : ∀ b x H', b ∈ bs → Ex H H' → Y b x H' → p b = true → Ev te ((wipe σ [j]).set j (some x)) H' (El b))
    (ym : ∀ b x H1 H2, Ex H1 H2 → Y b x H1 → Y b x H2)
    (hq : ∀ l H' ys, H l = none → Ex H H' → H' l = some (.lst ys) → Paired (fun b y => El b y H') (bs.filter p) ys → Q (.ref l) H') :
    LcG J (gName j) tt te [j] σ Q H :=
  lcS S p El mono ok len (fun b x H' hb e y => evG_name ⟨hw x, ht b x H' hb e y, fun H3 e3 pb => hs b x H3 hb (e.trans e3) (ym b x _ _ e3 y) pb⟩) hq
theorem paired_map {α β γ : Type} {f : α → β} {R : β → γ → Prop} : ∀ {xs : List α} {ys : List γ}, Paired (fun a y => R (f a) y) xs ys → Paired R (xs.map f) ys
  | _, _, .nil => .nil
  | _, _, .cons r t => .cons r (paired_map t)
theorem paired_eq {α β : Type} {f : α → β} : ∀ {xs : List α} {ys : List β}, Paired (fun a y => y = f a) xs ys → ys = xs.map f
  | _, _, .nil => rfl
  | _, _, .cons r t => by rw [r, paired_eq t]; rfl
theorem w_gn {i : Nat} {v : V} {σ : L2.St} {H : Hp} {Q : L2.St → Hp → Prop} (q : Q (σ.set i (some v)) H) : gName i v σ H Q := q
theorem pe_txt {X : Cx} {x : Str} {z : Str} {pos : Pos} (hg : Gl X x) (hm : ∃ t, X.mg x = some (.str z t)) (hd : (x == ("__debug__" : Str)) = false := by decide) : PE X (.Name x pos) (tC (.str z)) := by
  obtain ⟨t, h⟩ := hm
  exact pe_glob hg h ⟨t, rfl⟩ hd
theorem pe_cls {X : Cx} {x : Str} {a : Addr} {pos : Pos} (hg : Gl X x) (hm : X.mg x = some (.ref a)) (hd : (x == ("__debug__" : Str)) = false := by decide) : PE X (.Name x pos) (tC (.ref a)) := pe_glob (x := x) (v := .ref a) hg hm rfl hd
theorem ty_only {n : String} : ∀ u, RelV (.ty n) u → u = .type n := fun u r => r
theorem ref_only {a : Addr} : ∀ u, RelV (.ref a) u → u = .ref a := fun u r => r
/-- the classes of errors, as isinstance asks them -/
structure ExCl (K : PySem.W.Frag) : Prop where
  word : ExcC K (He.ga K "BadWord")
  web : ExcC K (He.ga K "BadWeb")
  ww : PySem.W.kitOne K (.ref (He.ga K "BadWord")) (.ref (He.ga K "BadWord")) = some true
  wb : PySem.W.kitOne K (.ref (He.ga K "BadWord")) (.ref (He.ga K "BadWeb")) = some false
  wv : PySem.W.kitOne K (.ref (He.ga K "BadWord")) (.type "ValueError") = some true
  bw : PySem.W.kitOne K (.ref (He.ga K "BadWeb")) (.ref (He.ga K "BadWord")) = some false
  bb : PySem.W.kitOne K (.ref (He.ga K "BadWeb")) (.ref (He.ga K "BadWeb")) = some true
  bv : PySem.W.kitOne K (.ref (He.ga K "BadWeb")) (.type "ValueError") = some true
  ew : PySem.W.exmOne K (.ref (He.ga K "BadWord")) (.ref (He.ga K "GlueError")) = some true
  eb : PySem.W.exmOne K (.ref (He.ga K "BadWeb")) (.ref (He.ga K "GlueError")) = some true

/-- isinstance(e, c), e the error that the suite holds, its class told in the reading -/
def rIsX (K : PySem.W.Frag) (cls : Value) (d : Option Addr) (a : Addr) : List V → Hp → VK → Prop := fun xs H Q => ∃ D, cls = .ref D ∧ d = none ∧ ExcC K D ∧ rIsE K D a xs H Q
theorem call_isX {X : Cx} {a : Addr} {oe : Obj} {cls : Value} {d : Option Addr} {pn : List (Addr × Obj)} (hz : Zc cls d oe) (hf : ∃ vs, oe.data = .fields vs) : CallR (X.suite a ((a, oe) :: pn)) (.builtin "isinstance") (rIsX X.K cls d a) := by
  intro pins s σ H xs us Q I r h
  obtain ⟨D, e1, e2, C, q⟩ := h
  subst e1 e2
  exact call_isE C hz hf pins s σ H xs us Q I r q
theorem w_isX {K : PySem.W.Frag} {D a : Addr} {H : Hp} {Q : VK} {c : V} {cv : Value} {b : Bool} (C : ExcC K D) (hc : ∀ u, RelV c u → u = cv) (k : PySem.W.kitOne K (.ref D) cv = some b) (q : Q (.bl b) H) : rIsX K (.ref D) none a [.ref a, c] H Q := ⟨D, rfl, rfl, C, c, cv, b, rfl, hc, k, q⟩
/-- an item at a bounded place -/
theorem at_mem {xs : List V} {i : Int} (h0 : 0 ≤ i) (h1 : i < xs.length) : ∃ v ∈ xs, atI xs i = some v := by
  have h2 : i.toNat < xs.length := by omega
  refine ⟨xs[i.toNat], List.getElem_mem h2, ?_⟩
  have h3 := atI_nat (xs := xs) (List.getElem?_eq_getElem h2)
  rw [show ((i.toNat : Nat) : Int) = i by omega] at h3
  exact h3
theorem w_rIs {C : Int → Int → Prop} {g : Int → Int → V} {a b : Int} {H : Hp} {Q : VK} (c : C a b) (q : ∀ z, V.int z = g a b → Q (.int z) H) (e : ∃ z, g a b = .int z) : rI C g (.int a) (.int b) H Q := by
  obtain ⟨z, e⟩ := e
  exact ⟨a, b, rfl, rfl, c, by rw [e]; exact q z e.symm⟩
end Gw

/-! W2: rules that were lacking: dicts, sorting, removing, counting data. -/
namespace Gw
open PySem PySem.Spec PyProof.Rows L2 RT
section
variable {X : Cx} {es : List Expr} {e : Expr} {pos : Pos} {t : TA} {te : TE}
/-! ### new dicts -/
def tDNewTN : TE := fun _ H Q => ∀ p H2, New H p (.dT []) H2 → Q (.ref p) H2
def tDNewKN : TE := fun _ H Q => ∀ p H2, New H p (.dK []) H2 → Q (.ref p) H2
theorem pe_dnewTN : PE X (.Dict [] [] pos) tDNewTN := PE.imp pe_dnewT fun σ H Q q p hp => q p _ (.of hp)
theorem pe_dnewKN : PE X (.Dict [] [] pos) tDNewKN := PE.imp pe_dnewK fun σ H Q q p hp => q p _ (.of hp)
theorem w_dnT {σ : L2.St} {H : Hp} {Q : VK} (q : ∀ p H2, New H p (.dT []) H2 → Q (.ref p) H2) : tDNewTN σ H Q := q
theorem w_dnK {σ : L2.St} {H : Hp} {Q : VK} (q : ∀ p H2, New H p (.dK []) H2 → Q (.ref p) H2) : tDNewKN σ H Q := q
/-! ### for k in d: d, a dict of ours, is locked and stays so -/
def iKeysN (td : TE) : TI := fun σ H R => td σ H fun x H1 => ∃ d, x = .ref d ∧ ((∃ kvs, H1 d = some (.dK kvs) ∧ ∀ o H2, Chg H1 d (.frz o (.dK kvs)) H2 → R (Itk d o kvs) H2) ∨ ∃ kvs, H1 d = some (.dT kvs) ∧ ∀ o H2, Chg H1 d (.frz o (.dT kvs)) H2 → R (Itkt d o kvs) H2)
theorem pi_keysN {tg : Expr} {td : TE} (he : PE X e td) : PI X tg e (iKeysN td) := by
  refine ⟨fun pins s σ H R I h => ?_⟩
  refine thn (he.run pins s σ H _ I h) fun u s1 ⟨x, H1, I1, rx, d, ex, q⟩ => ?_
  subst ex
  obtain rfl : u = Value.ref d := rx
  rcases q with ⟨kvs, hd, q⟩ | ⟨kvs, hd, q⟩
  · obtain ⟨od, I2⟩ := I1.lock hd trivial
    obtain ⟨hs, hgd, hx, es, ep, vs, hdt, hsz, kv, hm⟩ := I2.frzK upd_same
    exact iter_keys hs hgd hx hdt (pi_one (tk := s1.toks) I2 _ (turn_keys _ hdt) ⟨_, Heap.get?_push_size _ rfl, rfl, by rw [hsz] <;> rfl⟩ (q od _ .of))
  · obtain ⟨od, I2⟩ := I1.lock hd trivial
    obtain ⟨hs, hgd, hx, es, ep, hdt, hsz, ent⟩ := I2.frzT upd_same
    exact iter_keys hs hgd hx hdt (pi_one (tk := s1.toks) I2 _ (turn_keysT _ hdt) ⟨_, Heap.get?_push_size _ rfl, rfl, by rw [hsz] <;> rfl⟩ (q od _ .of))
theorem w_iKeysK {td : TE} {σ : L2.St} {H : Hp} {R : It → Hp → Prop} (q : td σ H fun x H1 => ∃ d, x = .ref d ∧ ((∃ kvs, H1 d = some (.dK kvs) ∧ ∀ o H2, Chg H1 d (.frz o (.dK kvs)) H2 → R (Itk d o kvs) H2) ∨ ∃ kvs, H1 d = some (.dT kvs) ∧ ∀ o H2, Chg H1 d (.frz o (.dT kvs)) H2 → R (Itkt d o kvs) H2)) : iKeysN td σ H R := q
theorem seqs_keys {d : Addr} {o : Obj} {kvs : List (Key × V)} : Seqs (Itk d o kvs) (fun H => H d = some (.frz o (.dK kvs))) kvs (fun kv x _ => x = kV kv.1) where
  go := fun i H h hi => ⟨h, hi⟩
  yld := fun i H x H' b h hb ⟨e, k, v, y, z⟩ => by
    subst e
    rw [hb] at y
    cases y
    exact ⟨L2.Same.refl _, z⟩
  stop := fun i H h hi => ⟨h, hi⟩
theorem seqs_keysT {d : Addr} {o : Obj} {kvs : List (List Key × V)} : Seqs (Itkt d o kvs) (fun H => H d = some (.frz o (.dT kvs))) kvs (fun kv x H => ∃ q, x = .ref q ∧ H q = some (.tup (kv.1.map kV))) where
  go := fun i H h hi => ⟨h, hi⟩
  yld := fun i H x H' b h hb ⟨e, k, v, q, y, z, w⟩ => by
    subst e
    rw [hb] at y
    cases y
    exact ⟨L2.Same.refl _, q, z, w⟩
  stop := fun i H h hi => ⟨h, hi⟩
/-! ### d.setdefault(y, x), the keys tuples -/
def tDSetdT (td ty tx : TE) : TE := fun σ H Q => td σ H fun x H1 => ∃ a, x = .ref a ∧ IsD H1 a ∧ ty σ H1 fun y H2 => tx σ H2 fun z H3 => ∃ (kvs : List (List Key × V)) (k : List Key) (b : Addr), H3 a = some (.dT kvs) ∧ y = .ref b ∧ H3 b = some (.tup (k.map kV)) ∧ kvs.length < sizeLine ∧
  (∀ v, valV kvs k = some v → Q v H3) ∧ (valV kvs k = none → ∀ H4, Chg H3 a (.dT (putK kvs k z)) H4 → Q z H4)
theorem pe_dsetdT {o f : Expr} {td ty tx : TE} {apos cpos : Pos} (hu : X.A.units + 1 < cLine) (ho : PE X o td) (he : PE X e ty) (hf : PE X f tx) (m : M2 X o "setdefault" apos e f cpos) : PE X (.Call (.Attribute o "setdefault" apos) [e, f] [] cpos) (tDSetdT td ty tx) := by
  refine ⟨fun pins s σ H Q I h => ?_⟩
  refine wpAny_Call_method m.base m.few m.line PySem.F.plainAttrs_dict PySem.F.slot_dict_setdefault PySem.F.type_dict_setdefault (thn (ho.run pins s σ H _ I h) fun u s1 ⟨x, H1, I1, rx, a, ex, d, q1⟩ => ?_)
  subst ex
  obtain rfl : u = Value.ref a := rx
  obtain ⟨t1, t2, _⟩ := isD_at I1 d
  refine ⟨t1, t2, ?_⟩
  rw [m.trees]
  have last : ∀ (fv iv : Value) (s3 : Shared) (y z : V) (H3 : Hp), Inv X pins σ H3 s3 → RelV y iv → RelV z fv → (∃ (kvs : List (List Key × V)) (k : List Key) (b : Addr), H3 a = some (.dT kvs) ∧ y = .ref b ∧ H3 b = some (.tup (k.map kV)) ∧ kvs.length < sizeLine ∧
      (∀ v, valV kvs k = some v → Q v H3) ∧ (valV kvs k = none → ∀ H4, Chg H3 a (.dT (putK kvs k z)) H4 → Q z H4)) → wpAny (model X.prog X.w) X.A (call (.builtin "dict.setdefault") [.ref a, iv, fv]) (EP X pins σ Q) X.xe s3 := by
    intro fv iv s3 y z H3 I3 ry rz ⟨kvs, k, b, ea, ey, eb, hl, q3, q4⟩
    subst ey
    cases (show iv = Value.ref b from ry)
    obtain ⟨zs, hd, xs, rel, dd⟩ := dt_of I3.hok ea
    have hk := rel.val k
    refine call_setdefault_heap (tupleKind_room_in1 hu) (key_of I3.hok eb) hd dd (fun p hp => ?_) (fun hn h' dd' hs => ?_) (by rw [← Paired.length rel]; exact zs)
    · rw [hp] at hk
      cases q0 : valV kvs k with
      | none => rw [q0] at hk; exact hk.elim
      | some v0 =>
        rw [q0] at hk
        exact ⟨v0, H3, I3.tok _, hk, q3 v0 q0⟩
    · rw [hn] at hk
      cases q0 : valV kvs k with
      | some v0 => rw [q0] at hk; exact hk.elim
      | none =>
        have hl2 : (putK kvs k z).length ≤ sizeLine := by have := length_putK kvs k z; omega
        obtain ⟨q, es, ep, hq, h2, h3, h4, _, h5⟩ := dd'
        have new : ObjOk X.prog X.w (upd H3 a (.dT (putK kvs k z))) h' a (.dT (putK kvs k z)) := by
          refine ⟨hl2, hd, _, (rel.put k eb rz).keeps fun c ys ec => ?_, q, es, ep, hq, h2, h3, h4, h5⟩
          rw [upd_ne (ne_of ec ea (fun z => nomatch z))]
          exact ec
        exact ⟨z, _, d_write I3 (by rw [ea]; exact True.intro) hs ⟨q, hq⟩ new, rz, q4 q0 _ .of⟩
  exact Calls.callWith_builtin rfl (Calls.evalArgs_plain (Calls.spliced_cons (thn (he.run pins s1 σ H1 _ I1 q1) fun iv s2 ⟨y, H2, I2, ry, q2⟩ =>
    Calls.spliced_cons (thn (hf.run pins s2 σ H2 _ I2 q2) fun fv s3 ⟨z, H3, I3, rz, q3⟩ => Calls.spliced_nil (last fv iv s3 y z H3 I3 ry rz q3)))))
end
end Gw

/-! W2b: removing, counting, sorting data; enumerate(text). -/
namespace Gw
open PySem PySem.Spec PyProof.Rows L2 RT PySem.W
theorem paired_mem {α β : Type} {R : α → β → Prop} : ∀ {xs : List α} {ys : List β}, Paired R xs ys → ∀ y ∈ ys, ∃ x ∈ xs, R x y
  | _, _, .nil, y, h => nomatch h
  | _, _, .cons r t, y, h => (List.mem_cons.mp h).elim (fun e => ⟨_, List.mem_cons_self, e ▸ r⟩) fun h => let ⟨x, hx, q⟩ := paired_mem t y h; ⟨x, List.mem_cons_of_mem _ hx, q⟩
theorem paired_memL {α β : Type} {R : α → β → Prop} : ∀ {xs : List α} {ys : List β}, Paired R xs ys → ∀ x ∈ xs, ∃ y ∈ ys, R x y
  | _, _, .nil, y, h => nomatch h
  | _, _, .cons r t, y, h => (List.mem_cons.mp h).elim (fun e => ⟨_, List.mem_cons_self, e ▸ r⟩) fun h => let ⟨x, hx, q⟩ := paired_memL t y h; ⟨x, List.mem_cons_of_mem _ hx, q⟩
theorem paired_get {α β : Type} {R : α → β → Prop} : ∀ {xs : List α} {ys : List β}, Paired R xs ys → ∀ (i : Nat) x, xs[i]? = some x → ∃ y, ys[i]? = some y ∧ R x y
  | _, _, .nil, i, x, h => by simp at h
  | _, _, .cons r t, 0, x, h => by
    rw [List.getElem?_cons_zero] at h
    cases h
    exact ⟨_, by rw [List.getElem?_cons_zero], r⟩
  | _, _, .cons r t, i + 1, x, h => by
    rw [List.getElem?_cons_succ] at h
    rw [List.getElem?_cons_succ]
    exact paired_get t i x h
theorem paired_eraseIdx {α β : Type} {R : α → β → Prop} : ∀ {xs : List α} {ys : List β}, Paired R xs ys → ∀ i, Paired R (xs.eraseIdx i) (ys.eraseIdx i)
  | _, _, .nil, i => by rw [List.eraseIdx_nil, List.eraseIdx_nil]; exact .nil
  | _, _, .cons r t, 0 => by rw [List.eraseIdx_cons_zero, List.eraseIdx_cons_zero]; exact t
  | _, _, .cons r t, i + 1 => by rw [List.eraseIdx_cons_succ, List.eraseIdx_cons_succ]; exact .cons r (paired_eraseIdx t i)
theorem dpAll_of {K : PySem.W.Frag} {H : Hp} {β : Type} {enc : β → PyData} {R : β → V → Prop} (h : ∀ b x, R b x → Dp K H x (enc b)) : ∀ {bs : List β} {xs : List V}, Paired R bs xs → DpAll K H xs (bs.map enc)
  | _, _, .nil => .nil
  | _, _, .cons r t => .cons (h _ _ r) (dpAll_of h t)
section
variable {X : Cx}
/-- l.remove(y), y standing at the place j -/
def rRemW (K : PySem.W.Frag) : V → List V → Hp → VK → Prop := fun x xs H Q => ∃ (l : Addr) (vs : List V) (y : V) (d : PyData) (ds : List PyData) (j : Nat), x = .ref l ∧ xs = [y] ∧ H l = some (.lst vs) ∧ DpAll K H vs ds ∧ Dp K H y d ∧
  SeqAt.shaped (.list ds) = true ∧ SeqAt.shaped d = true ∧ SeqAt.dataPlace ds d = some j ∧ ∀ H2, Chg H l (.lst (vs.eraseIdx j)) H2 → Q .non H2
theorem mt_removeW (hu : X.A.units + 65 < cLine) : MtR X "list.remove" (rRemW X.K) := by
  intro pins s σ H x xs v us Q I rx rxs h
  obtain ⟨l, vs, y, d, ds, j, rfl, rfl, hH, hds, hy, sl, sd, hp, q⟩ := h
  cases rx
  obtain ⟨u, rfl, ru⟩ := vals1 rxs
  obtain ⟨bs, r1⟩ := Dp.reads I d y u hy ru
  obtain ⟨z, its, n, r, hl, e⟩ := I.lstM hH
  obtain ⟨as, r2⟩ := Dp.readsAll I ds _ its hds r
  refine SeqAt.remove_list_data (vs := its.toArray) ⟨_, e, rfl, n, rfl⟩ r2 r1 (PyData.plainAll_of_canLay0 _ (SeqAt.canLay_of_shaped sl)) (PyData.plain_of_canLay0 _ (SeqAt.canLay_of_shaped sd)) (room_in_shaped sd hu) hp (by rw [List.size_toArray]; omega) ?_
  have z2 : (vs.eraseIdx j).length ≤ vs.length := (List.eraseIdx_sublist ..).length_le
  refine ⟨.non, _, I.lset (its' := its.eraseIdx j) (t' := s.toks) hH e ?_ (r.eraseIdx j) (by omega), rfl, q _ .of⟩
  show its.toArray.eraseIdxIfInBounds j = (its.eraseIdx j).toArray
  rw [List.eraseIdxIfInBounds_toArray]
/-- l.count(y) -/
def rCntW (K : PySem.W.Frag) : V → List V → Hp → VK → Prop := fun x xs H Q => ∃ (l : Addr) (vs : List V) (y : V) (d : PyData) (ds : List PyData), x = .ref l ∧ xs = [y] ∧ SqL K H l vs ∧ DpAll K H vs ds ∧ Dp K H y d ∧
  SeqAt.shaped (.list ds) = true ∧ SeqAt.shaped d = true ∧ Q (.int ((ds.countP fun z => PyData.eqv z d : Nat) : Int)) H
theorem mt_countW (hu : X.A.units + 65 < cLine) : MtR X "list.count" (rCntW X.K) := by
  intro pins s σ H x xs v us Q I rx rxs h
  obtain ⟨l, vs, y, d, ds, rfl, rfl, hH, hds, hy, sl, sd, q⟩ := h
  cases rx
  obtain ⟨u, rfl, ru⟩ := vals1 rxs
  obtain ⟨bs, r1⟩ := Dp.reads I d y u hy ru
  obtain ⟨its, r, p, z⟩ := I.list hH
  obtain ⟨as, r2⟩ := Dp.readsAll I ds _ its hds r
  exact SeqAt.count_list_data (vs := its.toArray) p.isList r2 r1 (PyData.plainAll_of_canLay0 _ (SeqAt.canLay_of_shaped sl)) (PyData.plain_of_canLay0 _ (SeqAt.canLay_of_shaped sd)) (room_in_shaped sd hu) ⟨.int _, H, I.tok _, ⟨_, rfl⟩, q⟩
/-- sorted(l), l a list of data of one kind -/
def rSortW (K : PySem.W.Frag) : List V → Hp → VK → Prop := fun xs H Q => ∃ (β : Type) (l : Addr) (vs : List V) (bs : List β) (enc : β → PyData) (R : β → V → Prop), xs = [.ref l] ∧ SqL K H l vs ∧ Paired R bs vs ∧ (∀ b x, R b x → Dp K H x (enc b)) ∧
  AllAlike (bs.map enc) ∧ Sortable (bs.map enc) ∧ (∀ b ∈ bs, (enc b).depth ≤ 60) ∧ ∀ p ys H2, Paired R (bs.mergeSort (dataLe false enc)) ys → New H p (.lst ys) H2 → Q (.ref p) H2
theorem each_of {β : Type} {R : β → V → Prop} : ∀ {bs : List β} {xs : List V} {us : List Value}, Paired R bs xs → Vals xs us → EachIs (fun u b => ∃ x, R b x ∧ RelV x u) us bs
  | _, _, _, .nil, r => by cases r; exact .nil
  | _, _, _, .cons h t, r => by
    cases r with
    | cons r1 r2 => exact .cons ⟨_, h, r1⟩ (each_of t r2)
theorem of_each {β : Type} {R : β → V → Prop} : ∀ {bs : List β} {us : List Value}, EachIs (fun u b => ∃ x, R b x ∧ RelV x u) us bs → ∃ xs, Paired R bs xs ∧ Vals xs us
  | _, _, .nil => ⟨[], .nil, .nil⟩
  | _, _, .cons ⟨x, h, r⟩ t => by
    obtain ⟨xs, h2, r2⟩ := of_each t
    exact ⟨x :: xs, .cons h h2, .cons r r2⟩
theorem each_mono {α β : Type} {R S : α → β → Prop} (h : ∀ a b, R a b → S a b) : ∀ {as : List α} {bs : List β}, EachIs R as bs → EachIs S as bs
  | _, _, .nil => .nil
  | _, _, .cons r t => .cons (h _ _ r) (each_mono h t)
theorem cr_sortedW (hu : X.A.units + 64 < cLine) : CallR X (.builtin "sorted") (rSortW X.K) := by
  intro pins s σ H xs us Q I r h
  obtain ⟨β, l, vs, bs, enc, R, rfl, hH, hR, hd, hal, hk, hdep, q⟩ := h
  obtain ⟨u, rfl, ru⟩ := vals1 r
  obtain rfl : u = Value.ref l := ru
  obtain ⟨its, rv, p, z⟩ := I.list hH
  have e1 := each_of hR rv
  have e2 : EachIs (fun v b => ∃ as, Reads s.heap v (enc b) as) its bs := each_mono (fun u b ⟨x, h1, h2⟩ => Dp.reads I (enc b) x u (hd b x h1) h2) e1
  have lb : bs.length = vs.length := Paired.length hR
  refine sorted_data p.isList e1 e2 hal hk (by omega) (fun b hb => ?_) fun out hl eo => ?_
  · have := hdep b hb
    omega
  · obtain ⟨ys, h1, h2⟩ := of_each eo
    obtain ⟨n, hn⟩ := sortedAll_at s.heap its out.toArray
    have ly := Paired.length h1
    have lv := h2.length
    refine ⟨.ref (s.heap.objs.size + 1), upd H (s.heap.objs.size + 1) (.lst ys), I.laid (t' := s.toks) (fun b o e => sortedAll_old e) (Nat.le_succ _) ⟨by omega, out, n, h2, hn⟩, rfl, q _ ys _ h1 (.of (I.hok.fresh (Nat.le_succ _)))⟩
end

/-! ### enumerate(text) -/
/-- the signs of a text with their places, each in a new pair -/
def Ites (z : Str) : It :=
  ⟨fun i _ => i < z.cps.size, fun i H v H' => ∃ T c, v = .ref T ∧ H T = none ∧ H' = upd H T (.tup [.int (i : Nat), .str (sg c)]) ∧ z.cps[i]? = some c, fun i _ => z.cps.size ≤ i⟩
theorem turn_enumS {P : Program} {w : World} {K : PySem.W.Frag} {elts : List Expr} {kk : Nat} {tpos : Pos} (z : Str) (t : Tok) (e it : Addr) :
    Turn P w K (.Tuple elts kk tpos) (Ites z) [e, it] e (fun i h => (∃ old, IsEnum h e it ((i : Nat) : Int) old) ∧ h.IsStrIter it (strIterType z) z t i ∧ e ≠ it ∧ i ≤ z.cps.size) where
  mem := by simp
  obj := fun i h st b hb => by
    obtain ⟨⟨old, he⟩, ⟨o, ho, hc, hd⟩, _⟩ := st
    rcases (show b = e ∨ b = it by simpa using hb) with y | y
    · subst y
      exact ⟨_, he, fun v q => nomatch q⟩
    · subst y
      exact ⟨o, ho, fun v q => by rw [hd] at q; cases q⟩
  keep := fun i h h' st k => by
    obtain ⟨⟨old, he⟩, ⟨o, ho, r⟩, hne⟩ := st
    exact ⟨⟨old, k e (by simp) _ he⟩, ⟨o, k it (by simp) o ho, r⟩, hne⟩
  item := by
    intro X hP hw hK hc i pins s σ H E I hf st hg
    subst hP hw hK
    obtain ⟨⟨old, he⟩, hit, hne, _⟩ := st
    have hel : e < s.heap.objs.size := Heap.lt_size he
    have hil : it < s.heap.objs.size := by
      obtain ⟨_, q, _⟩ := hit
      exact Heap.lt_size q
    refine wpAny_pyNext_enum_itemD (Draws.text (A := X.A.in1) (by simp [I.ok.hd hc]) it z t) he hit hg hne (by simpa using hne) fun x h' tk hx ho hit' hT hsz hk => ?_
    obtain ⟨c, u, hcx, rfl⟩ := hx
    refine ⟨_, rfl, wpAny_letOwnedTupleGo_enum (s := { s with heap := h', toks := tk + 1 }) ho fun h'' he' sb => ?_⟩
    have hT2 : h''.get? s.heap.objs.size = some { cls := .type "tuple", data := .seq #[.int i tk, .str ⟨#[c]⟩ u] } := (sb.2 _ (Nat.ne_of_gt hel)).trans hT
    have new : ObjOk X.prog X.w (upd H s.heap.objs.size (.tup [.int (i : Nat), .str (sg c)])) h'' s.heap.objs.size (.tup [.int (i : Nat), .str (sg c)]) := ⟨by show 2 ≤ sizeLine; decide, [.int i tk, .str ⟨#[c]⟩ u], .cons ⟨_, rfl⟩ (.cons ⟨u, rfl⟩ .nil), ⟨_, hT2, rfl, _, rfl⟩⟩
    have keep : ∀ b ob, b ∉ [e, it] → s.heap.get? b = some ob → h''.get? b = some ob := fun b ob hb q => by
      have h1 : b ≠ e := fun y => hb (by simp [y])
      have h2 : b ≠ it := fun y => hb (by simp [y])
      exact (sb.2 b h1).trans (hk b ob h1 h2 q)
    have I1 : Inv X pins σ (upd H s.heap.objs.size (.tup [.int (i : Nat), .str (sg c)])) { s with heap := h'', toks := tk + 1 } := I.turnedNew (ch := [e, it]) keep hf (Nat.le_refl _) new
    refine ⟨.ref s.heap.objs.size, _, I1, rfl, ⟨_, c, rfl, I.hok.fresh (Nat.le_refl _), rfl, hcx⟩, ⟨⟨.str ⟨#[c]⟩ u, ?_⟩, ?_, hne, hg⟩, fun b hb => ?_⟩
    · rw [show ((i + 1 : Nat) : Int) = (i : Int) + 1 by omega]
      exact he'
    · obtain ⟨o, ho2, r⟩ := hit'
      exact ⟨o, (sb.2 it (Ne.symm hne)).trans ho2, r⟩
    · have hb' : b < s.heap.objs.size := by
        rcases (show b = e ∨ b = it by simpa using hb) with y | y
        · rw [y]; exact hel
        · rw [y]; exact hil
      rw [upd_ne (Nat.ne_of_lt hb')]
      exact (hf b hb).1
  done := by
    intro X hP hw hK hc i pins s σ H E I hf st hg
    subst hP hw hK
    obtain ⟨⟨old, he⟩, hit, hne, hle⟩ := st
    obtain ⟨f0, f1, f2, f3, f4, f5⟩ := hf it (by simp)
    have ei : i = z.cps.size := Nat.le_antisymm hle hg
    subst ei
    exact wpAny_pyNext_enum_endD (Draws.text (A := X.A.in1) (by simp [I.ok.hd hc]) it z t) he hit fun h' eb => ⟨rfl, I.turned (t' := s.toks) (fun b o hb q => eb b o hb q) f0 f1 f3 f4 f5⟩
  self := fun A i s Q E st h => by
    obtain ⟨⟨_, he⟩, _⟩ := st
    exact wpAny_pyIter_enum he h
def iEnumS (te : TE) : TI := fun σ H R => te σ H fun v H1 => ∃ z, v = .str z ∧ R (Ites z) H1
theorem pi_enumS {X : Cx} {e : Expr} {te : TE} {p pos tpos : Pos} {elts : List Expr} {kk : Nat} (hg : Gl X "enumerate") (hm : X.mg "enumerate" = none) (he : PE X e te) (hs : starEach [e] X.env = (false, eval e X.env) :: starEach [] X.env := by rfl) :
    PI X (.Tuple elts kk tpos) (.Call (.Name "enumerate" p) [e] [] pos) (iEnumS te) := by
  refine ⟨fun pins s σ H R I h => ?_⟩
  refine Call_ (ld_blt I hg hm boot_enumerate (PyProof.Rows.callWith_type1 (args_cons (thn (he.run pins s σ H _ I h) fun u s1 ⟨v, H1, I1, r1, q1⟩ => args_nil ?_) hs) hs rfl))
  obtain ⟨z, ev, q⟩ := q1
  subst ev
  obtain ⟨t, rfl⟩ := r1
  refine call_enumerate_str fun h' he hit hsz hk => wpAny_pyIter_enum he ?_
  have I2 : Inv X pins σ H1 { s1 with heap := h' } := I1.kept (t' := s1.toks) hk
  refine ⟨s1.heap.objs.size + 1, [s1.heap.objs.size + 1, s1.heap.objs.size], _, _, H1, rfl, I2, turn_enumS z t (s1.heap.objs.size + 1) s1.heap.objs.size, ⟨⟨.none, he⟩, hit, Nat.succ_ne_self _, Nat.zero_le _⟩, fun b hb => ?_, q⟩
  have hle : s1.heap.objs.size ≤ b := by
    rcases (show b = s1.heap.objs.size + 1 ∨ b = s1.heap.objs.size by simpa using hb) with y | y
    · rw [y]; exact Nat.le_succ _
    · rw [y]; exact Nat.le_refl _
  exact I1.fpOk hle (I1.hok.fresh hle)
theorem w_iEnumS {te : TE} {σ : L2.St} {H : Hp} {R : It → Hp → Prop} (q : te σ H fun v H1 => ∃ z, v = .str z ∧ R (Ites z) H1) : iEnumS te σ H R := q
theorem seqs_enumS {z : Str} : Seqs (Ites z) (fun _ => True) z.cps.toList.zipIdx (fun b x H => ∃ T, x = .ref T ∧ H T = some (.tup [.int ((b.2 : Nat) : Int), .str (sg b.1)])) where
  go := fun i H _ hi => by
    rw [List.length_zipIdx, Array.length_toList] at hi
    exact hi
  yld := fun i H x H' b _ hb y => by
    obtain ⟨T, c, rfl, nT, rfl, hc⟩ := y
    have h1 : z.cps.toList.zipIdx[i]? = (z.cps.toList[i]?).map fun v => (v, i) := by
      rw [List.getElem?_zipIdx]
      simp
    rw [h1, Array.getElem?_toList, hc] at hb
    cases hb
    exact ⟨Ex.new nT, T, rfl, upd_same⟩
  stop := fun i H _ hi => by
    rw [List.length_zipIdx, Array.length_toList] at hi
    exact hi
/-! readings, in short -/
theorem w_dinT {ty td : TE} {σ : L2.St} {H : Hp} {Q : VK} (q : ty σ H fun y H1 => td σ H1 fun x H2 => ∃ a o, x = .ref a ∧ DGet H2 a y o ∧ Q (.bl o.isSome) H2) : tDIn ty td σ H Q := q
theorem w_dnotinT {ty td : TE} {σ : L2.St} {H : Hp} {Q : VK} (q : ty σ H fun y H1 => td σ H1 fun x H2 => ∃ a o, x = .ref a ∧ DGet H2 a y o ∧ Q (.bl (!o.isSome)) H2) : tDNotIn ty td σ H Q := q
theorem w_dgetT {ty td : TE} {σ : L2.St} {H : Hp} {Q : VK} (q : td σ H fun x H1 => ty σ H1 fun y H2 => ∃ a v, x = .ref a ∧ DGet H2 a y (some v) ∧ Q v H2) : tDGet td ty σ H Q := q
theorem w_dget2T {ty td tx : TE} {σ : L2.St} {H : Hp} {Q : VK} (q : td σ H fun x H1 => ∃ a, x = .ref a ∧ IsD H1 a ∧ ty σ H1 fun y H2 => tx σ H2 fun z H3 => ∃ o, DGet H3 a y o ∧ Q (o.getD z) H3) : tDGet2 td ty tx σ H Q := q
theorem w_dputT {ty td tv : TE} {D : Ends} {σ : L2.St} {H : Hp} (q : tv σ H fun v H1 => td σ H1 fun x H2 => ty σ H2 fun y H3 => ∃ a H4, x = .ref a ∧ DPut H3 a y v H4 ∧ D.nx σ H4) : sDPut td ty tv D σ H := q
theorem w_keys {td : TE} {σ : L2.St} {H : Hp} {R : It → Hp → Prop} (q : td σ H fun x H1 => ∃ d, x = .ref d ∧ ((∃ kvs, H1 d = some (.dK kvs) ∧ ∀ o H2, Chg H1 d (.frz o (.dK kvs)) H2 → R (Itk d o kvs) H2) ∨ ∃ kvs, H1 d = some (.dT kvs) ∧ ∀ o H2, Chg H1 d (.frz o (.dT kvs)) H2 → R (Itkt d o kvs) H2)) : iKeysN td σ H R := q
theorem w_iEnum {K : PySem.W.Frag} {ta : TA} {σ : L2.St} {H : Hp} {R : It → Hp → Prop} (q : ta σ H fun vs H1 => ∃ a xs, vs = [.ref a] ∧ SqL K H1 a xs ∧ R (Ite K a) H1) : iEnum K ta σ H R := q
theorem w_gtup2 {K : PySem.W.Frag} {i j : Nat} {p : Addr} {x y : V} {σ : L2.St} {H : Hp} {Q : L2.St → Hp → Prop} (h : SqT K H p [x, y]) (q : Q ((σ.set i (some x)).set j (some y)) H) : gTup K 2 (gCons (gName i) (gCons (gName j) gNil)) (.ref p) σ H Q := ⟨p, _, rfl, h, rfl, _, _, rfl, _, _, rfl, rfl, q⟩
theorem w_gtup3 {K : PySem.W.Frag} {i j k : Nat} {p : Addr} {x y z : V} {σ : L2.St} {H : Hp} {Q : L2.St → Hp → Prop} (h : SqT K H p [x, y, z]) (q : Q (((σ.set i (some x)).set j (some y)).set k (some z)) H) : gTup K 3 (gCons (gName i) (gCons (gName j) (gCons (gName k) gNil))) (.ref p) σ H Q := ⟨p, _, rfl, h, rfl, _, _, rfl, _, _, rfl, _, _, rfl, rfl, q⟩
/-! rules that tell K by itself (a comprehension's own context reduces to it) -/
theorem ix_tupK {X : Cx} (K : PySem.W.Frag) (h : X.K = K := by rfl) : IxR X (rIxT K) := h ▸ ix_tup
theorem ix_listK {X : Cx} (K : PySem.W.Frag) (h : X.K = K := by rfl) : IxR X (rIxL K) := h ▸ ix_list
theorem op_eqDK {X : Cx} (K : PySem.W.Frag) (hu : X.A.units + 64 < cLine) (h : X.K = K := by rfl) : OpR X (compareOp .Eq) (rEqD K) := h ▸ op_eqD hu
theorem op_neDK {X : Cx} (K : PySem.W.Frag) (hu : X.A.units + 64 < cLine) (h : X.K = K := by rfl) : OpR X (compareOp .NotEq) (rNeD K) := h ▸ op_neD hu
theorem hu65 {A : Around} {k : Nat} (hr : Room k A) : A.units + 65 < cLine := by have := hr.un; omega
theorem op_inDK {X : Cx} (K : PySem.W.Frag) (hu : X.A.units + 65 < cLine) (h : X.K = K := by rfl) : OpR X (compareOp .In) (rInD K) := h ▸ op_inD hu
theorem op_notInDK {X : Cx} (K : PySem.W.Frag) (hu : X.A.units + 65 < cLine) (h : X.K = K := by rfl) : OpR X (compareOp .NotIn) (rNotInD K) := h ▸ op_notInD hu
theorem op_in_seqK {X : Cx} (K : PySem.W.Frag) (h : X.K = K := by rfl) : OpR X (compareOp .In) (rIn K false) := h ▸ op_in_seq
theorem op_notIn_seqK {X : Cx} (K : PySem.W.Frag) (h : X.K = K := by rfl) : OpR X (compareOp .NotIn) (rIn K true) := h ▸ op_notIn_seq
abbrev rLenQ (K : PySem.W.Frag) : List V → Hp → VK → Prop := fun xs H Q => ∃ p ys, xs = [.ref p] ∧ (SqL K H p ys ∨ SqT K H p ys) ∧ Q (.int ys.length) H
theorem call_len_seqK {X : Cx} (K : PySem.W.Frag) (h : X.K = K := by rfl) : CallR X (.builtin "len") (rLenQ K) := h ▸ call_len_seq
end Gw

/-! Sets: sets of texts, made of a list or of a text, counted, sorted. -/
namespace Gw
open PySem PySem.Spec PyProof.Rows L2 RT PySem.W
theorem paired_perm {α β : Type} {R : α → β → Prop} {xs xs' : List α} (p : xs'.Perm xs) : ∀ {ys : List β}, Paired R xs ys → ∃ ys', Paired R xs' ys' ∧ ys'.Perm ys := by
  induction p with
  | nil => intro ys h; exact ⟨ys, h, .refl _⟩
  | cons x _ ih =>
    intro ys h
    cases h with
    | cons r t =>
      obtain ⟨zs, h1, h2⟩ := ih t
      exact ⟨_ :: zs, .cons r h1, h2.cons _⟩
  | swap x y l =>
    intro ys h
    cases h with
    | cons r t =>
      cases t with
      | cons r2 t2 => exact ⟨_, .cons r2 (.cons r t2), .swap _ _ _⟩
  | trans _ _ ih1 ih2 =>
    intro ys h
    obtain ⟨z1, a, b⟩ := ih2 h
    obtain ⟨z2, c, d⟩ := ih1 a
    exact ⟨z2, c, d.trans b⟩
section
variable {P : Program} {w : World} {K : Type} [DecidableEq K] (knd : KeyKind P w K)
/-- a row of a set's table stands for the key k -/
def RowOf (e : Int × Value) (k : K) : Prop := knd.is k e.2 = true ∧ e.1 = knd.hash k ∧ e.2.scannable = true
/-- the set at a: its keys, unlike; its table can be walked -/
def SetG (h : Heap) (a : Addr) (ks : List K) : Prop :=
  ∃ o es ep t, h.get? a = some o ∧ o.ExactSet ∧ o.data = .set es ep t ∧ Paired (RowOf knd) es.toList ks ∧ ks.Nodup ∧ es.size < scanBound ∧ t.fits es.size = true ∧ Ris t.place.toList ∧ (w.params.followText "set-order" = true ∨ t.led = true)
variable {knd}
theorem SetG.keep {h h' : Heap} {a : Addr} {ks : List K} (R : SetG knd h a ks) (e : ∀ o, h.get? a = some o → h'.get? a = some o) : SetG knd h' a ks := by
  obtain ⟨o, es, ep, t, ho, r⟩ := R
  exact ⟨o, es, ep, t, e o ho, r⟩
theorem rows_elems {l : List (Int × Value)} {ks : List K} (p : Paired (RowOf knd) l ks) : ElemsOf knd l := fun e he => by
  obtain ⟨k, _, h1, h2, h3⟩ := paired_memL p e he
  exact ⟨⟨k, h1, h2⟩, h3⟩
theorem rows_mem {l : List (Int × Value)} {ks : List K} (p : Paired (RowOf knd) l ks) (k : K) : k ∈ ks ↔ ∃ e ∈ l, knd.is k e.2 = true := by
  constructor
  · intro h
    obtain ⟨e, he, r⟩ := paired_mem p k h
    exact ⟨e, he, r.1⟩
  · rintro ⟨e, he, q⟩
    obtain ⟨k2, h2, r⟩ := paired_memL p e he
    have : k2 = k := knd.inj _ _ _ r.1 q
    rw [← this]
    exact h2
theorem SetG.setOf {h : Heap} {a : Addr} {ks : List K} (R : SetG knd h a ks) : h.SetOf knd a (fun k => decide (k ∈ ks)) ks.length := by
  obtain ⟨o, es, ep, t, ho, hx, hd, p, nd, hb, hf, _⟩ := R
  refine ⟨o, es, ep, t, ho, hx, hd, rows_elems p, fun k => by rw [decide_eq_true_eq]; exact rows_mem p k, hb, hf, ?_⟩
  rw [← Array.length_toList]
  exact (Paired.length p)
section
variable {A : Around} {E : Value → Shared → Prop} {s : Shared} {a : Addr} {ks : List K} {k : K} {v : Value}
theorem putS {h : Heap} {o : Obj} {es es' : Array (Int × Value)} {ep : Nat} {t t' : SetTable} (ho : h.get? a = some o) (hd : o.data = .set es ep t) : (h.update a (Obj.putSet es' t')).get? a = some { o with data := .set es' (ep + 1) t' } := by
  have q := Heap.get?_update_self (Obj.putSet es' t') ho (by rw [putSet_of es' t' hd] <;> rfl)
  rw [putSet_of es' t' hd] at q
  exact q
theorem addG (hk : knd.is k v = true) (hsc : v.scannable = true) (R : SetG knd s.heap a ks) (room : ks.length + 1 < scanBound) {Q : Bool → Shared → Prop}
    (hQ : ∀ (b : Bool) (h' : Heap) (ks' : List K), Heap.SameBut a s.heap h' → SetG knd h' a ks' → (∀ x, x ∈ ks' ↔ x ∈ ks ∨ x = k) → ks'.length ≤ ks.length + 1 → Q b { s with heap := h' }) :
    wpAny (model P w) A (setAddHashed a v (knd.hash k)) Q E s := by
  have R0 := R
  obtain ⟨o, es, ep, t, ho, hex, hd, pr, nd, hb, hf, ri, led⟩ := R
  have elm := rows_elems pr
  have hlen : es.size = ks.length := by
    rw [← Array.length_toList]
    exact Paired.length pr
  unfold setAddHashed setAddHashedIn
  refine wpAny_holding (wpAny_bind (wpAny_setState_of ho hd hf ?_))
  dsimp only
  rw [byScan_of hsc hb elm, if_pos rfl]
  unfold setAddByScan
  refine wpAny_bind (wpAny_bind (wpAny_rule ?_))
  refine wpAny_bind (wpAny_setScan_of hk ho hd hf elm ?_)
  cases hfi : List.findIdx? (fun e => knd.is k e.2) es.toList with
  | some j =>
    obtain ⟨hj, pj, _⟩ := List.findIdx?_eq_some_iff_getElem.mp hfi
    have hin : k ∈ ks := (rows_mem pr k).2 ⟨_, List.getElem_mem hj, pj⟩
    refine wpAny_pure (wpAny_pure (hQ false s.heap ks (Heap.SameBut.refl a s.heap) R0 (fun x => ⟨.inl, fun z => z.elim id fun e => e ▸ hin⟩) (Nat.le_succ _)))
  | none =>
    have hnot : k ∉ ks := fun z => by
      obtain ⟨e, he, q⟩ := (rows_mem pr k).1 z
      have c := List.findIdx?_eq_none_iff.mp hfi e he
      rw [q] at c
      cases c
    have gave : ∀ (b : Bool) {s₁ : Shared} {Q' : Unit → Shared → Prop}, Q' () s₁ → wpAny (model P w) A (match b with | true => rule "set.scan.the-table-gave-way" | false => pure ()) Q' E s₁ := fun b s₁ Q' q => by
      cases b
      · exact wpAny_pure q
      · exact wpAny_rule q
    -- any table of these rows, laid at a
    have fin : ∀ (es1 : Array (Int × Value)) (t1 : SetTable) (h' : Heap) (ep1 : Nat), Heap.SameBut a s.heap h' → h'.get? a = some { o with data := .set es1 ep1 t1 } → es1.toList.Perm ((knd.hash k, v) :: es.toList) → t1.fits es1.size = true →
        Ris t1.place.toList → t1.led = t.led → Q true { s with heap := h' } := fun es1 t1 h' ep1 sb ho1 pm f1 r1 l1 => by
      have pn : Paired (RowOf knd) ((knd.hash k, v) :: es.toList) (k :: ks) := .cons ⟨hk, rfl, hsc⟩ pr
      obtain ⟨ks', p1, pk⟩ := paired_perm pm pn
      have hl := pk.length_eq
      rw [List.length_cons] at hl
      refine hQ true h' ks' sb ⟨_, es1, ep1, t1, ho1, hex, rfl, p1, pk.nodup_iff.mpr (List.nodup_cons.mpr ⟨hnot, nd⟩), ?_, f1, r1, led.imp id fun z => by rw [l1]; exact z⟩ (fun x => ?_) (by omega)
      · rw [← Array.length_toList, Paired.length p1]
        omega
      · rw [pk.mem_iff, List.mem_cons]
        exact Or.comm
    have pm := layNew_perm t es (knd.hash k) v
    have f1 := layNew_fits t es (knd.hash k) v
    have r1 := layNew_ris t es (knd.hash k) v ri
    have l1 := layNew_led t es (knd.hash k) v
    dsimp only
    generalize layNew t es (knd.hash k) v = Z at pm f1 r1 l1 ⊢
    obtain ⟨es1, t1, wasDummy, g1⟩ := Z
    dsimp only at pm f1 r1 l1 ⊢
    have pc : es1.toList.Perm ((knd.hash k, v) :: es.toList) := by
      rw [Array.toList_push] at pm
      exact pm.trans (List.perm_append_singleton _ _)
    have sz1 : es1.size < scanBound := by
      rw [← Array.length_toList, pc.length_eq, List.length_cons, Array.length_toList]
      omega
    -- the end, whatever the table's note of plainness
    have tail : ∀ (g : Bool → Sem Unit), (∀ (b : Bool) (s₁ : Shared) (Q' : Unit → Shared → Prop), Q' () s₁ → wpAny (model P w) A (g b) Q' E s₁) → ∀ (R : Option Bool → Shared → Prop), (∀ s', Q true s' → R (some true) s') → ∀ t2 : SetTable, t2.fits es1.size = true → Ris t2.place.toList → t2.led = t.led → wpAny (model P w) A (do
          storeSet a es1 t2
          if (!wasDummy && t2.tooFull) = true then do
              g (relayAll t2 es1 (SetTable.grown es1.size)).2.2
              storeSet a (relayAll t2 es1 (SetTable.grown es1.size)).1 (relayAll t2 es1 (SetTable.grown es1.size)).2.1
              pure (some true)
            else pure (some true)) R E s := by
      intro g hg R hR t2 f2 r2 l2
      have o1 := putS (es' := es1) (t' := t2) ho hd
      have sb1 := Heap.SameBut.update s.heap a (Obj.putSet es1 t2)
      refine wpAny_bind (wpAny_storeSet_of ho hd ?_ (fits_of_scanBound sz1))
      split
      · have pm3 := relayAll_perm t2 es1 (SetTable.grown es1.size)
        have f3 := relayAll_fits t2 es1 (SetTable.grown es1.size)
        have r3 := relayAll_ris t2 es1 (SetTable.grown es1.size)
        have l3 := relayAll_led t2 es1 (SetTable.grown es1.size)
        generalize relayAll t2 es1 (SetTable.grown es1.size) = Y at pm3 f3 r3 l3 ⊢
        obtain ⟨es3, t3, g3⟩ := Y
        dsimp only at pm3 f3 r3 l3 ⊢
        have sz3 : es3.size < scanBound := by
          rw [← Array.length_toList, pm3.length_eq, Array.length_toList]
          exact sz1
        refine wpAny_bind (hg _ _ _ (wpAny_bind (wpAny_storeSet_of o1 rfl ?_ (fits_of_scanBound sz3))))
        have o3 := putS (es' := es3) (t' := t3) o1 rfl
        exact wpAny_pure (hR _ (fin es3 t3 _ (ep + 1 + 1) (sb1.trans (Heap.SameBut.update _ a _)) o3 (pm3.trans pc) f3 r3 (l3.trans l2)))
      · exact wpAny_pure (hR _ (fin es1 t2 _ _ sb1 o1 pc f2 r2 l2))
    refine wpAny_bind (gave _ ?_)
    split
    · refine wpAny_bind ?_
      rw [hashByValue_scannable 8 hsc]
      refine wpAny_pure ?_
      split
      · exact tail _ (fun b s₁ Q' q => gave b q) _ (fun s' q => wpAny_pure q) t1 f1 r1 l1
      · exact tail _ (fun b s₁ Q' q => gave b q) _ (fun s' q => wpAny_pure q) { t1 with plain := false } (SetTable.fits_plain_off f1) r1 l1
    · refine wpAny_bind (wpAny_pure ?_)
      exact tail _ (fun b s₁ Q' q => gave b q) _ (fun s' q => wpAny_pure q) t1 f1 r1 l1
end
end

/-! ### set(xs) -/
section
variable {P : Program} {w : World} {K : Type} [DecidableEq K] {knd : KeyKind P w K} {A : Around} {E : Value → Shared → Prop} {s : Shared}
theorem SetG.fresh {h : Heap} {a : Addr} (e : h.get? a = some { cls := .type "set", dict := none, data := .set #[] 0 (.fresh 0 0 (!w.params.followText "set-order")) }) : SetG knd h a ([] : List K) := by
  refine ⟨_, #[], 0, _, e, ⟨rfl, rfl, rfl⟩, rfl, .nil, List.nodup_nil, by decide, by rfl, List.Pairwise.nil, ?_⟩
  cases q : w.params.followText "set-order"
  · exact .inr rfl
  · exact .inl rfl
/-- what an iterator gives, put into the set -/
theorem updG {I : Addr} {fp wr : List Addr} {G : Array GenState → Array GenState → Prop} {n : Nat} {Pv : Nat → Value → Prop} {St : Nat → Shared → Prop} {R : Result → Shared → Prop} (W : WalksS P w A.in1 I fp wr G n Pv St) (S : Addr) (hSf : S ∉ fp) (ks : List K) (hn : n = ks.length) (hb : ks.length + 1 < scanBound)
    (hval : ∀ i v, Pv i v → ∃ k, ks[i]? = some k ∧ knd.is k v = true ∧ v.scannable = true) (hR : ∀ s0 s' l, Moved (S :: wr) G s0 s' → s0 = s → SetG knd s'.heap S l → (∀ x, x ∈ l ↔ x ∈ ks) → R (.ok (.ret .none)) s') :
    ∀ (j i : Nat) (s1 : Shared), n - i = j → i ≤ n → Moved (S :: wr) G s s1 → St i s1 → (∃ l, SetG knd s1.heap S l ∧ (∀ x, x ∈ l ↔ x ∈ ks.take i) ∧ l.length ≤ i) → codeAny (model P w) A (.builtin "set.update.loop" ⟨[.ref S, .ref I], []⟩) R s1 := by
  have hw : S ∉ wr := fun h => hSf (W.sub _ h)
  have inS : ∀ b ∈ wr, b ∈ S :: wr := fun b hb => List.mem_cons_of_mem _ hb
  intro j
  induction j with
  | zero =>
    intro i s1 hj hi mv st ⟨l, hl, hm, _⟩
    obtain rfl : i = n := by omega
    refine codeAny_builtin F.entry_set_update_loop ?_
    rw [Around.under_plainId F.plain_set_update_loop _]
    show wpAny _ A.in1 (pyNext (.ref I) >>= _) _ _ s1
    refine wpAny_bind (W.done s1 _ _ st fun s2 m2 => ?_)
    show wpAny _ A.in1 (ret Value.none) _ _ s2
    rw [List.take_of_length_le (by omega)] at hm
    exact wpAny_pure (hR s s2 l (Moved.trans W.gtrans mv (m2.mono inS)) rfl (hl.keep fun o e => m2.heap S o hw e) hm)
  | succ j ih =>
    intro i s1 hj hi mv st ⟨l, hl, hm, hlen⟩
    have hlt : i < n := by omega
    refine codeAny_builtin F.entry_set_update_loop ?_
    rw [Around.under_plainId F.plain_set_update_loop _]
    show wpAny _ A.in1 (pyNext (.ref I) >>= _) _ _ s1
    refine wpAny_bind (W.item i s1 _ _ hlt st fun v s2 hv st2 m2 => ?_)
    obtain ⟨k, hk, hkv, hsc⟩ := hval i v hv
    show wpAny _ A.in1 (holding [v] (setAdd S v) >>= _) _ _ s2
    refine wpAny_bind (wpAny_holding ?_)
    unfold setAdd
    refine wpAny_holding (wpAny_bind (knd.pyHash hkv ?_))
    have h2 : SetG knd s2.heap S l := hl.keep fun o e => m2.heap S o hw e
    refine addG (s := { s2 with toks := s2.toks + 1 }) hkv hsc h2 (by omega) fun b h' l' sb R' mem' len' => ?_
    have mv2 := Moved.trans W.gtrans mv (m2.mono inS)
    refine wpAny_pure ⟨plainId_quiet F.plain_set_update_loop _, ih (i + 1) _ (by omega) hlt ?_ (W.frame _ s2 _ _ st2 (Nat.le_succ _) fun b hb o e => ?_) ⟨l', R', fun x => ?_, by omega⟩⟩
    · refine mv2.then_heap (Nat.le_succ _) fun b o hb e => ?_
      rw [sb.2 b (fun y : b = S => hb (by rw [y]; exact List.mem_cons_self))]
      exact e
    · rw [sb.2 b (fun y : b = S => hSf (by rw [← y]; exact hb))]
      exact e
    · rw [mem', hm, List.take_add_one, hk]
      simp
end
end Gw

namespace Gw
open PySem PySem.Spec PyProof.Rows L2 RT PySem.W
section
variable {P : Program} {w : World} {A : Around} {E : Value → Shared → Prop} {s : Shared}
abbrev setNew (w : World) : Obj := { cls := .type "set", dict := none, data := .set #[] 0 (.fresh 0 0 (!w.params.followText "set-order")) }
/-- set(v), once it is known what its __init__ does -/
theorem set_call (v : Value) {Q : Value → Shared → Prop} (R : Heap → Nat → Prop)
    (hi : ∀ (A2 : Around) (E2 : Value → Shared → Prop), (A.handled = none → A2.handled = none) → wpAny (model P w) A2 (Builtin.«set.__init__» ⟨[.ref s.heap.objs.size, v], []⟩) (fun f s2 => f = .done (.ret .none) ∧ ∃ h' tk, s2 = { s with heap := h', toks := tk } ∧ R h' tk) E2 { s with heap := s.heap.push (setNew w) })
    (hQ : ∀ h' tk, R h' tk → Q (.ref s.heap.objs.size) { s with heap := h', toks := tk }) : wpAny (model P w) A (call (.type "set") [v]) Q E s := by
  obtain ⟨mc, mt, mm⟩ := F.called_set.mro
  have m1 := F.called_set.made
  have m2 := F.called_set.sub
  refine wpAny_call (codeAny_of_tree (c := .call (.type "set") ⟨[v], []⟩) ?_)
  show wpAny _ _ (callAny (.type "set") _) _ _ s
  refine wpAny_pure ⟨Code.quiet_builtin _ (by decide +kernel), codeAny_builtin F.entry_type_call ?_⟩
  rw [Around.under_plain (weight_type_call_type "set" [v] []) rfl]
  have m3 := F.called_set.notType
  have m4 := F.called_set.canCreate
  have m5 := F.typeCall_set_1 v
  repeat (any_goals (first | assumption | wp_step))
  refine codeAny_mono (code_set_led1 v (E := E) (Q₁ := fun x s1 => x = .ref s.heap.objs.size ∧ s1 = { s with heap := s.heap.push (setNew w) }) ⟨rfl, rfl⟩) fun r s1 hr => ?_
  cases r with
  | error e => exact hr
  | ok fl =>
    cases fl with
    | ret x =>
      obtain ⟨rfl, rfl⟩ := hr
      have here : (s.heap.push (setNew w)).get? s.heap.objs.size = some (setNew w) := Heap.get?_push_size _ rfl
      have isT : Shared.TypeIs { s with heap := s.heap.push (setNew w) } (.ref s.heap.objs.size) "set" := ⟨_, here, rfl⟩
      have m6 := F.called_set.init.lookup
      have m7 := F.called_set.init.bind (.ref s.heap.objs.size)
      repeat (any_goals (first | assumption | wp_step))
      refine codeAny_mono (codeAny_call_builtin (R := wants (fun y s2 => y = .none ∧ ∃ h' tk, s2 = { s with heap := h', toks := tk } ∧ R h' tk) E) F.called_set.init.plain F.entry_set_init (check_set_init_1 isT ?_)) fun r2 s2 hr2 => ?_
      · exact wpAny_mono (hi _ _ fun hh => by simp [hh]) (fun f s3 h => by
          obtain ⟨rfl, h⟩ := h
          exact ⟨rfl, h⟩) fun _ _ x => x
      · cases r2 with
        | error e => exact hr2
        | ok f2 =>
          cases f2 with
          | ret y =>
            obtain ⟨rfl, h', tk, rfl, hh⟩ := hr2
            repeat (any_goals (first | assumption | wp_step))
            exact hQ _ _ hh
          | _ => exact hr2.elim
    | _ => exact hr.elim
theorem paired_mapL {α β γ : Type} {f : α → β} {R : β → γ → Prop} : ∀ {xs : List α} {ys : List γ}, Paired (fun a y => R (f a) y) xs ys → Paired R (xs.map f) ys
  | _, _, .nil => .nil
  | _, _, .cons r t => .cons r (paired_mapL t)
theorem each_paired {α β : Type} {R : α → β → Prop} : ∀ {xs : List α} {ys : List β}, Paired R xs ys → EachIs R xs ys
  | _, _, .nil => .nil
  | _, _, .cons r t => .cons r (each_paired t)
theorem paired_each {α β : Type} {R : α → β → Prop} : ∀ {xs : List α} {ys : List β}, EachIs R xs ys → Paired (fun y x => R x y) ys xs
  | _, _, .nil => .nil
  | _, _, .cons r t => .cons r (paired_each t)
/-- the keys of a row of texts -/
theorem strs_key {us : List Value} {xs : List Str} (h : StrsAre us xs) (i : Nat) (v : Value) (e : us[i]? = some v) : ∃ k, xs[i]? = some k ∧ (PySem.strKind P w).is k v = true ∧ v.scannable = true := by
  obtain ⟨t, rfl⟩ := SS.strs_at h i v e
  have hl : i < xs.length := by
    have := StrsAre.len_eq h
    have := (List.getElem?_eq_some_iff.mp e).1
    omega
  refine ⟨xs.getD i Str.empty, ?_, strKind_is P w _ t, rfl⟩
  rw [List.getD_eq_getElem?_getD, List.getElem?_eq_getElem hl]
  rfl
theorem set_list {l : Addr} {its : Array Value} {xs : List Str} {Q : Value → Shared → Prop} (hh : A.handled = none) (hl : s.heap.IsList l its) (hx : StrsAre its.toList xs) (hb : xs.length + 1 < scanBound)
    (hQ : ∀ h' tk ks, SetG (PySem.strKind P w) h' s.heap.objs.size ks → (∀ x, x ∈ ks ↔ x ∈ xs) → (∀ b o, s.heap.get? b = some o → h'.get? b = some o) → Q (.ref s.heap.objs.size) { s with heap := h', toks := tk }) :
    wpAny (model P w) A (call (.type "set") [.ref l]) Q E s := by
  refine set_call (.ref l) (fun h' tk => ∃ ks, SetG (PySem.strKind P w) h' s.heap.objs.size ks ∧ (∀ x, x ∈ ks ↔ x ∈ xs) ∧ ∀ b o, s.heap.get? b = some o → h'.get? b = some o) (fun A2 E2 hA => ?_) fun h' tk ⟨ks, a, b, c⟩ => hQ h' tk ks a b c
  obtain ⟨⟨oc, od, odt, osl⟩, hol, hoc, nl, hod⟩ := hl
  replace hoc : oc = .type "list" := hoc
  replace hod : odt = .seq its nl := hod
  subst hoc hod
  have hlt : l < s.heap.objs.size := Heap.lt_size hol
  have hol2 : (s.heap.push (setNew w)).get? l = some { cls := .type "list", dict := od, data := .seq its nl, slots := osl } := Heap.get?_push_of_some _ hol
  have k1 := F.sub_list_set
  have k2 := F.sub_list_frozenset
  have k3 : (Value.type "list" == Value.type "dict") = false := by decide
  have isL : (s.heap.push (setNew w)).IsList l its := ⟨_, hol2, rfl, nl, rfl⟩
  have isS : (s.heap.push (setNew w)).get? s.heap.objs.size = some (setNew w) := Heap.get?_push_size _ rfl
  have zN : (s.heap.push (setNew w)).objs.size = s.heap.objs.size + 1 := Heap.size_push ..
  unfold Builtin.«set.__init__» noKeywords Builtin.Frozenset.updateFrom
  generalize e0 : pyIter = PI
  wp_walk
  subst e0
  refine wpAny_pyIter_list isL (wpAny_bind (wpAny_runValue ?_))
  have ne1 : l ≠ (s.heap.push (setNew w)).objs.size := by rw [zN]; exact Nat.ne_of_lt (Nat.lt_succ_of_lt hlt)
  have ne2 : s.heap.objs.size ∉ [(s.heap.push (setNew w)).objs.size, l] := by
    rw [zN]
    simp only [List.mem_cons, List.not_mem_nil, or_false, not_or]
    exact ⟨Nat.ne_of_lt (Nat.lt_succ_self _), Nat.ne_of_gt hlt⟩
  have sz : its.size = xs.length := by rw [← Array.length_toList, StrsAre.len_eq hx]
  refine updG ((Walks.list (by simp [hA hh]) _ l ne1 its).toS) s.heap.objs.size ne2 xs sz hb (fun i v hv => strs_key hx i v (by rw [Array.getElem?_toList]; exact hv)) ?_ (its.size - 0) 0 _ (by omega) (Nat.zero_le _) (Moved.refl (fun _ => rfl)) ⟨⟨_, Heap.get?_push_size _ rfl, rfl, rfl⟩, isL.push _⟩ ⟨[], SetG.fresh (Heap.get?_push_of_some _ isS), fun x => by simp, Nat.le_refl _⟩
  rintro s0 ⟨h', g', d', tk', os'⟩ ks mv rfl hS hm
  obtain rfl : g' = _ := mv.gens
  obtain rfl : d' = _ := mv.drawn
  obtain rfl : os' = _ := mv.os
  show wpAny _ _ _ _ _ _
  refine wpAny_pure ?_
  show wpAny _ _ (ret Value.none) _ _ _
  refine wpAny_pure ⟨rfl, h', tk', rfl, ks, hS, hm, fun b o e => ?_⟩
  have hb0 : b < s.heap.objs.size := Heap.lt_size e
  refine mv.heap b o ?_ (Heap.get?_push_of_some _ (Heap.get?_push_of_some _ e))
  rw [zN]
  simp only [List.mem_cons, List.not_mem_nil, or_false, not_or]
  exact ⟨Nat.ne_of_lt hb0, Nat.ne_of_lt (Nat.lt_succ_of_lt hb0)⟩
/-- set(a text): its signs -/
theorem sign_key {z : Str} {i : Nat} {v : Value} (h : SignAt z i v) : ∃ k, (z.cps.toList.map sg)[i]? = some k ∧ (PySem.strKind P w).is k v = true ∧ v.scannable = true := by
  obtain ⟨c, t, hc, rfl⟩ := h
  refine ⟨sg c, ?_, strKind_is P w _ t, rfl⟩
  rw [List.getElem?_map, Array.getElem?_toList, hc]
  rfl
theorem walks_txt (hh : A.handled = none) (I : Addr) (x : Str) (t : Tok) : Walks P w A I [I] [I] x.cps.size (SignAt x) (fun i h => h.IsStrIter I (strIterType x) x t i) := by
  cases ha : x.cps.all (· < 128)
  · simp only [strIterType, ha, Bool.false_eq_true, if_false]
    exact .strWide hh I x t
  · simp only [strIterType, ha, if_true]
    exact .strAscii hh I x t
theorem set_text {z : Str} {t : Tok} {Q : Value → Shared → Prop} (hh : A.handled = none) (hb : z.cps.size + 1 < scanBound)
    (hQ : ∀ h' tk ks, SetG (PySem.strKind P w) h' s.heap.objs.size ks → (∀ x, x ∈ ks ↔ x ∈ z.cps.toList.map sg) → (∀ b o, s.heap.get? b = some o → h'.get? b = some o) → Q (.ref s.heap.objs.size) { s with heap := h', toks := tk }) :
    wpAny (model P w) A (call (.type "set") [.str z t]) Q E s := by
  refine set_call (.str z t) (fun h' tk => ∃ ks, SetG (PySem.strKind P w) h' s.heap.objs.size ks ∧ (∀ x, x ∈ ks ↔ x ∈ z.cps.toList.map sg) ∧ ∀ b o, s.heap.get? b = some o → h'.get? b = some o) (fun A2 E2 hA => ?_) fun h' tk ⟨ks, a, b, c⟩ => hQ h' tk ks a b c
  have k1 := F.sub_str_set
  have k2 := F.sub_str_frozenset
  have k3 : (Value.type "str" == Value.type "dict") = false := by decide
  have isS : (s.heap.push (setNew w)).get? s.heap.objs.size = some (setNew w) := Heap.get?_push_size _ rfl
  have zN : (s.heap.push (setNew w)).objs.size = s.heap.objs.size + 1 := Heap.size_push ..
  unfold Builtin.«set.__init__» noKeywords Builtin.Frozenset.updateFrom
  generalize e0 : pyIter = PI
  wp_walk
  subst e0
  refine wpAny_pyIter_strU (wpAny_bind (wpAny_runValue ?_))
  have ne2 : s.heap.objs.size ∉ [(s.heap.push (setNew w)).objs.size] := by
    rw [zN, List.mem_singleton]
    exact Nat.ne_of_lt (Nat.lt_succ_self _)
  refine updG ((walks_txt (by simp [hA hh]) _ z t).toS) s.heap.objs.size ne2 (z.cps.toList.map sg) (by simp) (by simpa using hb) (fun i v hv => sign_key hv) ?_ (z.cps.size - 0) 0 _ (by omega) (Nat.zero_le _) (Moved.refl (fun _ => rfl)) ⟨_, Heap.get?_push_size _ rfl, rfl, rfl⟩ ⟨[], SetG.fresh (Heap.get?_push_of_some _ isS), fun x => by simp, Nat.le_refl _⟩
  rintro s0 ⟨h', g', d', tk', os'⟩ ks mv rfl hS hm
  obtain rfl : g' = _ := mv.gens
  obtain rfl : d' = _ := mv.drawn
  obtain rfl : os' = _ := mv.os
  show wpAny _ _ _ _ _ _
  refine wpAny_pure ?_
  show wpAny _ _ (ret Value.none) _ _ _
  refine wpAny_pure ⟨rfl, h', tk', rfl, ks, hS, hm, fun b o e => ?_⟩
  have hb0 : b < s.heap.objs.size := Heap.lt_size e
  refine mv.heap b o ?_ (Heap.get?_push_of_some _ (Heap.get?_push_of_some _ e))
  rw [zN]
  simp only [List.mem_cons, List.not_mem_nil, or_false, not_or]
  exact ⟨Nat.ne_of_lt hb0, Nat.ne_of_lt (Nat.lt_succ_of_lt hb0)⟩
/-- sorted(a set of texts) -/
theorem le_strs : dataLe false PyData.str = fun a b => decide (a.cps.toList ≤ b.cps.toList) := dataLe_str (fun b : Str => b)
theorem alike_strs (ks : List Str) : AllAlike (ks.map PyData.str) := AllAlike.of fun b b' => by simp [alike]
theorem sortable_strs (ks : List Str) : Sortable (ks.map PyData.str) := Sortable.others (enc := PyData.str) fun b => ⟨(fun e => nomatch e), (fun xs e => nomatch e)⟩
theorem sorted_setG {a : Addr} {ks : List Str} (R : SetG (PySem.strKind P w) s.heap a ks) (hh : A.handled = none) (hu : A.units + 64 < cLine) {Q : Value → Shared → Prop}
    (hQ : ∀ s' p (out : List Value) (c : Nat) (zs : List Str), (∀ b o, s.heap.get? b = some o → s'.heap.get? b = some o) → s'.gens = s.gens → s'.os = s.os → s.heap.objs.size ≤ p → s'.heap.get? p = some (seqObj "list" out.toArray c) →
      Paired (fun z v => ∃ t, v = .str z t) zs out → zs.Perm ks → zs.Pairwise (fun x y => x.cps.toList ≤ y.cps.toList) → Q (.ref p) s') : wpAny (model P w) A (call (.builtin "sorted") [.ref a]) Q E s := by
  obtain ⟨o, es, ep, t, ho, hex, hd, pr, nd, hb, hf, ri, led⟩ := R
  refine Calls.call_function_entry kind_sorted plain_sorted entry_sorted (args_sorted1 _) ?_
  unfold Builtin.«sorted»
  refine wpAny_bind (m := checkCount "sorted" 1 1 _) (wpAny_pure ?_)
  refine wpAny_bind (collect_set (A := A.in1) hh ⟨o, ho, hex.1, hd⟩ hf hb ri led fun s1 vs keep size1 g1 o1 pm => ?_)
  have pv : Paired (fun (v : Value) (k : Str) => ∃ t, v = .str k t) (es.toList.map (·.2)) ks := by
    refine paired_mapL (Paired.mapP pr fun e k h => ?_)
    obtain ⟨t, e2⟩ := Value.isStrOf_shape h.1
    exact ⟨t, e2⟩
  obtain ⟨ks1, p1, q1⟩ := paired_perm pm pv
  have ev : EachIs (fun (v : Value) (k : Str) => ∃ t, v = .str k t) vs ks1 := each_paired p1
  have hl : vs.length = ks1.length := Paired.length p1
  have hlk : ks1.length ≤ 4096 := by
    rw [q1.length_eq, ← Paired.length pr, Array.length_toList]
    exact Nat.le_of_lt hb
  refine wpAny_bind (wpAny_newList ?_ (by rw [hl, sizeLine_eq]; omega))
  have hoL : (s1.heap.push (seqObj "list" vs.toArray 0)).get? s1.heap.objs.size = some (seqObj "list" vs.toArray 0) := Heap.get?_push_size _ rfl
  refine wpAny_bind (wpAny_holding (list_sort_data hoL ev (each_mono (fun v k ⟨t, e⟩ => ⟨[], by rw [e]; exact Reads.str k t, List.not_mem_nil⟩) ev) (alike_strs ks1) (sortable_strs ks1) (by rw [sizeLine_eq]; omega) (fun b hb => ?_) fun out hlo eo => ?_))
  · have h1 : (PyData.str b).depth = 0 := by simp [PyData.depth]
    rw [h1]
    simp only [Around.in1_units]
    omega
  · obtain ⟨c, hc⟩ := sortedHeap_at (vs := vs) (out := out.toArray) hoL
    refine wpAny_pure ⟨_, rfl, hQ _ s1.heap.objs.size out c (ks1.mergeSort (dataLe false PyData.str)) (fun b u e => ?_) g1 o1 size1 hc ?_ ((List.mergeSort_perm _ _).trans q1) ?_⟩
    · have q := keep b u e
      have hlt := Heap.lt_size q
      show (sortedHeap (s1.heap.push (seqObj "list" vs.toArray 0)) s1.heap.objs.size vs out.toArray).get? b = some u
      rw [sortedHeap_old (Nat.ne_of_lt hlt) (by rw [size_push']; exact Nat.lt_succ_of_lt hlt)]
      exact Heap.get?_push_of_some _ q
    · exact paired_each eo
    · rw [le_strs]
      refine (List.pairwise_mergeSort (le := fun a b : Str => decide (a.cps.toList ≤ b.cps.toList)) (fun a b c h1 h2 => ?_) (fun a b => ?_) ks1).imp fun h => of_decide_eq_true h
      · exact decide_eq_true (List.le_trans (of_decide_eq_true h1) (of_decide_eq_true h2))
      · rw [Bool.or_eq_true, decide_eq_true_eq, decide_eq_true_eq]
        exact List.le_total _ _
end
section
variable {X : Cx}
/-- sorted(set(xs)), xs a list of texts -/
def tSortSet (K : PySem.W.Frag) (ta : TE) : TE := fun σ H Q => ta σ H fun x H1 => ∃ (l : Addr) (xs : List Str), x = .ref l ∧ SqL K H1 l (xs.map V.str) ∧ xs.length ≤ 4000 ∧
  ∀ (p : Addr) (zs : List Str) (H2 : Hp), zs.Nodup → (∀ z, z ∈ zs ↔ z ∈ xs) → zs.Pairwise (fun x y => x.cps.toList ≤ y.cps.toList) → New H1 p (.lst (zs.map V.str)) H2 → Q (.ref p) H2
theorem vals_txts : ∀ {zs : List Str} {out : List Value}, Paired (fun z v => ∃ t, v = Value.str z t) zs out → Vals (zs.map V.str) out
  | _, _, .nil => .nil
  | _, _, .cons h t => .cons h (vals_txts t)
theorem pe_sortedSet {a : Expr} {ta : TE} {p p2 q pos : Pos} (hc : X.calm = true) (hu : X.A.units + 64 < cLine) (hg : Gl X "sorted") (hm : X.mg "sorted" = none) (hg2 : Gl X "set") (hm2 : X.mg "set" = none) (ha : PE X a ta)
    (na : starEach [a] X.env = (false, eval a X.env) :: starEach [] X.env := by rfl) : PE X (.Call (.Name "sorted" p) [.Call (.Name "set" p2) [a] [] q] [] pos) (tSortSet X.K ta) := by
  refine ⟨fun pins s σ H Q I h => ?_⟩
  refine Call_ (ld_blt I hg hm boot_sorted ?_)
  refine PyProof.Rows.callWith_builtin1 (PyProof.Rows.args_cons (Call_ (ld_blt I hg2 hm2 boot_set ?_)) rfl) rfl rfl
  refine PyProof.Rows.callWith_type1 (PyProof.Rows.args_cons (thn (ha.run pins s σ H _ I h) fun v s1 ⟨x, H1, I1, r1, q1⟩ => PyProof.Rows.args_nil ?_) na) na rfl
  obtain ⟨l, xs, rfl, hq, h1, q1⟩ := q1
  cases r1
  obtain ⟨its, r, pl, hz⟩ := I1.list hq
  have hh := I1.ok.hd hc
  refine set_list hh pl.isList (by simpa using strsAre_of r) (by rw [show scanBound = 4096 from rfl]; omega) fun h' tk ks hS hm keep => PyProof.Rows.args_nil ?_
  have nd : ks.Nodup := by
    obtain ⟨_, _, _, _, _, _, _, _, nd, _⟩ := hS
    exact nd
  refine sorted_setG (s := { s1 with heap := h', toks := tk }) hS hh hu fun s2 p out c zs k2 g2 o2 hp hg hps pm pw => ?_
  have I2 : Inv X pins σ H1 { s1 with heap := h', toks := tk } := I1.kept fun b o e => keep b o e
  have hn : H1 p = none := I2.hok.fresh hp
  have hl : (zs.map V.str).length ≤ sizeLine := by
    have e1 := pm.length_eq
    have e2 : ks.length ≤ 4096 := by
      obtain ⟨_, es, _, _, _, _, _, pr, _, hb, _⟩ := hS
      rw [← Paired.length pr, Array.length_toList]
      exact Nat.le_of_lt hb
    rw [List.length_map, e1, sizeLine_eq]
    omega
  have J : Inv X pins σ (upd H1 p (.lst (zs.map V.str))) { ({ s1 with heap := h', toks := tk } : Shared) with heap := s2.heap, gens := s2.gens, drawn := s2.drawn, toks := s2.toks } :=
    I2.call (ch := []) (Un.laid k2 hp hn) (I2.hok.laid k2 hp ⟨hl, out, c, vals_txts hps, hg⟩) (by rw [g2]; exact I2.bare) (fun _ z => nomatch z)
  have e : s2 = { ({ s1 with heap := h', toks := tk } : Shared) with heap := s2.heap, gens := s2.gens, drawn := s2.drawn, toks := s2.toks } := by
    cases s2
    cases o2
    rfl
  rw [e]
  exact ⟨.ref p, _, J, rfl, q1 p zs _ (pm.nodup_iff.mpr nd) (fun z => pm.mem_iff.trans (hm z)) pw (.of hn)⟩
/-- len(set(z)), z a text -/
def tLenSetS (ta : TE) : TE := fun σ H Q => ta σ H fun x H1 => ∃ z : Str, x = .str z ∧ z.cps.size ≤ 4000 ∧ ∀ n : Nat, (∃ ks : List Str, ks.Nodup ∧ (∀ x, x ∈ ks ↔ x ∈ z.cps.toList.map sg) ∧ n = ks.length) → Q (.int ((n : Nat) : Int)) H1
theorem pe_lenSetS {a : Expr} {ta : TE} {p p2 q pos : Pos} (hc : X.calm = true) (hg : Gl X "len") (hm : X.mg "len" = none) (hg2 : Gl X "set") (hm2 : X.mg "set" = none) (ha : PE X a ta)
    (na : starEach [a] X.env = (false, eval a X.env) :: starEach [] X.env := by rfl) : PE X (.Call (.Name "len" p) [.Call (.Name "set" p2) [a] [] q] [] pos) (tLenSetS ta) := by
  refine ⟨fun pins s σ H Q I h => ?_⟩
  refine Call_ (ld_blt I hg hm boot_len ?_)
  refine PyProof.Rows.callWith_builtin1 (PyProof.Rows.args_cons (Call_ (ld_blt I hg2 hm2 boot_set ?_)) rfl) rfl rfl
  refine PyProof.Rows.callWith_type1 (PyProof.Rows.args_cons (thn (ha.run pins s σ H _ I h) fun v s1 ⟨x, H1, I1, r1, q1⟩ => PyProof.Rows.args_nil ?_) na) na rfl
  obtain ⟨z, rfl, hz, q1⟩ := q1
  obtain ⟨t, rfl⟩ := r1
  refine set_text (I1.ok.hd hc) (by rw [show scanBound = 4096 from rfl]; omega) fun h' tk ks hS hm keep => PyProof.Rows.args_nil ?_
  obtain ⟨o, es, ep, tb, ho, hex, hd, pr, nd, hb, hf, _⟩ := hS
  have hl : es.size = ks.length := by rw [← Array.length_toList, Paired.length pr]
  have I2 : Inv X pins σ H1 { s1 with heap := h', toks := tk } := I1.kept fun b o e => keep b o e
  exact call_len_set ho hex hd hf (by rw [hl]; rw [show scanBound = 4096 from rfl] at hb; omega) ⟨.int ((es.size : Nat) : Int), H1, I2.tok _, ⟨_, rfl⟩, q1 es.size ⟨ks, nd, hm, hl⟩⟩
end
end Gw

namespace Gw
open PySem PySem.Spec PyProof.Rows L2 RT PySem.W
theorem w_sortSet {K : PySem.W.Frag} {ta : TE} {σ : L2.St} {H : Hp} {Q : VK} (q : ta σ H fun x H1 => ∃ (l : Addr) (xs : List Str), x = .ref l ∧ SqL K H1 l (xs.map V.str) ∧ xs.length ≤ 4000 ∧
  ∀ (p : Addr) (zs : List Str) (H2 : Hp), zs.Nodup → (∀ z, z ∈ zs ↔ z ∈ xs) → zs.Pairwise (fun x y => x.cps.toList ≤ y.cps.toList) → New H1 p (.lst (zs.map V.str)) H2 → Q (.ref p) H2) : tSortSet K ta σ H Q := q
theorem w_lenSetS {ta : TE} {σ : L2.St} {H : Hp} {Q : VK} (q : ta σ H fun x H1 => ∃ z : Str, x = .str z ∧ z.cps.size ≤ 4000 ∧ ∀ n : Nat, (∃ ks : List Str, ks.Nodup ∧ (∀ x, x ∈ ks ↔ x ∈ z.cps.toList.map sg) ∧ n = ks.length) → Q (.int ((n : Nat) : Int)) H1) : tLenSetS ta σ H Q := q
/-- {k: v}, both constants -/
theorem w_dispC {k : Key} {x y : V} {σ : L2.St} {H : Hp} {Q : VK} (hk : x = kV k) (q : ∀ p H2, New H p (.dK [(k, y)]) H2 → Q (.ref p) H2) : tDisp [(tC x, tC y)] σ H Q := fun p hp => by
  refine ⟨upd_same, [(k, y)], by rw [hk]; rfl, by show 1 ≤ 15; decide, q p _ ⟨hp, ?_, ?_⟩⟩
  · exact Ex.but (Ex.new hp) But.upd hp
  · rw [upd_same]
    rfl
end Gw

/-! W3: enumerate(d), {(..): v}, dict(l) with tuple keys. -/
namespace Gw
open PySem PySem.Spec PyProof.Rows L2 RT
open Sem (wp)
/-! ### {t: v}, t a tuple -/
section
variable {prog : Program} {w : World} {K : Type} [DecidableEq K] {knd : HeapKind prog w K} {A : Around} {E : Value → Shared → Prop} {s : Shared}
theorem dict_pairsH {env : Env} {keys : List (Option Expr)} {values : List Expr} {pos : Pos} {pairs : List (Sem Value × Sem Value)} {Q : Value → Shared → Prop} (hu : knd.room A)
    (hshape : (evalEachOpt keys env).zip ((evalEach values env).map fun v => do let x ← v; standAt pos; pure x) = pairs.map fun p => (some p.1, p.2)) (h0 : pairs ≠ []) (hlen : pairs.length ≤ 15)
    (h : wpAny (model prog w) A (evalPairs pairs) (fun vs s₁ => ∃ ps, CarriesH knd s₁.heap vs ps ∧ s₁.heap.DictOfH knd s.heap.objs.size [] ∧
      ∀ h' tk, h'.DictOfH knd s.heap.objs.size (storedAllH [] ps) → Heap.SameBut s.heap.objs.size s₁.heap h' → Q (.ref s.heap.objs.size) { s₁ with heap := h', toks := tk }) E
      { s with heap := s.heap.push { cls := .type "dict", data := .dict #[] } }) :
    wpAny (model prog w) A (eval (.Dict keys values pos) env) Q E s := by
  rw [arm_eval_Dict, hshape, dictDisplay_pairs pairs h0 (by omega)]
  exact wpAny_bind (wpAny_standAt (wpAny_bind (wpAny_subDictH (knd := knd) (Q := fun d s' => wpAny (model prog w) A (pure (Value.ref d)) Q E s') hu hlen
    (wpAny_mono h (fun vs s₁ h₁ => by obtain ⟨ps, hc, hm, hq⟩ := h₁; exact ⟨ps, hc, hm, fun h' tk a b => wpAny_pure (hq h' tk a b)⟩) fun _ _ e => e))))
end
/-- {k: v}, k a tuple; the new dict stands empty while the pair is made -/
def tDispT1 (tk tv : TE) : TE := fun σ H Q => ∀ p, H p = none → tk σ (upd H p (.dT [])) fun x H1 => tv σ H1 fun y H2 => H2 p = some (.dT []) ∧ ∃ (k : List Key) (b : Addr), x = .ref b ∧ H2 b = some (.tup (k.map kV)) ∧ Q (.ref p) (upd H2 p (.dT [(k, y)]))
theorem pe_dispT1 {X : Cx} {pos : Pos} {k v : Expr} {tk tv : TE} (hu : X.A.units + 1 < cLine) (hk : PE X k tk) (hv : PE X v tv) : PE X (.Dict [some k] [v] pos) (tDispT1 tk tv) := by
  refine ⟨fun pins s σ H Q I q => ?_⟩
  have hn := I.hok.fresh (Nat.le_refl s.heap.objs.size)
  have I1 := I.laid (a := s.heap.objs.size) (o := .dT []) (h' := s.heap.push { cls := .type "dict", data := .dict #[] }) (t' := s.toks) (fun _ _ q => Heap.get?_push_of_some _ q) (Nat.le_refl _) (dt_empty s.heap I.big)
  have hu' : X.A.units < cLine := by omega
  refine dict_pairsH (knd := tupleKind (mixKind X.prog X.w)) (pairs := pairTrees [some k] [v] X.env pos) hu' (zip_pairTrees _ _ _ _ rfl rfl) (fun z => by cases z) (by show 1 ≤ 15; decide) ?_
  refine pairTrees_cons_walk (thn (hk.run pins _ σ _ _ I1 (q _ hn)) fun u s1 ⟨x, H1, I2, rx, q1⟩ => thn (hv.run pins s1 σ H1 _ I2 q1) fun z s2 ⟨y, H2, I3, ry, e, ks, b, ex, eb, q2⟩ => pairTrees_nil_walk ?_)
  subst ex
  cases (show u = Value.ref b from rx)
  obtain ⟨_, hd, xs0, r0, dd⟩ := dt_of I3.hok e
  cases r0
  refine ⟨[(ks, b, z)], ⟨rfl, rfl, key_of I3.hok eb, trivial⟩, dd, fun h' tk dd' hs => ⟨.ref s.heap.objs.size, _, ?_, rfl, q2⟩⟩
  obtain ⟨oq, es, ep, hq, h2, h3, h4, _, h5⟩ := dd'
  have new : ObjOk X.prog X.w (upd H2 s.heap.objs.size (.dT [(ks, y)])) h' s.heap.objs.size (.dT [(ks, y)]) := by
    refine ⟨by show 1 ≤ sizeLine; decide, hd, [(ks, b, z)], ?_, oq, es, ep, hq, h2, h3, h4, h5⟩
    refine KT.keeps (H := H2) (.cons ⟨rfl, eb, ry⟩ .nil) fun c ys ec => ?_
    rw [upd_ne (ne_of ec e (fun z => nomatch z))]
    exact ec
  exact d_write I3 (by rw [e]; exact True.intro) hs ⟨oq, hq⟩ new
/-! ### enumerate(d), d a dict -/
section
variable {prog : Program} {w : World} {A : Around} {E : Value → Shared → Prop} {s : Shared}
theorem nextOf_key_item {it d : Addr} {i n ep : Nat} {od : Obj} {es : Array DictEntry} {en : DictEntry} {Q : Value → Shared → Prop} (hit : s.heap.IsKeyIter it d i n ep) (hod : s.heap.get? d = some od) (hdd : od.data = .dict es ep)
    (hsz : es.size = n) (hx : es[i]? = some en) (hQ : ∀ h', h'.IsKeyIter it d (i + 1) n ep → Heap.SameBut it s.heap h' → Q en.key { s with heap := h' }) : wpAny (model prog w) A (Builtin.SmallTypes.nextOf (.ref it)) Q E s := by
  obtain ⟨o, ho, hc, hd⟩ := id hit
  unfold Builtin.SmallTypes.nextOf
  refine wpAny_bind (wpAny_callSpecial?_slot (name := Str.ofString "__next__") hit.typeIs F.slot_dict_keyiterator_next
    (wpAny_call_entry F.slot_dict_keyiterator_next hit.typeIs F.entry_dict_keyiterator_next ?_ (F.args_dict_keyiterator_next_1 _)))
  refine wpAny_bind (wpAny_pure ?_)
  refine wpAny_bind ?_
  refine wpAny_bind ?_
  first | refine wpAny_bind (wpAny_typeNameOfWhole_keyiter hit.typeIs (wpAny_pure ?_)) | refine wpAny_bind (wpAny_typeNameOf_keyiter hit.typeIs (wpAny_pure ?_))
  refine wpAny_bind (wpAny_fieldsOf ho hd ?_)
  have hown : Builtin.Dict_items.ownsTuple "dict_keyiterator" = false := by decide
  simp only [hown, Bool.false_eq_true, if_false]
  show wpAny _ _ (if (Value.ref d == Value.none) = true then _ else _) _ _ s
  rw [if_neg (show ¬ ((Value.ref d == Value.none) = true) from Bool.false_ne_true)]
  refine wpAny_bind (wpAny_pure ?_)
  refine wpAny_bind (wpAny_dictEntries hod hdd ?_)
  rw [if_neg (by rw [hsz]; simp)]
  refine wpAny_bind (wpAny_pure ?_)
  refine wpAny_bind (wpAny_dictEpoch hod hdd ?_)
  rw [if_neg (by simp)]
  refine wpAny_pure ?_
  obtain ⟨hlt', hen⟩ := Array.getElem?_eq_some_iff.mp hx
  simp only [show ¬ ((i : Int) < 0) from by omega, if_false, Int.toNat_natCast, Array.getElem?_eq_getElem hlt']
  refine wpAny_bind ?_
  first | refine wpAny_bind (wpAny_typeNameOfWhole_keyiter hit.typeIs (wpAny_pure ?_)) | refine wpAny_bind (wpAny_typeNameOf_keyiter hit.typeIs (wpAny_pure ?_))
  refine wpAny_bind (wpAny_isOneOf_keyiter hit.typeIs ?_)
  show wpAny _ _ (setField (.ref it) 1 (rawInt ((i : Int) + 1)) >>= _) _ _ s
  refine wpAny_bind (wpAny_setField ho hd (by simp) ?_)
  have hit' : (s.heap.update it (Obj.mapFields (·.setIfInBounds 1 (rawInt ((i : Int) + 1))))).IsKeyIter it d (i + 1) n ep :=
    ⟨_, Heap.get?_update_self _ ho (Obj.isFreed_of_fields (Obj.data_mapFields hd _)), (Obj.cls_mapFields ..).trans hc, by rw [Obj.data_mapFields hd]; simp [rawInt]⟩
  refine wpAny_bind (wpAny_holding ?_)
  refine wpAny_bind (wpAny_isOneOf_keyiter (s := { s with heap := s.heap.update it (Obj.mapFields (·.setIfInBounds 1 (rawInt ((i : Int) + 1)))) }) hit'.typeIs ?_)
  show wpAny _ _ (pure es[i].key) _ _ _
  rw [hen]
  exact wpAny_pure (wpAny_pure ⟨_, rfl, wpAny_pure (hQ _ hit' (Heap.SameBut.update ..))⟩)
theorem nextOf_key_end {it d : Addr} {i n ep : Nat} {od : Obj} {es : Array DictEntry} {Q : Value → Shared → Prop} (hh : A.handled = none) (hit : s.heap.IsKeyIter it d i n ep) (hod : s.heap.get? d = some od) (hdd : od.data = .dict es ep)
    (hsz : es.size = n) (hge : n ≤ i) (hE : ∀ h' e, Heap.ExtBut it s.heap h' → (∃ o, h'.get? e = some o ∧ o.cls = .type "StopIteration") → E (.ref e) { s with heap := h' }) : wpAny (model prog w) A (Builtin.SmallTypes.nextOf (.ref it)) Q E s := by
  obtain ⟨o, ho, hc, hd⟩ := id hit
  unfold Builtin.SmallTypes.nextOf
  refine wpAny_bind (wpAny_callSpecial?_slot (name := Str.ofString "__next__") hit.typeIs F.slot_dict_keyiterator_next
    (wpAny_call_entry F.slot_dict_keyiterator_next hit.typeIs F.entry_dict_keyiterator_next ?_ (F.args_dict_keyiterator_next_1 _)))
  refine wpAny_bind (wpAny_pure ?_)
  refine wpAny_bind ?_
  refine wpAny_bind ?_
  first | refine wpAny_bind (wpAny_typeNameOfWhole_keyiter hit.typeIs (wpAny_pure ?_)) | refine wpAny_bind (wpAny_typeNameOf_keyiter hit.typeIs (wpAny_pure ?_))
  refine wpAny_bind (wpAny_fieldsOf ho hd ?_)
  have hown : Builtin.Dict_items.ownsTuple "dict_keyiterator" = false := by decide
  simp only [hown, Bool.false_eq_true, if_false]
  show wpAny _ _ (if (Value.ref d == Value.none) = true then _ else _) _ _ s
  rw [if_neg (show ¬ ((Value.ref d == Value.none) = true) from Bool.false_ne_true)]
  refine wpAny_bind (wpAny_pure ?_)
  refine wpAny_bind (wpAny_dictEntries hod hdd ?_)
  rw [if_neg (by rw [hsz]; simp)]
  refine wpAny_bind (wpAny_pure ?_)
  refine wpAny_bind (wpAny_dictEpoch hod hdd ?_)
  rw [if_neg (by simp)]
  refine wpAny_pure ?_
  have hge' : es.size ≤ i := by rw [hsz]; exact hge
  simp only [show ¬ ((i : Int) < 0) from by omega, if_false, Int.toNat_natCast, Array.getElem?_eq_none hge']
  refine wpAny_bind ?_
  first | refine wpAny_bind (wpAny_typeNameOfWhole_keyiter hit.typeIs (wpAny_pure ?_)) | refine wpAny_bind (wpAny_typeNameOf_keyiter hit.typeIs (wpAny_pure ?_))
  show wpAny _ _ (setField (.ref it) 0 .none >>= _) _ _ s
  refine wpAny_bind (wpAny_setField ho hd (by simp) ?_)
  show wpAny _ _ (newExc (.type "StopIteration") [] >>= _) _ _ _
  refine wpAny_bind ?_
  simp only [newExc, newTuple]
  refine wpAny_bind (wpAny_newObj_type ?_ (by size_fits))
  refine wpAny_bind (m := firstArgMember _ _) (wpAny_of_eq (a := Value.none) (by first | rfl | (simp only [firstArgMember]; rfl)) ?_)
  refine wpAny_newObj_type ?_ (by size_fits)
  simp only [raiseNew]
  refine wpAny_bind (wpAny_handled ?_)
  rw [show A.in1.handled = none from hh]
  refine wpAny_bind (wpAny_pure (wpAny_throw ?_))
  exact hE _ _ (((Heap.SameBut.update ..).extBut.push _).push _) ⟨_, Heap.get?_push_size _ rfl, rfl⟩
end
/-- what the keys' iterator of the dict at d draws -/
theorem draws_keys {prog : Program} {w : World} {A : Around} (hh : A.handled = none) (it d : Addr) (hne : d ≠ it) (od : Obj) (es : Array DictEntry) (ep : Nat) (hdd : od.data = .dict es ep) :
    Draws prog w A it [it, d] es.size (fun i v => ∃ en, es[i]? = some en ∧ v = en.key) (fun i h => h.IsKeyIter it d i es.size ep ∧ h.get? d = some od) where
  live := fun _ _ st => let ⟨o, ho, _⟩ := st.1; ⟨o, ho⟩
  frame := fun _ _ _ st hk => ⟨st.1.at fun o e => hk it (by simp) o e, hk d (by simp) _ st.2⟩
  item := fun i s Q E hi st hQ => by
    refine nextOf_key_item st.1 st.2 hdd rfl (en := es[i]) (by simp [hi]) fun h' hit' hs' => ?_
    exact hQ _ h' s.toks ⟨es[i], by simp [hi], rfl⟩ ⟨hit', hs'.extBut d _ hne st.2⟩ hs'
  done := fun s Q E st hE => nextOf_key_end hh st.1 st.2 hdd rfl (Nat.le_refl _) hE
theorem meets_enum_newD (d : Addr) (o : Obj) (es : Array DictEntry) (ep : Nat) (hd : (d == sysModules) = false) (hc : o.ExactDict) (hdat : o.data = .dict es ep) :
    Meets (Builtin.«enumerate.__new__» ⟨[.type "enumerate", .ref d], []⟩) (fun _ R s => s.heap.get? d = some o ∧
      R (.ok (.ret (.ref (s.heap.push { cls := .type "dict_keyiterator", data := .fields #[.ref d, .int 0 0, .int es.size 0, .int ep 0] }).objs.size)))
        { s with heap := (s.heap.push { cls := .type "dict_keyiterator", data := .fields #[.ref d, .int 0 0, .int es.size 0, .int ep 0] }).push { cls := .type "enumerate", data := .fields #[.none, .bool false, .ref s.heap.objs.size, rawInt 0, .none, .none] } }) :=
  .of_wp fun prog w A R s h => by
    obtain ⟨hp, g, dr, tk, os⟩ := s
    obtain ⟨hl, h⟩ := h
    have hsub := sub_enumerate
    wp_walk using AutoSeq1.wpAny_loadPart' hl
    refine wpAny_stack_any fun st => wpAny_pure ?_
    split
    · rename_i c _ _ _ _ _
      cases (c == Value.type "enumerate")
      · wp_walk using AutoSeq1.wpAny_loadPart' hl, iter_keys (s := ⟨hp, g, dr, tk, os⟩) hd hl hc hdat
        exact ⟨_, rfl, h⟩
      · wp_walk using AutoSeq1.wpAny_loadPart' hl, iter_keys (s := ⟨hp, g, dr, tk, os⟩) hd hl hc hdat
        exact ⟨_, rfl, h⟩
    · wp_walk using AutoSeq1.wpAny_loadPart' hl, iter_keys (s := ⟨hp, g, dr, tk, os⟩) hd hl hc hdat
      exact ⟨_, rfl, h⟩
theorem call_enum_dict {prog : Program} {w : World} {A : Around} {E : Value → Shared → Prop} {s : Shared} {d : Addr} {o : Obj} {es : Array DictEntry} {ep : Nat} {Q : Value → Shared → Prop} (hd : (d == sysModules) = false) (ho : s.heap.get? d = some o) (hc : o.ExactDict) (hdat : o.data = .dict es ep)
    (h : ∀ h', IsEnum h' (s.heap.objs.size + 1) s.heap.objs.size 0 .none → h'.IsKeyIter s.heap.objs.size d 0 es.size ep → h'.objs.size = s.heap.objs.size + 2 →
      (∀ b o, s.heap.get? b = some o → h'.get? b = some o) → Q (.ref (s.heap.objs.size + 1)) { s with heap := h' }) :
    wpAny (model prog w) A (call (.type "enumerate") [.ref d]) Q E s := by
  refine callType_new F.called_enumerate (by decide) (F.typeCall_enumerate_1 _) (F.newCall_enumerate_1 _) (fun obj => F.args_object_init_2 obj _) F.entry_enumerate_new
    (meets_enum_newD d o es ep hd hc hdat) ⟨ho, ?_⟩
  have hz : (s.heap.push { cls := .type "dict_keyiterator", data := .fields #[.ref d, .int 0 0, .int es.size 0, .int ep 0] }).objs.size = s.heap.objs.size + 1 := Heap.size_push ..
  show _ ∧ _
  rw [hz]
  have he : IsEnum ((s.heap.push { cls := .type "dict_keyiterator", data := .fields #[.ref d, .int 0 0, .int es.size 0, .int ep 0] }).push
      { cls := .type "enumerate", data := .fields #[.none, .bool false, .ref s.heap.objs.size, rawInt 0, .none, .none] }) (s.heap.objs.size + 1) s.heap.objs.size 0 .none := by
    have := Heap.get?_push_size (s.heap.push { cls := .type "dict_keyiterator", data := .fields #[.ref d, .int 0 0, .int es.size 0, .int ep 0] })
      (o := { cls := .type "enumerate", data := .fields #[.none, .bool false, .ref s.heap.objs.size, rawInt 0, .none, .none] }) rfl
    rw [hz] at this; exact this
  refine ⟨⟨_, he, rfl⟩, h _ he ⟨_, Heap.get?_push_of_some _ (Heap.get?_push_size _ rfl), rfl, rfl⟩ (by rw [Heap.size_push, hz]) fun b o x => Heap.get?_push_of_some _ (Heap.get?_push_of_some _ x)⟩
/-- the keys of the locked dict at d, tuples, with their places, each in a new pair -/
def Itet (d : Addr) (o : Obj) (kvs : List (List Key × V)) : It :=
  ⟨fun i H => H d = some (.frz o (.dT kvs)) ∧ i < kvs.length, fun i H x H' => ∃ T k v q, kvs[i]? = some (k, v) ∧ x = .ref T ∧ H T = none ∧ H' = upd H T (.tup [.int (i : Nat), .ref q]) ∧ H q = some (.tup (k.map kV)), fun i H => H d = some (.frz o (.dT kvs)) ∧ kvs.length ≤ i⟩
theorem turn_enumT {P : Program} {w : World} {K : PySem.W.Frag} {elts : List Expr} {nn : Nat} {tpos : Pos} {d : Addr} {o : Obj} {es : Array DictEntry} {ep : Nat} {kvs : List (List Key × V)} (e it : Addr) (hod : o.data = .dict es ep) (hox : o.cls = .type "dict") :
    Turn P w K (.Tuple elts nn tpos) (Itet d o kvs) [e, it] e (fun i h => (∃ old, IsEnum h e it ((i : Nat) : Int) old) ∧ h.IsKeyIter it d i kvs.length ep ∧ e ≠ it ∧ i ≤ kvs.length) where
  mem := by simp
  obj := fun i h st b hb => by
    obtain ⟨⟨old, he⟩, ⟨oi, ho, hc, hd⟩, _⟩ := st
    rcases (show b = e ∨ b = it by simpa using hb) with y | y
    · subst y
      exact ⟨_, he, fun v q => nomatch q⟩
    · subst y
      exact ⟨oi, ho, fun v q => by rw [hd] at q; cases q⟩
  keep := fun i h h' st k => by
    obtain ⟨⟨old, he⟩, hi, hne⟩ := st
    exact ⟨⟨old, k e (by simp) _ he⟩, hi.at fun o q => k it (by simp) o q, hne⟩
  item := by
    intro X hP hw hK hc i pins s σ H E I hf st hg
    subst hP hw hK
    obtain ⟨⟨old, he⟩, hit, hne, _⟩ := st
    obtain ⟨hd, hi⟩ := hg
    obtain ⟨hs, hgd, hx, es', ep', hdt, hsz, ent⟩ := I.frzT hd
    obtain ⟨rfl, rfl⟩ := dict_ep hod hdt
    obtain ⟨⟨k, v⟩, hkv⟩ : ∃ p, kvs[i]? = some p := ⟨kvs[i], List.getElem?_eq_getElem hi⟩
    obtain ⟨en, q, hen, hkey, hq⟩ := ent i k v hkv
    have hel : e < s.heap.objs.size := Heap.lt_size he
    have hil : it < s.heap.objs.size := by obtain ⟨_, z, _⟩ := hit; exact Heap.lt_size z
    have hde : e ≠ d := fun z => by
      rw [z] at he
      have h1 := he.symm.trans hgd
      injection h1 with h1
      rw [← h1] at hox
      simp at hox
    have hdi : d ≠ it := fun z => by
      obtain ⟨oi, ho, hcl, _⟩ := hit
      rw [← z, hgd] at ho
      injection ho with ho
      rw [← ho, hox] at hcl
      simp at hcl
    rw [← hsz] at hit hi
    refine wpAny_pyNext_enum_itemD (draws_keys (A := X.A.in1) (by simp [I.ok.hd hc]) it d hdi o es' ep' hod) he ⟨hit, hgd⟩ hi hne (by simp [hne, hde]) fun x h' tk hx' ho hit' hT hsz' hk => ?_
    obtain ⟨en', hen', rfl⟩ := hx'
    rw [hen] at hen'
    cases hen'
    rw [hkey] at hT ho
    refine ⟨_, rfl, wpAny_letOwnedTupleGo_enum (s := { s with heap := h', toks := tk + 1 }) ho fun h'' he' sb => ?_⟩
    have hT2 : h''.get? s.heap.objs.size = some { cls := .type "tuple", data := .seq #[.int i tk, .ref q] } := (sb.2 _ (Nat.ne_of_gt hel)).trans hT
    have new : ObjOk X.prog X.w (upd H s.heap.objs.size (.tup [.int (i : Nat), .ref q])) h'' s.heap.objs.size (.tup [.int (i : Nat), .ref q]) := ⟨by show 2 ≤ sizeLine; decide, [.int i tk, .ref q], .cons ⟨_, rfl⟩ (.cons rfl .nil), ⟨_, hT2, rfl, _, rfl⟩⟩
    have keep : ∀ b ob, b ∉ [e, it] → s.heap.get? b = some ob → h''.get? b = some ob := fun b ob hb z => by
      have h1 : b ≠ e := fun y => hb (by simp [y])
      have h2 : b ≠ it := fun y => hb (by simp [y])
      exact (sb.2 b h1).trans (hk b ob h1 h2 z)
    have I1 : Inv X pins σ (upd H s.heap.objs.size (.tup [.int (i : Nat), .ref q])) { s with heap := h'', toks := tk + 1 } := I.turnedNew (ch := [e, it]) keep hf (Nat.le_refl _) new
    refine ⟨.ref s.heap.objs.size, _, I1, rfl, ⟨_, k, v, q, hkv, rfl, I.hok.fresh (Nat.le_refl _), rfl, hq⟩, ⟨⟨.ref q, ?_⟩, ?_, hne, by omega⟩, fun b hb => ?_⟩
    · rw [show ((i + 1 : Nat) : Int) = (i : Int) + 1 by omega]
      exact he'
    · have h1 := hit'.1
      rw [hsz] at h1
      exact h1.at fun o z => (sb.2 it (Ne.symm hne)).trans z
    · have hb' : b < s.heap.objs.size := by
        rcases (show b = e ∨ b = it by simpa using hb) with y | y
        · rw [y]; exact hel
        · rw [y]; exact hil
      rw [upd_ne (Nat.ne_of_lt hb')]
      exact (hf b hb).1
  done := by
    intro X hP hw hK hc i pins s σ H E I hf st hg
    subst hP hw hK
    obtain ⟨⟨old, he⟩, hit, hne, hle⟩ := st
    obtain ⟨hd, hi⟩ := hg
    obtain ⟨hs, hgd, hx, es', ep', hdt, hsz, ent⟩ := I.frzT hd
    obtain ⟨rfl, rfl⟩ := dict_ep hod hdt
    obtain ⟨f0, f1, f2, f3, f4, f5⟩ := hf it (by simp)
    have hdi : d ≠ it := fun z => by
      obtain ⟨oi, ho, hcl, _⟩ := hit
      rw [← z, hgd] at ho
      injection ho with ho
      rw [← ho, hox] at hcl
      simp at hcl
    have ei : i = es'.size := by omega
    rw [← hsz, ei] at hit
    rw [ei] at he
    exact wpAny_pyNext_enum_endD (draws_keys (A := X.A.in1) (by simp [I.ok.hd hc]) it d hdi o es' ep' hod) he ⟨hit, hgd⟩ fun h' eb => ⟨rfl, I.turned (t' := s.toks) (fun b o hb q => eb b o hb q) f0 f1 f3 f4 f5⟩
  self := fun A i s Q E st h => by
    obtain ⟨⟨_, he⟩, _⟩ := st
    exact wpAny_pyIter_enum he h
def iEnumT (te : TE) : TI := fun σ H R => te σ H fun x H1 => ∃ d kvs, x = .ref d ∧ H1 d = some (.dT kvs) ∧ ∀ o H2, Chg H1 d (.frz o (.dT kvs)) H2 → R (Itet d o kvs) H2
theorem pi_enumD {X : Cx} {e : Expr} {te : TE} {p pos tpos : Pos} {elts : List Expr} {nn : Nat} (hg : Gl X "enumerate") (hm : X.mg "enumerate" = none) (he : PE X e te) (hs : starEach [e] X.env = (false, eval e X.env) :: starEach [] X.env := by rfl) :
    PI X (.Tuple elts nn tpos) (.Call (.Name "enumerate" p) [e] [] pos) (iEnumT te) := by
  refine ⟨fun pins s σ H R I h => ?_⟩
  refine Call_ (ld_blt I hg hm boot_enumerate (PyProof.Rows.callWith_type1 (args_cons (thn (he.run pins s σ H _ I h) fun u s1 ⟨v, H1, I1, r1, q1⟩ => args_nil ?_) hs) hs rfl))
  obtain ⟨d, kvs, ev, hd, q⟩ := q1
  subst ev
  obtain rfl : u = Value.ref d := r1
  obtain ⟨od, I2⟩ := I1.lock hd trivial
  obtain ⟨hsm, hgd, hx, es, ep, hdt, hsz, ent⟩ := I2.frzT upd_same
  refine call_enum_dict hsm hgd hx hdt fun h' he hit hsz' hk => wpAny_pyIter_enum he ?_
  have I3 : Inv X pins σ (upd H1 d (.frz od (.dT kvs))) { s1 with heap := h' } := I2.kept (t' := s1.toks) hk
  rw [hsz] at hit
  refine ⟨s1.heap.objs.size + 1, [s1.heap.objs.size + 1, s1.heap.objs.size], _, _, upd H1 d (.frz od (.dT kvs)), rfl, I3, turn_enumT (d := d) (o := od) (kvs := kvs) (s1.heap.objs.size + 1) s1.heap.objs.size hdt hx.1, ⟨⟨.none, he⟩, hit, Nat.succ_ne_self _, Nat.zero_le _⟩, fun b hb => ?_, q od _ .of⟩
  have hle : s1.heap.objs.size ≤ b := by
    rcases (show b = s1.heap.objs.size + 1 ∨ b = s1.heap.objs.size by simpa using hb) with y | y
    · rw [y]; exact Nat.le_succ _
    · rw [y]; exact Nat.le_refl _
  exact I2.fpOk hle (I2.hok.fresh hle)
theorem w_iEnumT {te : TE} {σ : L2.St} {H : Hp} {R : It → Hp → Prop} (q : te σ H fun x H1 => ∃ d kvs, x = .ref d ∧ H1 d = some (.dT kvs) ∧ ∀ o H2, Chg H1 d (.frz o (.dT kvs)) H2 → R (Itet d o kvs) H2) : iEnumT te σ H R := q
theorem seqs_enumT {d : Addr} {o : Obj} {kvs : List (List Key × V)} : Seqs (Itet d o kvs) (fun H => H d = some (.frz o (.dT kvs))) kvs.zipIdx (fun b x H => ∃ T q, x = .ref T ∧ H T = some (.tup [.int ((b.2 : Nat) : Int), .ref q]) ∧ H q = some (.tup (b.1.1.map kV))) where
  go := fun i H h hi => by
    rw [List.length_zipIdx] at hi
    exact ⟨h, hi⟩
  yld := fun i H x H' b h hb y => by
    obtain ⟨T, k, v, q, hk, rfl, nT, rfl, hq⟩ := y
    have h1 : kvs.zipIdx[i]? = (kvs[i]?).map fun v => (v, i) := by
      rw [List.getElem?_zipIdx]
      simp
    rw [h1, hk] at hb
    cases hb
    exact ⟨Ex.new nT, T, q, rfl, upd_same, Ex.new nT _ _ hq⟩
  stop := fun i H h hi => by
    rw [List.length_zipIdx] at hi
    exact ⟨h, hi⟩
end Gw

/-! W4: dict(l), l a list of pairs with tuple keys, each once. -/
namespace Gw
open PySem PySem.Spec PyProof.Rows L2 RT
open Sem (wp)
section
variable {X : Cx}
theorem pairs_ofT {pins : List (Addr × Obj)} {σ : L2.St} {H : Hp} {s : Shared} (I : Inv X pins σ H s) : ∀ {ps : List Addr} {kvs : List (List Key × Addr × V)}, Paired (fun p kv => SqT X.K H p [.ref kv.2.1, kv.2.2] ∧ H kv.2.1 = some (.tup (kv.1.map kV))) ps kvs →
    ∃ prs : List (List Key × Addr × Value), Paired (fun kv q => q.1 = kv.1 ∧ q.2.1 = kv.2.1 ∧ H q.2.1 = some (.tup (q.1.map kV)) ∧ RelV kv.2.2 q.2.2) kvs prs ∧ prs.length = ps.length ∧ ∀ (j : Nat) (q : List Key × Addr × Value), prs[j]? = some q → ∃ b : Addr, ps[j]? = some b ∧ IsTup s.heap b #[.ref q.2.1, q.2.2]
  | _, _, .nil => ⟨[], .nil, rfl, fun j q e => by simp at e⟩
  | _, _, .cons (a := p) (b := kv) h t => by
    obtain ⟨prs, r, hl, hp⟩ := pairs_ofT I t
    obtain ⟨its, rv, ht, _⟩ := I.tuple h.1
    obtain ⟨u, y, ei, ru, ry⟩ := vals2 rv
    subst ei
    cases (show u = Value.ref kv.2.1 from ru)
    refine ⟨(kv.1, kv.2.1, y) :: prs, .cons ⟨rfl, rfl, h.2, ry⟩ r, by rw [List.length_cons, List.length_cons, hl], fun j q e => ?_⟩
    cases j with
    | zero =>
      have e' : (kv.1, kv.2.1, y) = q := Option.some.inj e
      subst e'
      exact ⟨p, rfl, ht⟩
    | succ j =>
      obtain ⟨b, e1, e2⟩ := hp j q (by simpa using e)
      exact ⟨b, by simpa using e1, e2⟩
def rDictT (K : PySem.W.Frag) : List V → Hp → VK → Prop := fun xs H Q => ∃ (a : Addr) (ps : List Addr) (kvs : List (List Key × Addr × V)), xs = [.ref a] ∧ SqL K H a (ps.map V.ref) ∧ Paired (fun p kv => SqT K H p [.ref kv.2.1, kv.2.2] ∧ H kv.2.1 = some (.tup (kv.1.map kV))) ps kvs ∧ (kvs.map (·.1)).Nodup ∧
  ∀ p H2, New H p (.dT (kvs.map fun x => (x.1, x.2.2))) H2 → Q (.ref p) H2
theorem call_dictT (hcalm : X.calm = true) (hu : X.A.units + 64 < cLine) : CallR X (.type "dict") (rDictT X.K) := by
  intro pins s σ H xs us Q I r q
  obtain ⟨a, ps, kvs, ex, hq, hp, hnd, q⟩ := q
  subst ex
  obtain ⟨u, eu, rx⟩ := vals1 r
  subst eu
  cases (show u = Value.ref a from rx)
  obtain ⟨its, rv, pl, hz⟩ := I.list hq
  have ei := refs_at rv
  subst ei
  rw [List.length_map] at hz
  obtain ⟨prs, rel, hl, hpr⟩ := pairs_ofT I hp
  obtain ⟨o, n, ho, hc, hd, hdat⟩ := pl
  have lk : kvs.length = prs.length := Paired.length rel
  have hkeys : prs.map (·.1) = kvs.map (·.1) := by
    clear hpr hl hnd q lk hp
    induction rel with
    | nil => rfl
    | cons h t ih => rw [List.map_cons, List.map_cons, ih, h.1]
  have hrel : ∀ q ∈ prs, H q.2.1 = some (.tup (q.1.map kV)) := by
    clear hpr hl hnd q lk hkeys hp
    induction rel with
    | nil => intro q hq; cases hq
    | cons h t ih =>
      intro q hq
      rcases List.mem_cons.mp hq with rfl | hq
      · exact h.2.2.1
      · exact ih q hq
  have P := PairArg.list (prog := X.prog) (w := X.w) a (ps.map Value.ref).toArray (fun j => ps.getD j 0) (prs.map fun q => (Value.ref q.2.1, q.2.2))
  have e1 : (prs.map fun q => (Value.ref q.2.1, q.2.2)).length = prs.length := List.length_map _
  refine call_dict_pairsH (knd := tupleKind (mixKind X.prog X.w)) (ps := prs) P (I.ok.hd hcalm) (show X.A.in1.in1.units < cLine by show X.A.units + 1 + 1 < cLine; omega) ⟨⟨o, n, ho, hc, hd, hdat⟩, ?_⟩ ?_ ?_ (by rw [e1, hl]; exact hz) fun h' tk hd' k => ?_
  · refine ⟨by simp [hl], fun j key v hj => ?_⟩
    rw [List.getElem?_map] at hj
    obtain ⟨q', hq', eq⟩ := Option.map_eq_some_iff.mp hj
    obtain ⟨b, hb, ht⟩ := hpr j q' hq'
    cases eq
    have hg : ps.getD j 0 = b := by rw [List.getD_eq_getElem?_getD, hb]; rfl
    refine ⟨by simp [hb, hg], .inl ?_⟩
    show s.heap.IsTuple (ps.getD j 0) _
    rw [hg]
    obtain ⟨o1, ho1, hc1, n1, hd1⟩ := ht
    exact ⟨o1, ho1, hc1, n1, hd1⟩
  · refine ⟨e1.symm, fun i key v hi => ?_⟩
    rw [PairRel, List.getElem?_map] at hi
    obtain ⟨q', hq', eq⟩ := Option.map_eq_some_iff.mp hi
    cases eq
    exact ⟨q'.1, q'.2.1, hq', rfl⟩
  · intro h' hk x hx
    obtain ⟨o', it, n', h1, h2, h3, h4⟩ := key_of (P := X.prog) (w := X.w) I.hok (hrel x hx)
    exact ⟨o', it, n', hk _ _ (Nat.ne_of_lt (Heap.lt_size h1)) (by simp) h1, h2, h3, h4⟩
  · have hm : (s.heap.objs.size == sysModules) = false := beq_eq_false_iff_ne.mpr (Nat.ne_of_gt I.big)
    have hlen : (kvs.map fun x => (x.1, x.2.2)).length ≤ sizeLine := by
      rw [List.length_map, lk, hl]
      exact hz
    rw [storedAllH_nil_of_nodup _ (by rw [hkeys]; exact hnd)] at hd'
    obtain ⟨oq, es, ep, hq', h2, h3, h4, _, h5⟩ := hd'
    have hn := I.hok.fresh (Nat.le_refl s.heap.objs.size)
    have kt : KT (upd H s.heap.objs.size (.dT (kvs.map fun x => (x.1, x.2.2)))) (kvs.map fun x => (x.1, x.2.2)) prs := by
      have base : KT H (kvs.map fun x => (x.1, x.2.2)) prs := by
        rename_i hzz
        clear hpr hl hnd q lk hkeys hp hrel hlen hd h3 h4 h5 P e1 hzz
        induction rel with
        | nil => exact .nil
        | cons h t ih =>
          rw [List.map_cons]
          exact .cons ⟨h.1.symm, by rw [← h.1]; exact h.2.2.1, h.2.2.2⟩ ih
      refine KT.keeps base fun c ys ec => ?_
      rw [upd_ne (fun z => by rw [z, hn] at ec; cases ec)]
      exact ec
    exact ⟨.ref s.heap.objs.size, upd H s.heap.objs.size (.dT (kvs.map fun x => (x.1, x.2.2))), I.laid (t' := tk) (fun b o z => k b o (by simp) z) (Nat.le_refl _) (show ObjOk X.prog X.w _ _ _ (.dT _) from ⟨hlen, hm, prs, kt, oq, es, ep, hq', h2, h3, h4, h5⟩), rfl, q _ _ (.of hn)⟩
end
end Gw
namespace Gw
open PySem PySem.Spec PyProof.Rows L2 RT
theorem w_dispT1 {tk tv : TE} {σ : L2.St} {H : Hp} {Q : VK} (q : ∀ p H1, New H p (.dT []) H1 → tk σ H1 fun x H2 => tv σ H2 fun y H3 => H3 p = some (.dT []) ∧ ∃ (k : List Key) (b : Addr), x = .ref b ∧ H3 b = some (.tup (k.map kV)) ∧ ∀ H4, Chg H3 p (.dT [(k, y)]) H4 → Q (.ref p) H4) (mono : ∀ σ H (Q Q' : VK), (∀ v H', Q v H' → Q' v H') → tk σ H Q → tk σ H Q') (mono' : ∀ σ H (Q Q' : VK), (∀ v H', Q v H' → Q' v H') → tv σ H Q → tv σ H Q') : tDispT1 tk tv σ H Q := fun p hp =>
  mono _ _ _ _ (fun x H2 => mono' _ _ _ _ fun y H3 ⟨e, k, b, ex, eb, q⟩ => ⟨e, k, b, ex, eb, q _ .of⟩) (q p _ (.of hp))
/-- tuples stay, as they stand -/
def Ts (H H' : Hp) : Prop := ∀ b xs, H b = some (.tup xs) → H' b = some (.tup xs)
theorem Ex.ts {H H' : Hp} (e : Ex H H') : Ts H H' := fun b xs h => e b _ h
theorem Ts.trans {H H1 H2 : Hp} (a : Ts H H1) (b : Ts H1 H2) : Ts H H2 := fun c xs h => b c xs (a c xs h)
theorem But.ts {H H' : Hp} {p : Addr} {o : HO} (b : But p H H') (h : H p = some o) (n : NoTup o) : Ts H H' := fun c xs q => b c _ (fun e => by
  rw [e, h] at q
  cases q
  exact n) q
structure Tz (H H' : Hp) : Prop where
  tu : Tu H H'
  ts : Ts H H'
theorem Ex.tz {H H' : Hp} (e : Ex H H') : Tz H H' := ⟨e.tu, e.ts⟩
theorem But.tz {H H' : Hp} {p : Addr} {o : HO} (b : But p H H') (h : H p = some o) (n : NoTup o) : Tz H H' := ⟨b.tu h n, b.ts h n⟩
theorem Tz.trans {H H1 H2 : Hp} (a : Tz H H1) (b : Tz H1 H2) : Tz H H2 := ⟨a.tu.trans b.tu, a.ts.trans b.ts⟩
section
variable {β : Type} {J : It} {Ok : Hp → Prop} {bs : List β} {Y : β → V → Hp → Prop} {g : TG} {σ : L2.St} {H : Hp}
/-- a comprehension: El of what it makes, kept while tuples stay -/
theorem lcZ {tt : TT} {te : TE} {vs : List Nat} {Q : VK} (S : Seqs J Ok bs Y) (p : β → Bool) (El : β → V → Hp → Prop) (mono : ∀ b v H1 H2, Tz H1 H2 → El b v H1 → El b v H2) (ok : ∀ H', Ex H H' → Ok H') (len : bs.length < 16000000)
    (hs : ∀ b x H', b ∈ bs → Ex H H' → Y b x H' → EvG g x (wipe σ vs) H' fun σ2 H2 => wipe σ2 vs = wipe σ vs ∧ EvT tt σ2 H2 (fun c => c = p b) ∧ ∀ H3, Ex H2 H3 → p b = true → Ev te σ2 H3 fun y H4 => El b y H4)
    (hq : ∀ l H' ys, H l = none → Ex H H' → H' l = some (.lst ys) → Paired (fun b y => El b y H') (bs.filter p) ys → Q (.ref l) H') :
    LcG J g tt te vs σ Q H := fun D hD => by
  obtain ⟨Rel, hRel⟩ : ∃ Rel : List β → Hp → Prop, Rel = fun pre H' => Ex H H' ∧ ∃ ys, H' D = some (.lst ys) ∧ Paired (fun b y => El b y H') (pre.filter p) ys := ⟨_, rfl⟩
  have rel0 : Rel [] (upd H D (.lst [])) := by
    rw [hRel]
    exact ⟨Ex.new hD, [], upd_same, .nil⟩
  refine ⟨fun i m H' => m = bs.length - i ∧ i ≤ bs.length ∧ Rel (bs.take i) H', ⟨bs.length, by omega, Nat.zero_le _, by rw [List.take_zero]; exact rel0⟩, ?_⟩
  rintro i m H0 ⟨rfl, hi, r⟩
  have r' := r
  rw [hRel] at r'
  obtain ⟨ex0, ys, hy, py⟩ := r'
  have q := ok H0 ex0
  by_cases hlt : i < bs.length
  · have hb : bs[i]? = some bs[i] := List.getElem?_eq_getElem hlt
    have hm : bs[i] ∈ bs := List.getElem_mem hlt
    refine .inr ⟨S.go i H0 q hlt, Rel (bs.take (i + 1)), fun H' p' => ⟨bs.length - (i + 1), by omega, rfl, hlt, p'⟩, fun x H' yl => ?_⟩
    obtain ⟨e1, e2⟩ := S.yld i H0 x H' _ q hb yl
    refine hs _ x H' hm (ex0.trans e1) e2 _ fun σ2 H2 e3 ⟨hw, ht, he⟩ => ⟨hw, ht _ fun c H3 e4 hc => ?_⟩
    subst hc
    have e03 : Ex H0 H3 := (e1.trans e3).trans e4
    have fs : (bs.take (i + 1)).filter p = (bs.take i).filter p ++ [bs[i]].filter p := by rw [take_snoc hb, List.filter_append]
    cases hc : p bs[i] with
    | false =>
      rw [if_neg Bool.false_ne_true, hRel]
      show Ex H H3 ∧ ∃ ys, H3 D = some (.lst ys) ∧ Paired (fun b y => El b y H3) ((bs.take (i + 1)).filter p) ys
      rw [fs]
      refine ⟨ex0.trans e03, ys, e03 _ _ hy, ?_⟩
      rw [List.filter_cons_of_neg (by rw [hc]; exact Bool.false_ne_true), List.filter_nil, List.append_nil]
      exact Paired.mapP py fun b y z => mono b y _ _ e03.tz z
    | true =>
      rw [if_pos rfl]
      refine he H3 e4 hc _ fun y H4 e5 el => ⟨ys, (e03.trans e5) _ _ hy, ?_, ?_⟩
      · have l1 := Paired.length py
        have l2 := List.length_filter_le p (bs.take i)
        have l3 : (bs.take i).length ≤ bs.length := by rw [List.length_take]; exact Nat.min_le_right _ _
        exact line_lt (by omega)
      · have e04 : Ex H0 H4 := e03.trans e5
        have tu : Tz H4 (upd H4 D (.lst (ys ++ [y]))) := But.tz But.upd (e04 _ _ hy) trivial
        rw [hRel]
        show Ex H _ ∧ ∃ ys', (upd H4 D (.lst (ys ++ [y]))) D = some (.lst ys') ∧ Paired (fun b y' => El b y' (upd H4 D (.lst (ys ++ [y])))) ((bs.take (i + 1)).filter p) ys'
        rw [fs]
        refine ⟨Ex.but (ex0.trans e04) But.upd hD, ys ++ [y], upd_same, ?_⟩
        rw [List.filter_cons_of_pos hc, List.filter_nil]
        have h1 : Paired (fun b y' => El b y' (upd H4 D (.lst (ys ++ [y])))) ((bs.take i).filter p) ys := Paired.mapP py fun b y' z => mono b y' _ _ (e04.tz.trans tu) z
        have h2 : Paired (fun b y' => El b y' (upd H4 D (.lst (ys ++ [y])))) [bs[i]] [y] := .cons (mono _ _ _ _ tu el) .nil
        exact paired_app h1 h2
  · have e : i = bs.length := by omega
    subst e
    refine .inl ⟨S.stop _ H0 q (Nat.le_refl _), hq D H0 ys hD ex0 hy ?_⟩
    rw [List.take_length] at py
    exact py
end
theorem w_dsetdT {td ty tx : TE} {σ : L2.St} {H : Hp} {Q : VK} (q : td σ H fun x H1 => ∃ a, x = .ref a ∧ IsD H1 a ∧ ty σ H1 fun y H2 => tx σ H2 fun z H3 => ∃ (kvs : List (List Key × V)) (k : List Key) (b : Addr), H3 a = some (.dT kvs) ∧ y = .ref b ∧ H3 b = some (.tup (k.map kV)) ∧ kvs.length < sizeLine ∧
  (∀ v, valV kvs k = some v → Q v H3) ∧ (valV kvs k = none → ∀ H4, Chg H3 a (.dT (putK kvs k z)) H4 → Q z H4)) : tDSetdT td ty tx σ H Q := q
end Gw

/-! W5: == [] and != [] whatever a list holds; == of what is the same. -/
namespace Gw
open PySem PySem.Spec PyProof.Rows L2 RT
open Sem (wp)
section
variable {X : Cx}
def rEqNil (K : PySem.W.Frag) : R2 := fun x y H Q => ∃ a b xs, x = .ref a ∧ y = .ref b ∧ SqL K H a xs ∧ SqL K H b [] ∧ Q (.bl xs.isEmpty) H
def rNeNil (K : PySem.W.Frag) : R2 := fun x y H Q => ∃ a b xs, x = .ref a ∧ y = .ref b ∧ SqL K H a xs ∧ SqL K H b [] ∧ Q (.bl (!xs.isEmpty)) H
theorem isEmpty_size {xs : List V} {us : List Value} (r : Vals xs us) : (us.toArray.size != ([] : List Value).toArray.size) = !xs.isEmpty := by
  have := r.length
  cases xs with
  | nil =>
    cases us with
    | nil => rfl
    | cons _ _ => cases this
  | cons x xs =>
    cases us with
    | nil => cases this
    | cons _ _ => simp
theorem op_eqNil (K : PySem.W.Frag) (hu : X.A.units + 64 < cLine) (hK : X.K = K := by rfl) : OpR X (compareOp .Eq) (rEqNil K) := by
  subst hK
  intro pins s σ H x y v u Q I rx ry h
  obtain ⟨a, b, xs, rfl, rfl, ha, hb, q⟩ := h
  cases (show v = Value.ref a from rx)
  cases (show u = Value.ref b from ry)
  obtain ⟨us, rv, pa, _⟩ := I.list ha
  obtain ⟨us2, rv2, pb, _⟩ := I.list hb
  cases rv2
  have e := isEmpty_size rv
  cases hx : xs.isEmpty with
  | false =>
    rw [hx] at e q
    exact SeqAt.eq_list_lengthsAt pa.isList pb.isList e (by omega) ⟨.bl false, H, I, rfl, q⟩
  | true =>
    rw [hx] at e q
    have hz : us.toArray.size = ([] : List Value).toArray.size := by simpa using e
    refine SeqAt.eq_listAt (e := fun _ => true) pa.isList pb.isList hz (by omega) (fun j h1 h2 => absurd h2 (by simp)) ?_
    have hr : ((List.range us.toArray.size).all fun _ => true) = true := by simp
    rw [hr]
    exact ⟨.bl true, H, I, rfl, q⟩
theorem op_neNil (K : PySem.W.Frag) (hu : X.A.units + 64 < cLine) (hK : X.K = K := by rfl) : OpR X (compareOp .NotEq) (rNeNil K) := by
  subst hK
  intro pins s σ H x y v u Q I rx ry h
  obtain ⟨a, b, xs, rfl, rfl, ha, hb, q⟩ := h
  cases (show v = Value.ref a from rx)
  cases (show u = Value.ref b from ry)
  obtain ⟨us, rv, pa, _⟩ := I.list ha
  obtain ⟨us2, rv2, pb, _⟩ := I.list hb
  cases rv2
  have e := isEmpty_size rv
  cases hx : xs.isEmpty with
  | false =>
    rw [hx] at e q
    exact SeqAt.RcNeAt.lists_lengths pa.isList pb.isList e (by omega) X.prog X.w _ _ ⟨.bl true, H, I, rfl, q⟩
  | true =>
    rw [hx] at e q
    have hz : us.toArray.size = ([] : List Value).toArray.size := by simpa using e
    have hr : ((List.range us.toArray.size).all fun _ => true) = true := by simp
    refine SeqAt.RcNeAt.lists (e := fun _ => true) pa.isList pb.isList hz (by omega) (fun j h1 h2 => absurd h2 (by simp)) X.prog X.w _ _ ?_
    rw [hr]
    exact ⟨.bl false, H, I, rfl, q⟩
/-- what is found equal to itself: none, a bool, a number, a text, an object -/
def selfV : V → Bool
  | .non => true
  | .bl _ => true
  | .int _ => true
  | .str _ => true
  | .ref _ => true
  | _ => false
theorem eqAt_self {A : Around} {s : Shared} {x : V} {v u : Value} (h : selfV x = true) (r : RelV x v) (r' : RelV x u) : SeqAt.EqAt A s v u true := by
  cases x with
  | non => cases r; cases r'; exact .same _
  | bl b => cases r; cases r'; exact .same _
  | int i =>
    obtain ⟨t, rfl⟩ := r
    obtain ⟨t', rfl⟩ := r'
    have := (MeetsSeq.EqGives.int i i t t').at A s
    rw [show (i == i) = true by simp] at this
    exact this
  | str z =>
    obtain ⟨t, rfl⟩ := r
    obtain ⟨t', rfl⟩ := r'
    have := (eqGives_str z z t t').at A s
    rw [show (z == z) = true by simp] at this
    exact this
  | ref a => cases r; cases r'; exact .same _
  | byt _ => cases h
  | flt _ => cases h
  | ty _ => cases h
theorem vals_same {A : Around} {s : Shared} {xs : List V} {us us2 : List Value} (h : ∀ x ∈ xs, selfV x = true) (r : Vals xs us) (r2 : Vals xs us2) : ∀ j (h1 : j < us.toArray.size) (h2 : j < us2.toArray.size), SeqAt.EqAt A s us.toArray[j] us2.toArray[j] true := by
  intro j h1 h2
  have h1' : j < us.length := by simpa using h1
  have hx : j < xs.length := by rw [r.length]; exact h1'
  obtain ⟨u1, e1, q1⟩ := r.get (List.getElem?_eq_getElem hx)
  obtain ⟨u2, e2, q2⟩ := r2.get (List.getElem?_eq_getElem hx)
  have g1 : us.toArray[j] = u1 := by
    have := (List.getElem?_eq_some_iff.mp e1).2
    simpa using this
  have g2 : us2.toArray[j] = u2 := by
    have := (List.getElem?_eq_some_iff.mp e2).2
    simpa using this
  rw [g1, g2]
  exact eqAt_self (h _ (List.getElem_mem hx)) q1 q2
/-- == of a thing and the same, or a list and another one of the same items -/
def rEqSame (K : PySem.W.Frag) : R2 := fun x y H Q => Q (.bl true) H ∧ ((∃ a b xs, x = .ref a ∧ y = .ref b ∧ SqL K H a xs ∧ SqL K H b xs ∧ ∀ z ∈ xs, selfV z = true) ∨ (∃ a xs, x = .ref a ∧ y = .ref a ∧ SqT K H a xs ∧ ∀ z ∈ xs, selfV z = true) ∨
  (∃ a, x = .ref a ∧ y = .ref a ∧ H a = some (.dK [])) ∨ (x = y ∧ scal x y = true))
theorem op_eqSame (K : PySem.W.Frag) (hu : X.A.units + 64 < cLine) (hK : X.K = K := by rfl) : OpR X (compareOp .Eq) (rEqSame K) := by
  subst hK
  intro pins s σ H x y v u Q I rx ry h
  obtain ⟨q, ⟨a, b, xs, rfl, rfl, ha, hb, hz⟩ | ⟨a, xs, rfl, rfl, ha, hz⟩ | ⟨a, rfl, rfl, ha⟩ | ⟨rfl, hs⟩⟩ := h
  · cases (show v = Value.ref a from rx)
    cases (show u = Value.ref b from ry)
    obtain ⟨us, rv, pa, _⟩ := I.list ha
    obtain ⟨us2, rv2, pb, _⟩ := I.list hb
    have hl : us.toArray.size = us2.toArray.size := by
      have := rv.length
      have := rv2.length
      simp only [List.size_toArray]
      omega
    have hr : ((List.range us.toArray.size).all fun _ => true) = true := by simp
    refine SeqAt.eq_listAt (e := fun _ => true) pa.isList pb.isList hl (by omega) (vals_same hz rv rv2) ?_
    rw [hr]
    exact ⟨.bl true, H, I, rfl, q⟩
  · cases (show v = Value.ref a from rx)
    cases (show u = Value.ref a from ry)
    obtain ⟨us, rv, pa, _⟩ := I.tuple ha
    obtain ⟨o, ho, hc, n, hd⟩ := pa
    have pt : s.heap.IsTuple a us.toArray := ⟨o, ho, hc, n, hd⟩
    refine SeqAt.eq_tupleAt (e := fun _ => true) pt pt (by omega) (vals_same hz rv rv) ?_
    have hr : ((List.range (min us.toArray.size us.toArray.size)).all (fun _ => true) && us.toArray.size == us.toArray.size) = true := by simp
    rw [hr]
    exact ⟨.bl true, H, I, rfl, q⟩
  · cases (show v = Value.ref a from rx)
    cases (show u = Value.ref a from ry)
    obtain ⟨z, hd, vs, r0, dd⟩ := dk_of I.hok ha
    cases r0
    exact PySem.W.rcP_dicts (knd := mixKind X.prog X.w) hd hd dd dd (by omega) (fun _ => .nil) _ _ ⟨.bl true, H, I, rfl, q⟩
  · exact op_eq pins s σ H x x v u Q I rx ry ⟨hs, by rw [decide_eq_true rfl]; exact q⟩
end
end Gw

/-! W6: list(reversed(l)), list(range(n)), text * n. -/
namespace Gw
open PySem PySem.Spec PyProof.Rows L2 RT
open Sem (wp)
section
variable {prog : Program} {w : World} {A : Around} {E : Value → Shared → Prop} {s : Shared}
theorem call_list_revIt {it l : Addr} {items : Array Value} {Q : Value → Shared → Prop} (hh : A.handled = none) (hit : s.heap.IsRevIter it l ((items.size : Int) - 1)) (hl : s.heap.IsList l items) (hne : l ≠ it) (hn : items.size ≤ sizeLine)
    (hQ : ∀ h' tk acc c, (∀ b o, b ≠ it → s.heap.get? b = some o → h'.get? b = some o) → h'.get? s.heap.objs.size = some { cls := .type "list", dict := none, data := .seq acc c, slots := #[] } → ItemsOf (fun i v => items[items.size - 1 - i]? = some v) acc items.size → Q (.ref s.heap.objs.size) { s with heap := h', toks := tk }) :
    wpAny (model prog w) A (call (.type "list") [.ref it]) Q E s := by
  refine callType_codes (Q₁ := fun obj s₁ => obj = .ref s.heap.objs.size ∧ s₁ = { s with heap := s.heap.push { cls := .type "list", data := .seq #[] } }) PySem.F.called_list (PySem.F.typeCall_list_1 _) PySem.F.entry_list_init
    (code_list_new _ ⟨rfl, rfl⟩) fun obj s₁ h₁ => ?_
  obtain ⟨rfl, rfl⟩ := h₁
  have hS : (s.heap.push { cls := .type "list", data := .seq #[] }).get? s.heap.objs.size = some { cls := .type "list", data := .seq #[] } := Heap.get?_push_size _ rfl
  obtain ⟨oi, hoi, _⟩ := id hit
  obtain ⟨ol, hol, _⟩ := id hl
  have hSi : s.heap.objs.size ≠ it := Nat.ne_of_gt (Heap.lt_size hoi)
  have hSl : s.heap.objs.size ≠ l := Nat.ne_of_gt (Heap.lt_size hol)
  have hSf : s.heap.objs.size ∉ [it, l] := by simp only [List.mem_cons, List.not_mem_nil, or_false, not_or]; exact ⟨hSi, hSl⟩
  have W := (Walks.listRev (prog := prog) (w := w) (A := A.in1.in1) hh it l hne items).toS
  refine ⟨⟨_, hS, rfl⟩, PySem.F.args_list_init_2 _ _, ?_⟩
  show wpAny _ _ (do let old ← Builtin.List.listItems (.ref s.heap.objs.size); Builtin.List.listUpdate (.ref s.heap.objs.size) (fun _ => #[]); letGo old.toList.reverse; Builtin.List.listExtendWith (.ref s.heap.objs.size) (.ref it) .none) _ _ _
  refine wpAny_bind ?_
  unfold Builtin.List.listItems
  refine wpAny_bind (wpAny_seqItems hS rfl (wpAny_pure ?_))
  show wpAny _ _ (updateSeq s.heap.objs.size (fun _ => #[]) >>= fun _ => letGo (#[] : Array Value).toList.reverse >>= fun _ => Builtin.List.listExtendWith (.ref s.heap.objs.size) (.ref it) .none) _ _ _
  refine wpAny_bind (wpAny_updateSeq hS rfl ?_)
  have hS₂ := Heap.get?_update_self (Obj.mapSeq (fun _ => (#[] : Array Value))) hS rfl
  have oth : ∀ b o, b ≠ s.heap.objs.size → s.heap.get? b = some o → ((s.heap.push { cls := .type "list", data := .seq #[] }).update s.heap.objs.size (Obj.mapSeq (fun _ => (#[] : Array Value)))).get? b = some o :=
    fun b o hb e => (Heap.get?_update_other _ _ (Ne.symm hb)).trans (Heap.get?_push_of_some _ e)
  refine wpAny_bind (wpAny_letGo ?_)
  generalize hH2 : (s.heap.push { cls := .type "list", data := .seq #[] }).update s.heap.objs.size (Obj.mapSeq (fun _ => (#[] : Array Value))) = h2 at *
  have hit2 : h2.IsRevIter it l ((items.size : Int) - 1) := hit.at fun o e => oth _ _ (Ne.symm hSi) e
  have hl2 : h2.IsList l items := hl.at fun o e => oth _ _ (Ne.symm hSl) e
  have hT : ({ s with heap := h2 } : Shared).TypeIs (.ref it) "list_reverseiterator" := Heap.IsRevIter.typeIs (s := { s with heap := h2 }) hit2
  have h1 : Builtin.List.listSameRef (.ref s.heap.objs.size) (.ref it) = false := by simp [Builtin.List.listSameRef, hSi]
  unfold Builtin.List.listExtendWith
  refine wpAny_bind (wpAny_typeOf hT ?_)
  rw [if_neg (by rw [h1]; decide)]
  refine wpAny_bind (wpAny_pyIter_revIter (s := { s with heap := h2 }) hit2 ?_)
  refine wpAny_bind (wpAny_holding ?_)
  unfold Builtin.List.listLengthHint
  refine wpAny_bind (wpAny_specialOf hT nolen_lri ?_)
  show wpAny _ _ (specialOf (Value.ref it) (Str.ofString "__length_hint__") >>= _) _ _ _
  refine wpAny_bind (wpAny_specialOf hT hint_lri ?_)
  generalize hid : ("list_reverseiterator.__length_hint__" : String) = id0
  wp_delta
  rw [show splitId id0 = some ("list_reverseiterator", "__length_hint__") from by subst hid; decide +kernel]
  subst hid
  refine wpAny_bind (wpAny_isInstance (b := true) hT (by rw [isSubtype_type]; kernel_rfl) ?_)
  refine wpAny_pure ?_
  rw [if_neg (by decide)]
  have e0 : ((items.size : Nat) : Int) - 1 - ((0 : Nat) : Int) = (items.size : Int) - 1 := by omega
  refine wpAny_pure ⟨plainId_quiet F.plain_extend_loop _, codeAny_extend_loopS W hn _ hSf _ items.size 0 _ _ _ rfl (Nat.zero_le _) ⟨Nat.zero_le _, by rw [e0]; exact hit2, hl2⟩ hS₂ (ItemsOf.nil _) fun s' acc' c' hm hS' hacc => ?_⟩
  rw [Moved.eq_with hm]
  refine ⟨rfl, hQ s'.heap s'.toks acc' c' (fun b o hb e => hm.heap b o (fun hmem => ?_) (oth b o (Nat.ne_of_lt (Heap.lt_size e)) e)) hS' hacc⟩
  rcases List.mem_cons.mp hmem with e' | hmem
  · exact absurd (Heap.lt_size e) (by rw [e']; exact Nat.lt_irrefl _)
  · exact hb (List.mem_singleton.mp hmem)
end
section
variable {X : Cx}
def tLstRevN (K : PySem.W.Frag) (te : TE) : TE := fun σ H Q => te σ H fun v H1 => ∃ (a : Addr) (xs : List V), v = .ref a ∧ SqL K H1 a xs ∧ ∀ q H2, New H1 q (.lst xs.reverse) H2 → Q (.ref q) H2
theorem w_lstRev {K : PySem.W.Frag} {te : TE} {σ : L2.St} {H : Hp} {Q : VK} (q : te σ H fun v H1 => ∃ (a : Addr) (xs : List V), v = .ref a ∧ SqL K H1 a xs ∧ ∀ q H2, New H1 q (.lst xs.reverse) H2 → Q (.ref q) H2) : tLstRevN K te σ H Q := q
theorem pe_listRevN {e : Expr} {te : TE} {p p2 pos pos2 : Pos} (hc : X.calm = true) (hg : Gl X "list") (hm : X.mg "list" = none) (hg2 : Gl X "reversed") (hm2 : X.mg "reversed" = none) (he : PE X e te)
    (hs : starEach [e] X.env = (false, eval e X.env) :: starEach [] X.env := by rfl)
    (hs2 : starEach [.Call (.Name "reversed" p2) [e] [] pos2] X.env = (false, eval (.Call (.Name "reversed" p2) [e] [] pos2) X.env) :: starEach [] X.env := by rfl) :
    PE X (.Call (.Name "list" p) [.Call (.Name "reversed" p2) [e] [] pos2] [] pos) (tLstRevN X.K te) := by
  refine ⟨fun pins s σ H Q I h => ?_⟩
  refine Call_ (ld_blt I hg hm boot_list (PyProof.Rows.callWith_type1 (args_cons (Call_ (ld_blt I hg2 hm2 PyProof.Rows.boot_reversed (PyProof.Rows.callWith_type1 (args_cons (thn (he.run pins s σ H _ I h) fun u s1 ⟨v, H1, I1, r1, q1⟩ => args_nil ?_) hs) hs rfl))) hs2) hs2 rfl))
  obtain ⟨a, xs, ev, hq, q⟩ := q1
  subst ev
  obtain rfl : u = Value.ref a := r1
  obtain ⟨its, rv, p', hz⟩ := I1.list hq
  refine call_reversed_list p'.isList (args_nil ?_)
  have k0 : ∀ b o, s1.heap.get? b = some o → (s1.heap.push (revObj a ((its.toArray.size : Int) - 1))).get? b = some o := fun b o e => Heap.get?_push_of_some _ e
  have I2 : Inv X pins σ H1 { s1 with heap := s1.heap.push (revObj a ((its.toArray.size : Int) - 1)) } := I1.kept (t' := s1.toks) k0
  obtain ⟨f0, f1, f2, f3, f4, f5⟩ := I1.fpOk (H' := H1) (b := s1.heap.objs.size) (Nat.le_refl _) (I1.hok.fresh (Nat.le_refl _))
  have hl := p'.isList
  obtain ⟨ol, hol, _⟩ := id hl
  have hne : a ≠ s1.heap.objs.size := Nat.ne_of_lt (Heap.lt_size hol)
  have hn : its.toArray.size ≤ sizeLine := by rw [List.size_toArray, ← rv.length]; exact hz
  refine call_list_revIt (s := { s1 with heap := s1.heap.push (revObj a ((its.toArray.size : Int) - 1)) }) (I1.ok.hd hc) ⟨_, Heap.get?_push_size _ rfl, rfl, rfl⟩ (hl.push _) hne hn fun h' tk acc c hk hS' hi => ?_
  have hsz : (s1.heap.push (revObj a ((its.toArray.size : Int) - 1))).objs.size = s1.heap.objs.size + 1 := Heap.size_push ..
  have hS2 : h'.get? (s1.heap.objs.size + 1) = some { cls := .type "list", dict := none, data := .seq acc c, slots := #[] } := by
    have := hS'
    rw [show ({ s1 with heap := s1.heap.push (revObj a ((its.toArray.size : Int) - 1)) } : Shared).heap.objs.size = s1.heap.objs.size + 1 from hsz] at this
    exact this
  have hfr : H1 (s1.heap.objs.size + 1) = none := I1.hok.fresh (Nat.le_succ _)
  have key : Inv X pins σ (upd H1 (s1.heap.objs.size + 1) (.lst xs.reverse)) { s1 with heap := h', toks := tk } := by
    refine I1.laid (t' := tk) (fun b o e => hk b o (Nat.ne_of_lt (Heap.lt_size e)) (k0 b o e)) (Nat.le_succ _) (show ObjOk X.prog X.w _ _ _ (.lst xs.reverse) from ⟨by rw [List.length_reverse]; exact hz, acc.toList, c, vals_rev rv hi, ?_⟩)
    rw [Array.toArray_toList]
    exact hS2
  rw [show ({ s1 with heap := s1.heap.push (revObj a ((its.toArray.size : Int) - 1)) } : Shared).heap.objs.size = s1.heap.objs.size + 1 from hsz]
  exact ⟨.ref (s1.heap.objs.size + 1), _, key, rfl, q _ _ (.of hfr)⟩
/-! list(range(n)) -/
def tLstRg1N (ta : TE) : TE := fun σ H Q => tRg1 ta σ H fun a b H1 => RgOk a b ∧ ∀ q H2, New H1 q (.lst (rgV a b)) H2 → Q (.ref q) H2
theorem rgV0 (n : Nat) : rgV 0 ((n : Nat) : Int) = (List.range n).map fun i => V.int ((i : Nat) : Int) := by
  unfold rgV
  rw [show (((n : Nat) : Int) - 0).toNat = n by omega]
  refine List.map_congr_left fun i _ => ?_
  rw [Int.zero_add]
theorem w_lstRg1 {ta : TE} {σ : L2.St} {H : Hp} {Q : VK} (q : ta σ H fun v H1 => ∃ n : Int, v = .int n ∧ RgOk 0 n ∧ ∀ q H2, New H1 q (.lst (rgV 0 n)) H2 → Q (.ref q) H2) : tLstRg1N ta σ H Q := q
theorem ex_lstRg {n : Nat} (h : n ≤ 16000000) {R : Int → Prop} (q : R ((n : Nat) : Int)) : ∃ m : Int, V.int ((n : Nat) : Int) = .int m ∧ RgOk 0 m ∧ R m := ⟨n, rfl, .of_le (Int.le_refl _) (by omega) (by omega) (by omega), q⟩
theorem pe_listRg1N {e : Expr} {ta : TE} {p p2 pos pos2 : Pos} (hc : X.calm = true) (hg : Gl X "list") (hm : X.mg "list" = none) (hg2 : Gl X "range") (hm2 : X.mg "range" = none) (ha : PE X e ta)
    (na : starEach [e] X.env = (false, eval e X.env) :: starEach [] X.env := by rfl)
    (na2 : starEach [.Call (.Name "range" p2) [e] [] pos2] X.env = (false, eval (.Call (.Name "range" p2) [e] [] pos2) X.env) :: starEach [] X.env := by rfl) :
    PE X (.Call (.Name "list" p) [.Call (.Name "range" p2) [e] [] pos2] [] pos) (tLstRg1N ta) := by
  refine ⟨fun pins s σ H Q I h => ?_⟩
  refine Call_ (ld_blt I hg hm boot_list (PyProof.Rows.callWith_type1 (args_cons (thn (prg_1 hg2 hm2 ha na pins s σ H _ I h) fun x s1 ⟨r, a, b, t, u, v, H1, ex, hr, I1, ok, q⟩ => args_nil ?_) na2) na2))
  subst ex
  obtain ⟨b1, b2, b3, b4, b5⟩ := ok
  refine call_list_range (n := (b - a).toNat) (I1.ok.hd hc) hr (small_one b1 b2 b3 b4) (rangeSize_nat a b) b5 fun h' tk acc c' hk e' hi => ?_
  refine ⟨.ref s1.heap.objs.size, upd H1 s1.heap.objs.size (.lst (rgV a b)), I1.laid hk (Nat.le_refl _) (show ObjOk X.prog X.w _ _ _ (.lst (rgV a b)) from ⟨?_, acc.toList, c', vals_rg hi, ?_⟩), rfl, q _ _ (.of (I1.hok.fresh (Nat.le_refl _)))⟩
  · rw [rgV_length, sizeLine_eq]; omega
  · rw [Array.toArray_toList]; exact e'
/-! text * n -/
def rRepS : R2 := fun x y H Q => ∃ (z : Str) (n : Int), x = .str z ∧ y = .int n ∧ MulOk z n ∧ Q (.str (Txt.mul z n)) H
theorem op_repS : OpR X (binaryOp .Mult) rRepS := by
  intro pins s σ H x y v u Q I rx ry h
  obtain ⟨z, n, rfl, rfl, ok, q⟩ := h
  obtain ⟨t, rfl⟩ := rx
  obtain ⟨t', rfl⟩ := ry
  exact SB.mul ok fun t2 k => ⟨.str (Txt.mul z n), H, I.tok _, ⟨t2, rfl⟩, q⟩
end
theorem mt_countWK {X : Cx} (K : PySem.W.Frag) (hu : X.A.units + 65 < cLine) (h : X.K = K := by rfl) : MtR X "list.count" (rCntW K) := h ▸ mt_countW hu
theorem pe_bmK {X : Cx} {T name id : String} {r : V → List V → Hp → VK → Prop} {o e : Expr} {es : List Expr} {to : TE} {t : TA} {apos cpos : Pos} (K : PySem.W.Frag) (hK : X.K = K) (pa : PlainAttrs T) (slot : Slot T name id) (hty : typeOf (.builtin id) = pure (.type "method_descriptor")) (hm : MtR X id r) (ho : PE X o to) (ha : PA X (e :: es) t)
    (hbase : attributeBase o name X.env (eval o X.env) = eval o X.env := by rfl)
    (hfew : ((backTo cpos (starEach (e :: es) X.env)).all (fun x => !x.1) && (backToKw cpos (keywordEach [] X.env)).all (fun x => x.1.isSome)
      && decide ((e :: es).length + ([] : List Keyword).length + (if ([] : List Keyword).isEmpty then 0 else 1) < 30)) = true := by rfl)
    (hline : (apos.endLine == cpos.line) = true := by rfl) (hs : starEach (e :: es) X.env = (false, eval e X.env) :: starEach es X.env := by rfl) (hplain : (backTo cpos (starEach es X.env)).any (·.1) = false := by rfl) :
    PE X (.Call (.Attribute o name apos) (e :: es) [] cpos) (tBM K T r to t) := by
  subst hK
  exact pe_bm pa slot hty hm ho ha hbase hfew hline hs hplain
end Gw

/-! W7: lists walked where an exception is handled (its context None): a comprehension over a list, sum. -/
namespace PySem
open PySem.Spec PyProof.Rows HotX
theorem pyNext_list_end_hot {prog : Program} {w : World} {A : Around} {E : Value → Shared → Prop} {s : Shared} {it l x1 : Addr} {i : Nat} {items : Array Value} {Q : Option Value → Shared → Prop} (hot : HotAt A x1 s.heap) (hne : x1 ≠ it)
    (hit : s.heap.IsListIter it l i) (hl : s.heap.IsList l items) (hx : items[i]? = none)
    (hQ : ∀ h', (∀ b o, b ≠ it → s.heap.get? b = some o → h'.get? b = some o) → Q none { s with heap := h' }) : wpAny (model prog w) A (pyNext (.ref it)) Q E s := by
  obtain ⟨o, ho, hc, hd⟩ := id hit
  obtain ⟨ol, hol, _, nl, hdl⟩ := hl
  obtain ⟨hh, o1, vs1, h1, d1, c1⟩ := hot
  unfold pyNext
  refine wpAny_bind (wpAny_attempt (wpAny_callSpecial?_slot (name := Str.ofString "__next__") hit.typeIs slot_listiter_next
    (wpAny_call_entry slot_listiter_next hit.typeIs entry_listiter_next ?_ (args_listiter_next _))))
  show wpAny _ _ (field (.ref it) 0 >>= _) _ _ s
  refine wpAny_bind (wpAny_field ho hd (x := .ref l) rfl ?_)
  show wpAny _ _ (if (Value.ref l == Value.none) = true then _ else _) _ _ s
  rw [if_neg (show ¬ ((Value.ref l == Value.none) = true) from Bool.false_ne_true)]
  show wpAny _ _ (field (.ref it) 1 >>= _) _ _ s
  refine wpAny_bind (wpAny_field ho hd (x := .int i 0) rfl ?_)
  show wpAny _ _ (seqItems? (.ref l) >>= _) _ _ s
  refine wpAny_bind (wpAny_seqItems hol hdl ?_)
  simp only [Int.toNat_natCast, hx]
  refine wpAny_bind (wpAny_rule (wpAny_bind (wpAny_setField ho hd (by simp) ?_)))
  show wpAny _ _ (newExc (.type "StopIteration") [] >>= _) _ _ _
  refine wpAny_bind ?_
  simp only [newExc, newTuple]
  refine wpAny_bind (wpAny_newObj_type ?_ (by size_fits))
  refine wpAny_bind (m := firstArgMember _ _) (wpAny_of_eq (a := Value.none) (by first | rfl | (simp only [firstArgMember]; rfl)) ?_)
  refine wpAny_newObj_type ?_ (by size_fits)
  have g1 : ∀ b o, b ≠ it → s.heap.get? b = some o → (s.heap.update it (Obj.mapFields (·.setIfInBounds 0 .none))).get? b = some o := fun b o hb e => by
    rw [Heap.get?_update_other _ _ (Ne.symm hb)]
    exact e
  refine raiseNew_hot ⟨hh, o1, vs1, Heap.get?_push_of_some _ (Heap.get?_push_of_some _ (g1 _ _ hne h1)), d1, c1⟩ (Nat.ne_of_lt (Heap.lt_size (Heap.get?_push_of_some _ (g1 _ _ hne h1)))) (Heap.get?_push_size _ rfl) rfl (by first | (simp; done) | (simp; omega) | (simp only [Array.size_append]; simp; omega)) ?_
  refine wpAny_bind (wpAny_isInstance (T := "StopIteration") (b := true) ⟨_, Heap.get?_update_self _ (Heap.get?_push_size _ rfl) rfl, rfl⟩ isSubtype_stop ?_)
  refine wpAny_pure (hQ _ fun b o hb e => ?_)
  rw [Heap.get?_update_other _ _ (Nat.ne_of_gt (Heap.lt_size (Heap.get?_push_of_some _ (g1 _ _ hb e))))]
  exact Heap.get?_push_of_some _ (Heap.get?_push_of_some _ (g1 _ _ hb e))
theorem Walks.list_hot {prog : Program} {w : World} {A : Around} {x1 : Addr} {o1 : Obj} {vs1 : Array Value} (hh : A.handled = some (.ref x1)) (d1 : o1.data = .fields vs1) (c1 : vs1[2]? = some .none) (I ax : Addr) (hne : ax ≠ I) (h1 : x1 ≠ I) (items : Array Value) :
    Walks prog w A I [I, ax, x1] [I] items.size (fun i v => items[i]? = some v) (fun i h => h.IsListIter I ax i ∧ h.IsList ax items ∧ h.get? x1 = some o1) where
  sub := fun b hb => by simp at hb; simp [hb]
  frame := fun _ _ _ st hk => ⟨st.1.at fun o e => hk I (by simp) o e, st.2.1.at fun o e => hk ax (by simp) o e, hk x1 (by simp) _ st.2.2⟩
  item := fun i s Q E hi st hQ => by
    refine wpAny_pyNext_list_item st.1 st.2.1 (x := items[i]) (by simp [hi]) fun h' hit' hs' => ?_
    exact hQ _ h' s.toks (by simp [hi]) ⟨hit', st.2.1.extBut hs'.extBut hne, hs'.extBut _ _ h1 st.2.2⟩ fun b o hb e => hs'.extBut b o (fun h => hb (by simp [h])) e
  done := fun s Q E st hQ => pyNext_list_end_hot ⟨hh, o1, vs1, st.2.2, d1, c1⟩ h1 st.1 st.2.1 (by simp) fun h' he' => hQ h' s.toks fun b o hb e => he' b o (fun h => hb (by simp [h])) e
  self := fun _ _ _ _ st hQ => wpAny_pyIter_listiter st.1 hQ
end PySem
namespace Gw
open PySem PySem.Spec PyProof.Rows L2 L2H HotX
theorem sum_rawH {prog : Program} {w : World} {A : Around} {E : Value → Shared → Prop} {s : Shared} {l x1 : Addr} {o1 : Obj} {vs1 : Array Value} {its : List Value} {ns : List Int} {Q : Value → Shared → Prop} (hh : A.handled = some (.ref x1)) (h1 : s.heap.get? x1 = some o1) (d1 : o1.data = .fields vs1) (c1 : vs1[2]? = some .none) (hl : s.heap.IsList l its.toArray) (hi : IntsAre its ns)
    (h : ∀ h' tk t', (∀ b o, s.heap.get? b = some o → h'.get? b = some o) → Q (.int ns.sum t') { s with heap := h', toks := tk }) : wpAny (model prog w) A (call (.builtin "sum") [.ref l]) Q E s := by
  obtain ⟨xs, e⟩ := hi.allInts.items
  have hn : numsOf (intItems xs).toList = ns := by rw [← e]; exact hi.numsOf
  rw [nums_intItems] at hn
  rw [e] at hl
  have hl0 := hl
  obtain ⟨ol, hol, z1, nl, hdl⟩ := hl
  refine PySem.call_sum_walkG (wpAny_pyIter_list hl0 ?_)
  have lt1 := Heap.lt_size hol
  have lt2 := Heap.lt_size h1
  refine ⟨s.heap.objs.size, _, _, _, _, _, numAt xs, rfl, Walks.list_hot (A := A.in1) hh d1 c1 _ l (Nat.ne_of_lt lt1) (Nat.ne_of_lt lt2) (intItems xs), ⟨⟨_, Heap.get?_push_size _ rfl, rfl, rfl⟩, hl0.at fun o e => Heap.get?_push_of_some _ e, Heap.get?_push_of_some _ h1⟩, fun b hb => ?_, (fun _ _ => intItems_at), fun h' tk t' hk => ?_⟩
  · rw [Heap.size_push]
    simp only [List.mem_cons, List.not_mem_nil, or_false] at hb
    rcases hb with rfl | rfl | rfl
    · exact Nat.lt_succ_self _
    · exact Nat.lt_succ_of_lt lt1
    · exact Nat.lt_succ_of_lt lt2
  · have := h h' tk t' fun b o e => hk b o (by rw [List.mem_singleton]; exact Nat.ne_of_lt (Heap.lt_size e)) (Heap.get?_push_of_some _ e)
    rw [preSum_eq, List.take_of_length_le (by simp [intItems])]
    rw [show (List.map (fun x => x.1) xs.toList).sum = ns.sum from by rw [← hn]] at *
    exact this
section
variable {X : Cx}
theorem cr_sumH {p : Addr × Obj} (hh : Hot1 X.A p) (hp : p ∈ X.pn) : CallR X (.builtin "sum") (rSum X.K) := by
  intro pins s σ H vs us Q I r h
  obtain ⟨a, ns, rfl, hs, q⟩ := h
  obtain ⟨its, rv, hl, _⟩ := I.list hs
  rw [Vals.ref1 r]
  obtain ⟨h1, vs1, d1, c1⟩ := hh
  exact sum_rawH h1 (I.pin p (List.mem_append_left _ hp)).1 d1 c1 hl.isList rv.ints fun h' tk t' hk => ⟨.int _, H, I.kept hk, ⟨_, rfl⟩, q⟩
end
end Gw

/-! W8: a comprehension over a list, where an exception is handled (its context None). -/
namespace Gw
open PySem PySem.Spec PyProof.Rows L2 L2H HotX
theorem hot_of {A : Around} {a : Addr} {oe : Obj} {cls : Value} {d : Option Addr} (hz : L2N.Zn cls d oe) (hf : ∃ vs, oe.data = .fields vs) : Hot1 (A.mark (some (.ref a))) (a, oe) := ⟨rfl, let ⟨vs, e⟩ := hf; ⟨vs, e, hz.2.2 vs e⟩⟩
section
variable {X : Cx}
theorem pe_lcH {elt tg l : Expr} {ifs : List Expr} {scope : Scope} {own : List (Str × Nat)} {pos : Pos} {tl : TE} {g : TG} {tt : TT} {te : TE} {p : Addr × Obj} (hh : Hot1 X.A p) (hp : p ∈ X.pn) (hN : X.N.Nodup) (hl : PE X l tl) (ok : BlkOk X.N X.env.scope scope own)
    (hg : ∀ (s : Shared) (H : Hp) (C : Addr) (cl : List (Str × Addr)) (fp : List Addr), PG (X.blk s H scope (compEnvC scope cl C X.env) fp) tg g) (ht : ∀ (s : Shared) (H : Hp) (C : Addr) (cl : List (Str × Addr)) (fp : List Addr), PTs (X.blk s H scope (compEnvC scope cl C X.env) fp) ifs tt)
    (he : ∀ (s : Shared) (H : Hp) (C : Addr) (cl : List (Str × Addr)) (fp : List Addr), PE (X.blk s H scope (compEnvC scope cl C X.env) fp) elt te) (hs : ∀ x, foldedSetIterable l X.env x = pure x := by intro _; rfl) :
    PE X (.ListComp elt [⟨tg, l, ifs, 0⟩] scope pos) (tLc (iList X.K tl) g tt te (own.map (·.2))) := by
  refine ⟨fun pins s σ H Q I h => ?_⟩
  rw [eval_ListComp]
  have hfree : ∀ y ∈ scope.names, y.2 = .free → ∃ c, X.env.cells.lookup y.1 = some c := fun y hy e => (ok.free y hy e).elim (fun k => I.ok.has _ (.inl k)) fun k => I.ok.has _ (.inr k)
  refine wpAny_comprehension_free rfl hs (closure_ok hfree) ok.kind (fun y hy e => by rw [ok.uniq y hy, e]) (thn (hl.run pins s σ H _ I h) fun xv s1 ⟨x, H1, I1, r1, a, e, ⟨xs, hq⟩, q⟩ => ?_)
  subst e
  cases r1
  obtain ⟨its, rv, pl, hz⟩ := I1.list hq
  refine wpAny_pyIter_list pl.isList ?_
  -- the iterator
  generalize hit : s1.heap.objs.size = it
  generalize hs2 : ({ s1 with heap := s1.heap.push { cls := .type "list_iterator", data := .fields #[.ref a, .int 0 0] } } : Shared) = s2
  have h2 : s2.heap = s1.heap.push { cls := .type "list_iterator", data := .fields #[.ref a, .int 0 0] } := by rw [← hs2]
  have I2 : Inv X pins σ H1 s2 := by
    rw [← hs2]
    exact I1.kept (t' := s1.toks) fun b o e => Heap.get?_push_of_some _ e
  have st2 : s2.heap.IsListIter it a 0 := by
    rw [h2, ← hit]
    exact ⟨_, Heap.get?_push_size _ rfl, rfl, rfl⟩
  have f2 : FpOk X pins H1 it := by
    rw [← hit]
    exact I1.fpOk (Nat.le_refl _) (I1.hok.fresh (Nat.le_refl _))
  have pne : p.1 ≠ it := f2.2.2.2.2.2 p (List.mem_append_left _ hp)
  clear hs2
  -- the new list
  refine wpAny_newObj_type (newEnv_comp ?_) (by show 0 ≤ sizeLine; decide)
  generalize hD : s2.heap.objs.size = D
  have hDn : H1 D = none := I2.hok.fresh (Nat.le_of_eq hD)
  obtain ⟨W, ⟨m0, w0⟩, turn⟩ := q D hDn
  generalize hs3 : ({ s2 with heap := s2.heap.push { cls := .type "list", data := .seq ([] : List Value).toArray } } : Shared) = s3
  have h3 : s3.heap = s2.heap.push { cls := .type "list", data := .seq ([] : List Value).toArray } := by rw [← hs3]
  have I3 : Inv X pins σ (upd H1 D (.lst [])) s3 := by
    rw [← hs3]
    refine I2.laid (t' := s2.toks) (fun b o e => Heap.get?_push_of_some _ e) (Nat.le_of_eq hD) ⟨Nat.zero_le _, [], 0, .nil, ?_⟩
    rw [← hD]
    exact Heap.get?_push_size _ rfl
  have itlt : it < s2.heap.objs.size := by
    obtain ⟨o, e, _⟩ := id st2
    exact Heap.lt_size e
  have f3 : FpOk X pins (upd H1 D (.lst [])) it ∧ it < s3.heap.objs.size := by
    refine ⟨⟨?_, f2.2⟩, by rw [h3, Heap.size_push]; exact Nat.lt_succ_of_lt itlt⟩
    rw [upd_ne (by rw [← hD]; exact Nat.ne_of_lt itlt)]
    exact f2.1
  have st3 : s3.heap.IsListIter it a 0 := st2.at fun o e => by rw [h3]; exact Heap.get?_push_of_some _ e
  have f3' : ∀ b ∈ [it], FpOk X pins (upd H1 D (.lst [])) b ∧ b < s3.heap.objs.size := fun b hb => by
    rw [List.mem_singleton.mp hb]
    exact f3
  have I4 := block_start I3 ok hN f3'
  have pg := hg s3 (upd H1 D (.lst [])) s3.heap.objs.size (cellsFrom (s3.heap.objs.size + 1) scope.names (cloFrom X.env.cells scope.names [])) [it]
  have pt := ht s3 (upd H1 D (.lst [])) s3.heap.objs.size (cellsFrom (s3.heap.objs.size + 1) scope.names (cloFrom X.env.cells scope.names [])) [it]
  have pe := he s3 (upd H1 D (.lst [])) s3.heap.objs.size (cellsFrom (s3.heap.objs.size + 1) scope.names (cloFrom X.env.cells scope.names [])) [it]
  show codeAny _ _ (.compStart (.ListComp elt [⟨tg, l, ifs, 0⟩] scope pos) 0 (.ref it) (.ref D) (compEnvC scope (cellsFrom (s3.heap.objs.size + 1) scope.names (cloFrom X.env.cells scope.names [])) s3.heap.objs.size X.env)) (compPost (model X.prog X.w) X.A X.xe none (EP X pins σ Q) (.ref D) s3.heap.objs.size) _
  have nit : (upd H1 D (.lst [])) it = none := f3.1.1
  generalize hce : compEnvC scope (cellsFrom (s3.heap.objs.size + 1) scope.names (cloFrom X.env.cells scope.names [])) s3.heap.objs.size X.env = ce at I4 pg pt pe ⊢
  have cL : ce.locals = s3.heap.objs.size := by subst hce; rfl
  have hpin := I3.pin p (List.mem_append_left _ hp)
  have pnl : p.1 ≠ ce.locals := by
    rw [cL]
    exact Nat.ne_of_lt (Heap.lt_size hpin.1)
  generalize hH3 : upd H1 D (.lst []) = H3 at I3 I4 pg pt pe w0 nit f3 hpin
  generalize hs4 : ({ s3 with heap := pushCells (s3.heap.push { cls := .type "dict", data := .dict #[] }) scope.names } : Shared) = s4 at I4 ⊢
  have kp4 : ∀ b o, s3.heap.get? b = some o → s4.heap.get? b = some o := fun b o e => by rw [← hs4]; exact pushCells_keeps _ _ _ _ (Heap.get?_push_of_some _ e)
  have st4 : s4.heap.IsListIter it a 0 := st3.at fun o e => kp4 _ _ e
  have pfs : p.1 ∉ (X.blk s3 H3 scope ce [it]).fs := by
    show p.1 ∉ frs X.stack
    rcases I3.ok.stk with e | ⟨e, e2⟩
    · rw [e]
      exact hpin.2.2.2.1
    · rw [e]
      intro z
      unfold frs at z
      rw [List.filterMap_cons, e2] at z
      exact (List.mem_cons.mp z).elim (fun z => hpin.2.2.1 z) fun z => hpin.2.2.2.1 z
  have I5 : Inv (X.blk s3 H3 scope ce [it]) [p] (wipe σ (own.map (·.2))) H3 s4 := I4.pins_of fun q hq => by
    rw [List.mem_singleton.mp hq]
    exact ⟨kp4 _ _ hpin.1, hpin.2.1, pnl, pfs, hpin.2.2.2.2⟩
  have stat : ∀ {σ' : L2.St} {H' : Hp} {s' : Shared}, Inv (X.blk s3 H3 scope ce [it]) [p] σ' H' s' → H' it = none → FpOk (X.blk s3 H3 scope ce [it]) [p] H' it := fun {σ' H' s'} I' hn =>
    ⟨hn, (I'.ok.exf it (List.mem_singleton.mpr rfl)).1, I'.ok.exfs it (List.mem_singleton.mpr rfl), .inl (List.mem_singleton.mpr rfl), fun x c e => (I'.ok.exf it (List.mem_singleton.mpr rfl)).2 x c e, fun q hq => by
      have hq : q ∈ [p] := hq
      rw [List.mem_singleton] at hq
      rw [hq]
      exact pne⟩
  have loop : codeAny (model X.prog X.w) X.A (.compLoop (.ListComp elt [⟨tg, l, ifs, 0⟩] scope pos) 0 (.ref it) (.ref D) ce) (compPost (model X.prog X.w) X.A X.xe none (EP X pins σ Q) (.ref D) s3.heap.objs.size) s4 := by
    refine compLoop_any (fun n s' => ∃ i H', Inv (X.blk s3 H3 scope ce [it]) [p] (wipe σ (own.map (·.2))) H' s' ∧ s'.heap.IsListIter it a i ∧ H' it = none ∧ W i n H') ?_ m0 ⟨0, H3, I5, st4, nit, w0⟩
    rintro n s5 ⟨i, H5, I6, st5, n5, w5⟩
    obtain ⟨g0, g1, g2, g3, g4, g5⟩ := stat I6 n5
    rcases turn i n H5 w5 with ⟨⟨ys, hys, hyl⟩, qq⟩ | ⟨⟨ys, y, hys, hyx⟩, Nx, hNx, step⟩
    · obtain ⟨jts, rj, pj, _⟩ := I6.list hys
      obtain ⟨h1, vs1, d1, c1⟩ := hh
      have lj := rj.length
      refine pyNext_list_end_hot ⟨h1, _, vs1, (I6.pin p (by simp)).1, d1, c1⟩ pne st5 pj.isList (by simp; omega) fun h' eb => ?_
      have I7 : Inv (X.blk s3 H3 scope ce [it]) [p] (wipe σ (own.map (·.2))) H5 { s5 with heap := h' } := I6.turned (t' := s5.toks) (fun b o hb e => eb b o hb e) g0 g1 g3 g4 g5
      -- back in the def's context
      have I8 : Inv X pins σ H5 { s5 with heap := h' } := I3.call' (ch := [it]) I7.os I7.base I7.hok I7.bare fun b hb => by
        rw [List.mem_singleton.mp hb]
        exact ⟨f3.1.2.2.2.1, f3.1.2.1, f3.1.2.2.2.2.1, f3.1.2.2.2.2.2⟩
      have nC : H5 s3.heap.objs.size = none := by
        have z : H5 ce.locals = none := I7.free
        rwa [cL] at z
      obtain ⟨m, hn, _⟩ := I7.loc
      have hn : h'.Ns ce.locals m := hn
      rw [cL] at hn
      obtain ⟨k0, k1, k2, k3, k4, k5⟩ := I3.fpOk (b := s3.heap.objs.size) (Nat.le_refl _) nC
      exact ⟨m, hn, fun h'' sb => ⟨.ref D, H5, I8.turned (t' := s5.toks) (fun b o hb e => (sb.2 b hb).trans e) k0 k1 k3 k4 k5, rfl, qq⟩⟩
    · obtain ⟨jts, rj, pj, _⟩ := I6.list hys
      obtain ⟨u, hu, ru⟩ := rj.get hyx
      refine wpAny_pyNext_list_item st5 pj.isList (x := u) (by simpa using hu) fun h' st6 sb => ?_
      have I7 : Inv (X.blk s3 H3 scope ce [it]) [p] (wipe σ (own.map (·.2))) H5 { s5 with heap := h' } := I6.turned (t' := s5.toks) (fun b o hb e => (sb.2 b hb).trans e) g0 g1 g3 g4 g5
      obtain ⟨o6, e6, c6, d6⟩ := id st6
      refine go_of (s := { s5 with heap := h' }) e6 c6 d6 (by decide) ?_
      have I7' := I7.pinned (fp := [it]) (fun b hb => by rw [List.mem_singleton.mp hb]; exact stat I7 n5) fun b hb => by
        rw [List.mem_singleton.mp hb]
        exact ⟨o6, e6, fun v z => by rw [d6] at z; cases z⟩
      refine thnF (pg.run _ _ _ H5 y u _ I7' ru (step y H5 ⟨rfl, fun zs hz => by rw [I6.list_inj hz hys]; exact hyx⟩)) fun _ s8 ⟨σ8, H8, I8, hw8, q8⟩ => ?_
      refine thnF (pt.run _ s8 σ8 H8 _ I8 q8) fun b s9 ⟨H9, I9, q9⟩ => ?_
      have fin : ∀ {s' : Shared} {H' : Hp}, Inv (X.blk s3 H3 scope ce [it]) ([p] ++ pinsAt [it] h') σ8 H' s' → Nx H' → ∃ m, m < n ∧ ∃ i H', Inv (X.blk s3 H3 scope ce [it]) [p] (wipe σ (own.map (·.2))) H' s' ∧ s'.heap.IsListIter it a i ∧ H' it = none ∧ W i m H' := fun {s' H'} I' nx => by
        obtain ⟨m', hm, w'⟩ := hNx H' nx
        have z := I'.pin (it, o6) (List.mem_append_right _ (List.mem_append_right _ (mem_pinsAt (List.mem_singleton.mpr rfl) e6)))
        have hl : (wipe σ (own.map (·.2))).length = σ8.length := by rw [← hw8, wipe_length]
        refine ⟨m', hm, i + 1, H', (I'.unpinned (pins := [p])).weak hl (fun j v e => ?_), ⟨o6, z.1, c6, d6⟩, z.2.1, w'⟩
        rw [← hw8] at e
        exact (wipe_some e).1
      cases b with
      | false =>
        simp only [Bool.false_eq_true, if_false] at q9 ⊢
        exact fin I9 q9
      | true =>
        simp only [if_true] at q9 ⊢
        refine thnF (pe.run _ s9 σ8 H9 _ I9 q9) fun z s10 ⟨yv, H10, I10, r10, acc, hD10, hz10, nx⟩ => ?_
        exact app_ok (X := X.blk s3 H3 scope ce [it]) I10 hD10 hz10 r10 fun s11 I11 => fin I11 nx
  exact codeAny_compStart_list loop (wpAny_pyIter_listiter st4 loop)
/-- as a suite asks them -/
theorem cr_sumS {a : Addr} {oe : Obj} {cls : Value} {d : Option Addr} {pn : List (Addr × Obj)} (hz : L2N.Zn cls d oe) (hf : ∃ vs, oe.data = .fields vs) : CallR (X.suite a ((a, oe) :: pn)) (.builtin "sum") (rSum X.K) := cr_sumH (X := X.suite a ((a, oe) :: pn)) (hot_of hz hf) List.mem_cons_self
theorem pe_lcS {a : Addr} {oe : Obj} {cls : Value} {d : Option Addr} {pn : List (Addr × Obj)} (hz : L2N.Zn cls d oe) (hf : ∃ vs, oe.data = .fields vs) {elt tg l : Expr} {ifs : List Expr} {scope : Scope} {own : List (Str × Nat)} {pos : Pos} {tl : TE} {g : TG} {tt : TT} {te : TE} (hN : X.N.Nodup) (hl : PE (X.suite a ((a, oe) :: pn)) l tl) (ok : BlkOk X.N X.env.scope scope own)
    (hg : ∀ (s : Shared) (H : Hp) (C : Addr) (cl : List (Str × Addr)) (fp : List Addr), PG ((X.suite a ((a, oe) :: pn)).blk s H scope (compEnvC scope cl C X.env) fp) tg g) (ht : ∀ (s : Shared) (H : Hp) (C : Addr) (cl : List (Str × Addr)) (fp : List Addr), PTs ((X.suite a ((a, oe) :: pn)).blk s H scope (compEnvC scope cl C X.env) fp) ifs tt)
    (he : ∀ (s : Shared) (H : Hp) (C : Addr) (cl : List (Str × Addr)) (fp : List Addr), PE ((X.suite a ((a, oe) :: pn)).blk s H scope (compEnvC scope cl C X.env) fp) elt te) (hs : ∀ x, foldedSetIterable l X.env x = pure x := by intro _; rfl) :
    PE (X.suite a ((a, oe) :: pn)) (.ListComp elt [⟨tg, l, ifs, 0⟩] scope pos) (tLc (iList X.K tl) g tt te (own.map (·.2))) :=
  pe_lcH (X := X.suite a ((a, oe) :: pn)) (hot_of hz hf) List.mem_cons_self hN hl ok hg ht he hs
end
end Gw

/-! W10: d.setdefault(y, x), the keys numbers or texts. -/
namespace Gw
open PySem PySem.Spec PyProof.Rows L2 RT
section
variable {X : Cx}
def tDSetdK (td ty tx : TE) : TE := fun σ H Q => td σ H fun x H1 => ∃ a, x = .ref a ∧ IsD H1 a ∧ ty σ H1 fun y H2 => tx σ H2 fun z H3 => ∃ (kvs : List (Key × V)) (k : Key), H3 a = some (.dK kvs) ∧ y = kV k ∧ kvs.length < sizeLine ∧
  (∀ v, valV kvs k = some v → Q v H3) ∧ (valV kvs k = none → ∀ H4, Chg H3 a (.dK (putK kvs k z)) H4 → Q z H4)
theorem pe_dsetdK {o f e : Expr} {td ty tx : TE} {apos cpos : Pos} (hu : X.A.units + 1 < cLine) (ho : PE X o td) (he : PE X e ty) (hf : PE X f tx) (m : M2 X o "setdefault" apos e f cpos) : PE X (.Call (.Attribute o "setdefault" apos) [e, f] [] cpos) (tDSetdK td ty tx) := by
  refine ⟨fun pins s σ H Q I h => ?_⟩
  refine wpAny_Call_method m.base m.few m.line PySem.F.plainAttrs_dict PySem.F.slot_dict_setdefault PySem.F.type_dict_setdefault (thn (ho.run pins s σ H _ I h) fun u s1 ⟨x, H1, I1, rx, a, ex, d, q1⟩ => ?_)
  subst ex
  obtain rfl : u = Value.ref a := rx
  obtain ⟨t1, t2, _⟩ := isD_at I1 d
  refine ⟨t1, t2, ?_⟩
  rw [m.trees]
  have last : ∀ (fv iv : Value) (s3 : Shared) (y z : V) (H3 : Hp), Inv X pins σ H3 s3 → RelV y iv → RelV z fv → (∃ (kvs : List (Key × V)) (k : Key), H3 a = some (.dK kvs) ∧ y = kV k ∧ kvs.length < sizeLine ∧
      (∀ v, valV kvs k = some v → Q v H3) ∧ (valV kvs k = none → ∀ H4, Chg H3 a (.dK (putK kvs k z)) H4 → Q z H4)) → wpAny (model X.prog X.w) X.A (call (.builtin "dict.setdefault") [.ref a, iv, fv]) (EP X pins σ Q) X.xe s3 := by
    intro fv iv s3 y z H3 I3 ry rz ⟨kvs, k, ea, ey, hl, q3, q4⟩
    subst ey
    obtain ⟨zs, hd, vs0, rel, dd⟩ := dk_of I3.hok ea
    have hz : vs0.length ≤ sizeLine := by rw [← rel.length]; exact zs
    refine call_meetsIn PySem.F.slot_dict_setdefault dd.typeIs PySem.F.entry_dict_setdefault (PySem.F.args_dict_setdefault_3 _ _ _) (kt_meets_setdefault (mixKind X.prog X.w) a (kV_is ry) hd fv) ⟨vs0, dd, hz, fun u hu => ?_, fun hn h' dd' hs => ?_⟩
    · have rr := rel.val k
      rw [hu] at rr
      cases hv : valV kvs k with
      | none => rw [hv] at rr; exact False.elim rr
      | some x =>
        rw [hv] at rr
        exact (⟨x, H3, I3.tok _, rr, q3 x hv⟩ : EP X pins σ Q u _)
    · have rr := rel.val k
      rw [hn] at rr
      cases hv : valV kvs k with
      | some x => rw [hv] at rr; exact False.elim rr
      | none =>
        have hl2 : (putK kvs k z).length ≤ sizeLine := by have := length_putK kvs k z; omega
        exact (⟨z, _, d_write (t' := s3.toks + 1) I3 (by rw [ea]; exact True.intro) hs (let ⟨q, _, _, hq, _⟩ := dd'; ⟨q, hq⟩) (dk_new hl2 hd (rel.put k rz) dd'), rz, q4 hv _ .of⟩ : EP X pins σ Q _ _)
  exact Calls.callWith_builtin rfl (Calls.evalArgs_plain (Calls.spliced_cons (thn (he.run pins s1 σ H1 _ I1 q1) fun iv s2 ⟨y, H2, I2, ry, q2⟩ =>
    Calls.spliced_cons (thn (hf.run pins s2 σ H2 _ I2 q2) fun fv s3 ⟨z, H3, I3, rz, q3⟩ => Calls.spliced_nil (last fv iv s3 y z H3 I3 ry rz q3)))))
theorem w_dsetdK {td ty tx : TE} {σ : L2.St} {H : Hp} {Q : VK} (q : td σ H fun x H1 => ∃ a, x = .ref a ∧ IsD H1 a ∧ ty σ H1 fun y H2 => tx σ H2 fun z H3 => ∃ (kvs : List (Key × V)) (k : Key), H3 a = some (.dK kvs) ∧ y = kV k ∧ kvs.length < sizeLine ∧
  (∀ v, valV kvs k = some v → Q v H3) ∧ (valV kvs k = none → ∀ H4, Chg H3 a (.dK (putK kvs k z)) H4 → Q z H4)) : tDSetdK td ty tx σ H Q := q
end
end Gw

namespace Gw
open PySem PySem.Spec PyProof.Rows L2
def topS (i : Nat) : Stmt := (PySem.Challenge.pw_gluewords_k05_whole_read_is_made).main.body.getD i (.Pass ⟨0, 0, 0, 0⟩)
abbrev s_is_word : Stmt := topS 7
abbrev s_need_word : Stmt := topS 8
abbrev s_back_of : Stmt := topS 9
abbrev s_shortened : Stmt := topS 10
abbrev s_joined : Stmt := topS 12
abbrev s_behind : Stmt := topS 13
abbrev s_rings_of : Stmt := topS 14
abbrev s_in_order : Stmt := topS 15
abbrev s_pair_of : Stmt := topS 16
abbrev s_moved : Stmt := topS 17
abbrev s_glued : Stmt := topS 18
abbrev s_steps_of : Stmt := topS 20
abbrev s_found_rooms : Stmt := topS 21
abbrev s_numbered : Stmt := topS 22
abbrev s_is_number : Stmt := topS 23
abbrev s_is_tie : Stmt := topS 24
abbrev s_ends_at : Stmt := topS 25
abbrev s_is_web : Stmt := topS 26
abbrev s_need_web : Stmt := topS 27
abbrev s_glued_of : Stmt := topS 28
abbrev s_web_of : Stmt := topS 29
abbrev s_led : Stmt := topS 30
abbrev s_reads : Stmt := topS 31
abbrev s_numbers_by : Stmt := topS 33
abbrev s_made_by : Stmt := topS 34
abbrev s__law_whole : Stmt := topS 36
abbrev s__law_cell : Stmt := topS 37
abbrev s__law_mixed : Stmt := topS 38
abbrev s__law_letters : Stmt := topS 39
abbrev s__law_back : Stmt := topS 40
abbrev s__law_word : Stmt := topS 41
abbrev s__law_short : Stmt := topS 42
abbrev s__law_turned : Stmt := topS 43
abbrev s__law_row : Stmt := topS 44
abbrev s__law_product : Stmt := topS 45
abbrev s__law_numbers : Stmt := topS 46
abbrev s__law_steps : Stmt := topS 47
abbrev s__law_ways : Stmt := topS 48
abbrev s__law_round : Stmt := topS 49
abbrev s__law_is_making : Stmt := topS 50
abbrev s__law_refused : Stmt := topS 51
abbrev s_law : Stmt := topS 52
/-- what the top has written -/
structure Tx (K : PySem.W.Frag) (mg : Str → Option Value) : Prop where
  f_is_word : FnT K mg "is_word" s_is_word
  f_need_word : FnT K mg "need_word" s_need_word
  f_back_of : FnT K mg "back_of" s_back_of
  f_shortened : FnT K mg "shortened" s_shortened
  f_joined : FnT K mg "joined" s_joined
  f_behind : FnT K mg "behind" s_behind
  f_rings_of : FnT K mg "rings_of" s_rings_of
  f_in_order : FnT K mg "in_order" s_in_order
  f_pair_of : FnT K mg "pair_of" s_pair_of
  f_moved : FnT K mg "moved" s_moved
  f_glued : FnT K mg "glued" s_glued
  f_steps_of : FnT K mg "steps_of" s_steps_of
  f_found_rooms : FnT K mg "found_rooms" s_found_rooms
  f_numbered : FnT K mg "numbered" s_numbered
  f_is_number : FnT K mg "is_number" s_is_number
  f_is_tie : FnT K mg "is_tie" s_is_tie
  f_ends_at : FnT K mg "ends_at" s_ends_at
  f_is_web : FnT K mg "is_web" s_is_web
  f_need_web : FnT K mg "need_web" s_need_web
  f_glued_of : FnT K mg "glued_of" s_glued_of
  f_web_of : FnT K mg "web_of" s_web_of
  f_led : FnT K mg "led" s_led
  f_reads : FnT K mg "reads" s_reads
  f_numbers_by : FnT K mg "numbers_by" s_numbers_by
  f_made_by : FnT K mg "made_by" s_made_by
  f__law_whole : FnT K mg "_law_whole" s__law_whole
  f__law_cell : FnT K mg "_law_cell" s__law_cell
  f__law_mixed : FnT K mg "_law_mixed" s__law_mixed
  f__law_letters : FnT K mg "_law_letters" s__law_letters
  f__law_back : FnT K mg "_law_back" s__law_back
  f__law_word : FnT K mg "_law_word" s__law_word
  f__law_short : FnT K mg "_law_short" s__law_short
  f__law_turned : FnT K mg "_law_turned" s__law_turned
  f__law_row : FnT K mg "_law_row" s__law_row
  f__law_product : FnT K mg "_law_product" s__law_product
  f__law_numbers : FnT K mg "_law_numbers" s__law_numbers
  f__law_steps : FnT K mg "_law_steps" s__law_steps
  f__law_ways : FnT K mg "_law_ways" s__law_ways
  f__law_round : FnT K mg "_law_round" s__law_round
  f__law_is_making : FnT K mg "_law_is_making" s__law_is_making
  f__law_refused : FnT K mg "_law_refused" s__law_refused
  f_law : FnT K mg "law" s_law
  g_GlueError : mg "GlueError" = some (.ref (He.ga K "GlueError"))
  x_GlueError : PySem.W.excIn K (He.ga K "GlueError") He.veBase "ValueError.__new__" = true ∧ PySem.W.keepIn K (.ref (He.ga K "GlueError")) = true ∧ PySem.W.subIn K (.ref (He.ga K "GlueError")) (.type "BaseException") = some true ∧ PySem.W.typeIn K (.ref (He.ga K "GlueError")) = some (.type "type")
  g_BadWord : mg "BadWord" = some (.ref (He.ga K "BadWord"))
  x_BadWord : PySem.W.excIn K (He.ga K "BadWord") He.veBase "ValueError.__new__" = true ∧ PySem.W.keepIn K (.ref (He.ga K "BadWord")) = true ∧ PySem.W.subIn K (.ref (He.ga K "BadWord")) (.type "BaseException") = some true ∧ PySem.W.typeIn K (.ref (He.ga K "BadWord")) = some (.type "type")
  g_BadWeb : mg "BadWeb" = some (.ref (He.ga K "BadWeb"))
  x_BadWeb : PySem.W.excIn K (He.ga K "BadWeb") He.veBase "ValueError.__new__" = true ∧ PySem.W.keepIn K (.ref (He.ga K "BadWeb")) = true ∧ PySem.W.subIn K (.ref (He.ga K "BadWeb")) (.type "BaseException") = some true ∧ PySem.W.typeIn K (.ref (He.ga K "BadWeb")) = some (.type "type")
  v_SMALL : ∃ t, mg "SMALL" = some (.str "abcdefghijklmnopqrstuvwxyz" t)
  v_GREAT : ∃ t, mg "GREAT" = some (.str "ABCDEFGHIJKLMNOPQRSTUVWXYZ" t)
  n_ValueError : mg "ValueError" = none
  n_abs : mg "abs" = none
  n_all : mg "all" = none
  n_bool : mg "bool" = none
  n_enumerate : mg "enumerate" = none
  n_int : mg "int" = none
  n_isinstance : mg "isinstance" = none
  n_len : mg "len" = none
  n_list : mg "list" = none
  n_range : mg "range" = none
  n_reversed : mg "reversed" = none
  n_set : mg "set" = none
  n_sorted : mg "sorted" = none
  n_str : mg "str" = none
  n_tuple : mg "tuple" = none
  ec : ExCl K
end Gw

open Gw L2 PySem
local macro_rules | `(tactic| walk_at "gw1") => `(tactic| first
  | with_reducible refine w_seqA ?_
  | with_reducible refine w_seq ?_
  | with_reducible refine w_asg ?_
  | with_reducible refine w_asgG ?_
  | with_reducible refine w_ret ?_
  | with_reducible refine w_drop ?_
  | with_reducible refine w_if ?_
  | with_reducible refine w_test ?_
  | with_reducible refine w_tB ?_
  | with_reducible refine w_nil ?_
  | with_reducible refine w_cons ?_
  | with_reducible refine w_op ?_
  | with_reducible refine w_un ?_
  | with_reducible refine w_c ?_
  | ((with_reducible refine w_var0 ?_); refine ⟨_, rfl, ?_⟩)
  | with_reducible refine w_rI0 ?_
  | with_reducible refine w_rU ?_
  | with_reducible refine w_rEq rfl ?_
  | with_reducible refine w_rNe rfl ?_
  | with_reducible refine w_CB ?_
  | with_reducible refine w_and ?_
  | with_reducible refine w_or ?_
  | with_reducible refine w_not ?_
  | with_reducible refine w_andV ?_
  | with_reducible refine w_orV ?_
  | with_reducible refine w_notV ?_
  | with_reducible refine w_ife ?_
  | with_reducible refine w_call ?_
  | with_reducible refine w_isN ?_
  | with_reducible refine w_notN ?_
  | with_reducible refine ex_bl ?_
  | with_reducible refine ex_str2 ?_
  | with_reducible refine ex_sgn ?_
  | with_reducible refine w_next ?_
  | with_reducible refine w_nx ?_
  | with_reducible refine w_rt ?_
  | with_reducible refine w_bk ?_
  | with_reducible refine w_ct ?_
  | ((with_reducible refine w_rI ?_ ?_); (focus first | (show (0 : Int) < _; decide) | exact ⟨by decide, by decide⟩ | exact .inl ⟨by omega, by omega⟩ | exact .inr ⟨by omega, by omega⟩))
  | with_reducible refine w_gn ?_
  | with_reducible refine w_for ?_
  | with_reducible refine w_lc ?_
  | with_reducible refine w_iStr ?_
  | with_reducible refine w_iRevS ?_
  | with_reducible refine w_iList ?_
  | with_reducible refine w_iTup ?_
  | with_reducible refine w_iRng1 ?_
  | with_reducible refine ex_str ?_
  | with_reducible refine iteT ?_
  | with_reducible refine iteF ?_
  | with_reducible refine iteNT ?_
  | with_reducible refine iteNF ?_
  | with_reducible refine w_bm ?_
  | with_reducible refine w_bm0 ?_
  | with_reducible refine ty_and_str ?_
  | with_reducible refine w_lst ?_
  | with_reducible refine w_tup ?_
  | with_reducible refine w_m1 ?_
  | with_reducible refine w_m0 ?_
  | with_reducible refine str_and ?_
  | with_reducible refine w_slS ?_
  | with_reducible refine w_nopart ?_
  | with_reducible refine w_dinT ?_
  | with_reducible refine w_dnotinT ?_
  | with_reducible refine w_dgetT ?_
  | with_reducible refine w_dget2T ?_
  | with_reducible refine w_dputT ?_
  | with_reducible refine w_dnT ?_
  | with_reducible refine w_sortSet ?_
  | with_reducible refine w_lenSetS ?_
  | with_reducible refine w_dnK ?_
  | with_reducible refine w_keys ?_
  | with_reducible refine w_iEnumS ?_
  | with_reducible refine w_iEnum ?_
  | with_reducible refine w_iEnumT ?_
  | with_reducible refine w_lstRev ?_
  | with_reducible refine w_lstRg1 ?_
  | with_reducible refine w_dsetdT ?_
  | with_reducible refine w_part ?_
  | with_reducible refine ex_int ?_
  | ((with_reducible refine ty_and_lst0 ?_ ?_); (focus exact ⟨_, by assumption⟩)))
local macro_rules | `(tactic| walk_at "gw") => `(tactic| repeat walk_at "gw1")

/-! Free: words with backs, shortened. Plain lists of codes; no program in sight. -/
namespace Gw
/-- a letter's code, its back -/
def isL (c : Nat) : Bool := (decide (97 ≤ c) && decide (c ≤ 122)) || (decide (65 ≤ c) && decide (c ≤ 90))
def bk (c : Nat) : Nat := if 97 ≤ c then c - 32 else c + 32
/-- one sign more, from the left -/
def shSt (k : List Nat) (c : Nat) : List Nat := if k.getLast? = some (bk c) then k.dropLast else k ++ [c]
/-- the short word -/
def sh (w : List Nat) : List Nat := w.foldl shSt []
/-- the back of a word, not shortened -/
def rv (w : List Nat) : List Nat := w.reverse.map bk
/-- all are letters -/
def AL (w : List Nat) : Prop := ∀ c ∈ w, isL c = true
theorem isL_iff {c : Nat} : isL c = true ↔ (97 ≤ c ∧ c ≤ 122) ∨ (65 ≤ c ∧ c ≤ 90) := by
  unfold isL
  simp only [Bool.or_eq_true, Bool.and_eq_true, decide_eq_true_eq]
theorem isL_cases {c : Nat} (h : isL c = true) : (∃ i, i < 26 ∧ c = 97 + i) ∨ ∃ i, i < 26 ∧ c = 65 + i := by
  rcases isL_iff.mp h with h | h
  · exact .inl ⟨c - 97, by omega, by omega⟩
  · exact .inr ⟨c - 65, by omega, by omega⟩
theorem bk_L {c : Nat} (h : isL c = true) : isL (bk c) = true := by
  rw [isL_iff] at h ⊢
  unfold bk
  split <;> omega
theorem bk_bk {c : Nat} (h : isL c = true) : bk (bk c) = c := by
  rw [isL_iff] at h
  unfold bk
  split <;> split <;> omega
theorem bk_ne {c : Nat} (h : isL c = true) : bk c ≠ c := by
  rw [isL_iff] at h
  unfold bk
  split <;> omega
theorem bk_inj {c d : Nat} (h : isL c = true) (h' : isL d = true) (e : bk c = bk d) : c = d := by
  rw [← bk_bk h, e, bk_bk h']
theorem AL.nil : AL [] := fun c h => by cases h
theorem AL.app {u v : List Nat} (h : AL u) (h' : AL v) : AL (u ++ v) := fun c hc => (List.mem_append.mp hc).elim (h c) (h' c)
theorem AL.left {u v : List Nat} (h : AL (u ++ v)) : AL u := fun c hc => h c (List.mem_append_left _ hc)
theorem AL.right {u v : List Nat} (h : AL (u ++ v)) : AL v := fun c hc => h c (List.mem_append_right _ hc)
theorem AL.head {c : Nat} {v : List Nat} (h : AL (c :: v)) : isL c = true := h c List.mem_cons_self
theorem AL.tail {c : Nat} {v : List Nat} (h : AL (c :: v)) : AL v := fun d hd => h d (List.mem_cons_of_mem _ hd)
theorem AL.cons {c : Nat} {v : List Nat} (h : isL c = true) (h' : AL v) : AL (c :: v) := fun d hd => by
  rcases List.mem_cons.mp hd with e | hd
  · rw [e]; exact h
  · exact h' d hd
theorem AL.rv {u : List Nat} (h : AL u) : AL (rv u) := fun c hc => by
  obtain ⟨d, hd, e⟩ := List.mem_map.mp hc
  rw [← e]
  exact bk_L (h d (List.mem_reverse.mp hd))
theorem snoc_ind {α : Type} {P : List α → Prop} (h0 : P []) (h1 : ∀ l c, P l → P (l ++ [c])) : ∀ l, P l := by
  intro l
  have : ∀ r : List α, P r.reverse := by
    intro r
    induction r with
    | nil => exact h0
    | cons c r ih =>
      rw [List.reverse_cons]
      exact h1 _ _ ih
  have h := this l.reverse
  rw [List.reverse_reverse] at h
  exact h
theorem end_of {α : Type} (l : List α) : l = [] ∨ ∃ k d, l = k ++ [d] := by
  refine snoc_ind (P := fun l => l = [] ∨ ∃ k d, l = k ++ [d]) (.inl rfl) (fun l c _ => .inr ⟨l, c, rfl⟩) l
/-! ### short words -/
/-- no letter beside its back -/
def Red : List Nat → Prop
  | [] => True
  | [_] => True
  | a :: b :: r => b ≠ bk a ∧ Red (b :: r)
theorem Red.tail {a : Nat} : ∀ {r : List Nat}, Red (a :: r) → Red r
  | [], _ => trivial
  | _ :: _, h => h.2
theorem red_snoc : ∀ {k : List Nat} {c : Nat}, Red (k ++ [c]) ↔ Red k ∧ ∀ d, k.getLast? = some d → c ≠ bk d
  | [], c => ⟨fun _ => ⟨trivial, fun d h => by cases h⟩, fun _ => trivial⟩
  | [a], c => by
    show (c ≠ bk a ∧ True) ↔ _
    simp [Red]
  | a :: b :: r, c => by
    have ih := red_snoc (k := b :: r) (c := c)
    show (b ≠ bk a ∧ Red ((b :: r) ++ [c])) ↔ (b ≠ bk a ∧ Red (b :: r)) ∧ _
    rw [ih, List.getLast?_cons_cons]
    constructor
    · rintro ⟨h1, h2, h3⟩
      exact ⟨⟨h1, h2⟩, h3⟩
    · rintro ⟨⟨h1, h2⟩, h3⟩
      exact ⟨h1, h2, h3⟩
theorem red_left {k r : List Nat} (h : Red (k ++ r)) : Red k := by
  induction r using snoc_ind generalizing k with
  | h0 => rw [List.append_nil] at h; exact h
  | h1 l c ih =>
    rw [← List.append_assoc] at h
    exact ih (red_snoc.mp h).1
theorem red_right : ∀ {k r : List Nat}, Red (k ++ r) → Red r
  | [], _, h => h
  | _ :: k, r, h => red_right (k := k) (Red.tail h)
theorem shSt_AL {k : List Nat} {c : Nat} (hk : AL k) (hc : isL c = true) : AL (shSt k c) := by
  unfold shSt
  split
  · exact fun d h => hk d (List.dropLast_subset _ h)
  · exact hk.app (AL.cons hc AL.nil)
theorem shSt_red {k : List Nat} {c : Nat} (hk : AL k) (hc : isL c = true) (hr : Red k) : Red (shSt k c) := by
  unfold shSt
  split
  · rcases end_of k with e | ⟨k', d, e⟩
    · rw [e]; trivial
    · rw [e] at hr ⊢
      rw [List.dropLast_concat]
      exact (red_snoc.mp hr).1
  · rename_i h
    refine red_snoc.mpr ⟨hr, fun d hd e => h ?_⟩
    rw [hd, e, bk_bk (hk d (List.mem_of_getLast? hd))]
theorem foldl_AL : ∀ {v k : List Nat}, AL k → AL v → AL (v.foldl shSt k)
  | [], _, hk, _ => hk
  | c :: r, k, hk, hv => foldl_AL (v := r) (k := shSt k c) (shSt_AL hk hv.head) hv.tail
theorem foldl_red : ∀ {v k : List Nat}, AL k → AL v → Red k → Red (v.foldl shSt k)
  | [], _, _, _, hr => hr
  | c :: r, k, hk, hv, hr => foldl_red (v := r) (k := shSt k c) (shSt_AL hk hv.head) hv.tail (shSt_red hk hv.head hr)
theorem sh_AL {w : List Nat} (h : AL w) : AL (sh w) := foldl_AL AL.nil h
theorem sh_red {w : List Nat} (h : AL w) : Red (sh w) := foldl_red AL.nil h trivial
theorem sh_snoc (w : List Nat) (c : Nat) : sh (w ++ [c]) = shSt (sh w) c := by
  unfold sh
  rw [List.foldl_append]
  rfl
theorem sh_app (u v : List Nat) : sh (u ++ v) = v.foldl shSt (sh u) := by
  unfold sh
  rw [List.foldl_append]
theorem shSt_len (k : List Nat) (c : Nat) : (shSt k c).length ≤ k.length + 1 := by
  unfold shSt
  split
  · rw [List.length_dropLast]
    omega
  · rw [List.length_append]
    exact Nat.le_refl _
theorem foldl_len : ∀ (v k : List Nat), (v.foldl shSt k).length ≤ k.length + v.length
  | [], _ => Nat.le_refl _
  | c :: r, k => by
    have h1 := foldl_len r (shSt k c)
    have h2 := shSt_len k c
    rw [List.foldl_cons, List.length_cons]
    omega
theorem sh_len (w : List Nat) : (sh w).length ≤ w.length := by
  have h := foldl_len w []
  rw [List.length_nil, Nat.zero_add] at h
  exact h
/-- a word that is short -/
theorem sh_of_red {w : List Nat} (hw : AL w) (h : Red w) : sh w = w := by
  induction w using snoc_ind with
  | h0 => rfl
  | h1 l c ih =>
    obtain ⟨h1, h2⟩ := red_snoc.mp h
    rw [sh_snoc, ih hw.left h1, shSt, if_neg]
    intro e
    exact h2 _ e (bk_bk (hw c (by simp))).symm
theorem sh_sh {w : List Nat} (hw : AL w) : sh (sh w) = sh w := sh_of_red (sh_AL hw) (sh_red hw)
theorem shSt_back {k : List Nat} {c : Nat} (hk : AL k) (hc : isL c = true) (hr : Red k) : shSt (shSt k c) (bk c) = k := by
  by_cases h : k.getLast? = some (bk c)
  · rw [show shSt k c = k.dropLast by unfold shSt; rw [if_pos h]]
    rcases end_of k with e | ⟨k', d, e⟩
    · rw [e] at h; cases h
    · rw [e] at h hr ⊢
      rw [List.getLast?_concat] at h
      cases h
      rw [List.dropLast_concat, shSt, if_neg]
      rw [bk_bk hc]
      intro z
      exact (red_snoc.mp hr).2 _ z rfl
  · rw [show shSt k c = k ++ [c] by unfold shSt; rw [if_neg h], shSt, if_pos (by rw [bk_bk hc, List.getLast?_concat]), List.dropLast_concat]
theorem foldl_sh {k v : List Nat} (hk : AL k) (hr : Red k) (hv : AL v) : v.foldl shSt k = (sh v).foldl shSt k := by
  induction v using snoc_ind with
  | h0 => rfl
  | h1 l c ih =>
    have hc : isL c = true := hv c (by simp)
    have hl := hv.left
    rw [List.foldl_append, ih hl, sh_snoc]
    show shSt ((sh l).foldl shSt k) c = _
    by_cases h : (sh l).getLast? = some (bk c)
    · rw [show shSt (sh l) c = (sh l).dropLast by unfold shSt; rw [if_pos h]]
      rcases end_of (sh l) with e | ⟨k', d, e⟩
      · rw [e] at h; cases h
      · have hal := sh_AL hl
        rw [e] at h hal ⊢
        rw [List.getLast?_concat] at h
        cases h
        rw [List.dropLast_concat, List.foldl_append]
        show shSt (shSt (k'.foldl shSt k) (bk c)) c = _
        have h3 := shSt_back (foldl_AL hk hal.left) (bk_L hc) (foldl_red hk hal.left hr)
        rw [bk_bk hc] at h3
        exact h3
    · rw [show shSt (sh l) c = sh l ++ [c] by unfold shSt; rw [if_neg h], List.foldl_append]
      rfl
/-- the short word of both -/
theorem sh_app_sh {u v : List Nat} (hu : AL u) (hv : AL v) : sh (u ++ v) = sh (sh u ++ sh v) := by
  rw [sh_app, sh_app, sh_sh hu, foldl_sh (sh_AL hu) (sh_red hu) hv]
theorem sh_congr {u u' v v' : List Nat} (hu : AL u) (hv : AL v) (hu' : AL u') (hv' : AL v') (e : sh u = sh u') (e' : sh v = sh v') : sh (u ++ v) = sh (u' ++ v') := by
  rw [sh_app_sh hu hv, sh_app_sh hu' hv', e, e']
theorem sh_pair {c : Nat} (hc : isL c = true) : sh [c, bk c] = [] := by
  show shSt (shSt [] c) (bk c) = []
  exact shSt_back AL.nil hc trivial
/-- a letter with its back right behind it falls away -/
theorem sh_out {a b : List Nat} {c : Nat} (ha : AL a) (hb : AL b) (hc : isL c = true) : sh (a ++ c :: bk c :: b) = sh (a ++ b) := by
  have e : a ++ c :: bk c :: b = (a ++ [c, bk c]) ++ b := by simp
  have h2 : AL (a ++ [c, bk c]) := ha.app (AL.cons hc (AL.cons (bk_L hc) AL.nil))
  rw [e]
  refine sh_congr h2 hb ha hb ?_ rfl
  rw [sh_app]
  show shSt (shSt (sh a) c) (bk c) = sh a
  exact shSt_back (sh_AL ha) hc (sh_red ha)
/-! ### backs -/
theorem rv_nil : rv [] = [] := rfl
theorem rv_app (u v : List Nat) : rv (u ++ v) = rv v ++ rv u := by
  unfold rv
  rw [List.reverse_append, List.map_append]
theorem rv_cons (c : Nat) (v : List Nat) : rv (c :: v) = rv v ++ [bk c] := by
  unfold rv
  rw [List.reverse_cons, List.map_append]
  rfl
theorem rv_snoc (c : Nat) (v : List Nat) : rv (v ++ [c]) = bk c :: rv v := by
  unfold rv
  rw [List.reverse_append, List.map_append]
  rfl
theorem rv_rv {u : List Nat} (h : AL u) : rv (rv u) = u := by
  induction u with
  | nil => rfl
  | cons c r ih =>
    rw [rv_cons, rv_snoc, ih h.tail, bk_bk h.head]
theorem rv_len (u : List Nat) : (rv u).length = u.length := by
  unfold rv
  rw [List.length_map, List.length_reverse]
theorem sh_rv_r {u : List Nat} (h : AL u) : sh (u ++ rv u) = [] := by
  induction u using snoc_ind with
  | h0 => rfl
  | h1 l c ih =>
    have hc : isL c = true := h c (by simp)
    rw [rv_snoc]
    have e : (l ++ [c]) ++ bk c :: rv l = l ++ c :: bk c :: rv l := by simp
    rw [e, sh_out h.left h.left.rv hc, ih h.left]
theorem sh_rv_l {u : List Nat} (h : AL u) : sh (rv u ++ u) = [] := by
  have h2 := sh_rv_r h.rv
  rw [rv_rv h] at h2
  exact h2
theorem red_rv {u : List Nat} (h : AL u) (hr : Red u) : Red (rv u) := by
  induction u with
  | nil => trivial
  | cons c r ih =>
    rw [rv_cons]
    refine red_snoc.mpr ⟨ih h.tail hr.tail, fun d hd e => ?_⟩
    cases r with
    | nil => cases hd
    | cons b r =>
      rw [rv_cons, List.getLast?_concat] at hd
      cases hd
      rw [bk_bk h.tail.head] at e
      exact hr.1 e.symm
/-- words that have one short word -/
theorem sh_cancel_r {u v x : List Nat} (hu : AL u) (hv : AL v) (hx : AL x) (e : sh (u ++ x) = sh (v ++ x)) : sh u = sh v := by
  have h1 : sh ((u ++ x) ++ rv x) = sh ((v ++ x) ++ rv x) := sh_congr (hu.app hx) hx.rv (hv.app hx) hx.rv e rfl
  rw [List.append_assoc, List.append_assoc] at h1
  have h2 : ∀ {y : List Nat}, AL y → sh (y ++ (x ++ rv x)) = sh y := fun {y} hy => by
    rw [sh_app_sh hy (hx.app hx.rv), sh_rv_r hx, List.append_nil, sh_sh hy]
  rw [h2 hu, h2 hv] at h1
  exact h1
theorem sh_rv {u : List Nat} (h : AL u) : sh (rv u) = rv (sh u) := by
  have h1 : sh (rv u ++ u) = sh (rv (sh u) ++ u) := by
    rw [sh_rv_l h, sh_app_sh (sh_AL h).rv h]
    have h2 : sh (rv (sh u)) = rv (sh u) := sh_of_red (sh_AL h).rv (red_rv (sh_AL h) (sh_red h))
    rw [h2, sh_rv_l (sh_AL h)]
  have h3 := sh_cancel_r h.rv (sh_AL h).rv h h1
  rw [h3]
  exact sh_of_red (sh_AL h).rv (red_rv (sh_AL h) (sh_red h))
/-! ### what is asked of short, back, times -/
theorem back_is {u : List Nat} (h : AL u) : sh (rv u) = rv (sh u) := sh_rv h
theorem back_back {u : List Nat} (h : AL u) : sh (rv (sh (rv u))) = sh u := by
  rw [sh_rv (sh_AL h.rv), sh_sh h.rv, sh_rv h, rv_rv (sh_AL h)]
theorem back_times {u : List Nat} (h : AL u) : sh (sh (rv u) ++ u) = [] := by
  rw [sh_app_sh (sh_AL h.rv) h, sh_sh h.rv, ← sh_app_sh h.rv h, sh_rv_l h]
/-- either short, or a letter with its back right behind it stands somewhere -/
theorem red_or {w : List Nat} (hw : AL w) : Red w ∨ ∃ i c, w[i]? = some c ∧ w[i + 1]? = some (bk c) := by
  induction w with
  | nil => exact .inl trivial
  | cons a r ih =>
    rcases ih hw.tail with h | ⟨i, c, h1, h2⟩
    · cases r with
      | nil => exact .inl trivial
      | cons b r =>
        by_cases e : b = bk a
        · exact .inr ⟨0, a, rfl, by rw [e]; rfl⟩
        · exact .inl ⟨e, h⟩
    · exact .inr ⟨i + 1, c, by simpa using h1, by simpa using h2⟩
end Gw

/-! ### the program's own functions, plain -/
namespace Gw
/-! tables -/
section
variable {κ β : Type} [DecidableEq κ]
def aget : List (κ × β) → κ → Option β
  | [], _ => none
  | p :: r, k => if p.1 = k then some p.2 else aget r k
def ahas (l : List (κ × β)) (k : κ) : Bool := l.any fun p => decide (p.1 = k)
def aput (l : List (κ × β)) (k : κ) (b : β) : List (κ × β) := if ahas l k = true then l.map (fun p => if p.1 = k then (p.1, b) else p) else l ++ [(k, b)]
theorem ahas_get (k : κ) : ∀ l : List (κ × β), ahas l k = (aget l k).isSome
  | [] => rfl
  | p :: r => by
    unfold ahas aget
    rw [List.any_cons]
    by_cases e : p.1 = k
    · simp [e]
    · have := ahas_get k r
      unfold ahas at this
      simp [e, this]
theorem aget_map (k j : κ) (b : β) : ∀ l : List (κ × β), aget (l.map fun p => if p.1 = k then (p.1, b) else p) j = (aget l j).map fun x => if j = k then b else x
  | [] => rfl
  | p :: r => by
    have ih := aget_map k j b r
    rw [List.map_cons]
    unfold aget
    by_cases h : p.1 = k
    · rw [if_pos h]
      by_cases e : p.1 = j
      · have ejk : j = k := e.symm.trans h
        simp [h, ejk]
      · rw [if_neg e, if_neg e, ih]
    · rw [if_neg h]
      by_cases e : p.1 = j
      · have ejk : ¬ j = k := fun z => h (e.trans z)
        simp [e, ejk]
      · rw [if_neg e, if_neg e, ih]
theorem aget_snoc (k j : κ) (b : β) : ∀ l : List (κ × β), aget (l ++ [(k, b)]) j = if (aget l j).isSome then aget l j else if j = k then some b else none
  | [] => by
    by_cases e : k = j
    · simp [aget, e]
    · have : ¬ j = k := fun z => e z.symm
      simp [aget, e, this]
  | p :: r => by
    have ih := aget_snoc k j b r
    rw [List.cons_append]
    unfold aget
    by_cases e : p.1 = j
    · simp [e]
    · rw [if_neg e, if_neg e, ih]
theorem aget_put (l : List (κ × β)) (k j : κ) (b : β) : aget (aput l k b) j = if j = k then some b else aget l j := by
  unfold aput
  by_cases h : ahas l k = true
  · rw [if_pos h, aget_map]
    rw [ahas_get] at h
    by_cases e : j = k
    · subst e
      rw [if_pos rfl]
      cases q : aget l j with
      | none => rw [q] at h; cases h
      | some x => simp
    · rw [if_neg e]
      cases q : aget l j <;> simp [e]
  · rw [if_neg h, aget_snoc]
    rw [ahas_get] at h
    by_cases e : j = k
    · subst e
      rw [if_neg h, if_pos rfl, if_pos rfl]
    · rw [if_neg e, if_neg e]
      cases q : aget l j <;> simp
theorem aput_len (l : List (κ × β)) (k : κ) (b : β) : (aput l k b).length ≤ l.length + 1 := by
  unfold aput
  split
  · rw [List.length_map]
    omega
  · rw [List.length_append]
    exact Nat.le_refl _
end
/-! rows of numbers -/
def joinStep (k : List Int) (n : Int) : List Int := if k.getLast? = some (-n) then k.dropLast else k ++ [n]
def joined (u v : List Int) : List Int := v.foldl joinStep u
def behindN (u : List Int) : List Int := u.reverse.map fun n => -n
theorem joinStep_len (k : List Int) (n : Int) : (joinStep k n).length ≤ k.length + 1 := by
  unfold joinStep
  split
  · rw [List.length_dropLast]
    omega
  · rw [List.length_append]
    exact Nat.le_refl _
theorem joined_len : ∀ (v u : List Int), (joined u v).length ≤ u.length + v.length
  | [], u => Nat.le_refl _
  | n :: v, u => by
    have h1 := joined_len v (joinStep u n)
    have h2 := joinStep_len u n
    show (joined (joinStep u n) v).length ≤ _
    rw [List.length_cons]
    omega
theorem behindN_len (u : List Int) : (behindN u).length = u.length := by
  unfold behindN
  rw [List.length_map, List.length_reverse]
/-! ties: a room, a small letter, a room, numbers -/
abbrev T4 := Nat × Nat × Nat × List Int
abbrev T3 := Nat × Nat × Nat
def T4.t3 (t : T4) : T3 := (t.1, t.2.1, t.2.2.1)
def smallL (c : Nat) : Bool := decide (97 ≤ c ∧ c ≤ 122)
/-- rings: the next tie, the next fresh room, the next room -/
def ringStep (k n : Nat) (st : List T4 × Nat × Nat) (p : Nat × Nat) : List T4 × Nat × Nat :=
  let goal := if p.2 + 1 = n then 0 else st.2.1
  let fresh := if p.2 + 1 = n then st.2.1 else st.2.1 + 1
  let ns : List Int := if p.2 = 0 then [(k : Int) + 1] else []
  (st.1 ++ [if smallL p.1 then (st.2.2, p.1, goal, ns) else (goal, bk p.1, st.2.2, behindN ns)], fresh, goal)
def ringWord (st : List T4 × Nat) (w : List Nat × Nat) : List T4 × Nat :=
  let r := w.1.zipIdx.foldl (ringStep w.2 w.1.length) (st.1, st.2, 0)
  (r.1, r.2.1)
def rings (ws : List (List Nat)) : List T4 := (ws.zipIdx.foldl ringWord ([], 1)).1
/-- the room at an end: 0 the begin, else the goal -/
def endAt (t : T4) (e : Nat) : Nat := if e = 0 then t.1 else t.2.2.1
def inOrder (o t : T4) (e : Nat) : T4 × T4 × Nat := if endAt t e = 0 then (t, o, e) else (o, t, e)
def pairGo : List T4 → List ((Nat × Nat) × T4) → List ((Nat × Nat) × T4) → Option (T4 × T4 × Nat)
  | [], _, _ => none
  | t :: r, B, E => match aget B (t.1, t.2.1) with
    | some o => some (inOrder o t 2)
    | none => match aget E (t.2.2.1, t.2.1) with
      | some o => some (inOrder o t 0)
      | none => pairGo r (aput B (t.1, t.2.1) t) (aput E (t.2.2.1, t.2.1) t)
def pairOf (ts : List T4) : Option (T4 × T4 × Nat) := pairGo ts [] []
def movedT (away stay : Nat) (ns : List Int) (t : T4) : T4 :=
  let n1 := if t.1 = away then joined ns t.2.2.2 else t.2.2.2
  let n2 := if t.2.2.1 = away then joined n1 (behindN ns) else n1
  (if t.1 = away then stay else t.1, t.2.1, if t.2.2.1 = away then stay else t.2.2.1, n2)
def glueNs (o t : T4) (e : Nat) : List Int := if e = 0 then joined o.2.2.2 (behindN t.2.2.2) else joined (behindN o.2.2.2) t.2.2.2
def glueStep (ts : List T4) (o t : T4) (e : Nat) : List T4 :=
  if endAt o e ≠ endAt t e then (ts.erase t).map (movedT (endAt t e) (endAt o e) (glueNs o t e)) else ts.erase t
def glueN : Nat → List T4 → List T4
  | 0, ts => ts
  | n + 1, ts => match pairOf ts with
    | none => ts
    | some (o, t, e) => glueN n (glueStep ts o t e)
def glue (ts : List T4) : List T4 := glueN ts.length ts
/-! steps, rooms as they are found -/
def stepPut (m : List ((Nat × Nat) × Nat)) (t : T3) : List ((Nat × Nat) × Nat) := aput (aput m (t.1, t.2.1) t.2.2) (t.2.2, bk t.2.1) t.1
def stepsOf (ts : List T3) : List ((Nat × Nat) × Nat) := ts.foldl stepPut []
abbrev Found := List (Nat × List Nat)
def tryL (st : Nat → Nat → Option Nat) (r : Nat) (way : List Nat) (f : Found) (c : Nat) : Found :=
  let g := (st r c).getD 0
  if ahas f g = true then f else f ++ [(g, way ++ [c])]
def bothL (ls : List Nat) : List Nat := ls.flatMap fun c => [c, bk c]
def tryBoth (st : Nat → Nat → Option Nat) (r : Nat) (way : List Nat) (f : Found) (c : Nat) : Found := tryL st r way (tryL st r way f c) (bk c)
def tryRoom (st : Nat → Nat → Option Nat) (ls : List Nat) (f : Found) (r : Nat) (way : List Nat) : Found := ls.foldl (tryBoth st r way) f
def bfs (st : Nat → Nat → Option Nat) (ls : List Nat) : Nat → Nat → Found → Found
  | 0, _, f => f
  | n + 1, i, f => match f[i]? with
    | none => f
    | some p => bfs st ls n (i + 1) (tryRoom st ls f p.1 p.2)
/-- the letters of ties, sorted, each once -/
def lettersOf (ts : List T3) : List Nat := (List.range 26).map (97 + ·) |>.filter fun c => ts.any fun t => decide (t.2.1 = c)
def stepF (ts : List T3) (r c : Nat) : Option Nat := aget (stepsOf ts) (r, c)
def foundRooms (ts : List T3) : Found := bfs (stepF ts) (lettersOf ts) (2 * ts.length + 2) 0 [(0, [])]
def numOf (f : Found) (r : Nat) : Nat := (f.map (·.1)).idxOf r
def leT3 (s t : T3) : Bool := decide (s.1 < t.1 ∨ (s.1 = t.1 ∧ (s.2.1 < t.2.1 ∨ (s.2.1 = t.2.1 ∧ s.2.2 ≤ t.2.2))))
def numberedT (ts : List T3) : List T3 := (ts.map fun t => (numOf (foundRooms ts) t.1, t.2.1, numOf (foundRooms ts) t.2.2)).mergeSort leT3
def gluedOf (ws : List (List Nat)) : List T4 := glue (rings (ws.map sh))
def webOf (ws : List (List Nat)) : List T3 := numberedT ((gluedOf ws).map T4.t3)
end Gw

/-! ### gluing, plain -/
namespace Gw
/-- how two ties meet: one letter, one room at the other end -/
def MeetAt (o t : T4) (e : Nat) : Prop := o.2.1 = t.2.1 ∧ ((e = 2 ∧ o.1 = t.1) ∨ (e = 0 ∧ o.2.2.1 = t.2.2.1))
structure PairOk (ts : List T4) (r : T4 × T4 × Nat) : Prop where
  o_in : r.1 ∈ ts
  t_in : r.2.1 ∈ ts
  end_ : r.2.2 = 0 ∨ r.2.2 = 2
  meet : MeetAt r.1 r.2.1 r.2.2
  zero : endAt r.2.1 r.2.2 = 0 → endAt r.1 r.2.2 = 0
theorem inOrder_ok {ts : List T4} {o t : T4} {e : Nat} (ho : o ∈ ts) (ht : t ∈ ts) (he : e = 0 ∨ e = 2) (hm : MeetAt o t e) : PairOk ts (inOrder o t e) := by
  unfold inOrder
  by_cases h : endAt t e = 0
  · rw [if_pos h]
    refine ⟨ht, ho, he, ⟨hm.1.symm, ?_⟩, fun _ => h⟩
    rcases hm.2 with ⟨a, b⟩ | ⟨a, b⟩
    · exact .inl ⟨a, b.symm⟩
    · exact .inr ⟨a, b.symm⟩
  · rw [if_neg h]
    exact ⟨ho, ht, he, hm, fun z => absurd z h⟩
/-- what stands in the tables -/
def TabIn (S : List T4) (key : T4 → Nat × Nat) (B : List ((Nat × Nat) × T4)) : Prop := ∀ k o, aget B k = some o → o ∈ S ∧ key o = k
theorem TabIn.put {S : List T4} {key : T4 → Nat × Nat} {B : List ((Nat × Nat) × T4)} {t : T4} (h : TabIn S key B) (ht : t ∈ S) : TabIn S key (aput B (key t) t) := fun k o e => by
  rw [aget_put] at e
  by_cases z : k = key t
  · rw [if_pos z] at e
    cases e
    exact ⟨ht, z.symm⟩
  · rw [if_neg z] at e
    exact h k o e
theorem pairGo_ok {S : List T4} : ∀ (ts : List T4) (B E : List ((Nat × Nat) × T4)), (∀ t ∈ ts, t ∈ S) → TabIn S (fun t => (t.1, t.2.1)) B → TabIn S (fun t => (t.2.2.1, t.2.1)) E → ∀ r, pairGo ts B E = some r → PairOk S r
  | [], _, _, _, _, _, r, h => by cases h
  | t :: ts, B, E, hS, hB, hE, r, h => by
    have ht := hS t List.mem_cons_self
    unfold pairGo at h
    cases g : aget B (t.1, t.2.1) with
    | some o =>
      rw [g] at h
      cases h
      obtain ⟨h1, h2⟩ := hB _ _ g
      simp only [Prod.mk.injEq] at h2
      exact inOrder_ok h1 ht (.inr rfl) ⟨h2.2, .inl ⟨rfl, h2.1⟩⟩
    | none =>
      rw [g] at h
      dsimp only at h
      cases g2 : aget E (t.2.2.1, t.2.1) with
      | some o =>
        rw [g2] at h
        cases h
        obtain ⟨h1, h2⟩ := hE _ _ g2
        simp only [Prod.mk.injEq] at h2
        exact inOrder_ok h1 ht (.inl rfl) ⟨h2.2, .inr ⟨rfl, h2.1⟩⟩
      | none =>
        rw [g2] at h
        exact pairGo_ok ts _ _ (fun x hx => hS x (List.mem_cons_of_mem _ hx)) (hB.put (key := fun t => (t.1, t.2.1)) ht) (hE.put (key := fun t => (t.2.2.1, t.2.1)) ht) r h
theorem pairOf_ok {ts : List T4} {r : T4 × T4 × Nat} (h : pairOf ts = some r) : PairOk ts r :=
  pairGo_ok ts [] [] (fun _ h => h) (fun _ _ e => by cases e) (fun _ _ e => by cases e) r h
theorem glueStep_len {ts : List T4} {o t : T4} {e : Nat} (h : t ∈ ts) : (glueStep ts o t e).length + 1 = ts.length := by
  have h1 := List.length_erase_of_mem h
  have h2 := List.length_pos_of_mem h
  unfold glueStep
  split
  · rw [List.length_map]
    omega
  · omega
/-- the sizes at one turn -/
def StepFine (ts : List T4) (o t : T4) (e : Nat) : Prop := o.2.2.2.length + t.2.2.2.length < 16000000 ∧ (endAt o e ≠ endAt t e → ∀ x ∈ ts, x.1 = endAt t e ∨ x.2.2.1 = endAt t e → x.2.2.2.length + 2 * (glueNs o t e).length ≤ 16000000)
def Fine : Nat → List T4 → Prop
  | 0, _ => True
  | n + 1, ts => ∀ o t e, pairOf ts = some (o, t, e) → StepFine ts o t e ∧ Fine n (glueStep ts o t e)
/-- as far as it goes: so many turns are enough -/
theorem glueN_more : ∀ (n : Nat) (ts : List T4), ts.length ≤ n → ∀ m, n ≤ m → glueN m ts = glueN n ts
  | 0, ts, h, m, _ => by
    have : ts = [] := List.length_eq_zero_iff.mp (by omega)
    subst this
    cases m with
    | zero => rfl
    | succ m => rfl
  | n + 1, ts, h, m, hm => by
    obtain ⟨m, rfl⟩ : ∃ k, m = k + 1 := ⟨m - 1, by omega⟩
    unfold glueN
    cases g : pairOf ts with
    | none => rfl
    | some r =>
      obtain ⟨o, t, e⟩ := r
      have hl : (glueStep ts o t e).length + 1 = ts.length := glueStep_len (pairOf_ok g).t_in
      exact glueN_more n _ (by omega) m (by omega)
theorem glueNs_len (o t : T4) (e : Nat) : (glueNs o t e).length ≤ o.2.2.2.length + t.2.2.2.length := by
  unfold glueNs
  split
  · have := joined_len (behindN t.2.2.2) o.2.2.2
    rw [behindN_len] at this
    exact this
  · have := joined_len t.2.2.2 (behindN o.2.2.2)
    rw [behindN_len] at this
    exact this
theorem glue_none {ts : List T4} (h : pairOf ts = none) : glue ts = ts := by
  unfold glue
  cases ts.length with
  | zero => rfl
  | succ n =>
    unfold glueN
    rw [h]
theorem glue_some {ts : List T4} {o t : T4} {e : Nat} (h : pairOf ts = some (o, t, e)) : glue ts = glue (glueStep ts o t e) := by
  have hl : (glueStep ts o t e).length + 1 = ts.length := glueStep_len (pairOf_ok h).t_in
  unfold glue
  rw [← hl]
  conv => lhs; unfold glueN
  rw [h]
/-- ties' letters stay -/
theorem glueStep_mem {ts : List T4} {o t : T4} {e : Nat} {x : T4} (h : x ∈ glueStep ts o t e) : ∃ y ∈ ts, x.2.1 = y.2.1 := by
  unfold glueStep at h
  split at h
  · obtain ⟨y, hy, rfl⟩ := List.mem_map.mp h
    exact ⟨y, List.mem_of_mem_erase hy, rfl⟩
  · exact ⟨x, List.mem_of_mem_erase h, rfl⟩
theorem erase_idx {α : Type} [BEq α] [LawfulBEq α] : ∀ (l : List α) (x : α), l.erase x = l.eraseIdx (l.idxOf x)
  | [], _ => rfl
  | y :: l, x => by
    by_cases h : (y == x) = true
    · have e := eq_of_beq h
      subst e
      simp [List.idxOf_cons]
    · have ih := erase_idx l x
      have e : (y == x) = false := by simpa using h
      rw [List.erase_cons, List.idxOf_cons, e]
      simp [ih]
end Gw

/-! ### steps, rooms found: plain -/
namespace Gw
theorem stepPut_len (m : List ((Nat × Nat) × Nat)) (t : T3) : (stepPut m t).length ≤ m.length + 2 := by
  unfold stepPut
  have h1 := aput_len (aput m (t.1, t.2.1) t.2.2) (t.2.2, bk t.2.1) t.1
  have h2 := aput_len m (t.1, t.2.1) t.2.2
  omega
theorem steps_len : ∀ (ts : List T3) (m : List ((Nat × Nat) × Nat)), (ts.foldl stepPut m).length ≤ m.length + 2 * ts.length
  | [], m => Nat.le_refl _
  | t :: ts, m => by
    have h1 := steps_len ts (stepPut m t)
    have h2 := stepPut_len m t
    rw [List.foldl_cons, List.length_cons]
    omega
theorem stepsOf_len (ts : List T3) : (stepsOf ts).length ≤ 2 * ts.length := by
  have := steps_len ts []
  rw [List.length_nil, Nat.zero_add] at this
  exact this
theorem nodup_len : ∀ (l D : List Nat), l.Nodup → (∀ x ∈ l, x ∈ D) → l.length ≤ D.length
  | [], D, _, _ => Nat.zero_le _
  | x :: l, D, h, hs => by
    obtain ⟨h1, h2⟩ := List.nodup_cons.mp h
    have hx := hs x List.mem_cons_self
    have hl := nodup_len l (D.erase x) h2 fun y hy => by
      have hne : y ≠ x := fun e => h1 (e ▸ hy)
      exact (List.mem_erase_of_ne hne).mpr (hs y (List.mem_cons_of_mem _ hy))
    have := List.length_erase_of_mem hx
    have := List.length_pos_of_mem hx
    rw [List.length_cons]
    omega
theorem aget_mem {κ β : Type} [DecidableEq κ] {k : κ} {b : β} : ∀ {l : List (κ × β)}, aget l k = some b → (k, b) ∈ l
  | p :: r, h => by
    unfold aget at h
    by_cases e : p.1 = k
    · rw [if_pos e] at h
      cases h
      rw [← e]
      exact List.mem_cons_self
    · rw [if_neg e] at h
      exact List.mem_cons_of_mem _ (aget_mem h)
theorem ahas_mem {κ β : Type} [DecidableEq κ] {k : κ} {l : List (κ × β)} : ahas l k = true ↔ k ∈ l.map (·.1) := by
  unfold ahas
  rw [List.any_eq_true, List.mem_map]
  constructor
  · rintro ⟨p, hp, e⟩
    exact ⟨p, hp, of_decide_eq_true e⟩
  · rintro ⟨p, hp, e⟩
    exact ⟨p, hp, decide_eq_true e⟩
/-- what the rows of found rooms keep: 0 first, each once, all goals, ways not longer than the place -/
structure FOk (D : List Nat) (f : Found) : Prop where
  zero : ∃ r, f = (0, []) :: r
  nd : (f.map (·.1)).Nodup
  sub : ∀ x ∈ f.map (·.1), x ∈ D
  way : ∀ (i : Nat) p, f[i]? = some p → p.2.length ≤ i
theorem FOk.len {D : List Nat} {f : Found} (h : FOk D f) : f.length ≤ D.length := by
  have := nodup_len _ _ h.nd h.sub
  rwa [List.length_map] at this
theorem FOk.has0 {D : List Nat} {f : Found} (h : FOk D f) : ahas f 0 = true := by
  obtain ⟨r, rfl⟩ := h.zero
  unfold ahas
  rw [List.any_cons]
  rfl
theorem FOk.init {D : List Nat} (h : 0 ∈ D) : FOk D [(0, [])] where
  zero := ⟨[], rfl⟩
  nd := by simp
  sub := fun x hx => by
    rw [List.map_cons, List.map_nil, List.mem_singleton] at hx
    rw [hx]
    exact h
  way := fun i p h => by
    cases i with
    | zero =>
      rw [List.getElem?_cons_zero] at h
      cases h
      exact Nat.le_refl _
    | succ i => simp at h
theorem FOk.tryL {D : List Nat} {f : Found} {st : Nat → Nat → Option Nat} {r c i : Nat} {way : List Nat} (h : FOk D f) (hD : ∀ g, st r c = some g → g ∈ D) (hw : way.length ≤ i) (hi : i < f.length) : FOk D (tryL st r way f c) := by
  unfold Gw.tryL
  dsimp only
  by_cases hh : ahas f ((st r c).getD 0) = true
  · rw [if_pos hh]
    exact h
  · rw [if_neg hh]
    have hs : ∃ g, st r c = some g := by
      cases q : st r c with
      | some g => exact ⟨g, rfl⟩
      | none =>
        rw [q] at hh
        exact absurd h.has0 hh
    obtain ⟨g, hg⟩ := hs
    rw [hg] at hh ⊢
    have hh : ¬ ahas f g = true := hh
    rw [Option.getD_some]
    obtain ⟨r0, hz⟩ := h.zero
    refine ⟨⟨r0 ++ [(g, way ++ [c])], by rw [hz]; rfl⟩, ?_, ?_, ?_⟩
    · rw [List.map_append, List.map_cons, List.map_nil]
      rw [ahas_mem] at hh
      refine List.nodup_append.mpr ⟨h.nd, by simp, fun a ha b hb e => ?_⟩
      rw [List.mem_singleton] at hb
      rw [e, hb] at ha
      exact hh ha
    · intro x hx
      rw [List.map_append, List.mem_append] at hx
      rcases hx with hx | hx
      · exact h.sub x hx
      · rw [List.map_cons, List.map_nil, List.mem_singleton] at hx
        rw [hx]
        exact hD g hg
    · intro j p hp
      by_cases hj : j < f.length
      · rw [List.getElem?_append_left hj] at hp
        exact h.way j p hp
      · rw [List.getElem?_append_right (by omega)] at hp
        have hj2 : j - f.length = 0 := by
          have := (List.getElem?_eq_some_iff.mp hp).1
          rw [List.length_singleton] at this
          omega
        rw [hj2] at hp
        cases hp
        rw [List.length_append]
        show way.length + 1 ≤ j
        omega
theorem tryL_pre {st : Nat → Nat → Option Nat} {r c : Nat} {way : List Nat} {f : Found} : ∃ x, tryL st r way f c = f ++ x := by
  unfold Gw.tryL
  dsimp only
  split
  · exact ⟨[], (List.append_nil f).symm⟩
  · exact ⟨_, rfl⟩
theorem tryBoth_pre {st : Nat → Nat → Option Nat} {r c : Nat} {way : List Nat} {f : Found} : ∃ x, tryBoth st r way f c = f ++ x := by
  unfold tryBoth
  obtain ⟨x, hx⟩ := tryL_pre (st := st) (r := r) (c := c) (way := way) (f := f)
  obtain ⟨y, hy⟩ := tryL_pre (st := st) (r := r) (c := bk c) (way := way) (f := f ++ x)
  rw [hx, hy]
  exact ⟨x ++ y, by rw [List.append_assoc]⟩
theorem foldBoth_pre {st : Nat → Nat → Option Nat} {r : Nat} {way : List Nat} : ∀ (ls : List Nat) (f : Found), ∃ x, ls.foldl (tryBoth st r way) f = f ++ x
  | [], f => ⟨[], (List.append_nil f).symm⟩
  | c :: ls, f => by
    obtain ⟨x, hx⟩ := tryBoth_pre (st := st) (r := r) (c := c) (way := way) (f := f)
    obtain ⟨y, hy⟩ := foldBoth_pre (st := st) (r := r) (way := way) ls (f ++ x)
    rw [List.foldl_cons, hx, hy]
    exact ⟨x ++ y, by rw [List.append_assoc]⟩
theorem FOk.foldBoth {D : List Nat} {st : Nat → Nat → Option Nat} {r i : Nat} {way : List Nat} (hD : ∀ c g, st r c = some g → g ∈ D) (hw : way.length ≤ i) : ∀ (ls : List Nat) (f : Found), FOk D f → i < f.length → FOk D (ls.foldl (tryBoth st r way) f)
  | [], f, h, _ => h
  | c :: ls, f, h, hi => by
    rw [List.foldl_cons]
    have h1 := h.tryL (c := c) (hD c) hw hi
    have hl1 : i < (Gw.tryL st r way f c).length := by
      obtain ⟨x, hx⟩ := tryL_pre (st := st) (r := r) (c := c) (way := way) (f := f)
      rw [hx, List.length_append]
      omega
    have h2 := h1.tryL (c := bk c) (hD (bk c)) hw hl1
    refine FOk.foldBoth hD hw ls _ h2 ?_
    obtain ⟨x, hx⟩ := tryBoth_pre (st := st) (r := r) (c := c) (way := way) (f := f)
    show i < (tryBoth st r way f c).length
    rw [hx, List.length_append]
    omega
/-- all that may be found -/
def goalsOf (ts : List T3) : List Nat := 0 :: (stepsOf ts).map (·.2)
theorem goalsOf_len (ts : List T3) : (goalsOf ts).length ≤ 2 * ts.length + 1 := by
  unfold goalsOf
  rw [List.length_cons, List.length_map]
  have := stepsOf_len ts
  omega
theorem stepF_goal {ts : List T3} {r c g : Nat} (h : stepF ts r c = some g) : g ∈ goalsOf ts := List.mem_cons_of_mem _ (List.mem_map.mpr ⟨_, aget_mem h, rfl⟩)
/-- strictly rising lists with the same members -/
theorem rise_ext : ∀ {l m : List Nat}, l.Pairwise (· < ·) → m.Pairwise (· < ·) → (∀ x, x ∈ l ↔ x ∈ m) → l = m
  | [], [], _, _, _ => rfl
  | [], y :: m, _, _, h => absurd ((h y).mpr List.mem_cons_self) (by simp)
  | x :: l, [], _, _, h => absurd ((h x).mp List.mem_cons_self) (by simp)
  | x :: l, y :: m, hl, hm, h => by
    obtain ⟨h1, h2⟩ := List.pairwise_cons.mp hl
    obtain ⟨h3, h4⟩ := List.pairwise_cons.mp hm
    have e : x = y := by
      rcases List.mem_cons.mp ((h x).mp List.mem_cons_self) with e | e
      · exact e
      · rcases List.mem_cons.mp ((h y).mpr List.mem_cons_self) with e2 | e2
        · exact e2.symm
        · have a := h3 x e
          have b := h1 y e2
          omega
    subst e
    rw [rise_ext h2 h4 fun z => ?_]
    constructor
    · intro hz
      rcases List.mem_cons.mp ((h z).mp (List.mem_cons_of_mem _ hz)) with e | e
      · have := h1 z hz
        omega
      · exact e
    · intro hz
      rcases List.mem_cons.mp ((h z).mpr (List.mem_cons_of_mem _ hz)) with e | e
      · have := h3 z hz
        omega
      · exact e
theorem lettersOf_rise (ts : List T3) : (lettersOf ts).Pairwise (· < ·) := by
  unfold lettersOf
  refine List.Pairwise.filter _ ?_
  rw [List.pairwise_map]
  exact (List.pairwise_lt_range).imp fun h => by omega
theorem lettersOf_mem {ts : List T3} (h : ∀ t ∈ ts, 97 ≤ t.2.1 ∧ t.2.1 ≤ 122) (c : Nat) : c ∈ lettersOf ts ↔ c ∈ ts.map fun t => t.2.1 := by
  unfold lettersOf
  rw [List.mem_filter, List.mem_map, List.mem_map, List.any_eq_true]
  constructor
  · rintro ⟨_, t, ht, e⟩
    exact ⟨t, ht, of_decide_eq_true e⟩
  · rintro ⟨t, ht, rfl⟩
    have := h t ht
    exact ⟨⟨t.2.1 - 97, List.mem_range.mpr (by omega), by omega⟩, t, ht, decide_eq_true rfl⟩
end Gw

/-! ### ways along ties; what gluing keeps: plain -/
namespace Gw
/-- a step by a letter, or its back -/
def St (ts : List T3) (r c g : Nat) : Prop := (smallL c = true ∧ (r, c, g) ∈ ts) ∨ (smallL c = false ∧ (g, bk c, r) ∈ ts)
def Walk (ts : List T3) : Nat → List Nat → Nat → Prop
  | a, [], b => a = b
  | a, c :: w, b => ∃ m, St ts a c m ∧ Walk ts m w b
theorem Walk.app {ts : List T3} : ∀ {u : List Nat} {a b c : Nat} {v : List Nat}, Walk ts a u b → Walk ts b v c → Walk ts a (u ++ v) c
  | [], _, _, _, _, h, h' => by
    have h : _ = _ := h
    rw [h]
    exact h'
  | _ :: _, _, _, _, _, ⟨m, h1, h2⟩, h' => ⟨m, h1, Walk.app h2 h'⟩
theorem Walk.split {ts : List T3} : ∀ {u : List Nat} {a c : Nat} {v : List Nat}, Walk ts a (u ++ v) c → ∃ b, Walk ts a u b ∧ Walk ts b v c
  | [], a, _, _, h => ⟨a, rfl, h⟩
  | _ :: _, _, _, _, ⟨m, h1, h2⟩ => by
    obtain ⟨b, h3, h4⟩ := Walk.split h2
    exact ⟨b, ⟨m, h1, h3⟩, h4⟩
/-- each word leads round, each tie lies on a way round -/
structure Rounds (ws : List (List Nat)) (ts : List T3) : Prop where
  round : ∀ w ∈ ws, Walk ts 0 w 0
  on : ∀ t ∈ ts, ∃ w ∈ ws, ∃ u c v a b, w = u ++ c :: v ∧ Walk ts 0 u a ∧ Walk ts b v 0 ∧ ((smallL c = true ∧ t = (a, c, b)) ∨ (smallL c = false ∧ t = (b, bk c, a)))
def mapT (φ : Nat → Nat) (t : T3) : T3 := (φ t.1, t.2.1, φ t.2.2)
theorem St.map {ts ts' : List T3} {φ : Nat → Nat} (h : ∀ t ∈ ts, mapT φ t ∈ ts') {r c g : Nat} (s : St ts r c g) : St ts' (φ r) c (φ g) := by
  rcases s with ⟨a, b⟩ | ⟨a, b⟩
  · exact .inl ⟨a, h _ b⟩
  · exact .inr ⟨a, h _ b⟩
theorem Walk.map {ts ts' : List T3} {φ : Nat → Nat} (h : ∀ t ∈ ts, mapT φ t ∈ ts') : ∀ {w : List Nat} {a b : Nat}, Walk ts a w b → Walk ts' (φ a) w (φ b)
  | [], _, _, e => congrArg φ e
  | _ :: _, _, _, ⟨m, h1, h2⟩ => ⟨φ m, h1.map h, Walk.map h h2⟩
theorem Rounds.map {ws : List (List Nat)} {ts ts' : List T3} {φ : Nat → Nat} (h0 : φ 0 = 0) (h1 : ∀ t ∈ ts, mapT φ t ∈ ts') (h2 : ∀ t' ∈ ts', ∃ t ∈ ts, t' = mapT φ t) (R : Rounds ws ts) : Rounds ws ts' where
  round := fun w hw => by
    have := Walk.map h1 (R.round w hw)
    rwa [h0] at this
  on := fun t' ht' => by
    obtain ⟨t, ht, rfl⟩ := h2 t' ht'
    obtain ⟨w, hw, u, c, v, a, b, e, hu, hv, hc⟩ := R.on t ht
    have h3 := Walk.map h1 hu
    have h4 := Walk.map h1 hv
    rw [h0] at h3 h4
    refine ⟨w, hw, u, c, v, φ a, φ b, e, h3, h4, ?_⟩
    rcases hc with ⟨s, rfl⟩ | ⟨s, rfl⟩
    · exact .inl ⟨s, rfl⟩
    · exact .inr ⟨s, rfl⟩
/-! the pair that is found -/
theorem pairGo_rest {S : List T4} : ∀ (ts pre : List T4) (B E : List ((Nat × Nat) × T4)), S = pre ++ ts → TabIn pre (fun t => (t.1, t.2.1)) B → TabIn pre (fun t => (t.2.2.1, t.2.1)) E → ∀ r, pairGo ts B E = some r → r.1 ∈ S.erase r.2.1
  | [], _, _, _, _, _, _, r, h => by cases h
  | t :: ts, pre, B, E, hS, hB, hE, r, h => by
    have key : ∀ o e, o ∈ pre → (inOrder o t e).1 ∈ S.erase (inOrder o t e).2.1 := by
      intro o e ho
      unfold inOrder
      by_cases hz : endAt t e = 0
      · rw [if_pos hz]
        show t ∈ S.erase o
        rw [hS, List.erase_append_left _ ho]
        exact List.mem_append_right _ List.mem_cons_self
      · rw [if_neg hz]
        show o ∈ S.erase t
        rw [hS]
        by_cases ht : t ∈ pre
        · rw [List.erase_append_left _ ht]
          by_cases e2 : o = t
          · rw [e2]
            exact List.mem_append_right _ List.mem_cons_self
          · exact List.mem_append_left _ ((List.mem_erase_of_ne e2).mpr ho)
        · rw [List.erase_append_right _ ht]
          exact List.mem_append_left _ ho
    have pmono : ∀ {key : T4 → Nat × Nat} {T : List ((Nat × Nat) × T4)}, TabIn pre key T → TabIn (pre ++ [t]) key T := fun hT k o e => ⟨List.mem_append_left _ (hT k o e).1, (hT k o e).2⟩
    have tin : t ∈ pre ++ [t] := List.mem_append_right _ List.mem_cons_self
    unfold pairGo at h
    cases g : aget B (t.1, t.2.1) with
    | some o =>
      rw [g] at h
      cases h
      exact key o 2 (hB _ _ g).1
    | none =>
      rw [g] at h
      dsimp only at h
      cases g2 : aget E (t.2.2.1, t.2.1) with
      | some o =>
        rw [g2] at h
        cases h
        exact key o 0 (hE _ _ g2).1
      | none =>
        rw [g2] at h
        exact pairGo_rest ts (pre ++ [t]) _ _ (by rw [hS]; simp) ((pmono hB).put (key := fun t => (t.1, t.2.1)) tin) ((pmono hE).put (key := fun t => (t.2.2.1, t.2.1)) tin) r h
theorem pairOf_rest {ts : List T4} {r : T4 × T4 × Nat} (h : pairOf ts = some r) : r.1 ∈ ts.erase r.2.1 :=
  pairGo_rest ts [] [] [] rfl (fun _ _ e => by cases e) (fun _ _ e => by cases e) r h
/-- no two ties with one letter begin, or end, in one room -/
def Folded (ts : List T3) : Prop := ts.Pairwise fun s t => ¬ (s.1 = t.1 ∧ s.2.1 = t.2.1) ∧ ¬ (s.2.2 = t.2.2 ∧ s.2.1 = t.2.1)
theorem pairGo_none : ∀ (ts pre : List T4) (B E : List ((Nat × Nat) × T4)), (∀ s ∈ pre, (aget B (s.1, s.2.1)).isSome = true ∧ (aget E (s.2.2.1, s.2.1)).isSome = true) → (pre.map T4.t3).Pairwise (fun s t => ¬ (s.1 = t.1 ∧ s.2.1 = t.2.1) ∧ ¬ (s.2.2 = t.2.2 ∧ s.2.1 = t.2.1)) → pairGo ts B E = none → Folded ((pre ++ ts).map T4.t3)
  | [], pre, _, _, _, hp, _ => by
    rw [List.append_nil]
    exact hp
  | t :: ts, pre, B, E, hB, hp, h => by
    unfold pairGo at h
    cases g : aget B (t.1, t.2.1) with
    | some o =>
      rw [g] at h
      cases h
    | none =>
      rw [g] at h
      dsimp only at h
      cases g2 : aget E (t.2.2.1, t.2.1) with
      | some o =>
        rw [g2] at h
        cases h
      | none =>
        rw [g2] at h
        rw [show pre ++ t :: ts = (pre ++ [t]) ++ ts by simp]
        refine pairGo_none ts (pre ++ [t]) _ _ (fun s hs => ?_) ?_ h
        · rw [aget_put, aget_put]
          rcases List.mem_append.mp hs with hs | hs
          · obtain ⟨h1, h2⟩ := hB s hs
            constructor
            · split
              · rfl
              · exact h1
            · split
              · rfl
              · exact h2
          · rw [List.mem_singleton.mp hs, if_pos rfl, if_pos rfl]
            exact ⟨rfl, rfl⟩
        · rw [List.map_append]
          refine List.pairwise_append.mpr ⟨hp, List.pairwise_singleton _ _, fun a ha b hb => ?_⟩
          obtain ⟨s, hs, rfl⟩ := List.mem_map.mp ha
          rw [List.map_cons, List.map_nil, List.mem_singleton] at hb
          subst hb
          obtain ⟨h1, h2⟩ := hB s hs
          constructor
          · rintro ⟨e1, e2⟩
            have e1 : s.1 = t.1 := e1
            have e2 : s.2.1 = t.2.1 := e2
            rw [e1, e2, g] at h1
            cases h1
          · rintro ⟨e1, e2⟩
            have e1 : s.2.2.1 = t.2.2.1 := e1
            have e2 : s.2.1 = t.2.1 := e2
            rw [e1, e2, g2] at h2
            cases h2
theorem pairOf_none {ts : List T4} (h : pairOf ts = none) : Folded (ts.map T4.t3) := by
  have := pairGo_none ts [] [] [] (fun s hs => by cases hs) List.Pairwise.nil h
  rwa [List.nil_append] at this
/-- a turn keeps the ways round -/
theorem glueStep_rounds {ws : List (List Nat)} {ts : List T4} {o t : T4} {e : Nat} (hp : pairOf ts = some (o, t, e)) (R : Rounds ws (ts.map T4.t3)) : Rounds ws ((glueStep ts o t e).map T4.t3) := by
  have ok := pairOf_ok hp
  have rest : o ∈ ts.erase t := pairOf_rest hp
  have meet : MeetAt o t e := ok.meet
  have zero : endAt t e = 0 → endAt o e = 0 := ok.zero
  have hcase : e = 0 ∨ e = 2 := ok.end_
  unfold glueStep
  by_cases hne : endAt o e = endAt t e
  · rw [if_neg (fun z => z hne)]
    have et : t.t3 = o.t3 := by
      obtain ⟨m1, m2⟩ := meet
      unfold T4.t3
      rcases m2 with ⟨e2, m3⟩ | ⟨e2, m3⟩
      · subst e2
        have hne : o.2.2.1 = t.2.2.1 := hne
        rw [m1, m3, hne]
      · subst e2
        have hne : o.1 = t.1 := hne
        rw [m1, m3, hne]
    refine R.map (φ := fun x => x) rfl (fun x hx => ?_) (fun x hx => ?_)
    · obtain ⟨y, hy, rfl⟩ := List.mem_map.mp hx
      by_cases e2 : y = t
      · subst e2
        exact List.mem_map.mpr ⟨o, rest, et.symm⟩
      · exact List.mem_map.mpr ⟨y, (List.mem_erase_of_ne e2).mpr hy, rfl⟩
    · obtain ⟨y, hy, rfl⟩ := List.mem_map.mp hx
      exact ⟨y.t3, List.mem_map.mpr ⟨y, List.mem_of_mem_erase hy, rfl⟩, rfl⟩
  · rw [if_pos hne]
    obtain ⟨φ, hφ⟩ : ∃ φ : Nat → Nat, φ = fun x => if x = endAt t e then endAt o e else x := ⟨_, rfl⟩
    have h0 : φ 0 = 0 := by
      rw [hφ]
      dsimp only
      split
      · rename_i z
        exact zero z.symm
      · rfl
    have mt : ∀ x : T4, (movedT (endAt t e) (endAt o e) (glueNs o t e) x).t3 = mapT φ x.t3 := fun x => by
      rw [hφ]
      rfl
    have eo : mapT φ o.t3 = mapT φ t.t3 := by
      obtain ⟨m1, m2⟩ := meet
      rw [hφ]
      unfold mapT T4.t3
      dsimp only
      rcases m2 with ⟨e2, m3⟩ | ⟨e2, m3⟩
      · subst e2
        have hne : ¬ o.2.2.1 = t.2.2.1 := hne
        show (if o.1 = t.2.2.1 then o.2.2.1 else o.1, o.2.1, if o.2.2.1 = t.2.2.1 then o.2.2.1 else o.2.2.1) = (if t.1 = t.2.2.1 then o.2.2.1 else t.1, t.2.1, if t.2.2.1 = t.2.2.1 then o.2.2.1 else t.2.2.1)
        rw [m1, m3, if_pos (rfl : t.2.2.1 = t.2.2.1), if_neg hne]
      · subst e2
        have hne : ¬ o.1 = t.1 := hne
        show (if o.1 = t.1 then o.1 else o.1, o.2.1, if o.2.2.1 = t.1 then o.1 else o.2.2.1) = (if t.1 = t.1 then o.1 else t.1, t.2.1, if t.2.2.1 = t.1 then o.1 else t.2.2.1)
        rw [m1, m3, if_pos (rfl : t.1 = t.1), if_neg hne]
    refine R.map (φ := φ) h0 (fun x hx => ?_) (fun x hx => ?_)
    · obtain ⟨y, hy, rfl⟩ := List.mem_map.mp hx
      rw [List.map_map]
      by_cases e2 : y = t
      · rw [e2, ← eo]
        exact List.mem_map.mpr ⟨o, rest, mt o⟩
      · exact List.mem_map.mpr ⟨y, (List.mem_erase_of_ne e2).mpr hy, mt y⟩
    · rw [List.map_map] at hx
      obtain ⟨y, hy, rfl⟩ := List.mem_map.mp hx
      exact ⟨y.t3, List.mem_map.mpr ⟨y, List.mem_of_mem_erase hy, rfl⟩, mt y⟩
theorem glueN_rounds {ws : List (List Nat)} : ∀ (n : Nat) (ts : List T4), Rounds ws (ts.map T4.t3) → Rounds ws ((glueN n ts).map T4.t3)
  | 0, _, h => h
  | n + 1, ts, h => by
    unfold glueN
    cases g : pairOf ts with
    | none => exact h
    | some r =>
      obtain ⟨o, t, e⟩ := r
      exact glueN_rounds n _ (glueStep_rounds g h)
theorem glueN_folded : ∀ (n : Nat) (ts : List T4), ts.length ≤ n → Folded ((glueN n ts).map T4.t3)
  | 0, ts, h => by
    have : ts = [] := List.length_eq_zero_iff.mp (by omega)
    subst this
    exact List.Pairwise.nil
  | n + 1, ts, h => by
    unfold glueN
    cases g : pairOf ts with
    | none => exact pairOf_none g
    | some r =>
      obtain ⟨o, t, e⟩ := r
      have hl : (glueStep ts o t e).length + 1 = ts.length := glueStep_len (pairOf_ok g).t_in
      exact glueN_folded n _ (by omega)
theorem glue_folded (ts : List T4) : Folded ((glue ts).map T4.t3) := glueN_folded _ _ (Nat.le_refl _)
theorem glue_rounds {ws : List (List Nat)} {ts : List T4} (h : Rounds ws (ts.map T4.t3)) : Rounds ws ((glue ts).map T4.t3) := glueN_rounds _ _ h
end Gw

/-! ### rings lead round; all rooms are found: plain -/
namespace Gw
theorem St.mono {ts ts' : List T3} (h : ∀ t ∈ ts, t ∈ ts') {r c g : Nat} (s : St ts r c g) : St ts' r c g := s.imp (fun ⟨a, b⟩ => ⟨a, h _ b⟩) fun ⟨a, b⟩ => ⟨a, h _ b⟩
theorem Walk.mono {ts ts' : List T3} (h : ∀ t ∈ ts, t ∈ ts') : ∀ {w : List Nat} {a b : Nat}, Walk ts a w b → Walk ts' a w b
  | [], _, _, e => e
  | _ :: _, _, _, ⟨m, h1, h2⟩ => ⟨m, h1.mono h, Walk.mono h h2⟩
/-- a tie on a way -/
def OnWay (ts : List T3) (r : Nat) (w : List Nat) (t : T3) : Prop := ∃ u c v a b, w = u ++ c :: v ∧ Walk ts r u a ∧ Walk ts b v 0 ∧ ((smallL c = true ∧ t = (a, c, b)) ∨ (smallL c = false ∧ t = (b, bk c, a)))
theorem OnWay.mono {ts ts' : List T3} (h : ∀ t ∈ ts, t ∈ ts') {r : Nat} {w : List Nat} {t : T3} (o : OnWay ts r w t) : OnWay ts' r w t := by
  obtain ⟨u, c, v, a, b, e, h1, h2, h3⟩ := o
  exact ⟨u, c, v, a, b, e, h1.mono h, h2.mono h, h3⟩
theorem Rounds.nil : Rounds [] [] := ⟨(fun w h => by cases h), (fun t h => by cases h)⟩
theorem Rounds.app {ws ws' : List (List Nat)} {ts ts' : List T3} (R : Rounds ws ts) (R' : Rounds ws' ts') : Rounds (ws ++ ws') (ts ++ ts') where
  round := fun w hw => by
    rcases List.mem_append.mp hw with hw | hw
    · exact (R.round w hw).mono fun t ht => List.mem_append_left _ ht
    · exact (R'.round w hw).mono fun t ht => List.mem_append_right _ ht
  on := fun t ht => by
    rcases List.mem_append.mp ht with ht | ht
    · obtain ⟨w, hw, o⟩ := R.on t ht
      exact ⟨w, List.mem_append_left _ hw, OnWay.mono (fun t ht => List.mem_append_left _ ht) o⟩
    · obtain ⟨w, hw, o⟩ := R'.on t ht
      exact ⟨w, List.mem_append_right _ hw, OnWay.mono (fun t ht => List.mem_append_right _ ht) o⟩
theorem ringTail (k n : Nat) : ∀ (w : List Nat) (i : Nat) (ts : List T4) (f r : Nat), i + w.length = n → (∀ c ∈ w, isL c = true) →
    ∃ R f', ((w.zipIdx i).foldl (ringStep k n) (ts, f, r)) = (ts ++ R, f', if w = [] then r else 0) ∧ (w ≠ [] → Walk (R.map T4.t3) r w 0) ∧ (∀ t ∈ R.map T4.t3, OnWay (R.map T4.t3) r w t) ∧ (w = [] → R = [])
  | [], i, ts, f, r, _, _ => ⟨[], f, by simp, fun h => absurd rfl h, fun t h => by simp at h, fun _ => rfl⟩
  | c :: w, i, ts, f, r, h, hL => by
    have hl : i + 1 + w.length = n := by
      rw [List.length_cons] at h
      omega
    obtain ⟨goal, hgoal⟩ : ∃ goal, goal = if i + 1 = n then 0 else f := ⟨_, rfl⟩
    obtain ⟨fresh, hfresh⟩ : ∃ fresh, fresh = if i + 1 = n then f else f + 1 := ⟨_, rfl⟩
    obtain ⟨t0, ht0⟩ : ∃ t0 : T4, t0 = if smallL c then (r, c, goal, if i = 0 then [(k : Int) + 1] else []) else (goal, bk c, r, behindN (if i = 0 then [(k : Int) + 1] else [])) := ⟨_, rfl⟩
    have hstep : ringStep k n (ts, f, r) (c, i) = (ts ++ [t0], fresh, goal) := by
      rw [ht0, hgoal, hfresh]
      rfl
    obtain ⟨R, f', e, hw, hon, hnil⟩ := ringTail k n w (i + 1) (ts ++ [t0]) fresh goal hl fun d hd => hL d (List.mem_cons_of_mem _ hd)
    have st : St ((t0 :: R).map T4.t3) r c goal := by
      cases hs : smallL c with
      | true =>
        rw [hs] at ht0
        exact .inl ⟨hs, by rw [ht0]; exact List.mem_cons_self⟩
      | false =>
        rw [hs] at ht0
        exact .inr ⟨hs, by rw [ht0]; exact List.mem_cons_self⟩
    have sub : ∀ t ∈ R.map T4.t3, t ∈ (t0 :: R).map T4.t3 := fun t ht => List.mem_cons_of_mem _ ht
    have hw2 : Walk ((t0 :: R).map T4.t3) goal w 0 := by
      by_cases hwn : w = []
      · subst hwn
        show goal = 0
        rw [hgoal, if_pos (by rw [List.length_nil] at hl; omega)]
      · exact (hw hwn).mono sub
    refine ⟨t0 :: R, f', ?_, fun _ => ⟨goal, st, hw2⟩, fun t ht => ?_, fun z => by cases z⟩
    · rw [List.zipIdx_cons, List.foldl_cons, hstep, e]
      refine Prod.ext (by simp) (Prod.ext rfl ?_)
      show (if w = [] then goal else 0) = if c :: w = [] then r else 0
      rw [if_neg (by simp : ¬ c :: w = [])]
      by_cases hwn : w = []
      · rw [if_pos hwn, hgoal, if_pos (by rw [hwn, List.length_nil] at hl; omega)]
      · rw [if_neg hwn]
    · rw [List.map_cons] at ht
      rcases List.mem_cons.mp ht with ht | ht
      · refine ⟨[], c, w, r, goal, rfl, rfl, hw2, ?_⟩
        cases hs : smallL c with
        | true =>
          rw [hs] at ht0
          exact .inl ⟨rfl, by rw [ht, ht0]; rfl⟩
        | false =>
          rw [hs] at ht0
          exact .inr ⟨rfl, by rw [ht, ht0]; rfl⟩
      · obtain ⟨u, d, v, a, b, e2, h1, h2, h3⟩ := (hon t ht).mono sub
        exact ⟨c :: u, d, v, a, b, by rw [e2]; rfl, ⟨goal, st, h1⟩, h2, h3⟩
theorem ringWord_rounds (st : List T4 × Nat) (p : List Nat × Nat) (h : AL p.1) : ∃ R f, ringWord st p = (st.1 ++ R, f) ∧ Rounds [p.1] (R.map T4.t3) := by
  obtain ⟨R, f', e, hw, hon, hnil⟩ := ringTail p.2 p.1.length p.1 0 st.1 st.2 0 (by omega) h
  refine ⟨R, f', ?_, ⟨fun w hw2 => ?_, fun t ht => ?_⟩⟩
  · unfold ringWord
    dsimp only
    rw [show p.1.zipIdx = p.1.zipIdx 0 from rfl, e]
  · rw [List.mem_singleton.mp hw2]
    by_cases hn : p.1 = []
    · rw [hn]
      exact rfl
    · exact hw hn
  · exact ⟨p.1, List.mem_singleton.mpr rfl, hon t ht⟩
theorem ringWords_rounds : ∀ (l : List (List Nat × Nat)) (st : List T4 × Nat), (∀ p ∈ l, AL p.1) → ∃ R f, l.foldl ringWord st = (st.1 ++ R, f) ∧ Rounds (l.map (·.1)) (R.map T4.t3)
  | [], st, _ => ⟨[], st.2, by simp, Rounds.nil⟩
  | p :: l, st, h => by
    obtain ⟨R1, f1, e1, r1⟩ := ringWord_rounds st p (h p List.mem_cons_self)
    obtain ⟨R2, f2, e2, r2⟩ := ringWords_rounds l (st.1 ++ R1, f1) fun q hq => h q (List.mem_cons_of_mem _ hq)
    refine ⟨R1 ++ R2, f2, ?_, ?_⟩
    · rw [List.foldl_cons, e1, e2, List.append_assoc]
    · rw [List.map_append]
      exact r1.app r2
theorem rings_rounds {ws : List (List Nat)} (h : ∀ w ∈ ws, AL w) : Rounds ws ((rings ws).map T4.t3) := by
  obtain ⟨R, f, e, r⟩ := ringWords_rounds ws.zipIdx ([], 1) fun p hp => h p.1 (List.fst_mem_of_mem_zipIdx hp)
  have e2 : rings ws = R := by
    unfold rings
    rw [e]
    exact List.nil_append R
  rw [e2]
  rwa [List.zipIdx_map_fst] at r
/-! steps by the table -/
theorem stepsOf_snoc (ts : List T3) (t : T3) : stepsOf (ts ++ [t]) = stepPut (stepsOf ts) t := by
  unfold stepsOf
  rw [List.foldl_append]
  rfl
theorem aget_stepPut (m : List ((Nat × Nat) × Nat)) (t : T3) (k : Nat × Nat) : aget (stepPut m t) k = if k = (t.2.2, bk t.2.1) then some t.1 else if k = (t.1, t.2.1) then some t.2.2 else aget m k := by
  unfold stepPut
  rw [aget_put, aget_put]
theorem small_bk {c : Nat} (h : 97 ≤ c ∧ c ≤ 122) : smallL (bk c) = false ∧ bk (bk c) = c := by
  have h2 : isL c = true := isL_iff.mpr (.inl h)
  refine ⟨?_, bk_bk h2⟩
  unfold smallL bk
  rw [if_pos h.1]
  exact decide_eq_false (by omega)
/-- what the table tells is a step -/
theorem stepF_st : ∀ (ts : List T3), (∀ t ∈ ts, 97 ≤ t.2.1 ∧ t.2.1 ≤ 122) → ∀ r c g, stepF ts r c = some g → St ts r c g := by
  refine snoc_ind (P := fun ts => (∀ t ∈ ts, 97 ≤ t.2.1 ∧ t.2.1 ≤ 122) → ∀ r c g, stepF ts r c = some g → St ts r c g) (fun _ r c g h => by cases h) ?_
  intro ts t ih hs r c g h
  have ht := hs t (by simp)
  unfold stepF at h
  rw [stepsOf_snoc, aget_stepPut] at h
  by_cases h1 : (r, c) = (t.2.2, bk t.2.1)
  · rw [if_pos h1] at h
    cases h
    simp only [Prod.mk.injEq] at h1
    obtain ⟨rfl, rfl⟩ := h1
    obtain ⟨a, b⟩ := small_bk ht
    exact .inr ⟨a, by rw [b]; simp⟩
  · rw [if_neg h1] at h
    by_cases h2 : (r, c) = (t.1, t.2.1)
    · rw [if_pos h2] at h
      cases h
      simp only [Prod.mk.injEq] at h2
      obtain ⟨rfl, rfl⟩ := h2
      exact .inl ⟨decide_eq_true ht, by simp⟩
    · rw [if_neg h2] at h
      exact (ih (fun x hx => hs x (by simp [hx])) r c g h).mono fun x hx => by simp [hx]
/-- a step is told, perhaps to another room -/
theorem st_stepF : ∀ (ts : List T3), (∀ t ∈ ts, 97 ≤ t.2.1 ∧ t.2.1 ≤ 122) → ∀ r c g, isL c = true → St ts r c g → ∃ g', stepF ts r c = some g' := by
  refine snoc_ind (P := fun ts => (∀ t ∈ ts, 97 ≤ t.2.1 ∧ t.2.1 ≤ 122) → ∀ r c g, isL c = true → St ts r c g → ∃ g', stepF ts r c = some g') (fun _ r c g _ h => by rcases h with ⟨_, h⟩ | ⟨_, h⟩ <;> cases h) ?_
  intro ts t ih hs r c g hc h
  unfold stepF
  rw [stepsOf_snoc, aget_stepPut]
  by_cases h1 : (r, c) = (t.2.2, bk t.2.1)
  · exact ⟨_, if_pos h1⟩
  · rw [if_neg h1]
    by_cases h2 : (r, c) = (t.1, t.2.1)
    · exact ⟨_, if_pos h2⟩
    · rw [if_neg h2]
      refine ih (fun x hx => hs x (by simp [hx])) r c g hc ?_
      rcases h with ⟨a, b⟩ | ⟨a, b⟩
      · refine .inl ⟨a, ?_⟩
        rcases List.mem_append.mp b with b | b
        · exact b
        · rw [List.mem_singleton] at b
          rw [← b] at h2
          exact absurd rfl h2
      · refine .inr ⟨a, ?_⟩
        rcases List.mem_append.mp b with b | b
        · exact b
        · rw [List.mem_singleton] at b
          rw [← b] at h1
          refine absurd ?_ h1
          show (r, c) = (r, bk (bk c))
          rw [bk_bk hc]
theorem pw_mem {α : Type} {R : α → α → Prop} (sym : ∀ a b, R a b → R b a) : ∀ {l : List α}, l.Pairwise R → ∀ a ∈ l, ∀ b ∈ l, a = b ∨ R a b
  | [], _, a, h, _, _ => by cases h
  | x :: l, p, a, ha, b, hb => by
    obtain ⟨h1, h2⟩ := List.pairwise_cons.mp p
    rcases List.mem_cons.mp ha with ha | ha <;> rcases List.mem_cons.mp hb with hb | hb
    · exact .inl (ha.trans hb.symm)
    · exact .inr (by rw [ha]; exact h1 b hb)
    · exact .inr (by rw [hb]; exact sym _ _ (h1 a ha))
    · exact pw_mem sym h2 a ha b hb
/-- in folded ties a step leads to one room -/
theorem Folded.one {ts : List T3} (F : Folded ts) {r c g g' : Nat} (hc : isL c = true) (h : St ts r c g) (h' : St ts r c g') : g = g' := by
  have mem_pair : ∀ {s t : T3}, s ∈ ts → t ∈ ts → s = t ∨ (¬ (s.1 = t.1 ∧ s.2.1 = t.2.1) ∧ ¬ (s.2.2 = t.2.2 ∧ s.2.1 = t.2.1)) := fun hs ht =>
    pw_mem (fun a b h => ⟨fun z => h.1 ⟨z.1.symm, z.2.symm⟩, fun z => h.2 ⟨z.1.symm, z.2.symm⟩⟩) F _ hs _ ht
  rcases h with ⟨a, b⟩ | ⟨a, b⟩ <;> rcases h' with ⟨a', b'⟩ | ⟨a', b'⟩
  · rcases mem_pair b b' with e | ⟨e, _⟩
    · simp only [Prod.mk.injEq] at e
      exact e.2.2
    · exact absurd ⟨rfl, rfl⟩ e
  · rw [a] at a'
    cases a'
  · rw [a] at a'
    cases a'
  · rcases mem_pair b b' with e | ⟨_, e⟩
    · simp only [Prod.mk.injEq] at e
      exact e.1
    · exact absurd ⟨rfl, rfl⟩ e
end Gw

/-! ### all rooms are found: plain -/
namespace Gw
abbrev keysF (f : Found) : List Nat := f.map (·.1)
theorem keys_pre {f x : Found} {g : Nat} (h : g ∈ keysF f) : g ∈ keysF (f ++ x) := by
  rw [keysF, List.map_append]
  exact List.mem_append_left _ h
theorem tryL_has {st : Nat → Nat → Option Nat} {r c g : Nat} {way : List Nat} {f : Found} (h : st r c = some g) : g ∈ keysF (tryL st r way f c) := by
  unfold Gw.tryL
  rw [h, Option.getD_some]
  dsimp only
  by_cases hh : ahas f g = true
  · rw [if_pos hh]
    exact ahas_mem.mp hh
  · rw [if_neg hh, keysF, List.map_append]
    exact List.mem_append_right _ (by simp)
theorem tryBoth_has {st : Nat → Nat → Option Nat} {r c g : Nat} {way : List Nat} {f : Found} (h : st r c = some g ∨ st r (bk c) = some g) : g ∈ keysF (tryBoth st r way f c) := by
  unfold tryBoth
  rcases h with h | h
  · obtain ⟨x, hx⟩ := tryL_pre (st := st) (r := r) (c := bk c) (way := way) (f := tryL st r way f c)
    rw [hx]
    exact keys_pre (tryL_has h)
  · exact tryL_has h
theorem foldBoth_has {st : Nat → Nat → Option Nat} {r c g : Nat} {way : List Nat} (h : st r c = some g ∨ st r (bk c) = some g) : ∀ (ls : List Nat) (f : Found), c ∈ ls → g ∈ keysF (ls.foldl (tryBoth st r way) f)
  | [], _, hc => by cases hc
  | d :: ls, f, hc => by
    rw [List.foldl_cons]
    rcases List.mem_cons.mp hc with e | hc
    · subst e
      obtain ⟨x, hx⟩ := foldBoth_pre (st := st) (r := r) (way := way) ls (tryBoth st r way f c)
      rw [hx]
      exact keys_pre (tryBoth_has h)
    · exact foldBoth_has h ls _ hc
/-- all steps from r by the letters lead to found rooms -/
def ClosedAt (st : Nat → Nat → Option Nat) (ls : List Nat) (f : Found) (r : Nat) : Prop := ∀ c ∈ ls, ∀ g, (st r c = some g ∨ st r (bk c) = some g) → g ∈ keysF f
theorem bfs_closed {st : Nat → Nat → Option Nat} {ls D : List Nat} (hD : ∀ r c g, st r c = some g → g ∈ D) : ∀ (n i : Nat) (f : Found), FOk D f → D.length < n + i → (∀ (j : Nat) p, j < i → f[j]? = some p → ClosedAt st ls f p.1) →
    FOk D (bfs st ls n i f) ∧ ∀ p ∈ bfs st ls n i f, ClosedAt st ls (bfs st ls n i f) p.1
  | 0, i, f, ok, hn, hc => by
    refine ⟨ok, fun p hp => ?_⟩
    have hp : p ∈ f := hp
    obtain ⟨j, hj⟩ := List.getElem?_of_mem hp
    have h1 := (List.getElem?_eq_some_iff.mp hj).1
    have h2 := ok.len
    exact hc j p (by omega) hj
  | n + 1, i, f, ok, hn, hc => by
    unfold bfs
    cases q : f[i]? with
    | none =>
      refine ⟨ok, fun p hp => ?_⟩
      have hp : p ∈ f := hp
      obtain ⟨j, hj⟩ := List.getElem?_of_mem hp
      have h1 := (List.getElem?_eq_some_iff.mp hj).1
      have h2 := List.getElem?_eq_none_iff.mp q
      exact hc j p (by omega) hj
    | some p =>
      have hi := (List.getElem?_eq_some_iff.mp q).1
      have ok1 : FOk D (tryRoom st ls f p.1 p.2) := FOk.foldBoth (i := i) (fun c g e => hD p.1 c g e) (ok.way i p q) ls f ok hi
      obtain ⟨x, hx⟩ := foldBoth_pre (st := st) (r := p.1) (way := p.2) ls f
      refine bfs_closed hD n (i + 1) _ ok1 (by omega) fun j p' hj hp' => ?_
      have hp2 : f[j]? = some p' := by
        have : (f ++ x)[j]? = some p' := by
          rw [← hx]
          exact hp'
        rwa [List.getElem?_append_left (by omega)] at this
      by_cases hji : j < i
      · intro c hc2 g hg
        have := hc j p' hji hp2 c hc2 g hg
        show g ∈ keysF (ls.foldl (tryBoth st p.1 p.2) f)
        rw [hx]
        exact keys_pre this
      · have e : j = i := by omega
        subst e
        rw [q] at hp2
        cases hp2
        intro c hc2 g hg
        exact foldBoth_has hg ls f hc2
theorem foundRooms_closed (ts : List T3) : ∀ r ∈ keysF (foundRooms ts), ClosedAt (stepF ts) (lettersOf ts) (foundRooms ts) r := by
  have h := bfs_closed (st := stepF ts) (ls := lettersOf ts) (D := goalsOf ts) (fun r c g e => stepF_goal e) (2 * ts.length + 2) 0 [(0, [])] (FOk.init (by exact List.mem_cons_self)) (by have := goalsOf_len ts; omega) (fun j p hj => by omega)
  intro r hr
  obtain ⟨p, hp, rfl⟩ := List.mem_map.mp hr
  exact h.2 p hp
theorem found_ok (ts : List T3) : FOk (goalsOf ts) (foundRooms ts) :=
  (bfs_closed (st := stepF ts) (ls := lettersOf ts) (D := goalsOf ts) (fun r c g e => stepF_goal e) (2 * ts.length + 2) 0 [(0, [])] (FOk.init (by exact List.mem_cons_self)) (by have := goalsOf_len ts; omega) (fun j p hj => by omega)).1
theorem zero_found (ts : List T3) : 0 ∈ keysF (foundRooms ts) := by
  obtain ⟨r, h⟩ := (found_ok ts).zero
  rw [h]
  exact List.mem_cons_self
/-- steps do not leave the found rooms -/
theorem St.found {ts : List T3} (hs : ∀ t ∈ ts, 97 ≤ t.2.1 ∧ t.2.1 ≤ 122) (F : Folded ts) {r c g : Nat} (hc : isL c = true) (h : St ts r c g) (hr : r ∈ keysF (foundRooms ts)) : g ∈ keysF (foundRooms ts) := by
  obtain ⟨g', hg⟩ := st_stepF ts hs r c g hc h
  have e : g' = g := F.one hc (stepF_st ts hs r c g' hg) h
  subst e
  have cl := foundRooms_closed ts r hr
  rcases h with ⟨a, b⟩ | ⟨a, b⟩
  · exact cl c ((lettersOf_mem hs c).mpr (List.mem_map.mpr ⟨_, b, rfl⟩)) g' (.inl hg)
  · refine cl (bk c) ((lettersOf_mem hs (bk c)).mpr (List.mem_map.mpr ⟨_, b, rfl⟩)) g' (.inr ?_)
    rw [bk_bk hc]
    exact hg
theorem Walk.found {ts : List T3} (hs : ∀ t ∈ ts, 97 ≤ t.2.1 ∧ t.2.1 ≤ 122) (F : Folded ts) : ∀ {w : List Nat} {a b : Nat}, (∀ c ∈ w, isL c = true) → Walk ts a w b → a ∈ keysF (foundRooms ts) → b ∈ keysF (foundRooms ts)
  | [], _, _, _, e, h => by
    have e : _ = _ := e
    rw [← e]
    exact h
  | c :: w, _, _, hL, ⟨m, h1, h2⟩, h => Walk.found hs F (fun d hd => hL d (List.mem_cons_of_mem _ hd)) h2 (St.found hs F (hL c List.mem_cons_self) h1 h)
theorem Rounds.allFound {ws : List (List Nat)} {ts : List T3} (hs : ∀ t ∈ ts, 97 ≤ t.2.1 ∧ t.2.1 ≤ 122) (F : Folded ts) (R : Rounds ws ts) (hw : ∀ w ∈ ws, AL w) : ∀ t ∈ ts, t.1 ∈ keysF (foundRooms ts) ∧ t.2.2 ∈ keysF (foundRooms ts) := by
  intro t ht
  obtain ⟨w, hw2, u, c, v, a, b, e, h1, h2, h3⟩ := R.on t ht
  have hL := hw w hw2
  rw [e] at hL
  have hu : ∀ d ∈ u, isL d = true := fun d hd => hL d (by simp [hd])
  have hc : isL c = true := hL c (by simp)
  have ha := Walk.found hs F hu h1 (zero_found ts)
  have hst : St ts a c b := by
    rcases h3 with ⟨s, rfl⟩ | ⟨s, rfl⟩
    · exact .inl ⟨s, ht⟩
    · exact .inr ⟨s, ht⟩
  have hb := St.found hs F hc hst ha
  rcases h3 with ⟨s, rfl⟩ | ⟨s, rfl⟩
  · exact ⟨ha, hb⟩
  · exact ⟨hb, ha⟩
/-- two ends at each room but 0 -/
theorem red_next {u v : List Nat} {d c : Nat} (h : Red (u ++ d :: c :: v)) : c ≠ bk d := (red_right h).1
def endsAt (ts : List T3) (x : Nat) : Nat := (ts.filter fun t => decide (t.1 = x)).length + (ts.filter fun t => decide (t.2.2 = x)).length
/-- an end at x by a letter: a tie that begins there (small), or ends there (great) -/
theorem St.ends {ts : List T3} {x c d g g' : Nat} (hc : isL c = true) (hd : isL d = true) (h : St ts x c g) (h' : St ts x d g') (ne : c ≠ d) : 2 ≤ endsAt ts x := by
  have two : ∀ {l : List T3} {p : T3 → Bool} {s t : T3}, s ∈ l → t ∈ l → s ≠ t → p s = true → p t = true → 2 ≤ (l.filter p).length := by
    intro l p s t hs ht hne ps pt
    have h1 : s ∈ l.filter p := List.mem_filter.mpr ⟨hs, ps⟩
    have h2 : t ∈ l.filter p := List.mem_filter.mpr ⟨ht, pt⟩
    have h3 := List.length_erase_of_mem h1
    have h4 : t ∈ (l.filter p).erase s := (List.mem_erase_of_ne (Ne.symm hne)).mpr h2
    have h5 := List.length_pos_of_mem h4
    omega
  have one : ∀ {l : List T3} {p : T3 → Bool} {s : T3}, s ∈ l → p s = true → 1 ≤ (l.filter p).length := fun hs ps => List.length_pos_of_mem (List.mem_filter.mpr ⟨hs, ps⟩)
  unfold endsAt
  rcases h with ⟨a, b⟩ | ⟨a, b⟩ <;> rcases h' with ⟨a', b'⟩ | ⟨a', b'⟩
  · have := two (p := fun t => decide (t.1 = x)) b b' (fun e => ne (by
      simp only [Prod.mk.injEq] at e
      exact e.2.1)) (by simp) (by simp)
    omega
  · have h1 := one (p := fun t => decide (t.1 = x)) b (by simp)
    have h2 := one (p := fun t => decide (t.2.2 = x)) b' (by simp)
    omega
  · have h1 := one (p := fun t => decide (t.1 = x)) b' (by simp)
    have h2 := one (p := fun t => decide (t.2.2 = x)) b (by simp)
    omega
  · have := two (p := fun t => decide (t.2.2 = x)) b b' (fun e => ne (by
      simp only [Prod.mk.injEq] at e
      exact bk_inj hc hd e.2.1)) (by simp) (by simp)
    omega
theorem St.turn {ts : List T3} {a c b : Nat} (hc : isL c = true) (h : St ts a c b) : St ts b (bk c) a := by
  have hb := bk_bk hc
  rcases h with ⟨s, m⟩ | ⟨s, m⟩
  · refine .inr ⟨?_, by rw [hb]; exact m⟩
    unfold smallL at s
    exact (small_bk (of_decide_eq_true s)).1
  · refine .inl ⟨?_, m⟩
    unfold smallL at s ⊢
    rw [decide_eq_false_iff_not] at s
    rw [isL_iff] at hc
    unfold bk
    rw [if_neg (by omega)]
    exact decide_eq_true (by omega)
theorem Rounds.ends {ws : List (List Nat)} {ts : List T3} (R : Rounds ws ts) (hw : ∀ w ∈ ws, AL w ∧ Red w) : ∀ t ∈ ts, (t.1 ≠ 0 → 2 ≤ endsAt ts t.1) ∧ (t.2.2 ≠ 0 → 2 ≤ endsAt ts t.2.2) := by
  intro t ht
  obtain ⟨w, hw2, u, c, v, a, b, e, h1, h2, h3⟩ := R.on t ht
  obtain ⟨hL, hR⟩ := hw w hw2
  rw [e] at hL hR
  have hc : isL c = true := hL c (by simp)
  have hst : St ts a c b := by
    rcases h3 with ⟨s, rfl⟩ | ⟨s, rfl⟩
    · exact .inl ⟨s, ht⟩
    · exact .inr ⟨s, ht⟩
  have ha : a ≠ 0 → 2 ≤ endsAt ts a := by
    intro ha
    rcases end_of u with hu | ⟨k, d, hu⟩
    · subst hu
      exact absurd h1.symm ha
    · subst hu
      obtain ⟨m, h4, h5⟩ := Walk.split h1
      obtain ⟨m2, h6, h7⟩ := h5
      have h7 : m2 = a := h7
      subst h7
      have hd : isL d = true := hL d (by simp)
      have hne : c ≠ bk d := by
        rw [List.append_assoc] at hR
        exact red_next (u := k) (v := v) hR
      exact St.ends hc (bk_L hd) hst (h6.turn hd) hne
  have hb : b ≠ 0 → 2 ≤ endsAt ts b := by
    intro hb
    cases v with
    | nil => exact absurd h2 hb
    | cons d v =>
      obtain ⟨m, h4, _⟩ := h2
      have hd : isL d = true := hL d (by simp)
      have hne : d ≠ bk c := red_next hR
      exact St.ends hd (bk_L hc) h4 (hst.turn hc) hne
  rcases h3 with ⟨s, rfl⟩ | ⟨s, rfl⟩
  · exact ⟨ha, hb⟩
  · exact ⟨hb, ha⟩
end Gw

/-! ### a web numbered as its rooms are found: plain -/
namespace Gw
theorem stepF_iff {ts : List T3} (hs : ∀ t ∈ ts, 97 ≤ t.2.1 ∧ t.2.1 ≤ 122) (F : Folded ts) {r c g : Nat} (hc : isL c = true) : stepF ts r c = some g ↔ St ts r c g := by
  constructor
  · exact stepF_st ts hs r c g
  · intro h
    obtain ⟨g', hg⟩ := st_stepF ts hs r c g hc h
    rw [hg, F.one hc (stepF_st ts hs r c g' hg) h]
/-- unlike numbers for the rooms that are found -/
theorem numOf_inj {f : Found} {a b : Nat} (ha : a ∈ keysF f) (hb : b ∈ keysF f) (h : numOf f a = numOf f b) : a = b := by
  unfold numOf at h
  have h1 := List.idxOf_lt_length_of_mem ha
  have h2 := List.idxOf_lt_length_of_mem hb
  have e1 : (f.map (·.1))[(f.map (·.1)).idxOf a] = a := List.getElem_idxOf h1
  have e2 : (f.map (·.1))[(f.map (·.1)).idxOf b] = b := List.getElem_idxOf h2
  rw [← e1, ← e2]
  congr 1
theorem numOf_zero (ts : List T3) : numOf (foundRooms ts) 0 = 0 := by
  obtain ⟨r, h⟩ := (found_ok ts).zero
  unfold numOf
  rw [h]
  simp
/-- found rooms with other numbers -/
def mapF (ν : Nat → Nat) (f : Found) : Found := f.map fun p => (ν p.1, p.2)
theorem keys_mapF (ν : Nat → Nat) (f : Found) : keysF (mapF ν f) = (keysF f).map ν := by
  unfold mapF keysF
  rw [List.map_map, List.map_map]
  rfl
section
variable {st st' : Nat → Nat → Option Nat} {ν : Nat → Nat} {A : List Nat}
theorem tryL_map (hinj : ∀ a ∈ A, ∀ b ∈ A, ν a = ν b → a = b) (h0 : ν 0 = 0) (z : 0 ∈ A) {r c : Nat} (hst : st' (ν r) c = (st r c).map ν) (hA : ∀ g, st r c = some g → g ∈ A) {way : List Nat} {f : Found} (hf : ∀ x ∈ keysF f, x ∈ A) :
    tryL st' (ν r) way (mapF ν f) c = mapF ν (tryL st r way f c) ∧ ∀ x ∈ keysF (tryL st r way f c), x ∈ A := by
  obtain ⟨g, hg⟩ : ∃ g, g = (st r c).getD 0 := ⟨_, rfl⟩
  have hgA : g ∈ A := by
    rw [hg]
    cases q : st r c with
    | none => exact z
    | some x => exact hA x q
  have hg' : (st' (ν r) c).getD 0 = ν g := by
    rw [hst, hg]
    cases st r c with
    | none => exact h0.symm
    | some x => rfl
  have hh : ahas (mapF ν f) (ν g) = ahas f g := by
    rw [Bool.eq_iff_iff, ahas_mem, ahas_mem]
    show ν g ∈ keysF (mapF ν f) ↔ g ∈ keysF f
    rw [keys_mapF, List.mem_map]
    constructor
    · rintro ⟨x, hx, e⟩
      rw [← hinj x (hf x hx) g hgA e]
      exact hx
    · intro h
      exact ⟨g, h, rfl⟩
  unfold Gw.tryL
  dsimp only
  rw [hg', ← hg, hh]
  by_cases hb : ahas f g = true
  · rw [if_pos hb, if_pos hb]
    exact ⟨rfl, hf⟩
  · rw [if_neg hb, if_neg hb]
    refine ⟨by simp [mapF], fun x hx => ?_⟩
    rw [keysF, List.map_append, List.mem_append] at hx
    rcases hx with hx | hx
    · exact hf x hx
    · rw [List.map_cons, List.map_nil, List.mem_singleton] at hx
      rw [hx]
      exact hgA
theorem foldBoth_map (hinj : ∀ a ∈ A, ∀ b ∈ A, ν a = ν b → a = b) (h0 : ν 0 = 0) (z : 0 ∈ A) {r : Nat} {way : List Nat} : ∀ (ls : List Nat) (f : Found), (∀ c, c ∈ ls → (st' (ν r) c = (st r c).map ν ∧ st' (ν r) (bk c) = (st r (bk c)).map ν)) → (∀ c, c ∈ ls → ∀ g, (st r c = some g ∨ st r (bk c) = some g) → g ∈ A) → (∀ x ∈ keysF f, x ∈ A) →
    ls.foldl (tryBoth st' (ν r) way) (mapF ν f) = mapF ν (ls.foldl (tryBoth st r way) f) ∧ ∀ x ∈ keysF (ls.foldl (tryBoth st r way) f), x ∈ A
  | [], f, _, _, hf => ⟨rfl, hf⟩
  | c :: ls, f, h1, h2, hf => by
    have hm : c ∈ c :: ls := List.mem_cons_self
    obtain ⟨e1, f1⟩ := tryL_map hinj h0 z (h1 c hm).1 (fun g e => h2 c hm g (.inl e)) (way := way) hf
    obtain ⟨e2, f2⟩ := tryL_map hinj h0 z (h1 c hm).2 (fun g e => h2 c hm g (.inr e)) (way := way) f1
    rw [List.foldl_cons, List.foldl_cons]
    have e3 : tryBoth st' (ν r) way (mapF ν f) c = mapF ν (tryBoth st r way f c) := by
      unfold tryBoth
      rw [e1, e2]
    rw [e3]
    exact foldBoth_map hinj h0 z ls _ (fun d hd => h1 d (List.mem_cons_of_mem _ hd)) (fun d hd => h2 d (List.mem_cons_of_mem _ hd)) f2
theorem bfs_map {ls : List Nat} (hinj : ∀ a ∈ A, ∀ b ∈ A, ν a = ν b → a = b) (h0 : ν 0 = 0) (z : 0 ∈ A) (h1 : ∀ r ∈ A, ∀ c, c ∈ ls → (st' (ν r) c = (st r c).map ν ∧ st' (ν r) (bk c) = (st r (bk c)).map ν)) (h2 : ∀ r ∈ A, ∀ c, c ∈ ls → ∀ g, (st r c = some g ∨ st r (bk c) = some g) → g ∈ A) :
    ∀ (n i : Nat) (f : Found), (∀ x ∈ keysF f, x ∈ A) → bfs st' ls n i (mapF ν f) = mapF ν (bfs st ls n i f)
  | 0, _, _, _ => rfl
  | n + 1, i, f, hf => by
    unfold bfs
    have e : (mapF ν f)[i]? = (f[i]?).map fun p => (ν p.1, p.2) := by
      unfold mapF
      rw [List.getElem?_map]
    rw [e]
    cases q : f[i]? with
    | none => rfl
    | some p =>
      have hp : p.1 ∈ A := hf _ (List.mem_map.mpr ⟨p, List.mem_of_getElem? q, rfl⟩)
      obtain ⟨e1, f1⟩ := foldBoth_map (st := st) (st' := st') hinj h0 z (r := p.1) (way := p.2) ls f (h1 p.1 hp) (h2 p.1 hp) hf
      show bfs st' ls n (i + 1) (ls.foldl (tryBoth st' (ν p.1) p.2) (mapF ν f)) = _
      rw [e1]
      exact bfs_map hinj h0 z h1 h2 n (i + 1) _ f1
end
/-- webs as they are told -/
structure WebOk (ts : List T3) : Prop where
  sm : ∀ t ∈ ts, 97 ≤ t.2.1 ∧ t.2.1 ≤ 122
  fold : Folded ts
  all_ : ∀ t ∈ ts, t.1 ∈ keysF (foundRooms ts) ∧ t.2.2 ∈ keysF (foundRooms ts)
theorem folded_of {ts ts' : List T3} {ν : Nat → Nat} {A : List Nat} (hinj : ∀ a ∈ A, ∀ b ∈ A, ν a = ν b → a = b) (hA : ∀ t ∈ ts, t.1 ∈ A ∧ t.2.2 ∈ A) (p : ts'.Perm (ts.map (mapT ν))) (F : Folded ts) : Folded ts' := by
  have F2 : Folded (ts.map (mapT ν)) := by
    unfold Folded
    rw [List.pairwise_map]
    refine F.imp_of_mem fun {a b} ha hb h => ?_
    obtain ⟨h1, h2⟩ := h
    exact ⟨fun ⟨e1, e2⟩ => h1 ⟨hinj _ (hA a ha).1 _ (hA b hb).1 e1, e2⟩, fun ⟨e1, e2⟩ => h2 ⟨hinj _ (hA a ha).2 _ (hA b hb).2 e1, e2⟩⟩
  exact (p.pairwise_iff (fun {a b} h => ⟨fun z => h.1 ⟨z.1.symm, z.2.symm⟩, fun z => h.2 ⟨z.1.symm, z.2.symm⟩⟩)).mpr F2
theorem numbered_perm (ts : List T3) : (numberedT ts).Perm (ts.map (mapT (numOf (foundRooms ts)))) := List.mergeSort_perm _ _
theorem leT3_total (s t : T3) : (leT3 s t || leT3 t s) = true := by
  unfold leT3
  rw [Bool.or_eq_true, decide_eq_true_eq, decide_eq_true_eq]
  omega
theorem leT3_trans (s t u : T3) (h1 : leT3 s t = true) (h2 : leT3 t u = true) : leT3 s u = true := by
  unfold leT3 at *
  rw [decide_eq_true_eq] at *
  omega
theorem numbered_sorted (ts : List T3) : (numberedT ts).Pairwise fun s t => leT3 s t = true := List.pairwise_mergeSort leT3_trans leT3_total _
section
variable {ts : List T3}
theorem numbered_sm (W : WebOk ts) : ∀ t ∈ numberedT ts, 97 ≤ t.2.1 ∧ t.2.1 ≤ 122 := fun t ht => by
  obtain ⟨x, hx, rfl⟩ := List.mem_map.mp ((numbered_perm ts).mem_iff.mp ht)
  exact W.sm x hx
theorem numbered_inj : ∀ a ∈ keysF (foundRooms ts), ∀ b ∈ keysF (foundRooms ts), numOf (foundRooms ts) a = numOf (foundRooms ts) b → a = b := fun a ha b hb => numOf_inj ha hb
theorem numbered_folded (W : WebOk ts) : Folded (numberedT ts) := folded_of numbered_inj W.all_ (numbered_perm ts) W.fold
theorem numbered_letters (W : WebOk ts) : lettersOf (numberedT ts) = lettersOf ts := by
  refine rise_ext (lettersOf_rise _) (lettersOf_rise _) fun c => ?_
  rw [lettersOf_mem (numbered_sm W), lettersOf_mem W.sm, List.mem_map, List.mem_map]
  constructor
  · rintro ⟨t, ht, rfl⟩
    obtain ⟨x, hx, rfl⟩ := List.mem_map.mp ((numbered_perm ts).mem_iff.mp ht)
    exact ⟨x, hx, rfl⟩
  · rintro ⟨t, ht, rfl⟩
    exact ⟨mapT (numOf (foundRooms ts)) t, (numbered_perm ts).mem_iff.mpr (List.mem_map.mpr ⟨t, ht, rfl⟩), rfl⟩
theorem numbered_st (W : WebOk ts) {r c : Nat} (hr : r ∈ keysF (foundRooms ts)) (hc : isL c = true) : stepF (numberedT ts) (numOf (foundRooms ts) r) c = (stepF ts r c).map (numOf (foundRooms ts)) := by
  have back : ∀ g', St (numberedT ts) (numOf (foundRooms ts) r) c g' → ∃ g, g' = numOf (foundRooms ts) g ∧ St ts r c g := by
    rintro g' (⟨a, b⟩ | ⟨a, b⟩)
    · obtain ⟨x, hx, e⟩ := List.mem_map.mp ((numbered_perm ts).mem_iff.mp b)
      simp only [mapT, Prod.mk.injEq] at e
      obtain ⟨e1, e2, e3⟩ := e
      have e1 := numbered_inj _ (W.all_ x hx).1 _ hr e1
      exact ⟨x.2.2, e3.symm, .inl ⟨a, by rw [← e1, ← e2]; exact hx⟩⟩
    · obtain ⟨x, hx, e⟩ := List.mem_map.mp ((numbered_perm ts).mem_iff.mp b)
      simp only [mapT, Prod.mk.injEq] at e
      obtain ⟨e1, e2, e3⟩ := e
      have e3 := numbered_inj _ (W.all_ x hx).2 _ hr e3
      exact ⟨x.1, e1.symm, .inr ⟨a, by rw [← e3, ← e2]; exact hx⟩⟩
  cases q : stepF ts r c with
  | some g =>
    have h := (stepF_iff W.sm W.fold hc).mp q
    rw [Option.map_some]
    refine (stepF_iff (numbered_sm W) (numbered_folded W) hc).mpr ?_
    exact h.map (φ := numOf (foundRooms ts)) fun t ht => (numbered_perm ts).mem_iff.mpr (List.mem_map.mpr ⟨t, ht, rfl⟩)
  | none =>
    rw [Option.map_none]
    cases q2 : stepF (numberedT ts) (numOf (foundRooms ts) r) c with
    | none => rfl
    | some g' =>
      obtain ⟨g, _, hg⟩ := back g' ((stepF_iff (numbered_sm W) (numbered_folded W) hc).mp q2)
      rw [(stepF_iff W.sm W.fold hc).mpr hg] at q
      cases q
theorem letters_L (W : WebOk ts) {c : Nat} (h : c ∈ lettersOf ts) : isL c = true ∧ isL (bk c) = true := by
  rw [lettersOf_mem W.sm] at h
  obtain ⟨t, ht, rfl⟩ := List.mem_map.mp h
  have : isL t.2.1 = true := isL_iff.mpr (.inl (W.sm t ht))
  exact ⟨this, bk_L this⟩
theorem numbered_found (W : WebOk ts) : foundRooms (numberedT ts) = mapF (numOf (foundRooms ts)) (foundRooms ts) := by
  have hl : (numberedT ts).length = ts.length := by rw [(numbered_perm ts).length_eq, List.length_map]
  have h := bfs_map (st := stepF ts) (st' := stepF (numberedT ts)) (ν := numOf (foundRooms ts)) (A := keysF (foundRooms ts)) (ls := lettersOf ts) numbered_inj (numOf_zero ts) (zero_found ts)
    (fun r hr c hc => ⟨numbered_st W hr (letters_L W hc).1, numbered_st W hr (letters_L W hc).2⟩) (fun r hr c hc g hg => foundRooms_closed ts r hr c hc g hg) (2 * ts.length + 2) 0 [(0, [])] (fun x hx => by
      rw [keysF, List.map_cons, List.map_nil, List.mem_singleton] at hx
      rw [hx]
      exact zero_found ts)
  conv => lhs; unfold foundRooms
  rw [hl, numbered_letters W]
  have e : mapF (numOf (foundRooms ts)) [(0, [])] = [(0, [])] := by
    unfold mapF
    rw [List.map_cons, List.map_nil, numOf_zero]
  rw [e] at h
  exact h
/-- the rooms stand in their numbers' order -/
theorem numbered_keys (W : WebOk ts) : keysF (foundRooms (numberedT ts)) = List.range (foundRooms ts).length := by
  rw [numbered_found W, keys_mapF]
  refine List.ext_getElem (by simp) fun i h1 h2 => ?_
  rw [List.getElem_map, List.getElem_range]
  have nd := (found_ok ts).nd
  have hi : i < (keysF (foundRooms ts)).length := by
    rw [List.length_map] at h1
    exact h1
  unfold numOf
  exact List.Nodup.idxOf_getElem nd i hi
theorem numbered_num (W : WebOk ts) {i : Nat} (h : i ∈ keysF (foundRooms (numberedT ts))) : numOf (foundRooms (numberedT ts)) i = i := by
  have e := numbered_keys W
  unfold numOf
  show (keysF (foundRooms (numberedT ts))).idxOf i = i
  rw [e] at h ⊢
  have hi := List.mem_range.mp h
  have := List.Nodup.idxOf_getElem (List.nodup_range (n := (foundRooms ts).length)) i (by rw [List.length_range]; exact hi)
  rwa [List.getElem_range] at this
theorem numbered_ok (W : WebOk ts) : WebOk (numberedT ts) where
  sm := numbered_sm W
  fold := numbered_folded W
  all_ := fun t ht => by
    obtain ⟨x, hx, rfl⟩ := List.mem_map.mp ((numbered_perm ts).mem_iff.mp ht)
    rw [numbered_found W, keys_mapF]
    exact ⟨List.mem_map.mpr ⟨_, (W.all_ x hx).1, rfl⟩, List.mem_map.mpr ⟨_, (W.all_ x hx).2, rfl⟩⟩
/-- numbered again: the same -/
theorem numbered_twice (W : WebOk ts) : numberedT (numberedT ts) = numberedT ts := by
  have W2 := numbered_ok W
  have e : (numberedT ts).map (fun t => (numOf (foundRooms (numberedT ts)) t.1, t.2.1, numOf (foundRooms (numberedT ts)) t.2.2)) = numberedT ts := by
    refine (List.map_congr_left fun t ht => ?_).trans (List.map_id _)
    obtain ⟨h1, h2⟩ := W2.all_ t ht
    rw [numbered_num W h1, numbered_num W h2]
    rfl
  have h : numberedT (numberedT ts) = ((numberedT ts).map (fun t => (numOf (foundRooms (numberedT ts)) t.1, t.2.1, numOf (foundRooms (numberedT ts)) t.2.2))).mergeSort leT3 := rfl
  rw [h, e]
  exact List.mergeSort_of_pairwise (numbered_sorted ts)
end
/-! ### the web of a row -/
section
variable {us : List (List Nat)}
theorem gluedOf_ok (h : ∀ u ∈ us, AL u) (hs : ∀ t ∈ (gluedOf us).map T4.t3, 97 ≤ t.2.1 ∧ t.2.1 ≤ 122) : WebOk ((gluedOf us).map T4.t3) ∧ Rounds (us.map sh) ((gluedOf us).map T4.t3) := by
  have hA : ∀ w ∈ us.map sh, AL w := fun w hw => by
    obtain ⟨u, hu, rfl⟩ := List.mem_map.mp hw
    exact sh_AL (h u hu)
  have R : Rounds (us.map sh) ((gluedOf us).map T4.t3) := glue_rounds (rings_rounds hA)
  have F := glue_folded (rings (us.map sh))
  exact ⟨⟨hs, F, R.allFound hs F hA⟩, R⟩
theorem Rounds.numbered {ws : List (List Nat)} {ts : List T3} (R : Rounds ws ts) : Rounds ws (numberedT ts) := by
  refine R.map (φ := numOf (foundRooms ts)) (numOf_zero ts) (fun t ht => (numbered_perm ts).mem_iff.mpr (List.mem_map.mpr ⟨t, ht, rfl⟩)) fun t ht => ?_
  obtain ⟨x, hx, rfl⟩ := List.mem_map.mp ((numbered_perm ts).mem_iff.mp ht)
  exact ⟨x, hx, rfl⟩
/-- what is_web asks, told of plain ties -/
structure IsWeb (ts : List T3) : Prop where
  ok : WebOk ts
  same : numberedT ts = ts
  ends : ∀ t ∈ ts, (t.1 ≠ 0 → 2 ≤ endsAt ts t.1) ∧ (t.2.2 ≠ 0 → 2 ≤ endsAt ts t.2.2)
theorem webOf_ok (h : ∀ u ∈ us, AL u) (hs : ∀ t ∈ (gluedOf us).map T4.t3, 97 ≤ t.2.1 ∧ t.2.1 ≤ 122) : IsWeb (webOf us) ∧ Rounds (us.map sh) (webOf us) := by
  obtain ⟨W, R⟩ := gluedOf_ok h hs
  have R2 : Rounds (us.map sh) (webOf us) := R.numbered
  refine ⟨⟨numbered_ok W, numbered_twice W, R2.ends fun w hw => ?_⟩, R2⟩
  obtain ⟨u, hu, rfl⟩ := List.mem_map.mp hw
  exact ⟨sh_AL (h u hu), sh_red (h u hu)⟩
end
end Gw

/-! ### rows of numbers as words; how far apart they are. Plain. -/
namespace Gw
def eN (n : Int) : Nat := if 0 < n then 96 + n.toNat else 64 + (-n).toNat
def InR (n : Int) : Prop := n ≠ 0 ∧ -26 ≤ n ∧ n ≤ 26
theorem eN_L {n : Int} (h : InR n) : isL (eN n) = true := by
  obtain ⟨h0, h1, h2⟩ := h
  rw [isL_iff]
  unfold eN
  split <;> omega
theorem eN_neg {n : Int} (h : InR n) : eN (-n) = bk (eN n) := by
  obtain ⟨h0, h1, h2⟩ := h
  unfold eN bk
  split <;> split <;> split <;> omega
theorem eN_inj {m n : Int} (h : InR m) (h' : InR n) (e : eN m = eN n) : m = n := by
  obtain ⟨h0, h1, h2⟩ := h
  obtain ⟨g0, g1, g2⟩ := h'
  unfold eN at e
  split at e <;> split at e <;> omega
theorem InR.neg {n : Int} (h : InR n) : InR (-n) := by
  obtain ⟨h0, h1, h2⟩ := h
  refine ⟨?_, ?_, ?_⟩ <;> omega
abbrev eW (u : List Int) : List Nat := u.map eN
def InW (u : List Int) : Prop := ∀ n ∈ u, InR n
theorem InW.nil : InW [] := fun n h => by cases h
theorem InW.al {u : List Int} (h : InW u) : AL (eW u) := fun c hc => by
  obtain ⟨n, hn, rfl⟩ := List.mem_map.mp hc
  exact eN_L (h n hn)
theorem getLast_map {u : List Int} : (eW u).getLast? = u.getLast?.map eN := by
  rw [List.getLast?_map]
theorem joinStep_in {u : List Int} {n : Int} (hu : InW u) (hn : InR n) : InW (joinStep u n) := by
  unfold joinStep
  split
  · exact fun m hm => hu m (List.dropLast_subset _ hm)
  · intro m hm
    rcases List.mem_append.mp hm with hm | hm
    · exact hu m hm
    · rw [List.mem_singleton.mp hm]
      exact hn
theorem joinStep_e {u : List Int} {n : Int} (hu : InW u) (hn : InR n) : eW (joinStep u n) = shSt (eW u) (eN n) := by
  unfold joinStep shSt
  rw [getLast_map]
  by_cases h : u.getLast? = some (-n)
  · rw [if_pos h, if_pos (by rw [h, Option.map_some, eN_neg hn]), eW, List.map_dropLast]
  · rw [if_neg h, if_neg, eW, List.map_append]
    · rfl
    intro z
    cases q : u.getLast? with
    | none => rw [q] at z; cases z
    | some m =>
      rw [q, Option.map_some, ← eN_neg hn] at z
      injection z with z
      rw [q, eN_inj (hu m (List.mem_of_getLast? q)) hn.neg z] at h
      exact h rfl
theorem joined_in : ∀ {v u : List Int}, InW u → InW v → InW (joined u v)
  | [], _, hu, _ => hu
  | n :: v, u, hu, hv => joined_in (v := v) (u := joinStep u n) (joinStep_in hu (hv n List.mem_cons_self)) fun m hm => hv m (List.mem_cons_of_mem _ hm)
theorem joined_e : ∀ {v u : List Int}, InW u → InW v → eW (joined u v) = (eW v).foldl shSt (eW u)
  | [], _, _, _ => rfl
  | n :: v, u, hu, hv => by
    have hn := hv n List.mem_cons_self
    have ih := joined_e (v := v) (u := joinStep u n) (joinStep_in hu hn) fun m hm => hv m (List.mem_cons_of_mem _ hm)
    show eW (joined (joinStep u n) v) = _
    rw [ih, joinStep_e hu hn]
    rfl
theorem behind_in {u : List Int} (h : InW u) : InW (behindN u) := fun n hn => by
  obtain ⟨m, hm, rfl⟩ := List.mem_map.mp hn
  exact (h m (List.mem_reverse.mp hm)).neg
theorem behind_e {u : List Int} (h : InW u) : eW (behindN u) = rv (eW u) := by
  unfold behindN rv eW
  rw [List.map_map, ← List.map_reverse, List.map_map]
  refine List.map_congr_left fun n hn => ?_
  exact eN_neg (h n (List.mem_reverse.mp hn))
/-- the row ns stands for the word a -/
structure Row (ns : List Int) (a : List Nat) : Prop where
  inw : InW ns
  al : AL a
  eq : eW ns = sh a
theorem Row.nil : Row [] [] := ⟨InW.nil, AL.nil, rfl⟩
theorem Row.one {n : Int} (h : InR n) : Row [n] [eN n] := ⟨fun m hm => by rw [List.mem_singleton.mp hm]; exact h, AL.cons (eN_L h) AL.nil, by rw [sh_of_red (AL.cons (eN_L h) AL.nil) trivial]; rfl⟩
theorem Row.join {u v : List Int} {a b : List Nat} (h : Row u a) (h' : Row v b) : Row (joined u v) (a ++ b) where
  inw := joined_in h.inw h'.inw
  al := h.al.app h'.al
  eq := by rw [joined_e h.inw h'.inw, h.eq, h'.eq, sh_app, ← foldl_sh (sh_AL h.al) (sh_red h.al) h'.al]
theorem Row.back {u : List Int} {a : List Nat} (h : Row u a) : Row (behindN u) (rv a) where
  inw := behind_in h.inw
  al := h.al.rv
  eq := by rw [behind_e h.inw, h.eq, sh_rv h.al]
theorem Row.len {u : List Int} {a : List Nat} (h : Row u a) : u.length = (sh a).length := by
  rw [← h.eq, List.length_map]
theorem Row.to {u : List Int} {a b : List Nat} (h : Row u a) (hb : AL b) (e : sh a = sh b) : Row u b := ⟨h.inw, hb, h.eq.trans e⟩
/-- how far two words are apart -/
def dst (a b : List Nat) : Nat := (sh (rv a ++ b)).length
theorem sh_len_app {a b : List Nat} (ha : AL a) (hb : AL b) : (sh (a ++ b)).length ≤ (sh a).length + (sh b).length := by
  rw [sh_app_sh ha hb]
  have := sh_len (sh a ++ sh b)
  rw [List.length_append] at this
  exact this
theorem sh_mid {a b c : List Nat} (ha : AL a) (hb : AL b) (hc : AL c) : sh (a ++ b ++ (rv b ++ c)) = sh (a ++ c) := by
  have e : a ++ b ++ (rv b ++ c) = a ++ ((b ++ rv b) ++ c) := by simp
  rw [e]
  refine sh_congr ha ((hb.app hb.rv).app hc) ha hc rfl ?_
  rw [sh_app_sh (hb.app hb.rv) hc, sh_rv_r hb, List.nil_append, sh_sh hc]
theorem dst_tri {a b c : List Nat} (ha : AL a) (hb : AL b) (hc : AL c) : dst a c ≤ dst a b + dst b c := by
  unfold dst
  rw [← sh_mid ha.rv hb hc]
  exact sh_len_app (ha.rv.app hb) (hb.rv.app hc)
theorem dst_symm {a b : List Nat} (ha : AL a) (hb : AL b) : dst a b = dst b a := by
  unfold dst
  have e : rv (rv a ++ b) = rv b ++ a := by rw [rv_app, rv_rv ha]
  rw [← e, sh_rv (ha.rv.app hb), rv_len]
theorem dst_self {a : List Nat} (ha : AL a) : dst a a = 0 := by
  unfold dst
  rw [sh_rv_l ha]
  rfl
theorem dst_left {g a b : List Nat} (hg : AL g) (ha : AL a) (hb : AL b) : dst (g ++ a) (g ++ b) = dst a b := by
  unfold dst
  have h := sh_mid (a := rv a) (b := rv g) (c := b) ha.rv hg.rv hb
  rw [rv_rv hg] at h
  rw [rv_app, ← h]
theorem dst_nil {a : List Nat} : dst [] a = (sh a).length := rfl
/-! sums -/
def sumT : Nat → (Nat → Nat) → Nat
  | 0, _ => 0
  | n + 1, f => sumT n f + f n
def setF (f : Nat → Nat) (i x : Nat) : Nat → Nat := fun j => if j = i then x else f j
theorem sumT_congr : ∀ {n : Nat} {f g : Nat → Nat}, (∀ i, i < n → f i = g i) → sumT n f = sumT n g
  | 0, _, _, _ => rfl
  | n + 1, f, g, h => by
    unfold sumT
    rw [sumT_congr (n := n) fun i hi => h i (by omega), h n (by omega)]
theorem sumT_set : ∀ {n : Nat} {f : Nat → Nat} {i x : Nat}, i < n → sumT n (setF f i x) + f i = sumT n f + x
  | n + 1, f, i, x, h => by
    unfold sumT
    by_cases e : i = n
    · subst e
      rw [sumT_congr (g := f) fun j hj => by unfold setF; rw [if_neg (by omega)]]
      unfold setF
      rw [if_pos rfl]
      omega
    · have := sumT_set (n := n) (f := f) (i := i) (x := x) (by omega)
      have e2 : setF f i x n = f n := by unfold setF; rw [if_neg (by omega)]
      omega
theorem sumT_le : ∀ {n : Nat} {f : Nat → Nat} {i : Nat}, i < n → f i ≤ sumT n f
  | n + 1, f, i, h => by
    unfold sumT
    by_cases e : i = n
    · subst e
      omega
    · have := sumT_le (n := n) (f := f) (i := i) (by omega)
      omega
theorem sumT_two : ∀ {n : Nat} {f : Nat → Nat} {i j : Nat}, i < n → j < n → i ≠ j → f i + f j ≤ sumT n f
  | n + 1, f, i, j, hi, hj, h => by
    unfold sumT
    by_cases e : i = n
    · subst e
      have := sumT_le (n := i) (f := f) (i := j) (by omega)
      omega
    · by_cases e2 : j = n
      · subst e2
        have := sumT_le (n := j) (f := f) (i := i) (by omega)
        omega
      · have := sumT_two (n := n) (f := f) (i := i) (j := j) (by omega) (by omega) h
        omega
end Gw

/-! ### rows of numbers while ties are glued: at most doubled by each room that goes. Plain. -/
namespace Gw
/-- each end of a tie has a word; the words of one room are not far apart -/
structure Lab (N S : Nat) (D : List Nat) (ts : List T4) (L : Nat → List Nat → Prop) (W : Nat → Nat) : Prop where
  al : ∀ r a, L r a → AL a
  e : ∀ r, L r []
  dist : ∀ r a b, L r a → L r b → dst a b ≤ W r
  tie : ∀ t ∈ ts, ∃ a b, L t.1 a ∧ L t.2.2.1 b ∧ Row t.2.2.2 (a ++ rv b)
  room : ∀ t ∈ ts, (t.1 < N ∧ t.1 ∉ D) ∧ t.2.2.1 < N ∧ t.2.2.1 ∉ D
  nd : D.Nodup
  dead : ∀ x ∈ D, x ≠ 0 ∧ x < N
  sum : sumT N W ≤ S
section
variable {N S : Nat} {D : List Nat} {ts : List T4} {L : Nat → List Nat → Prop} {W : Nat → Nat}
theorem Lab.row (I : Lab N S D ts L W) {t : T4} (h : t ∈ ts) : t.2.2.2.length ≤ 2 * S := by
  obtain ⟨a, b, ha, hb, hr⟩ := I.tie t h
  obtain ⟨⟨h1, _⟩, h2, _⟩ := I.room t h
  have e1 := I.dist _ _ _ (I.e _) ha
  have e2 := I.dist _ _ _ (I.e _) hb
  rw [dst_nil] at e1 e2
  have e3 := sh_len_app (I.al _ _ ha) (I.al _ _ hb).rv
  rw [sh_rv (I.al _ _ hb), rv_len] at e3
  have e4 := sumT_le (f := W) h1
  have e5 := sumT_le (f := W) h2
  have e6 := I.sum
  rw [hr.len]
  omega
theorem Lab.erase (I : Lab N S D ts L W) (t : T4) : Lab N S D (ts.erase t) L W :=
  ⟨I.al, I.e, I.dist, fun x hx => I.tie x (List.mem_of_mem_erase hx), fun x hx => I.room x (List.mem_of_mem_erase hx), I.nd, I.dead, I.sum⟩
theorem Lab.dlen (I : Lab N S D ts L W) (hN : 0 < N) : D.length + 1 ≤ N := by
  have h := nodup_len (0 :: D) (List.range N) (List.nodup_cons.mpr ⟨fun z => (I.dead 0 z).1 rfl, I.nd⟩) (fun x hx => by
    rcases List.mem_cons.mp hx with rfl | hx
    · exact List.mem_range.mpr hN
    · exact List.mem_range.mpr (I.dead x hx).2)
  rw [List.length_cons, List.length_range] at h
  exact h
/-- the words at the room that stays -/
def mergeL (L : Nat → List Nat → Prop) (A B : Nat) (G : List Nat) : Nat → List Nat → Prop := fun r c => if r = B then c = [] else if r = A then L A c ∨ ∃ h, L B h ∧ c = G ++ h else L r c
theorem Lab.merge (I : Lab N S D ts L W) {r A B : Nat} {a b x1 x2 : List Nat} (hA : A < N) (hB : B < N) (hr : r < N) (hAB : A ≠ B) (hB0 : B ≠ 0) (hAD : A ∉ D) (hBD : B ∉ D) (ha : L A a) (h1 : L r x1) (h2 : L r x2) (hb : L B b) {g : List Int} (hg : Row g (a ++ rv x1 ++ x2 ++ rv b)) (ts' : List T4) (hts : ∀ x ∈ ts', x ∈ ts) :
    Lab N (2 * S) (B :: D) (ts'.map (movedT B A g)) (mergeL L A B (a ++ rv x1 ++ x2 ++ rv b)) (setF (setF W A (W A + W r + W B)) B 0) := by
  have ala := I.al _ _ ha
  have al1 := I.al _ _ h1
  have al2 := I.al _ _ h2
  have alb := I.al _ _ hb
  obtain ⟨G, hG⟩ : ∃ G, G = a ++ rv x1 ++ x2 ++ rv b := ⟨_, rfl⟩
  rw [← hG] at hg ⊢
  have alG : AL G := by rw [hG]; exact ((ala.app al1.rv).app al2).app alb.rv
  have far : ∀ c h, L A c → L B h → dst c (G ++ h) ≤ W A + W r + W B := fun c h hc hh => by
    have d1 := I.dist _ _ _ hc ha
    have d2 := I.dist _ _ _ h1 h2
    have d3 := I.dist _ _ _ hb hh
    have alc := I.al _ _ hc
    have alh := I.al _ _ hh
    unfold dst at *
    have e : rv c ++ (G ++ h) = (rv c ++ a) ++ ((rv x1 ++ x2) ++ (rv b ++ h)) := by rw [hG]; simp
    rw [e]
    have e1 := sh_len_app (alc.rv.app ala) ((al1.rv.app al2).app (alb.rv.app alh))
    have e2 := sh_len_app (al1.rv.app al2) (alb.rv.app alh)
    omega
  have wset : ∀ i, setF (setF W A (W A + W r + W B)) B 0 i = if i = B then 0 else if i = A then W A + W r + W B else W i := fun i => rfl
  have rowg : ∀ {u : List Int} {c : List Nat}, Row u c → Row (joined g u) (G ++ c) := fun h => hg.join h
  refine ⟨?_, ?_, ?_, ?_, ?_, ?_, ?_, ?_⟩
  · intro q c hc
    unfold mergeL at hc
    split at hc
    · rw [hc]; exact AL.nil
    split at hc
    · rcases hc with hc | ⟨h, hh, rfl⟩
      · exact I.al _ _ hc
      · exact alG.app (I.al _ _ hh)
    · exact I.al _ _ hc
  · intro q
    unfold mergeL
    split
    · rfl
    split
    · exact .inl (I.e A)
    · exact I.e q
  · intro q c c' hc hc'
    rw [wset]
    unfold mergeL at hc hc'
    by_cases e1 : q = B
    · rw [if_pos e1] at hc hc'
      rw [hc, hc', if_pos e1]
      exact Nat.le_refl _
    rw [if_neg e1] at hc hc' ⊢
    by_cases e2 : q = A
    · rw [if_pos e2] at hc hc' ⊢
      rcases hc with hc | ⟨h, hh, rfl⟩
      · rcases hc' with hc' | ⟨h', hh', rfl⟩
        · have := I.dist _ _ _ hc hc'
          omega
        · exact far _ _ hc hh'
      · rcases hc' with hc' | ⟨h', hh', rfl⟩
        · rw [dst_symm (alG.app (I.al _ _ hh)) (I.al _ _ hc')]
          exact far _ _ hc' hh
        · rw [dst_left alG (I.al _ _ hh) (I.al _ _ hh')]
          have := I.dist _ _ _ hh hh'
          omega
    · rw [if_neg e2] at hc hc' ⊢
      exact I.dist _ _ _ hc hc'
  · intro t' ht'
    obtain ⟨t, ht, rfl⟩ := List.mem_map.mp ht'
    obtain ⟨α, β, hα, hβ, hrow⟩ := I.tie t (hts t ht)
    have key : ∀ (y : Nat) (c : List Nat), L y c → mergeL L A B G (if y = B then A else y) (if y = B then G ++ c else c) := fun y c hc => by
      unfold mergeL
      by_cases e : y = B
      · rw [if_pos e, if_pos e, if_neg hAB, if_pos rfl]
        exact .inr ⟨c, by rw [← e]; exact hc, rfl⟩
      · rw [if_neg e, if_neg e, if_neg e]
        split
        · rename_i e2
          exact .inl (by rw [← e2]; exact hc)
        · exact hc
    refine ⟨if t.1 = B then G ++ α else α, if t.2.2.1 = B then G ++ β else β, key _ _ hα, key _ _ hβ, ?_⟩
    unfold movedT
    dsimp only
    by_cases e1 : t.1 = B
    · rw [if_pos e1, if_pos e1]
      by_cases e2 : t.2.2.1 = B
      · rw [if_pos e2, if_pos e2]
        have := (rowg hrow).join hg.back
        rw [rv_app]
        rw [show G ++ (α ++ rv β) ++ rv G = G ++ α ++ (rv β ++ rv G) by simp] at this
        exact this
      · rw [if_neg e2, if_neg e2]
        have := rowg hrow
        rw [← List.append_assoc] at this
        exact this
    · rw [if_neg e1, if_neg e1]
      by_cases e2 : t.2.2.1 = B
      · rw [if_pos e2, if_pos e2]
        have := hrow.join hg.back
        rw [rv_app]
        rw [List.append_assoc] at this
        exact this
      · rw [if_neg e2, if_neg e2]
        exact hrow
  · intro t' ht'
    obtain ⟨t, ht, rfl⟩ := List.mem_map.mp ht'
    obtain ⟨⟨r1, r2⟩, r3, r4⟩ := I.room t (hts t ht)
    have key : ∀ y, y < N → y ∉ D → (if y = B then A else y) < N ∧ (if y = B then A else y) ∉ B :: D := fun y hy hd => by
      by_cases e : y = B
      · rw [if_pos e]
        exact ⟨hA, fun z => by
          rcases List.mem_cons.mp z with z | z
          · exact hAB z
          · exact hAD z⟩
      · rw [if_neg e]
        exact ⟨hy, fun z => by
          rcases List.mem_cons.mp z with z | z
          · exact e z
          · exact hd z⟩
    exact ⟨key _ r1 r2, (key _ r3 r4).1, (key _ r3 r4).2⟩
  · exact List.nodup_cons.mpr ⟨hBD, I.nd⟩
  · intro x hx
    rcases List.mem_cons.mp hx with rfl | hx
    · exact ⟨hB0, hB⟩
    · exact I.dead x hx
  · have s1 := sumT_set (f := setF W A (W A + W r + W B)) (x := 0) hB
    have s2 := sumT_set (f := W) (x := W A + W r + W B) hA
    have e3 : setF W A (W A + W r + W B) B = W B := by unfold setF; rw [if_neg (fun z => hAB z.symm)]
    rw [e3] at s1
    have s3 := sumT_le (f := W) hr
    have s4 := I.sum
    omega
/-- one turn -/
theorem Lab.step (I : Lab N S D ts L W) {o t : T4} {e : Nat} (hp : pairOf ts = some (o, t, e)) (hS : 20 * S ≤ 16000000) :
    StepFine ts o t e ∧ ((endAt o e = endAt t e ∧ Lab N S D (glueStep ts o t e) L W) ∨ (endAt o e ≠ endAt t e ∧ ∃ L' W', Lab N (2 * S) (endAt t e :: D) (glueStep ts o t e) L' W')) := by
  have ok := pairOf_ok hp
  have o_in : o ∈ ts := ok.o_in
  have t_in : t ∈ ts := ok.t_in
  have meet : MeetAt o t e := ok.meet
  have zero : endAt t e = 0 → endAt o e = 0 := ok.zero
  have lo := I.row o_in
  have lt := I.row t_in
  have lg := glueNs_len o t e
  refine ⟨⟨by omega, fun _ x hx _ => by have := I.row hx; omega⟩, ?_⟩
  unfold glueStep
  by_cases hne : endAt o e = endAt t e
  · rw [if_neg (fun z => z hne)]
    exact .inl ⟨hne, I.erase t⟩
  · rw [if_pos hne]
    refine .inr ⟨hne, ?_⟩
    have hB0 : endAt t e ≠ 0 := fun z => hne ((zero z).trans z.symm)
    obtain ⟨oa, ob, hoa, hob, hor⟩ := I.tie o o_in
    obtain ⟨ta, tb, hta, htb, htr⟩ := I.tie t t_in
    obtain ⟨⟨ro1, ro2⟩, ro3, ro4⟩ := I.room o o_in
    obtain ⟨⟨rt1, rt2⟩, rt3, rt4⟩ := I.room t t_in
    obtain ⟨_, m⟩ := meet
    have sub : ∀ x ∈ ts.erase t, x ∈ ts := fun x hx => List.mem_of_mem_erase hx
    rcases m with ⟨rfl, m⟩ | ⟨rfl, m⟩
    · have hne : o.2.2.1 ≠ t.2.2.1 := hne
      have hB0 : t.2.2.1 ≠ 0 := hB0
      have hg : Row (glueNs o t 2) (ob ++ rv oa ++ ta ++ rv tb) := by
        have := hor.back.join htr
        rw [rv_app, rv_rv (I.al _ _ hob)] at this
        rw [show ob ++ rv oa ++ (ta ++ rv tb) = ob ++ rv oa ++ ta ++ rv tb by simp] at this
        exact this
      rw [← m] at hta
      exact ⟨_, _, I.merge ro3 rt3 ro1 hne hB0 ro4 rt4 hob hoa hta htb hg _ sub⟩
    · have hne : o.1 ≠ t.1 := hne
      have hB0 : t.1 ≠ 0 := hB0
      have hg : Row (glueNs o t 0) (oa ++ rv ob ++ tb ++ rv ta) := by
        have := hor.join htr.back
        rw [rv_app, rv_rv (I.al _ _ htb)] at this
        rw [show oa ++ rv ob ++ (tb ++ rv ta) = oa ++ rv ob ++ tb ++ rv ta by simp] at this
        exact this
      rw [← m] at htb
      exact ⟨_, _, I.merge ro1 rt1 ro3 hne hB0 ro2 rt2 hoa hob htb hta hg _ sub⟩
end
/-- as far as it goes: sizes are kept -/
theorem Lab.fine {N M : Nat} (hN : 0 < N) (hM : 20 * M ≤ 16000000) : ∀ (n S : Nat) (D : List Nat) (ts : List T4) (L : Nat → List Nat → Prop) (W : Nat → Nat), Lab N S D ts L W → S * 2 ^ (N - 1 - D.length) ≤ M →
    Fine n ts ∧ ∃ S' D' L' W', Lab N S' D' (glueN n ts) L' W' ∧ S' * 2 ^ (N - 1 - D'.length) ≤ M
  | 0, S, D, ts, L, W, I, h => ⟨trivial, S, D, L, W, I, h⟩
  | n + 1, S, D, ts, L, W, I, h => by
    have hS : S ≤ M := Nat.le_trans (Nat.le_mul_of_pos_right S (Nat.pow_pos (by decide))) h
    cases g : pairOf ts with
    | none =>
      refine ⟨(fun o t e z => by rw [g] at z; cases z), S, D, L, W, ?_, h⟩
      unfold glueN
      rw [g]
      exact I
    | some p =>
      obtain ⟨o, t, e⟩ := p
      obtain ⟨h1, h2⟩ := I.step g (by omega)
      have key : Fine n (glueStep ts o t e) ∧ ∃ S' D' L' W', Lab N S' D' (glueN n (glueStep ts o t e)) L' W' ∧ S' * 2 ^ (N - 1 - D'.length) ≤ M := by
        rcases h2 with ⟨_, I2⟩ | ⟨_, L', W', I2⟩
        · exact Lab.fine hN hM n _ _ _ _ _ I2 h
        · refine Lab.fine hN hM n _ _ _ _ _ I2 ?_
          have dl := I2.dlen hN
          rw [List.length_cons] at dl ⊢
          have e1 : N - 1 - D.length = (N - 1 - (D.length + 1)) + 1 := by omega
          rw [e1, Nat.pow_succ] at h
          calc 2 * S * 2 ^ (N - 1 - (D.length + 1)) = S * (2 ^ (N - 1 - (D.length + 1)) * 2) := by
                rw [Nat.mul_comm 2 S, Nat.mul_assoc, Nat.mul_comm 2]
            _ ≤ M := h
      refine ⟨fun o' t' e' z => ?_, ?_⟩
      · rw [g] at z
        cases z
        exact ⟨h1, key.1⟩
      · unfold glueN
        rw [g]
        exact key.2
end Gw

/-! ### the first words are glued first. Plain. -/
namespace Gw
abbrev Tab := List ((Nat × Nat) × T4)
def tabB (ts : List T4) (B : Tab) : Tab := ts.foldl (fun B t => aput B (t.1, t.2.1) t) B
def tabE (ts : List T4) (E : Tab) : Tab := ts.foldl (fun E t => aput E (t.2.2.1, t.2.1) t) E
theorem pairGo_cons (t : T4) (r : List T4) (B E : Tab) : pairGo (t :: r) B E = match aget B (t.1, t.2.1) with
    | some o => some (inOrder o t 2)
    | none => match aget E (t.2.2.1, t.2.1) with
      | some o => some (inOrder o t 0)
      | none => pairGo r (aput B (t.1, t.2.1) t) (aput E (t.2.2.1, t.2.1) t) := rfl
theorem pairGo_app : ∀ (pre post : List T4) (B E : Tab), pairGo (pre ++ post) B E = match pairGo pre B E with
    | some r => some r
    | none => pairGo post (tabB pre B) (tabE pre E)
  | [], post, B, E => rfl
  | t :: pre, post, B, E => by
    rw [List.cons_append, pairGo_cons, pairGo_cons]
    cases g : aget B (t.1, t.2.1) with
    | some o => rfl
    | none =>
      dsimp only
      cases g2 : aget E (t.2.2.1, t.2.1) with
      | some o => rfl
      | none =>
        dsimp only
        rw [pairGo_app pre post]
        rfl
theorem pairOf_app {pre post : List T4} {r : T4 × T4 × Nat} (h : pairOf pre = some r) : pairOf (pre ++ post) = some r := by
  unfold pairOf at *
  rw [pairGo_app, h]
theorem pairOf_app_none {pre post : List T4} (h : pairOf pre = none) : pairOf (pre ++ post) = pairGo post (tabB pre []) (tabE pre []) := by
  unfold pairOf at *
  rw [pairGo_app, h]
theorem tabB_in {S : List T4} : ∀ {ts : List T4} {B : Tab}, (∀ t ∈ ts, t ∈ S) → TabIn S (fun t => (t.1, t.2.1)) B → TabIn S (fun t => (t.1, t.2.1)) (tabB ts B)
  | [], _, _, h => h
  | t :: ts, B, hs, h => tabB_in (ts := ts) (B := aput B (t.1, t.2.1) t) (fun x hx => hs x (List.mem_cons_of_mem _ hx)) (h.put (key := fun t => (t.1, t.2.1)) (hs t List.mem_cons_self))
theorem tabE_in {S : List T4} : ∀ {ts : List T4} {B : Tab}, (∀ t ∈ ts, t ∈ S) → TabIn S (fun t => (t.2.2.1, t.2.1)) B → TabIn S (fun t => (t.2.2.1, t.2.1)) (tabE ts B)
  | [], _, _, h => h
  | t :: ts, B, hs, h => tabE_in (ts := ts) (B := aput B (t.2.2.1, t.2.1) t) (fun x hx => hs x (List.mem_cons_of_mem _ hx)) (h.put (key := fun t => (t.2.2.1, t.2.1)) (hs t List.mem_cons_self))
theorem tabB_has : ∀ {ts : List T4} {B : Tab} {k : Nat × Nat}, ((aget B k).isSome = true ∨ ∃ t ∈ ts, (t.1, t.2.1) = k) → (aget (tabB ts B) k).isSome = true
  | [], _, _, h => by
    rcases h with h | ⟨t, ht, _⟩
    · exact h
    · cases ht
  | t :: ts, B, k, h => by
    refine tabB_has (ts := ts) (B := aput B (t.1, t.2.1) t) ?_
    rw [aget_put]
    rcases h with h | ⟨x, hx, e⟩
    · left
      split
      · rfl
      · exact h
    · rcases List.mem_cons.mp hx with rfl | hx
      · left
        rw [if_pos e.symm]
        rfl
      · exact .inr ⟨x, hx, e⟩
theorem tabE_has : ∀ {ts : List T4} {B : Tab} {k : Nat × Nat}, ((aget B k).isSome = true ∨ ∃ t ∈ ts, (t.2.2.1, t.2.1) = k) → (aget (tabE ts B) k).isSome = true
  | [], _, _, h => by
    rcases h with h | ⟨t, ht, _⟩
    · exact h
    · cases ht
  | t :: ts, B, k, h => by
    refine tabE_has (ts := ts) (B := aput B (t.2.2.1, t.2.1) t) ?_
    rw [aget_put]
    rcases h with h | ⟨x, hx, e⟩
    · left
      split
      · rfl
      · exact h
    · rcases List.mem_cons.mp hx with rfl | hx
      · left
        rw [if_pos e.symm]
        rfl
      · exact .inr ⟨x, hx, e⟩
theorem tabIn_nil {S : List T4} {key : T4 → Nat × Nat} : TabIn S key [] := fun k o e => by cases e
/-- rooms below f -/
def Below (f : Nat) (ts : List T4) : Prop := ∀ t ∈ ts, t.1 < f ∧ t.2.2.1 < f
/-- rooms from f on, or 0 -/
def Beyond (f : Nat) (ts : List T4) : Prop := ∀ t ∈ ts, (t.1 = 0 ∨ f ≤ t.1) ∧ (t.2.2.1 = 0 ∨ f ≤ t.2.2.1)
def FineAll (ts : List T4) : Prop := ∀ n, Fine n ts
theorem FineAll.of {ts : List T4} (h : ∀ o t e, pairOf ts = some (o, t, e) → StepFine ts o t e ∧ FineAll (glueStep ts o t e)) : FineAll ts
  | 0 => trivial
  | n + 1 => fun o t e z => ⟨(h o t e z).1, (h o t e z).2 n⟩
theorem FineAll.none {ts : List T4} (h : pairOf ts = none) : FineAll ts := .of fun o t e z => by rw [h] at z; cases z
theorem FineAll.step {ts : List T4} (F : FineAll ts) {o t : T4} {e : Nat} (h : pairOf ts = some (o, t, e)) : StepFine ts o t e ∧ FineAll (glueStep ts o t e) :=
  ⟨(F 1 o t e h).1, fun n => (F (n + 1) o t e h).2⟩
theorem moved_id {B A : Nat} {g : List Int} {t : T4} (h1 : t.1 ≠ B) (h2 : t.2.2.1 ≠ B) : movedT B A g t = t := by
  unfold movedT
  dsimp only
  rw [if_neg h1, if_neg h2, if_neg h1, if_neg h2]
theorem moved_map_id {B A : Nat} {g : List Int} : ∀ {ts : List T4}, (∀ t ∈ ts, t.1 ≠ B ∧ t.2.2.1 ≠ B) → ts.map (movedT B A g) = ts
  | [], _ => rfl
  | t :: ts, h => by
    rw [List.map_cons, moved_id (h t List.mem_cons_self).1 (h t List.mem_cons_self).2, moved_map_id fun x hx => h x (List.mem_cons_of_mem _ hx)]
theorem endAt_below {f : Nat} {ts : List T4} (h : Below f ts) {t : T4} (ht : t ∈ ts) (e : Nat) : endAt t e < f := by
  unfold endAt
  split
  · exact (h t ht).1
  · exact (h t ht).2
theorem glueStep_below {f : Nat} {ts : List T4} {o t : T4} {e : Nat} (h : Below f ts) (ho : o ∈ ts) : Below f (glueStep ts o t e) := by
  intro x hx
  unfold glueStep at hx
  split at hx
  · obtain ⟨y, hy, rfl⟩ := List.mem_map.mp hx
    obtain ⟨h1, h2⟩ := h y (List.mem_of_mem_erase hy)
    have h3 := endAt_below h ho e
    unfold movedT
    dsimp only
    constructor
    · split
      · exact h3
      · exact h1
    · split
      · exact h3
      · exact h2
  · exact h x (List.mem_of_mem_erase hx)
theorem glueStep_app {f : Nat} {pre post : List T4} {o t : T4} {e : Nat} (hp : pairOf pre = some (o, t, e)) (h : Below f pre) (h' : Beyond f post) : glueStep (pre ++ post) o t e = glueStep pre o t e ++ post := by
  have ok := pairOf_ok hp
  have t_in : t ∈ pre := ok.t_in
  have zero : endAt t e = 0 → endAt o e = 0 := ok.zero
  unfold glueStep
  rw [List.erase_append_left _ t_in]
  by_cases hne : endAt o e = endAt t e
  · rw [if_neg (fun z => z hne), if_neg (fun z => z hne)]
  · rw [if_pos hne, if_pos hne, List.map_append]
    congr 1
    refine moved_map_id fun x hx => ?_
    have hB := endAt_below h t_in e
    have hB0 : endAt t e ≠ 0 := fun z => hne ((zero z).trans z.symm)
    obtain ⟨h1, h2⟩ := h' x hx
    constructor
    · intro z
      rw [z] at h1
      rcases h1 with h1 | h1 <;> omega
    · intro z
      rw [z] at h2
      rcases h2 with h2 | h2 <;> omega
theorem glue_app {f : Nat} {post : List T4} (h' : Beyond f post) : ∀ (n : Nat) (pre : List T4), pre.length ≤ n → Below f pre → glue (pre ++ post) = glue (glue pre ++ post)
  | 0, pre, hn, _ => by
    have : pre = [] := List.length_eq_zero_iff.mp (by omega)
    subst this
    rfl
  | n + 1, pre, hn, h => by
    cases g : pairOf pre with
    | none => rw [glue_none g]
    | some r =>
      obtain ⟨o, t, e⟩ := r
      have ok := pairOf_ok g
      have hl : (glueStep pre o t e).length + 1 = pre.length := glueStep_len ok.t_in
      rw [glue_some g, glue_some (pairOf_app g), glueStep_app g h h']
      exact glue_app h' n _ (by omega) (glueStep_below h ok.o_in)
theorem glue_below {f : Nat} : ∀ (n : Nat) (pre : List T4), pre.length ≤ n → Below f pre → Below f (glue pre)
  | 0, pre, hn, h => by
    have : pre = [] := List.length_eq_zero_iff.mp (by omega)
    subst this
    exact h
  | n + 1, pre, hn, h => by
    cases g : pairOf pre with
    | none => rw [glue_none g]; exact h
    | some r =>
      obtain ⟨o, t, e⟩ := r
      have ok := pairOf_ok g
      have hl : (glueStep pre o t e).length + 1 = pre.length := glueStep_len ok.t_in
      rw [glue_some g]
      exact glue_below n _ (by omega) (glueStep_below h ok.o_in)
theorem fine_app {f : Nat} {post : List T4} (h' : Beyond f post) : ∀ (n : Nat) (pre : List T4), pre.length ≤ n → Below f pre → FineAll pre → FineAll (glue pre ++ post) → FineAll (pre ++ post)
  | 0, pre, hn, _, _, h2 => by
    have : pre = [] := List.length_eq_zero_iff.mp (by omega)
    subst this
    exact h2
  | n + 1, pre, hn, h, h1, h2 => by
    cases g : pairOf pre with
    | none => rw [glue_none g] at h2; exact h2
    | some r =>
      obtain ⟨o, t, e⟩ := r
      have ok := pairOf_ok g
      have t_in : t ∈ pre := ok.t_in
      have zero : endAt t e = 0 → endAt o e = 0 := ok.zero
      have hl : (glueStep pre o t e).length + 1 = pre.length := glueStep_len ok.t_in
      obtain ⟨s1, s2⟩ := h1.step g
      rw [glue_some g] at h2
      refine .of fun o' t' e' z => ?_
      rw [pairOf_app g] at z
      cases z
      refine ⟨⟨s1.1, fun hne x hx hi => ?_⟩, ?_⟩
      · rcases List.mem_append.mp hx with hx | hx
        · exact s1.2 hne x hx hi
        · exfalso
          have hB := endAt_below h t_in e
          have hB0 : endAt t e ≠ 0 := fun z => hne ((zero z).trans z.symm)
          obtain ⟨h3, h4⟩ := h' x hx
          rcases hi with hi | hi
          · rw [hi] at h3
            rcases h3 with h3 | h3 <;> omega
          · rw [hi] at h4
            rcases h4 with h4 | h4 <;> omega
      · rw [glueStep_app g h h']
        exact fine_app h' n _ (by omega) (glueStep_below h ok.o_in) s2 h2
/-! rings, word by word -/
def tieT (r c g : Nat) (m : List Int) : T4 := if smallL c then (r, c, g, m) else (g, bk c, r, m)
/-- a row as it is kept beside a tie -/
def dirN (c : Nat) (ns : List Int) : List Int := if smallL c then ns else behindN ns
/-- what is left of a ring: from room r on, the first tie's row m -/
def segT : Nat → List Int → Nat → List Nat → List T4
  | _, _, _, [] => []
  | r, m, _, [c] => [tieT r c 0 m]
  | r, m, f, c :: d :: w => tieT r c f m :: segT f [] (f + 1) (d :: w)
theorem behindN_nil : behindN [] = [] := rfl
theorem ring_seg (k n : Nat) : ∀ (w : List Nat) (i : Nat) (ts : List T4) (f r : Nat), w ≠ [] → i + w.length = n →
    (w.zipIdx i).foldl (ringStep k n) (ts, f, r) = (ts ++ segT r (if i = 0 then dirN (w.headD 0) [(k : Int) + 1] else []) f w, f + (w.length - 1), 0)
  | [], _, _, _, _, h, _ => absurd rfl h
  | [c], i, ts, f, r, _, h => by
    rw [List.zipIdx_cons, List.zipIdx_nil, List.foldl_cons, List.foldl_nil]
    have h : i + 1 = n := h
    unfold ringStep
    dsimp only
    rw [if_pos h, if_pos h]
    refine Prod.ext ?_ rfl
    show ts ++ [_] = ts ++ [tieT r c 0 _]
    unfold tieT dirN
    congr 2
    by_cases hi : i = 0
    · rw [if_pos hi, if_pos hi]
      cases hs : smallL c <;> simp [List.headD, hs]
    · rw [if_neg hi, if_neg hi]
      cases hs : smallL c <;> simp [behindN_nil]
  | c :: d :: w, i, ts, f, r, _, h => by
    rw [List.zipIdx_cons, List.foldl_cons]
    have h2 : i + 1 + (d :: w).length = n := by rw [List.length_cons] at h; omega
    have hn : ¬ i + 1 = n := by rw [List.length_cons] at h2; omega
    have e1 : ringStep k n (ts, f, r) (c, i) = (ts ++ [tieT r c f (if i = 0 then dirN c [(k : Int) + 1] else [])], f + 1, f) := by
      unfold ringStep
      dsimp only
      rw [if_neg hn, if_neg hn]
      refine Prod.ext ?_ rfl
      show ts ++ [_] = ts ++ [tieT r c f _]
      unfold tieT dirN
      congr 2
      by_cases hi : i = 0
      · rw [if_pos hi, if_pos hi]
        cases hs : smallL c <;> simp
      · rw [if_neg hi, if_neg hi]
        cases hs : smallL c <;> simp [behindN_nil]
    rw [e1, ring_seg k n (d :: w) (i + 1) _ (f + 1) f (by simp) h2, if_neg (show ¬ i + 1 = 0 by omega)]
    refine Prod.ext ?_ (Prod.ext ?_ rfl)
    · show (ts ++ [tieT r c f _]) ++ _ = ts ++ (tieT r c f _ :: _)
      rw [List.append_assoc]
      rfl
    · show f + 1 + _ = f + _
      simp only [List.length_cons]
      omega
/-- the next fresh room behind these words -/
def freshOf (ws : List (List Nat)) : Nat := ws.foldl (fun f w => f + (w.length - 1)) 1
theorem ringWord_eq (ts : List T4) (f : Nat) (w : List Nat) (k : Nat) : ringWord (ts, f) (w, k) = (ts ++ segT 0 (dirN (w.headD 0) [(k : Int) + 1]) f w, f + (w.length - 1)) := by
  unfold ringWord
  dsimp only
  cases w with
  | nil => simp [segT]
  | cons c w =>
    have h := ring_seg k (c :: w).length (c :: w) 0 ts f 0 (by simp) (by omega)
    rw [if_pos rfl] at h
    rw [h]
theorem rings_fold : ∀ (ws : List (List Nat)) (i : Nat) (ts : List T4) (f : Nat), ((ws.zipIdx i).foldl ringWord (ts, f)).2 = ws.foldl (fun f w => f + (w.length - 1)) f
  | [], _, _, _ => rfl
  | w :: ws, i, ts, f => by
    rw [List.zipIdx_cons, List.foldl_cons, ringWord_eq, rings_fold ws]
    rfl
theorem rings_snoc (ws : List (List Nat)) (w : List Nat) : rings (ws ++ [w]) = rings ws ++ segT 0 (dirN (w.headD 0) [(ws.length : Int) + 1]) (freshOf ws) w := by
  unfold rings
  rw [List.zipIdx_append, List.foldl_append, List.zipIdx_singleton, List.foldl_cons, List.foldl_nil, Nat.zero_add]
  have h := rings_fold ws 0 [] 1
  generalize List.foldl ringWord ([], 1) (ws.zipIdx 0) = st at *
  obtain ⟨ts, f⟩ := st
  rw [ringWord_eq]
  have h : f = freshOf ws := h
  rw [h]
theorem freshOf_snoc (ws : List (List Nat)) (w : List Nat) : freshOf (ws ++ [w]) = freshOf ws + (w.length - 1) := by
  unfold freshOf
  rw [List.foldl_append]
  rfl
theorem freshOf_pos (ws : List (List Nat)) : 0 < freshOf ws := by
  refine snoc_ind (P := fun ws => 0 < freshOf ws) (by decide) (fun l c h => ?_) ws
  rw [freshOf_snoc]
  omega
theorem seg_rooms : ∀ (w : List Nat) (r : Nat) (m : List Int) (f : Nat), ∀ t ∈ segT r m f w, (t.1 = r ∨ t.1 = 0 ∨ (f ≤ t.1 ∧ t.1 < f + (w.length - 1))) ∧ (t.2.2.1 = r ∨ t.2.2.1 = 0 ∨ (f ≤ t.2.2.1 ∧ t.2.2.1 < f + (w.length - 1)))
  | [], _, _, _, t, h => by cases h
  | [c], r, m, f, t, h => by
    rw [segT, List.mem_singleton] at h
    subst h
    unfold tieT
    split
    · exact ⟨.inl rfl, .inr (.inl rfl)⟩
    · exact ⟨.inr (.inl rfl), .inl rfl⟩
  | c :: d :: w, r, m, f, t, h => by
    rw [segT] at h
    simp only [List.length_cons]
    rcases List.mem_cons.mp h with rfl | h
    · unfold tieT
      split
      · exact ⟨.inl rfl, .inr (.inr ⟨Nat.le_refl _, by dsimp only; omega⟩)⟩
      · exact ⟨.inr (.inr ⟨Nat.le_refl _, by dsimp only; omega⟩), .inl rfl⟩
    · obtain ⟨h1, h2⟩ := seg_rooms (d :: w) f [] (f + 1) t h
      simp only [List.length_cons] at h1 h2
      constructor
      · rcases h1 with h1 | h1 | h1
        · exact .inr (.inr (by omega))
        · exact .inr (.inl h1)
        · exact .inr (.inr (by omega))
      · rcases h2 with h2 | h2 | h2
        · exact .inr (.inr (by omega))
        · exact .inr (.inl h2)
        · exact .inr (.inr (by omega))
theorem rings_below (ws : List (List Nat)) : Below (freshOf ws) (rings ws) := by
  refine snoc_ind (P := fun ws => Below (freshOf ws) (rings ws)) (fun t h => by cases h) (fun ws w ih => ?_) ws
  rw [rings_snoc, freshOf_snoc]
  intro t ht
  rcases List.mem_append.mp ht with ht | ht
  · have := ih t ht
    omega
  · have := seg_rooms w 0 _ _ t ht
    have := freshOf_pos ws
    omega
theorem seg_beyond {w : List Nat} {m : List Int} {f : Nat} : Beyond f (segT 0 m f w) := fun t ht => by
  have := seg_rooms w 0 _ _ t ht
  omega
end Gw

/-! ### a word that is read by glued ties changes one row only. Plain. -/
namespace Gw
theorem folded_perm {ts ts' : List T3} (p : ts.Perm ts') (F : Folded ts) : Folded ts' :=
  (p.pairwise_iff (fun {a b} h => ⟨fun z => h.1 ⟨z.1.symm, z.2.symm⟩, fun z => h.2 ⟨z.1.symm, z.2.symm⟩⟩)).mp F
theorem pairOf_of_folded {ts : List T4} (F : Folded (ts.map T4.t3)) : pairOf ts = none := by
  cases g : pairOf ts with
  | none => rfl
  | some r =>
    exfalso
    have ok := pairOf_ok g
    have rest := pairOf_rest g
    have p : ts.Perm (r.2.1 :: ts.erase r.2.1) := List.perm_cons_erase ok.t_in
    have F2 := folded_perm (p.map T4.t3) F
    rw [List.map_cons] at F2
    have h := (List.pairwise_cons.mp F2).1 r.1.t3 (List.mem_map.mpr ⟨_, rest, rfl⟩)
    obtain ⟨m1, m2⟩ := ok.meet
    rcases m2 with ⟨_, m⟩ | ⟨_, m⟩
    · exact h.1 ⟨m.symm, m1.symm⟩
    · exact h.2 ⟨m.symm, m1.symm⟩
/-- glued ties: no pair is left, rooms below f, rows of at most B numbers -/
structure Glu (f B : Nat) (ts : List T4) : Prop where
  fold : Folded (ts.map T4.t3)
  below : Below f ts
  pos : 0 < f
  row : ∀ t ∈ ts, t.2.2.2.length ≤ B
theorem Glu.none {f B : Nat} {ts : List T4} (G : Glu f B ts) : pairOf ts = none := pairOf_of_folded G.fold
theorem tieT_t3 {r c g : Nat} {m : List Int} : (tieT r c g m).t3 = if smallL c then (r, c, g) else (g, bk c, r) := by
  unfold tieT T4.t3
  split <;> rfl
theorem not_below {f : Nat} {ts : List T4} (h : Below f ts) {t : T4} (e : f ≤ t.1 ∨ f ≤ t.2.2.1) : t ∉ ts := fun z => by
  have := h t z
  omega
theorem moved_seg {f A : Nat} {g : List Int} (hf : 0 < f) : ∀ (d : Nat) (w : List Nat), ∃ m, m.length ≤ g.length ∧ (segT f [] (f + 1) (d :: w)).map (movedT f A g) = segT A m (f + 1) (d :: w) := by
  intro d w
  have hj : (joined g []).length ≤ g.length := by have := joined_len [] g; simpa using this
  have hb : (joined [] (behindN g)).length ≤ g.length := by have := joined_len (behindN g) []; rw [behindN_len] at this; simpa using this
  have head : ∀ G : Nat, G ≠ f → movedT f A g (tieT f d G []) = tieT A d G (if smallL d then joined g [] else joined [] (behindN g)) := fun G hG => by
    unfold movedT tieT
    by_cases hs : smallL d = true
    · rw [if_pos hs, if_pos hs, if_pos hs]
      dsimp only
      rw [if_pos rfl, if_pos rfl, if_neg hG, if_neg hG]
    · rw [if_neg hs, if_neg hs, if_neg hs]
      dsimp only
      rw [if_pos rfl, if_pos rfl, if_neg hG, if_neg hG]
  refine ⟨if smallL d then joined g [] else joined [] (behindN g), by split <;> assumption, ?_⟩
  cases w with
  | nil =>
    show [movedT f A g (tieT f d 0 [])] = _
    rw [head 0 (by omega)]
    rfl
  | cons e w =>
    show movedT f A g (tieT f d (f + 1) []) :: _ = _
    rw [head (f + 1) (by omega)]
    show _ :: List.map _ _ = _ :: _
    congr 1
    refine moved_map_id fun t ht => ?_
    have := seg_rooms (e :: w) (f + 1) [] (f + 1 + 1) t ht
    omega
theorem st_below {f : Nat} {ts : List T4} (h : Below f ts) {a c b : Nat} (s : St (ts.map T4.t3) a c b) : a < f ∧ b < f := by
  rcases s with ⟨_, m⟩ | ⟨_, m⟩
  · obtain ⟨t, ht, e⟩ := List.mem_map.mp m
    have := h t ht
    unfold T4.t3 at e
    simp only [Prod.mk.injEq] at e
    omega
  · obtain ⟨t, ht, e⟩ := List.mem_map.mp m
    have := h t ht
    unfold T4.t3 at e
    simp only [Prod.mk.injEq] at e
    omega
section
variable {f B : Nat} {Γ : List T4}
/-- the next letter is read: one tie and one room fewer -/
theorem read_pair (G : Glu f B Γ) {a c a' : Nat} (hc : isL c = true) (s : St (Γ.map T4.t3) a c a') {g : Nat} (hg : g = 0 ∨ f ≤ g) (m : List Int) (post : List T4) :
    ∃ o ∈ Γ, (g ≠ 0 → ∃ e, pairOf (Γ ++ tieT a c g m :: post) = some (o, tieT a c g m, e) ∧ endAt o e = a' ∧ endAt (tieT a c g m) e = g ∧ (e = 0 ∨ e = 2)) ∧
      (a' = 0 → g = 0 → ∃ x y e, pairOf (Γ ++ tieT a c g m :: post) = some (x, y, e) ∧ endAt x e = endAt y e ∧ o.t3 = (tieT a c g m).t3 ∧ ((x = o ∧ y = tieT a c g m) ∨ (x = tieT a c g m ∧ y = o))) := by
  have hf := G.pos
  have hN := G.none
  rw [pairOf_app_none hN]
  rw [pairGo_cons]
  by_cases hs : smallL c = true
  · have ht : tieT a c g m = (a, c, g, m) := by unfold tieT; rw [if_pos hs]
    rw [ht]
    have hm : (a, c, a') ∈ Γ.map T4.t3 := by
      rcases s with ⟨_, h⟩ | ⟨h, _⟩
      · exact h
      · rw [hs] at h; cases h
    obtain ⟨y, hy, ey⟩ := List.mem_map.mp hm
    unfold T4.t3 at ey
    simp only [Prod.mk.injEq] at ey
    have h1 := tabB_has (ts := Γ) (B := []) (k := (a, c)) (.inr ⟨y, hy, by rw [ey.1, ey.2.1]⟩)
    obtain ⟨o, ho⟩ := Option.isSome_iff_exists.mp h1
    obtain ⟨o_in, ok⟩ := tabB_in (S := Γ) (fun t h => h) tabIn_nil _ _ ho
    simp only [Prod.mk.injEq] at ok
    have os : St (Γ.map T4.t3) a c o.2.2.1 := .inl ⟨hs, List.mem_map.mpr ⟨o, o_in, by unfold T4.t3; rw [ok.1, ok.2]⟩⟩
    have oe := G.fold.one hc os s
    dsimp only
    rw [ho]
    dsimp only
    refine ⟨o, o_in, fun hg0 => ⟨2, ?_, oe, rfl, .inr rfl⟩, fun ha hg0 => ⟨(a, c, g, m), o, 2, ?_, ?_, ?_, .inr ⟨rfl, rfl⟩⟩⟩
    · unfold inOrder
      rw [if_neg (by exact hg0)]
    · unfold inOrder
      rw [if_pos (by exact hg0)]
    · show g = o.2.2.1
      omega
    · unfold T4.t3
      rw [ok.1, ok.2, oe, ha, hg0]
  · have ht : tieT a c g m = (g, bk c, a, m) := by unfold tieT; rw [if_neg hs]
    rw [ht]
    have hm : (a', bk c, a) ∈ Γ.map T4.t3 := by
      rcases s with ⟨h, _⟩ | ⟨_, h⟩
      · exact absurd h hs
      · exact h
    obtain ⟨y, hy, ey⟩ := List.mem_map.mp hm
    unfold T4.t3 at ey
    simp only [Prod.mk.injEq] at ey
    rcases hg with hg | hg
    · -- the last letter
      by_cases ha : a' = 0
      · have h1 := tabB_has (ts := Γ) (B := []) (k := (g, bk c)) (.inr ⟨y, hy, by rw [ey.1, ey.2.1, ha, hg]⟩)
        obtain ⟨o, ho⟩ := Option.isSome_iff_exists.mp h1
        obtain ⟨o_in, ok⟩ := tabB_in (S := Γ) (fun t h => h) tabIn_nil _ _ ho
        simp only [Prod.mk.injEq] at ok
        have hb : isL (bk c) = true := bk_L hc
        have hbs : smallL (bk c) = true := by
          have := isL_iff.mp hc
          unfold smallL at hs ⊢
          rw [decide_eq_true_eq] at hs ⊢
          unfold bk
          split <;> omega
        have os : St (Γ.map T4.t3) g (bk c) o.2.2.1 := .inl ⟨hbs, List.mem_map.mpr ⟨o, o_in, by unfold T4.t3; rw [ok.1, ok.2]⟩⟩
        have os2 : St (Γ.map T4.t3) g (bk c) a := .inl ⟨hbs, by rw [hg, ← ha]; exact hm⟩
        have oe := G.fold.one hb os os2
        dsimp only
        rw [ho]
        dsimp only
        refine ⟨o, o_in, fun z => absurd hg z, fun _ _ => ?_⟩
        have o3 : o.t3 = T4.t3 (g, bk c, a, m) := by
          unfold T4.t3
          rw [ok.1, ok.2, oe]
        unfold inOrder
        by_cases hz : endAt (g, bk c, a, m) 2 = 0
        · rw [if_pos hz]
          exact ⟨_, _, 2, rfl, oe.symm, o3, .inr ⟨rfl, rfl⟩⟩
        · rw [if_neg hz]
          exact ⟨_, _, 2, rfl, oe, o3, .inl ⟨rfl, rfl⟩⟩
      · exact ⟨y, hy, fun z => absurd hg z, fun z => absurd z ha⟩
    · have h0 : aget (tabB Γ []) (g, bk c) = none := by
        cases q : aget (tabB Γ []) (g, bk c) with
        | none => rfl
        | some o =>
          obtain ⟨o_in, ok⟩ := tabB_in (S := Γ) (fun t h => h) tabIn_nil _ _ q
          simp only [Prod.mk.injEq] at ok
          have := G.below o o_in
          omega
      have h1 := tabE_has (ts := Γ) (B := []) (k := (a, bk c)) (.inr ⟨y, hy, by rw [ey.2.2, ey.2.1]⟩)
      obtain ⟨o, ho⟩ := Option.isSome_iff_exists.mp h1
      obtain ⟨o_in, ok⟩ := tabE_in (S := Γ) (fun t h => h) tabIn_nil _ _ ho
      simp only [Prod.mk.injEq] at ok
      have hs' : smallL c = false := by simpa using hs
      have os : St (Γ.map T4.t3) a c o.1 := .inr ⟨hs', List.mem_map.mpr ⟨o, o_in, by unfold T4.t3; rw [ok.1, ok.2]⟩⟩
      have oe := G.fold.one hc os s
      dsimp only
      rw [h0]
      dsimp only
      rw [ho]
      dsimp only
      refine ⟨o, o_in, fun hg0 => ⟨0, ?_, oe, rfl, .inl rfl⟩, fun _ z => by omega⟩
      unfold inOrder
      rw [if_neg (by exact hg0)]
/-- the whole word is read, round -/
theorem read_all (G : Glu f B Γ) : ∀ (w : List Nat) (a : Nat) (m : List Int) (f' : Nat), w ≠ [] → AL w → f ≤ f' → Walk (Γ.map T4.t3) a w 0 → 3 * (m.length + w.length * B) ≤ 16000000 →
    FineAll (Γ ++ segT a m f' w) ∧ ((glue (Γ ++ segT a m f' w)).map T4.t3).Perm (Γ.map T4.t3) ∧ ∀ t ∈ glue (Γ ++ segT a m f' w), t.2.2.2.length ≤ m.length + w.length * B
  | [], _, _, _, h, _, _, _, _ => absurd rfl h
  | [c], a, m, f', _, hw, hf, ⟨a', s, e0⟩, hm => by
    have e0 : a' = 0 := e0
    rw [List.length_singleton] at hm
    obtain ⟨o, o_in, _, h2⟩ := read_pair G hw.head s (g := 0) (.inl rfl) m []
    obtain ⟨x, y, e, hp, he, h3, hxy⟩ := h2 e0 rfl
    show FineAll (Γ ++ [tieT a c 0 m]) ∧ ((glue (Γ ++ [tieT a c 0 m])).map T4.t3).Perm (Γ.map T4.t3) ∧ ∀ t ∈ glue (Γ ++ [tieT a c 0 m]), t.2.2.2.length ≤ _
    have tl : (tieT a c 0 m).2.2.2 = m := by unfold tieT; split <;> rfl
    have ol := G.row o o_in
    have y3 : y.t3 = (tieT a c 0 m).t3 := by
      rcases hxy with ⟨_, rfl⟩ | ⟨_, rfl⟩
      · rfl
      · exact h3
    have y_in : y ∈ Γ ++ [tieT a c 0 m] := (pairOf_ok hp).t_in
    have hst : glueStep (Γ ++ [tieT a c 0 m]) x y e = (Γ ++ [tieT a c 0 m]).erase y := by
      unfold glueStep
      rw [if_neg (fun z => z he)]
    have pm : (((Γ ++ [tieT a c 0 m]).erase y).map T4.t3).Perm (Γ.map T4.t3) := by
      have p1 : ((Γ ++ [tieT a c 0 m]).map T4.t3).Perm (y.t3 :: ((Γ ++ [tieT a c 0 m]).erase y).map T4.t3) := (List.perm_cons_erase y_in).map T4.t3
      have p2 : ((Γ ++ [tieT a c 0 m]).map T4.t3).Perm ((tieT a c 0 m).t3 :: Γ.map T4.t3) := by
        rw [List.map_append]
        exact List.perm_append_singleton _ _
      rw [y3] at p1
      exact (p1.symm.trans p2).cons_inv
    have hno : pairOf ((Γ ++ [tieT a c 0 m]).erase y) = none := pairOf_of_folded (folded_perm pm.symm G.fold)
    have hgl : glue (Γ ++ [tieT a c 0 m]) = (Γ ++ [tieT a c 0 m]).erase y := by rw [glue_some hp, hst, glue_none hno]
    refine ⟨.of fun o' t' e' z => ?_, ?_, ?_⟩
    · rw [hp] at z
      cases z
      refine ⟨⟨?_, fun z => absurd he z⟩, ?_⟩
      · rcases hxy with ⟨rfl, rfl⟩ | ⟨rfl, rfl⟩
        · rw [tl]; omega
        · rw [tl]; omega
      · rw [hst]
        exact .none hno
    · rw [hgl]
      exact pm
    · rw [hgl]
      intro t ht
      rcases List.mem_append.mp (List.mem_of_mem_erase ht) with ht | ht
      · have := G.row t ht
        rw [List.length_singleton]
        omega
      · rw [List.mem_singleton.mp ht, tl]
        omega
  | c :: d :: w, a, m, f', _, hw, hf, ⟨a', s, hwalk⟩, hm => by
    have hfp := G.pos
    rw [List.length_cons] at hm
    have hmul : ((d :: w).length + 1) * B = (d :: w).length * B + B := Nat.succ_mul _ _
    obtain ⟨o, o_in, h1, _⟩ := read_pair G hw.head s (g := f') (.inr hf) m (segT f' [] (f' + 1) (d :: w))
    obtain ⟨e, hp, ho, ht, he⟩ := h1 (by omega)
    have ol := G.row o o_in
    obtain ⟨ha, ha'⟩ := st_below G.below s
    have tl : (tieT a c f' m).2.2.2 = m := by unfold tieT; split <;> rfl
    have gl := glueNs_len o (tieT a c f' m) e
    rw [tl] at gl
    obtain ⟨m', hm', hmap⟩ := moved_seg (f := f') (A := a') (g := glueNs o (tieT a c f' m) e) (by omega) d w
    have hnot : tieT a c f' m ∉ Γ := not_below G.below (by
      unfold tieT
      split
      · right; exact hf
      · left; exact hf)
    have hst : glueStep (Γ ++ segT a m f' (c :: d :: w)) o (tieT a c f' m) e = Γ ++ segT a' m' (f' + 1) (d :: w) := by
      unfold glueStep
      rw [ho, ht, if_pos (by omega)]
      show ((Γ ++ tieT a c f' m :: segT f' [] (f' + 1) (d :: w)).erase (tieT a c f' m)).map _ = _
      rw [List.erase_append_right _ hnot, List.erase_cons_head, List.map_append, hmap]
      congr 1
      refine moved_map_id fun t ht => ?_
      have := G.below t ht
      omega
    obtain ⟨i1, i2, i3⟩ := read_all G (d :: w) a' m' (f' + 1) (by simp) hw.tail (by omega) hwalk (by omega)
    have hgl : glue (Γ ++ segT a m f' (c :: d :: w)) = glue (Γ ++ segT a' m' (f' + 1) (d :: w)) := by
      have hp' : pairOf (Γ ++ segT a m f' (c :: d :: w)) = some (o, tieT a c f' m, e) := hp
      rw [glue_some hp', hst]
    refine ⟨.of fun o' t' e' z => ?_, ?_, ?_⟩
    · have z : pairOf (Γ ++ tieT a c f' m :: segT f' [] (f' + 1) (d :: w)) = some (o', t', e') := z
      rw [hp] at z
      cases z
      refine ⟨⟨by rw [tl]; omega, fun _ x hx hi => ?_⟩, by rw [hst]; exact i1⟩
      rw [ht] at hi
      have hxm : x.2.2.2.length ≤ m.length := by
        rcases List.mem_append.mp hx with hx | hx
        · have := G.below x hx
          omega
        · have hx : x ∈ tieT a c f' m :: segT f' [] (f' + 1) (d :: w) := hx
          rcases List.mem_cons.mp hx with rfl | hx
          · rw [tl]
            exact Nat.le_refl _
          · have seg0 : ∀ (w : List Nat) (r f : Nat), ∀ t ∈ segT r [] f w, t.2.2.2 = [] := by
              intro w
              induction w with
              | nil => intro r f t h; cases h
              | cons c w ih =>
                intro r f t h
                cases w with
                | nil =>
                  rw [segT, List.mem_singleton] at h
                  rw [h]
                  unfold tieT
                  split <;> rfl
                | cons d w =>
                  rw [segT] at h
                  rcases List.mem_cons.mp h with rfl | h
                  · unfold tieT
                    split <;> rfl
                  · exact ih _ _ t h
            rw [seg0 _ _ _ x hx]
            exact Nat.zero_le _
      omega
    · rw [hgl]
      exact i2
    · rw [hgl]
      intro t ht
      have := i3 t ht
      simp only [List.length_cons] at this ⊢
      have h4 : (w.length + 1 + 1) * B = (w.length + 1) * B + B := Nat.succ_mul _ _
      omega
end
/-! words that lead somewhere, shortened -/
theorem Walk.turn {ts : List T3} : ∀ {w : List Nat} {a b : Nat}, AL w → Walk ts a w b → Walk ts b (rv w) a
  | [], _, _, _, h => h.symm
  | c :: w, a, b, hw, ⟨m, s, h⟩ => by
    rw [rv_cons]
    exact (Walk.turn hw.tail h).app ⟨a, s.turn hw.head, rfl⟩
theorem Walk.snoc {ts : List T3} {w : List Nat} {c a b : Nat} (h : Walk ts a (w ++ [c]) b) : ∃ m, Walk ts a w m ∧ St ts m c b := by
  obtain ⟨m, h1, m2, h2, h3⟩ := Walk.split h
  have h3 : m2 = b := h3
  rw [h3] at h2
  exact ⟨m, h1, h2⟩
theorem Walk.short {ts : List T3} (F : Folded ts) : ∀ {w : List Nat} {a b : Nat}, AL w → Walk ts a w b → Walk ts a (sh w) b := by
  intro w
  refine snoc_ind (P := fun w => ∀ {a b : Nat}, AL w → Walk ts a w b → Walk ts a (sh w) b) (fun _ h => h) (fun w c ih => ?_) w
  intro a b hw h
  obtain ⟨m, h1, h2⟩ := Walk.snoc h
  have hc : isL c = true := hw c (by simp)
  have h3 := ih hw.left h1
  rw [sh_snoc]
  unfold shSt
  split
  · rename_i hl
    rcases end_of (sh w) with e | ⟨k, d, e⟩
    · rw [e] at hl; cases hl
    · rw [e] at hl h3 ⊢
      rw [List.getLast?_concat] at hl
      cases hl
      rw [List.dropLast_concat]
      obtain ⟨m2, h4, h5⟩ := Walk.snoc h3
      have h6 := h5.turn (bk_L hc)
      rw [bk_bk hc] at h6
      rw [F.one hc h2 h6]
      exact h4
  · exact h3.app ⟨b, h2, rfl⟩
end Gw

/-! ### rows of the laws are glued within the sizes. Plain. -/
namespace Gw
theorem seg_head : ∀ (w : List Nat) (r : Nat) (m : List Int) (f : Nat), ∀ t ∈ segT r m f w, t.2.2.2 = [] ∨ ∃ c g, w.head? = some c ∧ t = tieT r c g m
  | [], _, _, _, t, h => by cases h
  | [c], r, m, f, t, h => by
    rw [segT, List.mem_singleton] at h
    exact .inr ⟨c, 0, rfl, h⟩
  | c :: d :: w, r, m, f, t, h => by
    rw [segT] at h
    rcases List.mem_cons.mp h with h | h
    · exact .inr ⟨c, f, rfl, h⟩
    · left
      rcases seg_head (d :: w) f [] (f + 1) t h with h | ⟨c', g, _, h⟩
      · exact h
      · rw [h]
        unfold tieT
        split <;> rfl
/-- the words at first: at 0 one for each word of the row -/
def firstL (n : Nat) : Nat → List Nat → Prop := fun r a => a = [] ∨ (r = 0 ∧ ∃ k, k < n ∧ a = [eN ((k : Int) + 1)])
theorem first_R {k : Nat} (h : k < 26) : InR ((k : Int) + 1) := ⟨by omega, by omega, by omega⟩
theorem rings_tie : ∀ (ws : List (List Nat)), ws.length ≤ 26 → ∀ t ∈ rings ws, ∃ a b, firstL ws.length t.1 a ∧ firstL ws.length t.2.2.1 b ∧ Row t.2.2.2 (a ++ rv b) := by
  intro ws
  refine snoc_ind (P := fun ws => ws.length ≤ 26 → ∀ t ∈ rings ws, ∃ a b, firstL ws.length t.1 a ∧ firstL ws.length t.2.2.1 b ∧ Row t.2.2.2 (a ++ rv b)) (fun _ t h => by cases h) (fun ws w ih => ?_) ws
  intro hl t ht
  rw [List.length_append, List.length_singleton] at hl
  rw [rings_snoc] at ht
  have up : ∀ {r a}, firstL ws.length r a → firstL (ws ++ [w]).length r a := fun h => by
    rcases h with h | ⟨h1, k, h2, h3⟩
    · exact .inl h
    · exact .inr ⟨h1, k, by rw [List.length_append, List.length_singleton]; omega, h3⟩
  rcases List.mem_append.mp ht with ht | ht
  · obtain ⟨a, b, ha, hb, hr⟩ := ih (by omega) t ht
    exact ⟨a, b, up ha, up hb, hr⟩
  · have hR := first_R (k := ws.length) (by omega)
    have me : firstL (ws ++ [w]).length 0 [eN ((ws.length : Int) + 1)] := .inr ⟨rfl, ws.length, by rw [List.length_append, List.length_singleton]; omega, rfl⟩
    rcases seg_head w _ _ _ t ht with h | ⟨c, g, hc, h⟩
    · exact ⟨[], [], .inl rfl, .inl rfl, by rw [h]; exact .nil⟩
    · have hd : w.headD 0 = c := by
        cases w with
        | nil => cases hc
        | cons x w =>
          injection hc
      rw [hd] at h
      rw [h]
      unfold tieT dirN
      by_cases hs : smallL c = true
      · rw [if_pos hs, if_pos hs]
        refine ⟨_, [], me, .inl rfl, ?_⟩
        rw [rv_nil, List.append_nil]
        exact .one hR
      · rw [if_neg hs, if_neg hs]
        refine ⟨[], _, .inl rfl, me, ?_⟩
        rw [List.nil_append]
        exact (Row.one hR).back
theorem rings_lab {ws : List (List Nat)} (hl : ws.length ≤ 26) : Lab (freshOf ws) 2 [] (rings ws) (firstL ws.length) (setF (fun _ => 0) 0 2) where
  al := fun r a h => by
    rcases h with rfl | ⟨_, k, hk, rfl⟩
    · exact AL.nil
    · exact AL.cons (eN_L (first_R (by omega))) AL.nil
  e := fun r => .inl rfl
  dist := fun r a b ha hb => by
    have one : ∀ c, firstL ws.length r c → c.length ≤ 1 ∧ (r ≠ 0 → c = []) := fun c hc => by
      rcases hc with rfl | ⟨h0, k, _, rfl⟩
      · exact ⟨Nat.zero_le _, fun _ => rfl⟩
      · exact ⟨Nat.le_refl _, fun z => absurd h0 z⟩
    obtain ⟨a1, a2⟩ := one a ha
    obtain ⟨b1, b2⟩ := one b hb
    unfold setF
    by_cases h0 : r = 0
    · rw [if_pos h0]
      unfold dst
      have := sh_len (rv a ++ b)
      rw [List.length_append, rv_len] at this
      omega
    · rw [if_neg h0, a2 h0, b2 h0]
      exact Nat.le_refl _
  tie := rings_tie ws hl
  room := fun t ht => by
    obtain ⟨h1, h2⟩ := rings_below ws t ht
    exact ⟨⟨h1, by simp⟩, h2, by simp⟩
  nd := List.nodup_nil
  dead := fun x hx => by cases hx
  sum := by
    have h := sumT_set (n := freshOf ws) (f := fun _ => 0) (i := 0) (x := 2) (freshOf_pos ws)
    have z : ∀ n, sumT n (fun _ => 0) = 0 := fun n => by
      induction n with
      | zero => rfl
      | succ n ih => unfold sumT; rw [ih]; rfl
    rw [z] at h
    omega
theorem rings_fine {ws : List (List Nat)} {M : Nat} (hl : ws.length ≤ 26) (h : 2 * 2 ^ (freshOf ws - 1) ≤ M) (hM : 20 * M ≤ 16000000) : FineAll (rings ws) ∧ Glu (freshOf ws) (2 * M) (glue (rings ws)) := by
  have hp := freshOf_pos ws
  have key := fun n => Lab.fine hp hM n 2 [] (rings ws) _ _ (rings_lab hl) h
  refine ⟨fun n => (key n).1, glue_folded _, glue_below _ _ (Nat.le_refl _) (rings_below ws), hp, fun t ht => ?_⟩
  obtain ⟨_, S', D', L', W', I, hS⟩ := key (rings ws).length
  have h1 := I.row ht
  have h2 : S' ≤ M := Nat.le_trans (Nat.le_mul_of_pos_right S' (Nat.pow_pos (by decide))) hS
  omega
/-- one word more, that is read round already -/
theorem rings_read {ws : List (List Nat)} {w : List Nat} {B : Nat} (F : FineAll (rings ws)) (G : Glu (freshOf ws) B (glue (rings ws))) (hw : AL w) (h : Walk ((glue (rings ws)).map T4.t3) 0 w 0) (hB : 3 * (1 + w.length * B) ≤ 16000000) :
    FineAll (rings (ws ++ [w])) ∧ ((glue (rings (ws ++ [w]))).map T4.t3).Perm ((glue (rings ws)).map T4.t3) ∧ Glu (freshOf (ws ++ [w])) (1 + w.length * B + B) (glue (rings (ws ++ [w]))) := by
  have hbel := glue_below _ _ (Nat.le_refl _) (rings_below (ws ++ [w]))
  rw [rings_snoc] at hbel ⊢
  by_cases hn : w = []
  · subst hn
    have e : freshOf (ws ++ [([] : List Nat)]) = freshOf ws := by rw [freshOf_snoc]; rfl
    show FineAll (rings ws ++ []) ∧ ((glue (rings ws ++ [])).map T4.t3).Perm _ ∧ Glu _ _ (glue (rings ws ++ []))
    rw [List.append_nil, e]
    exact ⟨F, List.Perm.refl _, G.fold, G.below, G.pos, fun t ht => by have := G.row t ht; omega⟩
  · have hm : (dirN (w.headD 0) [(ws.length : Int) + 1]).length = 1 := by
      unfold dirN
      split
      · rfl
      · rw [behindN_len]; rfl
    obtain ⟨h1, h2, h3⟩ := read_all G w 0 (dirN (w.headD 0) [(ws.length : Int) + 1]) (freshOf ws) hn hw (Nat.le_refl _) h (by rw [hm]; exact hB)
    have e := glue_app (f := freshOf ws) (post := segT 0 (dirN (w.headD 0) [(ws.length : Int) + 1]) (freshOf ws) w) seg_beyond _ _ (Nat.le_refl _) (rings_below ws)
    rw [e] at hbel ⊢
    refine ⟨fine_app seg_beyond _ _ (Nat.le_refl _) (rings_below ws) F h1, h2, folded_perm h2.symm G.fold, hbel, freshOf_pos _, fun t ht => ?_⟩
    have := h3 t ht
    rw [hm] at this
    omega
theorem freshOf_le {m : Nat} : ∀ (ws : List (List Nat)), (∀ w ∈ ws, w.length ≤ m + 1) → freshOf ws ≤ 1 + ws.length * m := by
  intro ws
  refine snoc_ind (P := fun ws => (∀ w ∈ ws, w.length ≤ m + 1) → freshOf ws ≤ 1 + ws.length * m) (fun _ => by simp [freshOf]) (fun ws w ih => ?_) ws
  intro h
  have h1 := ih fun x hx => h x (List.mem_append_left _ hx)
  have h2 := h w (by simp)
  rw [freshOf_snoc, List.length_append, List.length_singleton, Nat.succ_mul]
  omega
/-- the product of some of the words -/
inductive Made (vs : List (List Nat)) : List Nat → Prop
  | nil : Made vs []
  | word {u : List Nat} (h : u ∈ vs) : Made vs u
  | back {u : List Nat} (h : Made vs u) : Made vs (rv u)
  | app {u v : List Nat} (h : Made vs u) (h' : Made vs v) : Made vs (u ++ v)
theorem Made.al {vs : List (List Nat)} (h : ∀ u ∈ vs, AL u) {u : List Nat} (m : Made vs u) : AL u := by
  induction m with
  | nil => exact AL.nil
  | word hu => exact h _ hu
  | back _ ih => exact ih.rv
  | app _ _ i1 i2 => exact i1.app i2
theorem Made.walk {vs : List (List Nat)} {ts : List T3} (h : ∀ u ∈ vs, AL u) (F : Folded ts) (R : Rounds (vs.map sh) ts) {u : List Nat} (m : Made vs u) : Walk ts 0 (sh u) 0 := by
  induction m with
  | nil => rfl
  | word hu => exact R.round _ (List.mem_map.mpr ⟨_, hu, rfl⟩)
  | back m ih =>
    rw [sh_rv (m.al h)]
    exact Walk.turn (sh_AL (m.al h)) ih
  | app m1 m2 i1 i2 =>
    rw [sh_app_sh (m1.al h) (m2.al h)]
    exact Walk.short F ((sh_AL (m1.al h)).app (sh_AL (m2.al h))) (i1.app i2)
/-- a row of at most four words of at most five letters, and perhaps a product of them -/
structure LawRow (us : List (List Nat)) : Prop where
  al : ∀ u ∈ us, AL u
  form : ∃ vs, vs.length ≤ 4 ∧ (∀ u ∈ vs, u.length ≤ 5) ∧ (us = vs ∨ ∃ p, us = vs ++ [p] ∧ p.length ≤ 15 ∧ Made vs p)
theorem LawRow.fine {us : List (List Nat)} (L : LawRow us) : FineAll (rings (us.map sh)) ∧ Glu (freshOf (us.map sh)) 4200000 (glue (rings (us.map sh))) := by
  obtain ⟨hal, vs, h4, h5, hf⟩ := L
  have lens : ∀ w ∈ vs.map sh, w.length ≤ 4 + 1 := fun w hw => by
    obtain ⟨u, hu, rfl⟩ := List.mem_map.mp hw
    have := sh_len u
    have := h5 u hu
    omega
  have hfr := freshOf_le (m := 4) _ lens
  have hfp := freshOf_pos (vs.map sh)
  rw [List.length_map] at hfr
  have hp : 2 * 2 ^ (freshOf (vs.map sh) - 1) ≤ 131072 := by
    have : 2 ^ (freshOf (vs.map sh) - 1) ≤ 2 ^ 16 := Nat.pow_le_pow_right (by decide) (by omega)
    omega
  obtain ⟨F, G⟩ := rings_fine (ws := vs.map sh) (by rw [List.length_map]; omega) hp (by decide)
  rcases hf with rfl | ⟨p, rfl, hp, hm⟩
  · exact ⟨F, G.fold, G.below, G.pos, fun t ht => by have := G.row t ht; omega⟩
  · have hv : ∀ u ∈ vs, AL u := fun u hu => hal u (List.mem_append_left _ hu)
    have R : Rounds (vs.map sh) ((glue (rings (vs.map sh))).map T4.t3) := glue_rounds (rings_rounds fun w hw => by
      obtain ⟨u, hu, rfl⟩ := List.mem_map.mp hw
      exact sh_AL (hv u hu))
    have hw := hm.walk hv G.fold R
    have hl : (sh p).length ≤ 15 := Nat.le_trans (sh_len p) hp
    have hmul : (sh p).length * (2 * 131072) ≤ 15 * (2 * 131072) := Nat.mul_le_mul_right _ hl
    obtain ⟨F2, _, G2⟩ := rings_read F G (sh_AL (hm.al hv)) hw (by omega)
    rw [List.map_append]
    show FineAll (rings (vs.map sh ++ [sh p])) ∧ Glu (freshOf (vs.map sh ++ [sh p])) _ (glue (rings (vs.map sh ++ [sh p])))
    exact ⟨F2, G2.fold, G2.below, G2.pos, fun t ht => by have := G2.row t ht; omega⟩
end Gw

/-! ### words that are read round in a folded graph with rows: their rings map there, and the rows stay small. Plain. -/
namespace Gw
/-- rooms are mapped into Δ, and each tie's row is its image's, seen from the words of its rooms -/
structure Gau (M : Nat) (Δ : List T3) (m : T3 → List Nat) (φ : Nat → Nat) (ν : Nat → List Nat) (ts : List T4) : Prop where
  al : ∀ r, AL (ν r)
  len : ∀ r, (sh (ν r)).length ≤ M
  mal : ∀ t, AL (m t)
  mlen : ∀ t, (sh (m t)).length ≤ M
  tie : ∀ t ∈ ts, mapT φ t.t3 ∈ Δ ∧ Row t.2.2.2 (ν t.1 ++ m (mapT φ t.t3) ++ rv (ν t.2.2.1))
section
variable {M : Nat} {Δ : List T3} {m : T3 → List Nat} {φ : Nat → Nat} {ν : Nat → List Nat} {ts : List T4}
theorem Gau.row (I : Gau M Δ m φ ν ts) {t : T4} (h : t ∈ ts) : t.2.2.2.length ≤ 3 * M := by
  obtain ⟨_, hr⟩ := I.tie t h
  rw [hr.len]
  have h1 := sh_len_app ((I.al t.1).app (I.mal (mapT φ t.t3))) (I.al t.2.2.1).rv
  have h2 := sh_len_app (I.al t.1) (I.mal (mapT φ t.t3))
  rw [sh_rv (I.al _), rv_len] at h1
  have h3 := I.len t.1
  have h4 := I.len t.2.2.1
  have h5 := I.mlen (mapT φ t.t3)
  omega
/-- two that meet lie on one tie of Δ -/
theorem Gau.same (F : Folded Δ) (I : Gau M Δ m φ ν ts) {o t : T4} {e : Nat} (ho : o ∈ ts) (ht : t ∈ ts) (hm : MeetAt o t e) : mapT φ o.t3 = mapT φ t.t3 := by
  obtain ⟨m1, m2⟩ := hm
  rcases pw_mem (R := fun s t : T3 => ¬ (s.1 = t.1 ∧ s.2.1 = t.2.1) ∧ ¬ (s.2.2 = t.2.2 ∧ s.2.1 = t.2.1)) (fun a b h => ⟨fun z => h.1 ⟨z.1.symm, z.2.symm⟩, fun z => h.2 ⟨z.1.symm, z.2.symm⟩⟩) F _ (I.tie o ho).1 _ (I.tie t ht).1 with h | h
  · exact h
  · rcases m2 with ⟨_, m3⟩ | ⟨_, m3⟩
    · exact absurd ⟨congrArg φ m3, m1⟩ h.1
    · exact absurd ⟨congrArg φ m3, m1⟩ h.2
theorem Gau.step (F : Folded Δ) (I : Gau M Δ m φ ν ts) {o t : T4} {e : Nat} (hp : pairOf ts = some (o, t, e)) : Gau M Δ m φ ν (glueStep ts o t e) := by
  have ok := pairOf_ok hp
  have ho : o ∈ ts := List.mem_of_mem_erase (pairOf_rest hp)
  have ht : t ∈ ts := ok.t_in
  have same := I.same F ho ht ok.meet
  refine ⟨I.al, I.len, I.mal, I.mlen, fun x hx => ?_⟩
  unfold glueStep at hx
  split at hx
  · obtain ⟨y, hy, rfl⟩ := List.mem_map.mp hx
    obtain ⟨hyD, hyr⟩ := I.tie y (List.mem_of_mem_erase hy)
    obtain ⟨_, hor⟩ := I.tie o ho
    obtain ⟨_, htr⟩ := I.tie t ht
    rw [← same] at htr
    obtain ⟨μ, hμ⟩ : ∃ μ, μ = m (mapT φ o.t3) := ⟨_, rfl⟩
    rw [← hμ] at hor htr
    have alμ : AL μ := by rw [hμ]; exact I.mal _
    obtain ⟨A, hA⟩ : ∃ A, A = endAt o e := ⟨_, rfl⟩
    obtain ⟨B, hB⟩ : ∃ B, B = endAt t e := ⟨_, rfl⟩
    obtain ⟨g, hg⟩ : ∃ g, g = glueNs o t e := ⟨_, rfl⟩
    rw [← hA, ← hB, ← hg]
    -- the two ends have one image
    have hφ : φ A = φ B := by
      rw [hA, hB]
      unfold endAt
      split
      · exact congrArg (fun z : T3 => z.1) same
      · exact congrArg (fun z : T3 => z.2.2) same
    -- the row between them
    have hgr : Row g (ν A ++ rv (ν B)) := by
      have alA := I.al A
      have alB := I.al B
      rcases ok.meet.2 with ⟨e2, m3⟩ | ⟨e2, m3⟩
      · have e2 : e = 2 := e2
        have m3 : o.1 = t.1 := m3
        subst e2
        have hA : A = o.2.2.1 := hA
        have hB : B = t.2.2.1 := hB
        rw [← hA] at hor
        rw [← hB, ← m3] at htr
        have hg : g = joined (behindN o.2.2.2) t.2.2.2 := hg
        have r := hor.back.join htr
        rw [← hg] at r
        refine r.to (alA.app alB.rv) ?_
        have alr := (I.al o.1)
        have e1 : rv (ν o.1 ++ μ ++ rv (ν A)) = ν A ++ rv (ν o.1 ++ μ) := by rw [rv_app, rv_rv alA]
        rw [e1]
        have := sh_mid (a := ν A) (b := rv (ν o.1 ++ μ)) (c := rv (ν B)) alA (alr.app alμ).rv alB.rv
        rw [rv_rv (alr.app alμ)] at this
        rw [← this]
      · have e2 : e = 0 := e2
        have m3 : o.2.2.1 = t.2.2.1 := m3
        subst e2
        have hA : A = o.1 := hA
        have hB : B = t.1 := hB
        rw [← hA] at hor
        rw [← hB, ← m3] at htr
        have hg : g = joined o.2.2.2 (behindN t.2.2.2) := hg
        have r := hor.join htr.back
        rw [← hg] at r
        refine r.to (alA.app alB.rv) ?_
        have alr := (I.al o.2.2.1)
        have e1 : ν A ++ μ ++ rv (ν o.2.2.1) ++ rv (ν B ++ μ ++ rv (ν o.2.2.1)) = ν A ++ (μ ++ rv (ν o.2.2.1)) ++ (rv (μ ++ rv (ν o.2.2.1)) ++ rv (ν B)) := by
          rw [rv_app, rv_app, rv_app]
          simp
        rw [e1]
        exact sh_mid alA (alμ.app alr.rv) alB.rv
    have mk : ∀ z : Nat, φ (if z = B then A else z) = φ z := fun z => by
      by_cases e : z = B
      · rw [if_pos e, hφ, e]
      · rw [if_neg e]
    have im : mapT φ (movedT B A g y).t3 = mapT φ y.t3 := by
      show (φ (if y.1 = B then A else y.1), y.2.1, φ (if y.2.2.1 = B then A else y.2.2.1)) = (φ y.1, y.2.1, φ y.2.2.1)
      rw [mk, mk]
    rw [im]
    refine ⟨hyD, ?_⟩
    obtain ⟨κ, hκ⟩ : ∃ κ, κ = m (mapT φ y.t3) := ⟨_, rfl⟩
    rw [← hκ] at hyr ⊢
    have alκ : AL κ := by rw [hκ]; exact I.mal _
    have alA := I.al A
    have alB := I.al B
    unfold movedT
    dsimp only
    by_cases h1 : y.1 = B
    · rw [if_pos h1, if_pos h1]
      rw [h1] at hyr
      have r1 : Row (joined g y.2.2.2) (ν A ++ κ ++ rv (ν y.2.2.1)) := by
        refine (hgr.join hyr).to ((alA.app alκ).app (I.al _).rv) ?_
        have e1 : ν A ++ rv (ν B) ++ (ν B ++ κ ++ rv (ν y.2.2.1)) = ν A ++ rv (ν B) ++ (rv (rv (ν B)) ++ (κ ++ rv (ν y.2.2.1))) := by
          rw [rv_rv alB]
          simp
        rw [e1, sh_mid alA alB.rv (alκ.app (I.al _).rv)]
        simp
      by_cases h2 : y.2.2.1 = B
      · rw [if_pos h2, if_pos h2]
        rw [h2] at r1
        refine (r1.join hgr.back).to ((alA.app alκ).app alA.rv) ?_
        rw [rv_app, rv_rv alB, show ν A ++ κ ++ rv (ν B) ++ (ν B ++ rv (ν A)) = ν A ++ κ ++ rv (ν B) ++ (rv (rv (ν B)) ++ rv (ν A)) by rw [rv_rv alB]]
        exact sh_mid (alA.app alκ) alB.rv alA.rv
      · rw [if_neg h2, if_neg h2]
        exact r1
    · rw [if_neg h1, if_neg h1]
      by_cases h2 : y.2.2.1 = B
      · rw [if_pos h2, if_pos h2]
        rw [h2] at hyr
        have al1 := I.al y.1
        refine (hyr.join hgr.back).to ((al1.app alκ).app alA.rv) ?_
        rw [rv_app, rv_rv alB, show ν y.1 ++ κ ++ rv (ν B) ++ (ν B ++ rv (ν A)) = ν y.1 ++ κ ++ rv (ν B) ++ (rv (rv (ν B)) ++ rv (ν A)) by rw [rv_rv alB]]
        exact sh_mid (al1.app alκ) alB.rv alA.rv
      · rw [if_neg h2, if_neg h2]
        exact hyr
  · exact I.tie x (List.mem_of_mem_erase hx)
theorem Gau.fine (F : Folded Δ) (hM : 15 * M ≤ 15000000) : ∀ (n : Nat) (ts : List T4), Gau M Δ m φ ν ts → Fine n ts
  | 0, _, _ => trivial
  | n + 1, ts, I => fun o t e hp => by
    have ok := pairOf_ok hp
    have ho : o ∈ ts := List.mem_of_mem_erase (pairOf_rest hp)
    have ht : t ∈ ts := ok.t_in
    have h1 := I.row ho
    have h2 := I.row ht
    refine ⟨⟨by omega, fun _ x hx _ => ?_⟩, Gau.fine F hM n _ (I.step F hp)⟩
    have h3 := I.row hx
    have h4 := glueNs_len o t e
    omega
theorem Gau.glueN (F : Folded Δ) : ∀ (n : Nat) (ts : List T4), Gau M Δ m φ ν ts → Gau M Δ m φ ν (Gw.glueN n ts)
  | 0, _, I => I
  | n + 1, ts, I => by
    unfold Gw.glueN
    cases h : pairOf ts with
    | none => exact I
    | some r =>
      obtain ⟨o, t, e⟩ := r
      exact Gau.glueN F n _ (I.step F h)
theorem Gau.glue (F : Folded Δ) (I : Gau M Δ m φ ν ts) : Gau M Δ m φ ν (Gw.glue ts) := Gau.glueN F _ _ I
end
end Gw

/-! ### rings of words that are read round in a folded graph with rows. Plain. -/
namespace Gw
/-- a step's row, and a walk's -/
def stM (m : T3 → List Nat) (a c g : Nat) : List Nat := if smallL c then m (a, c, g) else rv (m (g, bk c, a))
def WalkM (Δ : List T3) (m : T3 → List Nat) : Nat → List Nat → Nat → List Nat → Prop
  | a, [], b, p => a = b ∧ p = []
  | a, c :: w, b, p => ∃ g q, St Δ a c g ∧ WalkM Δ m g w b q ∧ p = stM m a c g ++ q
section
variable {M K : Nat} {Δ : List T3} {m : T3 → List Nat}
theorem stM_al (hm : ∀ t, AL (m t)) (a c g : Nat) : AL (stM m a c g) := by
  unfold stM
  split
  · exact hm _
  · exact (hm _).rv
theorem stM_len (hm : ∀ t, AL (m t)) (hk : ∀ t, (sh (m t)).length ≤ K) (a c g : Nat) : (sh (stM m a c g)).length ≤ K := by
  unfold stM
  split
  · exact hk _
  · rw [sh_rv (hm _), rv_len]
    exact hk _
theorem WalkM.al (hm : ∀ t, AL (m t)) : ∀ {w : List Nat} {a b : Nat} {p : List Nat}, WalkM Δ m a w b p → AL p
  | [], _, _, _, ⟨_, h⟩ => by rw [h]; exact AL.nil
  | c :: w, a, b, p, ⟨g, q, _, h, e⟩ => by
    rw [e]
    exact (stM_al hm a c g).app (WalkM.al hm h)
theorem WalkM.walk : ∀ {w : List Nat} {a b : Nat} {p : List Nat}, WalkM Δ m a w b p → Walk Δ a w b
  | [], _, _, _, ⟨h, _⟩ => h
  | _ :: _, _, _, _, ⟨g, _, s, h, _⟩ => ⟨g, s, h.walk⟩
theorem WalkM.app : ∀ {u v : List Nat} {a b c : Nat} {p q : List Nat}, WalkM Δ m a u b p → WalkM Δ m b v c q → WalkM Δ m a (u ++ v) c (p ++ q)
  | [], v, a, b, c, p, q, ⟨e, e'⟩, h => by
    subst e e'
    exact h
  | d :: u, v, a, b, c, p, q, ⟨g, r, s, h, e⟩, h' => ⟨g, r ++ q, s, h.app h', by rw [e, List.append_assoc]⟩
/-- one tie of a ring -/
theorem tie_gau {r c g : Nat} {ns : List Int} {α : List Nat} {φ : Nat → Nat} {ν : Nat → List Nat} (hc : isL c = true) (hm : ∀ t, AL (m t)) (hr : AL (ν r)) (hg : AL (ν g)) (hα : Row ns α) (s : St Δ (φ r) c (φ g))
    (hn : sh (ν g) = sh (rv α ++ ν r ++ stM m (φ r) c (φ g))) : mapT φ (tieT r c g (dirN c ns)).t3 ∈ Δ ∧ Row (tieT r c g (dirN c ns)).2.2.2 (ν (tieT r c g (dirN c ns)).1 ++ m (mapT φ (tieT r c g (dirN c ns)).t3) ++ rv (ν (tieT r c g (dirN c ns)).2.2.1)) := by
  unfold tieT dirN stM at *
  rcases s with ⟨h1, h2⟩ | ⟨h1, h2⟩
  · rw [if_pos h1] at hn ⊢
    rw [if_pos h1]
    refine ⟨h2, ?_⟩
    show Row ns (ν r ++ m (φ r, c, φ g) ++ rv (ν g))
    obtain ⟨μ, hμ⟩ : ∃ μ, μ = m (φ r, c, φ g) := ⟨_, rfl⟩
    rw [← hμ] at hn ⊢
    have alμ : AL μ := by rw [hμ]; exact hm _
    refine hα.to ((hr.app alμ).app hg.rv) ?_
    have e1 : sh (ν r ++ μ ++ rv (ν g)) = sh (ν r ++ μ ++ rv (rv α ++ ν r ++ μ)) := sh_congr (hr.app alμ) hg.rv (hr.app alμ) ((hα.al.rv.app hr).app alμ).rv rfl (by rw [sh_rv hg, sh_rv ((hα.al.rv.app hr).app alμ), hn])
    rw [e1, show rv (rv α ++ ν r ++ μ) = rv (ν r ++ μ) ++ α by rw [List.append_assoc, rv_app, rv_rv hα.al]]
    have := sh_mid (a := []) (b := ν r ++ μ) (c := α) AL.nil (hr.app alμ) hα.al
    rw [List.nil_append, List.nil_append] at this
    exact this.symm
  · rw [if_neg (by rw [h1]; decide)] at hn ⊢
    rw [if_neg (by rw [h1]; decide)]
    refine ⟨h2, ?_⟩
    show Row (behindN ns) (ν g ++ m (φ g, bk c, φ r) ++ rv (ν r))
    obtain ⟨μ, hμ⟩ : ∃ μ, μ = m (φ g, bk c, φ r) := ⟨_, rfl⟩
    rw [← hμ] at hn ⊢
    have alμ : AL μ := by rw [hμ]; exact hm _
    refine hα.back.to ((hg.app alμ).app hr.rv) ?_
    have e1 : sh (ν g ++ (μ ++ rv (ν r))) = sh ((rv α ++ ν r ++ rv μ) ++ (μ ++ rv (ν r))) := sh_congr hg (alμ.app hr.rv) ((hα.al.rv.app hr).app alμ.rv) (alμ.app hr.rv) hn rfl
    rw [List.append_assoc, e1]
    have e2 : rv α ++ ν r ++ rv μ ++ (μ ++ rv (ν r)) = rv α ++ (ν r ++ rv μ) ++ (rv (ν r ++ rv μ) ++ []) := by
      rw [rv_app, rv_rv alμ]
      simp
    rw [e2, sh_mid hα.al.rv (hr.app alμ.rv) AL.nil, List.append_nil]
theorem seg_gau (hm : ∀ t, AL (m t)) (hk : ∀ t, (sh (m t)).length ≤ K) : ∀ (w : List Nat) (r f : Nat) (φ : Nat → Nat) (ν : Nat → List Nat) (ns : List Int) (α p : List Nat),
    AL w → r < f → φ 0 = 0 → ν 0 = [] → (∀ x, AL (ν x)) → (∀ x, (sh (ν x)).length ≤ M) → Row ns α → WalkM Δ m (φ r) w 0 p → sh (rv α ++ ν r ++ p) = [] → (sh (ν r)).length + α.length + w.length * K ≤ M →
    ∃ (φ' : Nat → Nat) (ν' : Nat → List Nat), (∀ x, x < f → φ' x = φ x ∧ ν' x = ν x) ∧ (∀ x, AL (ν' x)) ∧ (∀ x, (sh (ν' x)).length ≤ M) ∧ ∀ t ∈ segT r (dirN (w.headD 0) ns) f w, mapT φ' t.t3 ∈ Δ ∧ Row t.2.2.2 (ν' t.1 ++ m (mapT φ' t.t3) ++ rv (ν' t.2.2.1))
  | [], r, f, φ, ν, ns, α, p, _, _, _, _, hal, hl, _, _, _, _ => ⟨φ, ν, fun _ _ => ⟨rfl, rfl⟩, hal, hl, fun t ht => by cases ht⟩
  | [c], r, f, φ, ν, ns, α, p, hw, hr, h0, hn0, hal, hl, hα, hwm, hp, _ => by
    refine ⟨φ, ν, fun _ _ => ⟨rfl, rfl⟩, hal, hl, fun t ht => ?_⟩
    obtain ⟨g, q, s, ⟨e1, e2⟩, e3⟩ := hwm
    subst e1 e2 e3
    have ht : t = tieT r c 0 (dirN c ns) := List.mem_singleton.mp ht
    subst ht
    rw [List.append_nil] at hp
    refine tie_gau hw.head hm (hal _) (hal _) hα (by rw [h0]; exact s) ?_
    rw [hn0, h0, hp]
    rfl
  | c :: d :: w, r, f, φ, ν, ns, α, p, hw, hr, h0, hn0, hal, hl, hα, hwm, hp, hM => by
    obtain ⟨g, q, s, hwm', e3⟩ := hwm
    subst e3
    have als := stM_al (m := m) hm (φ r) c g
    have lns := stM_len (m := m) hm hk (φ r) c g
    obtain ⟨β, hβ⟩ : ∃ β, β = rv α ++ ν r ++ stM m (φ r) c g := ⟨_, rfl⟩
    have alβ : AL β := by rw [hβ]; exact (hα.al.rv.app (hal r)).app als
    have lnβ : (sh β).length ≤ (sh (ν r)).length + α.length + K := by
      have h1 := sh_len_app (hα.al.rv.app (hal r)) als
      have h2 := sh_len_app hα.al.rv (hal r)
      have h3 := sh_len (rv α)
      rw [rv_len] at h3
      rw [hβ]
      omega
    have hmul : (c :: d :: w).length * K = (d :: w).length * K + K := by
      rw [List.length_cons, Nat.succ_mul]
    obtain ⟨φ1, hφ1⟩ : ∃ φ1 : Nat → Nat, φ1 = fun x => if x = f then g else φ x := ⟨_, rfl⟩
    obtain ⟨ν1, hν1⟩ : ∃ ν1 : Nat → List Nat, ν1 = fun x => if x = f then β else ν x := ⟨_, rfl⟩
    have old : ∀ x, x < f → φ1 x = φ x ∧ ν1 x = ν x := fun x hx => by
      rw [hφ1, hν1]
      exact ⟨if_neg (by omega), if_neg (by omega)⟩
    have at1 : φ1 f = g ∧ ν1 f = β := by
      rw [hφ1, hν1]
      exact ⟨if_pos rfl, if_pos rfl⟩
    have al1 : ∀ x, AL (ν1 x) := fun x => by
      rw [hν1]
      show AL (if x = f then β else ν x)
      split
      · exact alβ
      · exact hal x
    have ln1 : ∀ x, (sh (ν1 x)).length ≤ M := fun x => by
      rw [hν1]
      show (sh (if x = f then β else ν x)).length ≤ M
      split
      · omega
      · exact hl x
    obtain ⟨φ2, ν2, old2, al2, ln2, t2⟩ := seg_gau hm hk (d :: w) f (f + 1) φ1 ν1 [] [] q hw.tail (Nat.lt_succ_self f) (by rw [(old 0 (by omega)).1, h0]) (by rw [(old 0 (by omega)).2, hn0]) al1 ln1 Row.nil (by rw [at1.1]; exact hwm') (by
      rw [at1.2, hβ]
      show sh ([] ++ (rv α ++ ν r ++ stM m (φ r) c g) ++ q) = []
      rw [List.nil_append, List.append_assoc]
      exact hp) (by rw [at1.2]; show (sh β).length + 0 + _ ≤ M; omega)
    refine ⟨φ2, ν2, fun x hx => ⟨((old2 x (by omega)).1).trans (old x hx).1, ((old2 x (by omega)).2).trans (old x hx).2⟩, al2, ln2, fun t ht => ?_⟩
    have ht : t ∈ tieT r c f (dirN c ns) :: segT f [] (f + 1) (d :: w) := ht
    rcases List.mem_cons.mp ht with e | ht
    · subst e
      have er := old2 r (by omega)
      have er1 := old r hr
      have ef := old2 f (by omega)
      refine tie_gau hw.head hm (al2 _) (al2 _) hα (by rw [er.1, er1.1, ef.1, at1.1]; exact s) ?_
      rw [er.1, er1.1, ef.1, at1.1, er.2, er1.2, ef.2, at1.2, hβ]
    · refine t2 t ?_
      rw [show dirN ((d :: w).headD 0) [] = [] from by unfold dirN; split <;> rfl]
      exact ht
/-- the rings of words that are read round, the k-th with the row k -/
theorem rings_gau (hm : ∀ t, AL (m t)) (hk : ∀ t, (sh (m t)).length ≤ K) : ∀ (ws : List (List Nat)), ws.length ≤ 26 → (∀ (k : Nat) w, ws[k]? = some w → AL w ∧ 1 + w.length * K ≤ M ∧ ∃ p, WalkM Δ m 0 w 0 p ∧ sh p = sh [eN ((k : Int) + 1)]) → 1 ≤ M → K ≤ M →
    ∃ (φ : Nat → Nat) (ν : Nat → List Nat), φ 0 = 0 ∧ ν 0 = [] ∧ Gau M Δ m φ ν (rings ws) := by
  refine snoc_ind (fun _ _ _ hKM => ⟨fun x => 0, fun _ => [], rfl, rfl, ⟨fun _ => AL.nil, fun _ => Nat.zero_le _, hm, fun t => Nat.le_trans (hk t) hKM, fun t ht => by cases ht⟩⟩) fun ws w ih hl h h1 hKM => ?_
  rw [List.length_append, List.length_singleton] at hl
  obtain ⟨φ, ν, z1, z2, I⟩ := ih (by omega) (fun k u hu => h k u (by
    rw [List.getElem?_append_left (by
      have := List.getElem?_eq_some_iff.mp hu
      exact this.1)]
    exact hu)) h1 hKM
  obtain ⟨hw, hM, p, hp, ep⟩ := h ws.length w (by rw [List.getElem?_append_right (Nat.le_refl _), Nat.sub_self]; rfl)
  have hR := first_R (k := ws.length) (by omega)
  have alx : AL [eN ((ws.length : Int) + 1)] := AL.cons (eN_L hR) AL.nil
  obtain ⟨φ', ν', old, al', ln', t'⟩ := seg_gau (M := M) (K := K) (Δ := Δ) hm hk w 0 (freshOf ws) φ ν [(ws.length : Int) + 1] [eN ((ws.length : Int) + 1)] p hw (freshOf_pos ws) z1 z2 I.al I.len (Row.one hR) (by rw [z1]; exact hp) (by
      rw [z2, List.append_nil]
      have := sh_congr alx.rv (hp.al hm) alx.rv alx rfl ep
      rw [this, sh_rv_l alx]) (by rw [z2]; show 0 + 1 + _ ≤ M; omega)
  have pos : 0 < freshOf ws := freshOf_pos ws
  refine ⟨φ', ν', by rw [(old 0 pos).1, z1], by rw [(old 0 pos).2, z2], ⟨al', ln', I.mal, I.mlen, fun t ht => ?_⟩⟩
  rw [rings_snoc] at ht
  rcases List.mem_append.mp ht with ht | ht
  · have b := rings_below ws t ht
    have e : mapT φ' t.t3 = mapT φ t.t3 := by
      show (φ' t.1, t.2.1, φ' t.2.2.1) = (φ t.1, t.2.1, φ t.2.2.1)
      rw [(old _ b.1).1, (old _ b.2).1]
    rw [e, (old _ b.1).2, (old _ b.2).2]
    exact I.tie t ht
  · exact t' t ht
end
end Gw

/-! ### rooms as they are found: a tree of ways. Plain. -/
namespace Gw
inductive FTree (st : Nat → Nat → Option Nat) : Found → Prop
  | base : FTree st [(0, [])]
  | snoc {f : Found} {p : Nat} {wp : List Nat} {c g : Nat} (h : FTree st f) (hp : (p, wp) ∈ f) (hc : isL c = true) (hs : st p c = some g) (hg : g ∉ keysF f) : FTree st (f ++ [(g, wp ++ [c])])
theorem FTree.has0 {st : Nat → Nat → Option Nat} {f : Found} (h : FTree st f) : (0, []) ∈ f := by
  induction h with
  | base => exact List.mem_cons_self
  | snoc _ _ _ _ _ ih => exact List.mem_append_left _ ih
theorem FTree.tryL {st : Nat → Nat → Option Nat} {f : Found} {r c : Nat} {way : List Nat} (h : FTree st f) (hm : (r, way) ∈ f) (hc : isL c = true) : FTree st (Gw.tryL st r way f c) := by
  unfold Gw.tryL
  dsimp only
  cases e : st r c with
  | none =>
    rw [Option.getD_none, if_pos (ahas_mem.mpr (List.mem_map.mpr ⟨_, h.has0, rfl⟩))]
    exact h
  | some g =>
    rw [Option.getD_some]
    by_cases hg : ahas f g = true
    · rw [if_pos hg]
      exact h
    · rw [if_neg hg]
      exact .snoc h hm hc e fun z => hg (ahas_mem.mpr z)
theorem FTree.foldBoth {st : Nat → Nat → Option Nat} {r : Nat} {way : List Nat} : ∀ (ls : List Nat) (f : Found), (∀ c ∈ ls, isL c = true) → FTree st f → (r, way) ∈ f → FTree st (ls.foldl (tryBoth st r way) f)
  | [], _, _, h, _ => h
  | c :: ls, f, hl, h, hm => by
    rw [List.foldl_cons]
    have hc := hl c List.mem_cons_self
    have h1 := h.tryL hm hc
    obtain ⟨x, hx⟩ := tryL_pre (st := st) (r := r) (c := c) (way := way) (f := f)
    have hm1 : (r, way) ∈ Gw.tryL st r way f c := by rw [hx]; exact List.mem_append_left _ hm
    have h2 := h1.tryL hm1 (bk_L hc)
    obtain ⟨y, hy⟩ := tryBoth_pre (st := st) (r := r) (c := c) (way := way) (f := f)
    exact FTree.foldBoth ls _ (fun d hd => hl d (List.mem_cons_of_mem _ hd)) h2 (by rw [hy]; exact List.mem_append_left _ hm)
theorem FTree.bfs {st : Nat → Nat → Option Nat} {ls : List Nat} (hl : ∀ c ∈ ls, isL c = true) : ∀ (n i : Nat) (f : Found), FTree st f → FTree st (Gw.bfs st ls n i f)
  | 0, _, _, h => h
  | n + 1, i, f, h => by
    unfold Gw.bfs
    cases e : f[i]? with
    | none => exact h
    | some p =>
      obtain ⟨r, way⟩ := p
      exact FTree.bfs hl n (i + 1) _ (FTree.foldBoth ls f hl h (List.mem_of_getElem? e))
theorem found_tree {ts : List T3} (hs : ∀ t ∈ ts, 97 ≤ t.2.1 ∧ t.2.1 ≤ 122) : FTree (stepF ts) (foundRooms ts) := by
  refine FTree.bfs (fun c hc => ?_) _ _ _ .base
  obtain ⟨t, ht, e⟩ := List.mem_map.mp ((lettersOf_mem hs c).mp hc)
  rw [← e]
  exact isL_iff.mpr (.inl (hs t ht))
structure TreeOk (ts : List T3) (f : Found) : Prop where
  nd : (keysF f).Nodup
  root : (0, []) ∈ f
  par : ∀ r w, (r, w) ∈ f → (r = 0 ∧ w = []) ∨ ∃ q wq d, (q, wq) ∈ f ∧ isL d = true ∧ St ts q d r ∧ w = wq ++ [d] ∧ r ≠ 0
  walk : ∀ r w, (r, w) ∈ f → AL w ∧ Walk ts 0 w r ∧ Red w
theorem FTree.ok {ts : List T3} (hs : ∀ t ∈ ts, 97 ≤ t.2.1 ∧ t.2.1 ≤ 122) (F : Folded ts) {f : Found} (h : FTree (stepF ts) f) : TreeOk ts f := by
  induction h with
  | base => exact ⟨by decide, List.mem_cons_self, fun r w h => .inl (by rw [List.mem_singleton] at h; cases h; exact ⟨rfl, rfl⟩), fun r w h => by
      rw [List.mem_singleton] at h
      cases h
      exact ⟨AL.nil, rfl, trivial⟩⟩
  | @snoc f p wp c g _ hp hc hst hg ih =>
    have s : St ts p c g := stepF_st ts hs _ _ _ hst
    have g0 : g ≠ 0 := fun z => hg (by rw [z]; exact List.mem_map.mpr ⟨_, ih.root, rfl⟩)
    obtain ⟨w1, w2, w3⟩ := ih.walk _ _ hp
    refine ⟨?_, List.mem_append_left _ ih.root, fun r w h => ?_, fun r w h => ?_⟩
    · rw [keysF, List.map_append, List.nodup_append]
      refine ⟨ih.nd, by simp, fun a ha b hb e => ?_⟩
      rw [List.map_singleton, List.mem_singleton] at hb
      subst e
      rw [hb] at ha
      exact hg ha
    · rcases List.mem_append.mp h with h | h
      · rcases ih.par r w h with h | ⟨q, wq, d, h1, h2⟩
        · exact .inl h
        · exact .inr ⟨q, wq, d, List.mem_append_left _ h1, h2⟩
      · rw [List.mem_singleton] at h
        cases h
        exact .inr ⟨p, wp, c, List.mem_append_left _ hp, hc, s, rfl, g0⟩
    · rcases List.mem_append.mp h with h | h
      · exact ih.walk r w h
      · rw [List.mem_singleton] at h
        cases h
        refine ⟨w1.app (AL.cons hc AL.nil), w2.app ⟨_, s, rfl⟩, red_snoc.mpr ⟨w3, fun d hd e => ?_⟩⟩
        rcases ih.par _ _ hp with ⟨_, e2⟩ | ⟨q, wq, d', h1, h2, h3, h4, _⟩
        · rw [e2] at hd
          cases hd
        · rw [h4, List.getLast?_append, List.getLast?_singleton] at hd
          have hd : some d' = some d := by simpa using hd
          cases hd
          have := St.turn h2 h3
          rw [← e] at this
          have z := F.one hc s this
          exact hg (by rw [z]; exact List.mem_map.mpr ⟨_, h1, rfl⟩)
end Gw

/-! ### the few words of a web: ways, and what lies on them. Plain. -/
namespace Gw
def wayT (ts : List T3) (r : Nat) : List Nat := (aget (foundRooms ts) r).getD []
def fewIs (ts : List T3) (t : T3) : Bool := decide (wayT ts t.2.2 = wayT ts t.1 ++ [t.2.1]) || decide (wayT ts t.1 = wayT ts t.2.2 ++ [bk t.2.1])
def fewT (ts : List T3) : List (List Nat) := (ts.filter fun t => !fewIs ts t).map fun t => wayT ts t.1 ++ [t.2.1] ++ sh (rv (wayT ts t.2.2))
theorem red_glue {c : Nat} {v : List Nat} : ∀ {u : List Nat}, Red (u ++ [c]) → Red (c :: v) → Red (u ++ c :: v)
  | [], _, h => h
  | [a], h, h' => ⟨h.1, h'⟩
  | a :: b :: u, h, h' => ⟨h.1, red_glue (u := b :: u) h.2 h'⟩
/-- from a room with two ends two letters lead off -/
theorem two_steps {ts : List T3} (hs : ∀ t ∈ ts, 97 ≤ t.2.1 ∧ t.2.1 ≤ 122) (F : Folded ts) {r : Nat} (h : 2 ≤ endsAt ts r) (e : Nat) : ∃ c g, isL c = true ∧ c ≠ e ∧ St ts r c g := by
  by_cases ex : ∃ c g, isL c = true ∧ c ≠ e ∧ St ts r c g
  · exact ex
  exfalso
  have all : ∀ c g, isL c = true → St ts r c g → c = e := fun c g hc s => Decidable.byContradiction fun z => ex ⟨c, g, hc, z, s⟩
  have one : ∀ (p : T3 → Bool), (∀ s ∈ ts, ∀ t ∈ ts, p s = true → p t = true → (s.1 = t.1 ∧ s.2.1 = t.2.1) ∨ (s.2.2 = t.2.2 ∧ s.2.1 = t.2.1)) → (ts.filter p).length ≤ 1 := fun p hp => by
    have P := F.filter p
    generalize hl : ts.filter p = l at P
    match l, P with
    | [], _ => exact Nat.zero_le _
    | [_], _ => exact Nat.le_refl _
    | a :: b :: l, P =>
      exfalso
      have ma : a ∈ ts.filter p := by rw [hl]; exact List.mem_cons_self
      have mb : b ∈ ts.filter p := by rw [hl]; exact List.mem_cons_of_mem _ List.mem_cons_self
      obtain ⟨a1, a2⟩ := List.mem_filter.mp ma
      obtain ⟨b1, b2⟩ := List.mem_filter.mp mb
      have := (List.pairwise_cons.mp P).1 b List.mem_cons_self
      rcases hp a a1 b b1 a2 b2 with h | h
      · exact this.1 h
      · exact this.2 h
  have first : ∀ t ∈ ts, t.1 = r → t.2.1 = e := fun t ht e1 => all t.2.1 t.2.2 (isL_iff.mpr (.inl (hs t ht))) (.inl ⟨by unfold smallL; exact decide_eq_true (hs t ht), by rw [← e1]; exact ht⟩)
  have second : ∀ t ∈ ts, t.2.2 = r → bk t.2.1 = e := fun t ht e1 => by
    have sb := small_bk (hs t ht)
    exact all (bk t.2.1) t.1 (bk_L (isL_iff.mpr (.inl (hs t ht)))) (.inr ⟨sb.1, by rw [sb.2, ← e1]; exact ht⟩)
  have h1 := one (fun t => decide (t.1 = r)) fun s hs' t ht es et => by
    have es := of_decide_eq_true es
    have et := of_decide_eq_true et
    exact .inl ⟨es.trans et.symm, (first s hs' es).trans (first t ht et).symm⟩
  have h2 := one (fun t => decide (t.2.2 = r)) fun s hs' t ht es et => by
    have es := of_decide_eq_true es
    have et := of_decide_eq_true et
    exact .inr ⟨es.trans et.symm, bk_inj (isL_iff.mpr (.inl (hs s hs'))) (isL_iff.mpr (.inl (hs t ht))) ((second s hs' es).trans (second t ht et).symm)⟩
  unfold endsAt at h
  have n1 : (ts.filter fun t => decide (t.1 = r)).length = 1 := by omega
  have n2 : (ts.filter fun t => decide (t.2.2 = r)).length = 1 := by omega
  obtain ⟨s, hs1⟩ := List.length_eq_one_iff.mp n1
  obtain ⟨t, ht1⟩ := List.length_eq_one_iff.mp n2
  have ms := List.mem_filter.mp (show s ∈ ts.filter fun t => decide (t.1 = r) by rw [hs1]; exact List.mem_cons_self)
  have mt := List.mem_filter.mp (show t ∈ ts.filter fun t => decide (t.2.2 = r) by rw [ht1]; exact List.mem_cons_self)
  have e1 := first s ms.1 (of_decide_eq_true ms.2)
  have e2 := second t mt.1 (of_decide_eq_true mt.2)
  have a := hs s ms.1
  have b := hs t mt.1
  have : bk t.2.1 = t.2.1 - 32 := by unfold bk; rw [if_pos b.1]
  omega
section
variable {ts : List T3}
theorem way_mem {r : Nat} (h : r ∈ keysF (foundRooms ts)) : (r, wayT ts r) ∈ foundRooms ts := by
  have : ahas (foundRooms ts) r = true := ahas_mem.mpr h
  rw [ahas_get] at this
  cases e : aget (foundRooms ts) r with
  | none => rw [e] at this; cases this
  | some w =>
    unfold wayT
    rw [e]
    exact aget_mem e
theorem way_of (T : TreeOk ts (foundRooms ts)) {r : Nat} {w : List Nat} (h : (r, w) ∈ foundRooms ts) : w = wayT ts r := by
  have h2 := way_mem (ts := ts) (List.mem_map.mpr ⟨_, h, rfl⟩)
  have nd := T.nd
  unfold keysF at nd
  revert h h2 nd
  generalize wayT ts r = w'
  generalize foundRooms ts = f
  induction f with
  | nil => intro h; cases h
  | cons p f ih =>
    intro h h2 nd
    rw [List.map_cons, List.nodup_cons] at nd
    rcases List.mem_cons.mp h with h | h
    · rcases List.mem_cons.mp h2 with h2 | h2
      · rw [← h] at h2
        cases h2
        rfl
      · exact absurd (List.mem_map.mpr ⟨_, h2, by rw [← h]⟩) nd.1
    · rcases List.mem_cons.mp h2 with h2 | h2
      · exact absurd (List.mem_map.mpr ⟨_, h, by rw [← h2]⟩) nd.1
      · exact ih h h2 nd.2
theorem IsWeb.tree (W : IsWeb ts) : TreeOk ts (foundRooms ts) := (found_tree W.ok.sm).ok W.ok.sm W.ok.fold
theorem way_zero (T : TreeOk ts (foundRooms ts)) : wayT ts 0 = [] := (way_of T T.root).symm
/-- the way to a room, and the letter of a tie there that found no room -/
theorem way_letter (W : IsWeb ts) {x c y : Nat} (hc : isL c = true) (s : St ts x c y) (hx : x ∈ keysF (foundRooms ts)) (hn : wayT ts x ≠ wayT ts y ++ [bk c]) : Red (wayT ts x ++ [c]) := by
  have T := W.tree
  have hm := way_mem (ts := ts) hx
  refine red_snoc.mpr ⟨(T.walk _ _ hm).2.2, fun d hd e => ?_⟩
  rcases T.par _ _ hm with ⟨_, e2⟩ | ⟨q, wq, d', h1, h2, h3, h4, _⟩
  · rw [e2] at hd
    cases hd
  · rw [h4, List.getLast?_append, List.getLast?_singleton] at hd
    have hd : some d' = some d := by simpa using hd
    cases hd
    have h5 := St.turn h2 h3
    rw [← e] at h5
    have z := W.ok.fold.one hc s h5
    subst z
    exact hn (by rw [e, bk_bk h2, ← way_of T h1]; exact h4)
/-- a few word is short as it stands -/
theorem few_red (W : IsWeb ts) {t : T3} (ht : t ∈ ts) (hn : fewIs ts t = false) : Red (wayT ts t.1 ++ t.2.1 :: rv (wayT ts t.2.2)) ∧ AL (wayT ts t.1) ∧ AL (wayT ts t.2.2) ∧ isL t.2.1 = true := by
  have T := W.tree
  have sm := W.ok.sm t ht
  have hc : isL t.2.1 = true := isL_iff.mpr (.inl sm)
  obtain ⟨k1, k2⟩ := W.ok.all_ t ht
  have s : St ts t.1 t.2.1 t.2.2 := .inl ⟨by unfold smallL; exact decide_eq_true sm, ht⟩
  unfold fewIs at hn
  rw [Bool.or_eq_false_iff, decide_eq_false_iff_not, decide_eq_false_iff_not] at hn
  have a1 := (T.walk _ _ (way_mem k1)).1
  have a2 := (T.walk _ _ (way_mem k2)).1
  refine ⟨red_glue (way_letter W hc s k1 hn.2) ?_, a1, a2, hc⟩
  have r := way_letter W (bk_L hc) (St.turn hc s) k2 (by rw [bk_bk hc]; exact hn.1)
  have := red_rv (a2.app (AL.cons (bk_L hc) AL.nil)) r
  rw [rv_snoc, bk_bk hc] at this
  exact this
theorem few_eq (W : IsWeb ts) {t : T3} (ht : t ∈ ts) (hn : fewIs ts t = false) : wayT ts t.1 ++ [t.2.1] ++ sh (rv (wayT ts t.2.2)) = wayT ts t.1 ++ t.2.1 :: rv (wayT ts t.2.2) := by
  have T := W.tree
  obtain ⟨k1, k2⟩ := W.ok.all_ t ht
  obtain ⟨a, _, b⟩ := T.walk _ _ (way_mem k2)
  rw [sh_of_red a.rv (red_rv a b), List.append_assoc]
  rfl
/-- each room's way lies on a few word -/
theorem leaf (W : IsWeb ts) : ∀ (n : Nat) (r : Nat) (w : List Nat), (r, w) ∈ foundRooms ts → (foundRooms ts).length ≤ n + w.length → r ≠ 0 →
    ∃ t ∈ ts, fewIs ts t = false ∧ ((∃ x, wayT ts t.1 = w ++ x) ∨ ∃ x, wayT ts t.2.2 = w ++ x)
  | 0, r, w, hm, hn, _ => by
    obtain ⟨i, hi⟩ := List.getElem?_of_mem hm
    have := (List.getElem?_eq_some_iff.mp hi).1
    have := (found_ok ts).way i _ hi
    have : w.length ≤ i := this
    omega
  | n + 1, r, w, hm, hn, h0 => by
    have T := W.tree
    have hw := way_of T hm
    rcases T.par _ _ hm with ⟨e, _⟩ | ⟨q, wq, d, h1, h2, h3, h4, _⟩
    · exact absurd e h0
    have r2 : 2 ≤ endsAt ts r := by
      rcases h3 with ⟨_, z⟩ | ⟨_, z⟩
      · exact (W.ends _ z).2 h0
      · exact (W.ends _ z).1 h0
    obtain ⟨c, g, hc, hne, s⟩ := two_steps W.ok.sm W.ok.fold r2 (bk d)
    -- the other room is found from here, or the tie is none of the tree's
    have child : wayT ts g = w ++ [c] → g ∈ keysF (foundRooms ts) → ∃ t ∈ ts, fewIs ts t = false ∧ ((∃ x, wayT ts t.1 = w ++ x) ∨ ∃ x, wayT ts t.2.2 = w ++ x) := fun e hg => by
      have mg := way_mem hg
      rw [e] at mg
      have g0 : g ≠ 0 := fun z => by
        rw [z, way_zero T] at e
        have := congrArg List.length e
        rw [List.length_append] at this
        simp at this
      obtain ⟨t, ht, hf, h⟩ := leaf W n g (w ++ [c]) mg (by rw [List.length_append, List.length_singleton]; omega) g0
      refine ⟨t, ht, hf, h.imp (fun ⟨x, hx⟩ => ⟨c :: x, by rw [hx, List.append_assoc]; rfl⟩) fun ⟨x, hx⟩ => ⟨c :: x, by rw [hx, List.append_assoc]; rfl⟩⟩
    have parent : ¬ wayT ts r = wayT ts g ++ [bk c] := fun e => by
      rw [← hw, h4] at e
      have e2 := congrArg List.getLast? e
      rw [List.getLast?_append, List.getLast?_append, List.getLast?_singleton, List.getLast?_singleton] at e2
      have e2 : d = bk c := by simpa using e2
      exact hne (by rw [e2, bk_bk hc])
    rcases s with ⟨sc, z⟩ | ⟨sc, z⟩
    · cases hf : fewIs ts (r, c, g) with
      | false => exact ⟨_, z, hf, .inl ⟨[], by rw [List.append_nil]; exact hw.symm⟩⟩
      | true =>
        unfold fewIs at hf
        rw [Bool.or_eq_true, decide_eq_true_eq, decide_eq_true_eq] at hf
        rcases hf with hf | hf
        · exact child (by rw [hw]; exact hf) (W.ok.all_ _ z).2
        · exact absurd hf parent
    · cases hf : fewIs ts (g, bk c, r) with
      | false => exact ⟨_, z, hf, .inr ⟨[], by rw [List.append_nil]; exact hw.symm⟩⟩
      | true =>
        unfold fewIs at hf
        rw [Bool.or_eq_true, decide_eq_true_eq, decide_eq_true_eq] at hf
        rcases hf with hf | hf
        · exact absurd hf parent
        · exact child (by rw [hw]; rw [show bk (bk c) = c from bk_bk hc] at hf; exact hf) (W.ok.all_ _ z).1
end
end Gw

/-! ### two graphs that are one but for the rooms' names are numbered alike. Plain. -/
namespace Gw
section
variable {ts us : List T3} {φ : Nat → Nat}
theorem iso_st (W : WebOk ts) (V : WebOk us) (inj : ∀ a ∈ keysF (foundRooms ts), ∀ b ∈ keysF (foundRooms ts), φ a = φ b → a = b) (p : us.Perm (ts.map (mapT φ))) {r c : Nat} (hr : r ∈ keysF (foundRooms ts)) (hc : isL c = true) : stepF us (φ r) c = (stepF ts r c).map φ := by
  have back : ∀ g', St us (φ r) c g' → ∃ g, g' = φ g ∧ St ts r c g := by
    rintro g' (⟨a, b⟩ | ⟨a, b⟩)
    · obtain ⟨x, hx, e⟩ := List.mem_map.mp (p.mem_iff.mp b)
      simp only [mapT, Prod.mk.injEq] at e
      obtain ⟨e1, e2, e3⟩ := e
      have e1 := inj _ (W.all_ x hx).1 _ hr e1
      exact ⟨x.2.2, e3.symm, .inl ⟨a, by rw [← e1, ← e2]; exact hx⟩⟩
    · obtain ⟨x, hx, e⟩ := List.mem_map.mp (p.mem_iff.mp b)
      simp only [mapT, Prod.mk.injEq] at e
      obtain ⟨e1, e2, e3⟩ := e
      have e3 := inj _ (W.all_ x hx).2 _ hr e3
      exact ⟨x.1, e1.symm, .inr ⟨a, by rw [← e3, ← e2]; exact hx⟩⟩
  cases q : stepF ts r c with
  | some g =>
    have h := (stepF_iff W.sm W.fold hc).mp q
    rw [Option.map_some]
    exact (stepF_iff V.sm V.fold hc).mpr (h.map (φ := φ) fun t ht => p.mem_iff.mpr (List.mem_map.mpr ⟨t, ht, rfl⟩))
  | none =>
    rw [Option.map_none]
    cases q2 : stepF us (φ r) c with
    | none => rfl
    | some g' =>
      obtain ⟨g, _, hg⟩ := back g' ((stepF_iff V.sm V.fold hc).mp q2)
      rw [(stepF_iff W.sm W.fold hc).mpr hg] at q
      cases q
theorem iso_letters (W : WebOk ts) (V : WebOk us) (p : us.Perm (ts.map (mapT φ))) : lettersOf us = lettersOf ts := by
  refine rise_ext (lettersOf_rise _) (lettersOf_rise _) fun c => ?_
  rw [lettersOf_mem V.sm, lettersOf_mem W.sm, List.mem_map, List.mem_map]
  constructor
  · rintro ⟨t, ht, rfl⟩
    obtain ⟨x, hx, rfl⟩ := List.mem_map.mp (p.mem_iff.mp ht)
    exact ⟨x, hx, rfl⟩
  · rintro ⟨t, ht, rfl⟩
    exact ⟨mapT φ t, p.mem_iff.mpr (List.mem_map.mpr ⟨t, ht, rfl⟩), rfl⟩
theorem iso_found (W : WebOk ts) (V : WebOk us) (h0 : φ 0 = 0) (inj : ∀ a ∈ keysF (foundRooms ts), ∀ b ∈ keysF (foundRooms ts), φ a = φ b → a = b) (p : us.Perm (ts.map (mapT φ))) : foundRooms us = mapF φ (foundRooms ts) := by
  have hl : us.length = ts.length := by rw [p.length_eq, List.length_map]
  have h := bfs_map (st := stepF ts) (st' := stepF us) (ν := φ) (A := keysF (foundRooms ts)) (ls := lettersOf ts) inj h0 (zero_found ts)
    (fun r hr c hc => ⟨iso_st W V inj p hr (letters_L W hc).1, iso_st W V inj p hr (letters_L W hc).2⟩) (fun r hr c hc g hg => foundRooms_closed ts r hr c hc g hg) (2 * ts.length + 2) 0 [(0, [])] (fun x hx => by
      rw [keysF, List.map_cons, List.map_nil, List.mem_singleton] at hx
      rw [hx]
      exact zero_found ts)
  conv => lhs; unfold foundRooms
  rw [hl, iso_letters W V p]
  have e : mapF φ [(0, [])] = [(0, [])] := by
    unfold mapF
    rw [List.map_cons, List.map_nil, h0]
  rw [e] at h
  exact h
theorem idx_map : ∀ {l : List Nat} {r : Nat}, (∀ a ∈ l, ∀ b ∈ l, φ a = φ b → a = b) → r ∈ l → (l.map φ).idxOf (φ r) = l.idxOf r
  | [], _, _, h => by cases h
  | a :: l, r, inj, h => by
    rw [List.map_cons, List.idxOf_cons, List.idxOf_cons]
    by_cases e : a = r
    · subst e
      simp
    · have e2 : ¬ φ a = φ r := fun z => e (inj a List.mem_cons_self r h z)
      have hr : r ∈ l := (List.mem_cons.mp h).resolve_left fun z => e z.symm
      rw [show (φ a == φ r) = false from by simpa using e2, show (a == r) = false from by simpa using e]
      simp only [cond_false]
      rw [idx_map (fun x hx y hy => inj x (List.mem_cons_of_mem _ hx) y (List.mem_cons_of_mem _ hy)) hr]
theorem leT3_anti {s t : T3} (h1 : leT3 s t = true) (h2 : leT3 t s = true) : s = t := by
  unfold leT3 at h1 h2
  have h1 := of_decide_eq_true h1
  have h2 := of_decide_eq_true h2
  obtain ⟨a, b, c⟩ := s
  obtain ⟨a', b', c'⟩ := t
  simp only at h1 h2
  have : a = a' := by omega
  have : b = b' := by omega
  have : c = c' := by omega
  subst_vars
  rfl
theorem numbered_iso (W : WebOk ts) (V : WebOk us) (h0 : φ 0 = 0) (inj : ∀ a ∈ keysF (foundRooms ts), ∀ b ∈ keysF (foundRooms ts), φ a = φ b → a = b) (p : us.Perm (ts.map (mapT φ))) : numberedT us = numberedT ts := by
  have num : ∀ r ∈ keysF (foundRooms ts), numOf (foundRooms us) (φ r) = numOf (foundRooms ts) r := fun r hr => by
    unfold numOf
    rw [iso_found W V h0 inj p]
    show (keysF (mapF φ (foundRooms ts))).idxOf (φ r) = (keysF (foundRooms ts)).idxOf r
    rw [keys_mapF]
    exact idx_map inj hr
  have e : (ts.map (mapT φ)).map (mapT (numOf (foundRooms us))) = ts.map (mapT (numOf (foundRooms ts))) := by
    rw [List.map_map]
    refine List.map_congr_left fun t ht => ?_
    obtain ⟨h1, h2⟩ := W.all_ t ht
    show (numOf (foundRooms us) (φ t.1), t.2.1, numOf (foundRooms us) (φ t.2.2)) = _
    rw [num _ h1, num _ h2]
    rfl
  have q : (numberedT us).Perm (numberedT ts) := by
    refine (numbered_perm us).trans ((p.map _).trans ?_)
    rw [e]
    exact (numbered_perm ts).symm
  exact q.eq_of_pairwise (fun a b _ _ h1 h2 => leT3_anti h1 h2) (numbered_sorted us) (numbered_sorted ts)
end
end Gw

/-! ### rows of few words: their rings map into the web, and the rows of numbers stay small. Plain. -/
namespace Gw
/-- a tie's few word -/
def fewW (ts : List T3) (t : T3) : List Nat := wayT ts t.1 ++ t.2.1 :: rv (wayT ts t.2.2)
def mE (es : List T3) (t : T3) : List Nat := if t ∈ es then [eN ((es.idxOf t : Int) + 1)] else []
theorem mE_al {es : List T3} (h : es.length ≤ 26) (t : T3) : AL (mE es t) := by
  unfold mE
  split
  · rename_i ht
    have := List.idxOf_lt_length_of_mem ht
    exact AL.cons (eN_L (first_R (by omega))) AL.nil
  · exact AL.nil
theorem mE_len (es : List T3) (t : T3) : (sh (mE es t)).length ≤ 1 := by
  have := sh_len (mE es t)
  have h : (mE es t).length ≤ 1 := by
    unfold mE
    split
    · exact Nat.le_refl _
    · exact Nat.zero_le _
  omega
theorem stM_turn {m : T3 → List Nat} (hm : ∀ t, AL (m t)) {a c g : Nat} (hc : isL c = true) : stM m g (bk c) a = rv (stM m a c g) := by
  unfold stM
  rcases isL_cases hc with ⟨i, hi, rfl⟩ | ⟨i, hi, rfl⟩
  · have s := small_bk (c := 97 + i) ⟨by omega, by omega⟩
    rw [s.1, s.2, if_neg (by decide), if_pos (by unfold smallL; exact decide_eq_true ⟨by omega, by omega⟩)]
  · have e : bk (65 + i) = 97 + i := by unfold bk; rw [if_neg (by omega)]; omega
    rw [e, if_pos (by unfold smallL; exact decide_eq_true ⟨by omega, by omega⟩), if_neg (by unfold smallL; rw [decide_eq_false (by omega)]; decide), rv_rv (hm _)]
theorem WalkM.turn {Δ : List T3} {m : T3 → List Nat} (hm : ∀ t, AL (m t)) : ∀ {w : List Nat} {a b : Nat} {p : List Nat}, AL w → WalkM Δ m a w b p → WalkM Δ m b (rv w) a (rv p)
  | [], a, b, p, _, ⟨e, e'⟩ => by
    subst e e'
    exact ⟨rfl, rfl⟩
  | c :: w, a, b, p, hw, ⟨g, q, s, h, e⟩ => by
    subst e
    rw [rv_cons, rv_app]
    refine (WalkM.turn hm hw.tail h).app ⟨a, [], St.turn hw.head s, ⟨rfl, rfl⟩, ?_⟩
    rw [List.append_nil, stM_turn hm hw.head]
section
variable {ts Δ es : List T3}
theorem way_walkM (W : IsWeb ts) (hT : ∀ t ∈ ts, fewIs ts t = true → t ∈ Δ) (hE : ∀ t ∈ es, fewIs ts t = false) : ∀ (n r : Nat) (w : List Nat), (r, w) ∈ foundRooms ts → w.length ≤ n → WalkM Δ (mE es) 0 w r [] := by
  have T := W.tree
  intro n
  induction n with
  | zero =>
    intro r w h hn
    have : w = [] := List.length_eq_zero_iff.mp (by omega)
    rcases T.par _ _ h with ⟨e1, e2⟩ | ⟨q, wq, d, _, _, _, h4, _⟩
    · rw [e1, e2]
      exact ⟨rfl, rfl⟩
    · rw [this] at h4
      have := congrArg List.length h4
      rw [List.length_append] at this
      simp at this
  | succ n ih =>
    intro r w h hn
    rcases T.par _ _ h with ⟨e1, e2⟩ | ⟨q, wq, d, h1, h2, h3, h4, _⟩
    · rw [e1, e2]
      exact ⟨rfl, rfl⟩
    · subst h4
      rw [List.length_append, List.length_singleton] at hn
      have e := way_of T h
      have eq := way_of T h1
      have i := ih q wq h1 (by omega)
      have key : ∀ t ∈ ts, fewIs ts t = true → t ∈ Δ ∧ mE es t = [] := fun t ht hf => ⟨hT t ht hf, by
        unfold mE
        rw [if_neg fun z => by rw [hE t z] at hf; cases hf]⟩
      have last : WalkM Δ (mE es) q [d] r [] := by
        rcases h3 with ⟨sc, z⟩ | ⟨sc, z⟩
        · obtain ⟨k1, k2⟩ := key _ z (by
            unfold fewIs
            rw [Bool.or_eq_true, decide_eq_true_eq]
            left
            show wayT ts r = wayT ts q ++ [d]
            rw [← e, ← eq])
          exact ⟨r, [], .inl ⟨sc, k1⟩, ⟨rfl, rfl⟩, by unfold stM; rw [if_pos sc, k2]; rfl⟩
        · obtain ⟨k1, k2⟩ := key _ z (by
            unfold fewIs
            rw [Bool.or_eq_true, decide_eq_true_eq, decide_eq_true_eq]
            right
            show wayT ts r = wayT ts q ++ [bk (bk d)]
            rw [← e, ← eq, bk_bk h2])
          exact ⟨r, [], .inr ⟨sc, k1⟩, ⟨rfl, rfl⟩, by unfold stM; rw [if_neg (by rw [sc]; decide), k2]; rfl⟩
      have := i.app last
      rwa [List.append_nil] at this
theorem few_walkM (W : IsWeb ts) (hT : ∀ t ∈ ts, fewIs ts t = true → t ∈ Δ) (hE : ∀ t ∈ es, t ∈ ts ∧ t ∈ Δ ∧ fewIs ts t = false) (hl : es.length ≤ 26) {t : T3} (ht : t ∈ es) : WalkM Δ (mE es) 0 (fewW ts t) 0 (mE es t) := by
  obtain ⟨h1, h2, h3⟩ := hE t ht
  obtain ⟨k1, k2⟩ := W.ok.all_ t h1
  have hc := W.ok.sm t h1
  have sc : smallL t.2.1 = true := by unfold smallL; exact decide_eq_true hc
  have hE' : ∀ t ∈ es, fewIs ts t = false := fun t ht => (hE t ht).2.2
  have a := way_walkM W hT hE' _ _ _ (way_mem k1) (Nat.le_refl _)
  have b := way_walkM W hT hE' _ _ _ (way_mem k2) (Nat.le_refl _)
  have b' := b.turn (mE_al hl) (W.tree.walk _ _ (way_mem k2)).1
  have c : WalkM Δ (mE es) t.1 (t.2.1 :: rv (wayT ts t.2.2)) 0 (mE es t) := ⟨t.2.2, [], .inl ⟨sc, h2⟩, b', by unfold stM; rw [if_pos sc, List.append_nil]⟩
  exact a.app c
theorem fewW_red (W : IsWeb ts) {t : T3} (ht : t ∈ ts) (hf : fewIs ts t = false) : AL (fewW ts t) ∧ Red (fewW ts t) := by
  obtain ⟨a, b, c, d⟩ := few_red W ht hf
  exact ⟨b.app (AL.cons d c.rv), a⟩
theorem fewW_sh (W : IsWeb ts) (hE : ∀ t ∈ es, t ∈ ts ∧ fewIs ts t = false) : (es.map (fewW ts)).map sh = es.map (fewW ts) := by
  rw [List.map_map]
  refine List.map_congr_left fun t ht => ?_
  obtain ⟨a, b⟩ := fewW_red W (hE t ht).1 (hE t ht).2
  exact sh_of_red a b
/-- the rings of some few words -/
theorem es_gau (W : IsWeb ts) (hT : ∀ t ∈ ts, fewIs ts t = true → t ∈ Δ) (hE : ∀ t ∈ es, t ∈ ts ∧ t ∈ Δ ∧ fewIs ts t = false) (nd : es.Nodup) (hl : es.length ≤ 26) {M : Nat} (hM : ∀ t ∈ es, 1 + (fewW ts t).length ≤ M) (h1 : 1 ≤ M) :
    ∃ (φ : Nat → Nat) (ν : Nat → List Nat), φ 0 = 0 ∧ ν 0 = [] ∧ Gau M Δ (mE es) φ ν (rings (es.map (fewW ts))) := by
  refine rings_gau (K := 1) (mE_al hl) (mE_len es) _ (by rw [List.length_map]; exact hl) (fun k w hw => ?_) h1 h1
  rw [List.getElem?_map] at hw
  cases hk : es[k]? with
  | none => rw [hk] at hw; cases hw
  | some t =>
    rw [hk] at hw
    cases hw
    have ht := List.mem_of_getElem? hk
    obtain ⟨a, _⟩ := fewW_red W (hE t ht).1 (hE t ht).2.2
    refine ⟨a, by have := hM t ht; omega, mE es t, few_walkM W hT hE hl ht, ?_⟩
    unfold mE
    rw [if_pos ht]
    obtain ⟨hk1, hk2⟩ := List.getElem?_eq_some_iff.mp hk
    have := List.Nodup.idxOf_getElem nd k hk1
    rw [hk2] at this
    rw [this]
theorem es_fine (W : IsWeb ts) (F : Folded Δ) (hT : ∀ t ∈ ts, fewIs ts t = true → t ∈ Δ) (hE : ∀ t ∈ es, t ∈ ts ∧ t ∈ Δ ∧ fewIs ts t = false) (nd : es.Nodup) (hl : es.length ≤ 26) {M : Nat} (hM : ∀ t ∈ es, 1 + (fewW ts t).length ≤ M) (h1 : 1 ≤ M) (h2 : 15 * M ≤ 15000000) :
    FineAll (rings (es.map (fewW ts))) ∧ ∃ φ : Nat → Nat, φ 0 = 0 ∧ ∀ t ∈ glue (rings (es.map (fewW ts))), mapT φ t.t3 ∈ Δ := by
  obtain ⟨φ, ν, z, _, I⟩ := es_gau W hT hE nd hl hM h1
  exact ⟨fun n => Gau.fine F h2 n _ I, φ, z, fun t ht => ((I.glue F).tie t ht).1⟩
end
end Gw

/-! ### the few words' web is the web; one left out is not read. Plain. -/
namespace Gw
theorem Walk.det {ts : List T3} (F : Folded ts) : ∀ {w : List Nat} {a b b' : Nat}, AL w → Walk ts a w b → Walk ts a w b' → b = b'
  | [], _, _, _, _, h, h' => h.symm.trans h'
  | _ :: _, _, _, _, hw, ⟨_, s, h⟩, ⟨_, s', h'⟩ => by
    rw [F.one hw.head s s'] at h
    exact Walk.det F hw.tail h h'
theorem folded_nodup {ts : List T3} (F : Folded ts) : ts.Nodup := F.imp fun {a b} h e => h.1 (by rw [e]; exact ⟨rfl, rfl⟩)
theorem nodup_of_map {α β : Type} {f : α → β} : ∀ {l : List α}, (l.map f).Nodup → l.Nodup
  | [], _ => List.nodup_nil
  | a :: l, h => by
    rw [List.map_cons, List.nodup_cons] at h
    exact List.nodup_cons.mpr ⟨fun z => h.1 (List.mem_map.mpr ⟨a, z, rfl⟩), nodup_of_map h.2⟩
def fewTies (ts : List T3) : List T3 := ts.filter fun t => !fewIs ts t
theorem fewTies_mem {ts : List T3} {t : T3} (h : t ∈ fewTies ts) : t ∈ ts ∧ fewIs ts t = false := by
  obtain ⟨a, b⟩ := List.mem_filter.mp h
  exact ⟨a, by simpa using b⟩
section
variable {ts : List T3}
theorem fewT_eq (W : IsWeb ts) : fewT ts = (fewTies ts).map (fewW ts) := List.map_congr_left fun t ht => few_eq W (fewTies_mem ht).1 (fewTies_mem ht).2
theorem few_web (W : IsWeb ts) {Θ : List T3} (V : WebOk Θ) (R : ∀ t ∈ fewTies ts, Walk Θ 0 (fewW ts t) 0) {φ : Nat → Nat} (h0 : φ 0 = 0) (hφ : ∀ t ∈ Θ, mapT φ t ∈ ts) : numberedT Θ = ts := by
  have T := W.tree
  have U : TreeOk Θ (foundRooms Θ) := (found_tree V.sm).ok V.sm V.fold
  have reach : ∀ r ∈ keysF (foundRooms ts), ∃ x, Walk Θ 0 (wayT ts r) x := fun r hr => by
    by_cases z : r = 0
    · subst z
      rw [way_zero T]
      exact ⟨0, rfl⟩
    obtain ⟨t, ht, hf, h⟩ := leaf W (foundRooms ts).length r _ (way_mem hr) (Nat.le_add_right _ _) z
    have hw := R t (List.mem_filter.mpr ⟨ht, by rw [hf]; rfl⟩)
    obtain ⟨_, a1, a2, hc⟩ := few_red W ht hf
    rcases h with ⟨x, hx⟩ | ⟨x, hx⟩
    · unfold fewW at hw
      rw [hx, List.append_assoc] at hw
      obtain ⟨b, hb, _⟩ := hw.split
      exact ⟨b, hb⟩
    · have hw2 := hw.turn (fewW_red W ht hf).1
      unfold fewW at hw2
      rw [rv_app, rv_cons, rv_rv a2, hx, List.append_assoc, List.append_assoc] at hw2
      obtain ⟨b, hb, _⟩ := hw2.split
      exact ⟨b, hb⟩
  obtain ⟨ψ, hψ⟩ : ∃ ψ : Nat → Nat, ∀ r ∈ keysF (foundRooms ts), Walk Θ 0 (wayT ts r) (ψ r) := by
    refine ⟨fun r => if h : r ∈ keysF (foundRooms ts) then Classical.choose (reach r h) else 0, fun r hr => ?_⟩
    show Walk Θ 0 (wayT ts r) (if h : r ∈ keysF (foundRooms ts) then Classical.choose (reach r h) else 0)
    rw [dif_pos hr]
    exact Classical.choose_spec (reach r hr)
  have wayAL : ∀ r ∈ keysF (foundRooms ts), AL (wayT ts r) := fun r hr => (T.walk _ _ (way_mem hr)).1
  have ψ0 : ψ 0 = 0 := by
    have := hψ 0 (zero_found ts)
    rw [way_zero T] at this
    exact this.symm
  have φψ : ∀ r ∈ keysF (foundRooms ts), φ (ψ r) = r := fun r hr => by
    have a := (hψ r hr).map (φ := φ) hφ
    rw [h0] at a
    exact Walk.det W.ok.fold (wayAL r hr) a (T.walk _ _ (way_mem hr)).2.1
  have step : ∀ x c y, isL c = true → x ∈ keysF (foundRooms ts) → y ∈ keysF (foundRooms ts) → wayT ts y = wayT ts x ++ [c] → St Θ (ψ x) c (ψ y) := fun x c y hc hx hy e => by
    have a := hψ y hy
    rw [e] at a
    obtain ⟨b, hb, g, s, hg⟩ := a.split
    have hg : g = ψ y := hg
    rw [Walk.det V.fold (wayAL x hx) hb (hψ x hx), hg] at s
    exact s
  have hψt : ∀ t ∈ ts, mapT ψ t ∈ Θ := fun t ht => by
    obtain ⟨k1, k2⟩ := W.ok.all_ t ht
    have sm := W.ok.sm t ht
    have hc : isL t.2.1 = true := isL_iff.mpr (.inl sm)
    have sc : smallL t.2.1 = true := by unfold smallL; exact decide_eq_true sm
    have small : ∀ {a b : Nat}, St Θ a t.2.1 b → (a, t.2.1, b) ∈ Θ := fun s => by
      rcases s with ⟨_, z⟩ | ⟨z, _⟩
      · exact z
      · rw [sc] at z
        cases z
    cases hf : fewIs ts t with
    | false =>
      have hw := R t (List.mem_filter.mpr ⟨ht, by rw [hf]; rfl⟩)
      unfold fewW at hw
      obtain ⟨b, hb, g, s, hg⟩ := hw.split
      have a2 := wayAL _ k2
      have hg2 := hg.turn a2.rv
      rw [rv_rv a2] at hg2
      rw [Walk.det V.fold (wayAL _ k1) hb (hψ _ k1), Walk.det V.fold a2 hg2 (hψ _ k2)] at s
      exact small s
    | true =>
      unfold fewIs at hf
      rw [Bool.or_eq_true, decide_eq_true_eq, decide_eq_true_eq] at hf
      rcases hf with hf | hf
      · exact small (step _ _ _ hc k1 k2 hf)
      · have s := St.turn (bk_L hc) (step _ _ _ (bk_L hc) k2 k1 hf)
        rw [bk_bk hc] at s
        exact small s
  have ψφ : ∀ x ∈ keysF (foundRooms Θ), ψ (φ x) = x := fun x hx => by
    obtain ⟨a1, a2, _⟩ := U.walk _ _ (way_mem hx)
    have b := (a2.map (φ := φ) hφ).map (φ := ψ) hψt
    rw [h0, ψ0] at b
    exact Walk.det V.fold a1 b a2
  have inj : ∀ a ∈ keysF (foundRooms Θ), ∀ b ∈ keysF (foundRooms Θ), φ a = φ b → a = b := fun a ha b hb e => by
    rw [← ψφ a ha, ← ψφ b hb, e]
  have back : ∀ s ∈ Θ, mapT ψ (mapT φ s) = s := fun s hs => by
    obtain ⟨k1, k2⟩ := V.all_ s hs
    show (ψ (φ s.1), s.2.1, ψ (φ s.2.2)) = s
    rw [ψφ _ k1, ψφ _ k2]
  have p : ts.Perm (Θ.map (mapT φ)) := by
    refine (List.perm_ext_iff_of_nodup (folded_nodup W.ok.fold) ?_).mpr fun t => ⟨fun ht => ?_, fun ht => ?_⟩
    · refine nodup_of_map (f := mapT ψ) ?_
      rw [List.map_map, show Θ.map (mapT ψ ∘ mapT φ) = Θ from (List.map_congr_left fun s hs => back s hs).trans (List.map_id _)]
      exact folded_nodup V.fold
    · refine List.mem_map.mpr ⟨_, hψt t ht, ?_⟩
      obtain ⟨k1, k2⟩ := W.ok.all_ t ht
      show (φ (ψ t.1), t.2.1, φ (ψ t.2.2)) = t
      rw [φψ _ k1, φψ _ k2]
    · obtain ⟨s, hs, rfl⟩ := List.mem_map.mp ht
      exact hφ s hs
  rw [← numbered_iso V W.ok h0 inj p]
  exact W.same
/-- what leaves a tie out does not read its few word -/
theorem few_not (W : IsWeb ts) {t : T3} (ht : t ∈ ts) (hf : fewIs ts t = false) {Θ : List T3} {φ : Nat → Nat} (h0 : φ 0 = 0) (hφ : ∀ s ∈ Θ, mapT φ s ∈ ts.erase t) : ¬ Walk Θ 0 (fewW ts t) 0 := fun h => by
  have a := h.map (φ := φ) hφ
  rw [h0] at a
  unfold fewW at a
  obtain ⟨b, hb, g, s, _⟩ := a.split
  obtain ⟨k1, k2⟩ := W.ok.all_ t ht
  have sm := W.ok.sm t ht
  have sc : smallL t.2.1 = true := by unfold smallL; exact decide_eq_true sm
  have nd := folded_nodup W.ok.fold
  have sub : ∀ s ∈ ts.erase t, s ∈ ts := fun s hs => List.mem_of_mem_erase hs
  have e := Walk.det W.ok.fold (W.tree.walk _ _ (way_mem k1)).1 (hb.mono sub) (W.tree.walk _ _ (way_mem k1)).2.1
  rw [e] at s
  rcases s with ⟨_, z⟩ | ⟨z, _⟩
  · have g2 := W.ok.fold.one (isL_iff.mpr (.inl sm)) (.inl ⟨sc, sub _ z⟩) (.inl ⟨sc, ht⟩ : St ts t.1 t.2.1 t.2.2)
    rw [g2] at z
    have z : t ∈ ts.erase t := z
    exact (List.Nodup.mem_erase_iff nd).mp z |>.1 rfl
  · rw [sc] at z
    cases z
end
end Gw

/-! ### a law row's web has at most twenty ties; so its few words are few. Plain. -/
namespace Gw
theorem nodup_leA {α : Type} [DecidableEq α] : ∀ (l D : List α), l.Nodup → (∀ x ∈ l, x ∈ D) → l.length ≤ D.length
  | [], _, _, _ => Nat.zero_le _
  | x :: l, D, h, hs => by
    have hx := hs x List.mem_cons_self
    have h1 := List.length_erase_of_mem hx
    have h2 := List.length_pos_of_mem hx
    rw [List.nodup_cons] at h
    have := nodup_leA l (D.erase x) h.2 fun y hy => (List.mem_erase_of_ne (fun e : y = x => h.1 (by rw [← e]; exact hy))).mpr (hs y (List.mem_cons_of_mem _ hy))
    rw [List.length_cons]
    omega
theorem seg_len : ∀ (w : List Nat) (r f : Nat) (m : List Int), (segT r m f w).length = w.length
  | [], _, _, _ => rfl
  | [_], _, _, _ => rfl
  | c :: d :: w, r, f, m => by
    show (tieT r c f m :: segT f [] (f + 1) (d :: w)).length = _
    rw [List.length_cons, seg_len (d :: w)]
    rfl
theorem rings_le {n : Nat} : ∀ (ws : List (List Nat)), (∀ w ∈ ws, w.length ≤ n) → (rings ws).length ≤ ws.length * n := by
  intro ws
  refine snoc_ind (P := fun ws => (∀ w ∈ ws, w.length ≤ n) → (rings ws).length ≤ ws.length * n) (fun _ => by show 0 ≤ _; exact Nat.zero_le _) (fun ws w ih => ?_) ws
  intro h
  have h1 := ih fun x hx => h x (List.mem_append_left _ hx)
  have h2 := h w (by simp)
  rw [rings_snoc, List.length_append, List.length_append, seg_len, List.length_singleton, Nat.succ_mul]
  omega
theorem glueN_le : ∀ (n : Nat) (ts : List T4), (glueN n ts).length ≤ ts.length
  | 0, _ => Nat.le_refl _
  | n + 1, ts => by
    unfold glueN
    cases h : pairOf ts with
    | none => exact Nat.le_refl _
    | some r =>
      obtain ⟨o, t, e⟩ := r
      have h1 := glueStep_len (o := o) (e := e) (pairOf_ok h).t_in
      have h2 := glueN_le n (glueStep ts o t e)
      have h1 : (glueStep ts o t e).length + 1 = ts.length := h1
      show (glueN n (glueStep ts o t e)).length ≤ _
      omega
theorem LawRow.small {us : List (List Nat)} (L : LawRow us) : (gluedOf us).length ≤ 20 := by
  obtain ⟨hal, vs, h4, h5, hf⟩ := L
  have lens : ∀ w ∈ vs.map sh, w.length ≤ 4 + 1 := fun w hw => by
    obtain ⟨u, hu, rfl⟩ := List.mem_map.mp hw
    have := sh_len u
    have := h5 u hu
    omega
  have l1 : (glue (rings (vs.map sh))).length ≤ 20 := by
    have a := glueN_le (rings (vs.map sh)).length (rings (vs.map sh))
    have b := rings_le (vs.map sh) lens
    rw [List.length_map] at b
    have c : vs.length * (4 + 1) ≤ 4 * (4 + 1) := Nat.mul_le_mul_right _ h4
    show (glueN _ _).length ≤ 20
    omega
  have hfr := freshOf_le (m := 4) _ lens
  have hfp := freshOf_pos (vs.map sh)
  rw [List.length_map] at hfr
  have hp : 2 * 2 ^ (freshOf (vs.map sh) - 1) ≤ 131072 := by
    have : 2 ^ (freshOf (vs.map sh) - 1) ≤ 2 ^ 16 := Nat.pow_le_pow_right (by decide) (by omega)
    omega
  obtain ⟨F, G⟩ := rings_fine (ws := vs.map sh) (by rw [List.length_map]; omega) hp (by decide)
  rcases hf with rfl | ⟨p, rfl, hp, hm⟩
  · exact l1
  · have hv : ∀ u ∈ vs, AL u := fun u hu => hal u (List.mem_append_left _ hu)
    have R : Rounds (vs.map sh) ((glue (rings (vs.map sh))).map T4.t3) := glue_rounds (rings_rounds fun w hw => by
      obtain ⟨u, hu, rfl⟩ := List.mem_map.mp hw
      exact sh_AL (hv u hu))
    have hw := hm.walk hv G.fold R
    have hl : (sh p).length ≤ 15 := Nat.le_trans (sh_len p) hp
    have hmul : (sh p).length * (2 * 131072) ≤ 15 * (2 * 131072) := Nat.mul_le_mul_right _ hl
    obtain ⟨_, pm, _⟩ := rings_read F G (sh_AL (hm.al hv)) hw (by omega)
    have e := pm.length_eq
    rw [List.length_map, List.length_map] at e
    unfold gluedOf
    rw [List.map_append]
    show (glue (rings (vs.map sh ++ [sh p]))).length ≤ 20
    omega
theorem web_len (us : List (List Nat)) : (webOf us).length = (gluedOf us).length := by
  unfold webOf numberedT
  rw [List.length_mergeSort, List.length_map, List.length_map]
/-- a web of at most twenty ties: its few words, any of them, are a fine row -/
theorem few_row {ts Δ es : List T3} (W : IsWeb ts) (l20 : ts.length ≤ 20) (F : Folded Δ) (hT : ∀ t ∈ ts, fewIs ts t = true → t ∈ Δ) (hE : ∀ t ∈ es, t ∈ ts ∧ t ∈ Δ ∧ fewIs ts t = false) (nd : es.Nodup) :
    FineAll (rings (es.map (fewW ts))) ∧ (∃ φ : Nat → Nat, φ 0 = 0 ∧ ∀ t ∈ glue (rings (es.map (fewW ts))), mapT φ t.t3 ∈ Δ) ∧ es.length ≤ 20 ∧ (∀ t ∈ es, (fewW ts t).length ≤ 83) ∧ (rings (es.map (fewW ts))).length ≤ 1660 := by
  have le : es.length ≤ 20 := by
    have : es.length ≤ ts.length := by
      exact nodup_leA es ts nd fun t ht => (hE t ht).1
    omega
  have way : ∀ r ∈ keysF (foundRooms ts), (wayT ts r).length ≤ 41 := fun r hr => by
    obtain ⟨i, hi⟩ := List.getElem?_of_mem (way_mem hr)
    have h1 := (found_ok ts).way i _ hi
    have h2 := (List.getElem?_eq_some_iff.mp hi).1
    have h3 := (found_ok ts).len
    have h4 := goalsOf_len ts
    have h1 : (wayT ts r).length ≤ i := h1
    omega
  have lw : ∀ t ∈ es, (fewW ts t).length ≤ 83 := fun t ht => by
    obtain ⟨k1, k2⟩ := W.ok.all_ t (hE t ht).1
    have a := way _ k1
    have b := way _ k2
    unfold fewW
    rw [List.length_append, List.length_cons, rv_len]
    omega
  obtain ⟨a, b⟩ := es_fine W F hT hE nd (by omega) (M := 84) (fun t ht => by have := lw t ht; omega) (by decide) (by decide)
  refine ⟨a, b, le, lw, ?_⟩
  have := rings_le (n := 83) (es.map (fewW ts)) fun w hw => by
    obtain ⟨t, ht, rfl⟩ := List.mem_map.mp hw
    exact lw t ht
  rw [List.length_map] at this
  have : es.length * 83 ≤ 20 * 83 := Nat.mul_le_mul_right _ le
  omega
end Gw

/-! ### rows of numbers, sharper: only the room where two ties meet counts; 0 and its next rooms count nothing at first. Plain. -/
namespace Gw
/-- each end of a tie has a word; the words of one room are not far apart; no word is far from none -/
structure Lb (N S : Nat) (D : List Nat) (ts : List T4) (L : Nat → List Nat → Prop) (W : Nat → Nat) : Prop where
  al : ∀ r a, L r a → AL a
  near : ∀ r a, L r a → (sh a).length ≤ 1 + W r
  zero : L 0 []
  dist : ∀ r a b, L r a → L r b → dst a b ≤ W r
  tie : ∀ t ∈ ts, ∃ a b, L t.1 a ∧ L t.2.2.1 b ∧ Row t.2.2.2 (a ++ rv b)
  room : ∀ t ∈ ts, (t.1 < N ∧ t.1 ∉ D) ∧ t.2.2.1 < N ∧ t.2.2.1 ∉ D
  nd : D.Nodup
  dead : ∀ x ∈ D, x ≠ 0 ∧ x < N
  sum : sumT N W ≤ S
theorem Lab.lb {N S : Nat} {D : List Nat} {ts : List T4} {L : Nat → List Nat → Prop} {W : Nat → Nat} (I : Lab N S D ts L W) : Lb N S D ts L W :=
  ⟨I.al, fun r a h => by have := I.dist _ _ _ (I.e r) h; rw [dst_nil] at this; omega, I.e 0, I.dist, I.tie, I.room, I.nd, I.dead, I.sum⟩
section
variable {N S : Nat} {D : List Nat} {ts : List T4} {L : Nat → List Nat → Prop} {W : Nat → Nat}
theorem Lb.wle (I : Lb N S D ts L W) {r : Nat} (h : r < N) : W r ≤ S := Nat.le_trans (sumT_le h) I.sum
theorem Lb.row (I : Lb N S D ts L W) {t : T4} (h : t ∈ ts) : t.2.2.2.length ≤ 2 + 2 * S := by
  obtain ⟨a, b, ha, hb, hr⟩ := I.tie t h
  obtain ⟨⟨h1, _⟩, h2, _⟩ := I.room t h
  have e1 := I.near _ _ ha
  have e2 := I.near _ _ hb
  have e3 := sh_len_app (I.al _ _ ha) (I.al _ _ hb).rv
  rw [sh_rv (I.al _ _ hb), rv_len] at e3
  have e4 := I.wle h1
  have e5 := I.wle h2
  rw [hr.len]
  omega
theorem Lb.erase (I : Lb N S D ts L W) (t : T4) : Lb N S D (ts.erase t) L W :=
  ⟨I.al, I.near, I.zero, I.dist, fun x hx => I.tie x (List.mem_of_mem_erase hx), fun x hx => I.room x (List.mem_of_mem_erase hx), I.nd, I.dead, I.sum⟩
theorem Lb.dlen (I : Lb N S D ts L W) (hN : 0 < N) : D.length + 1 ≤ N := by
  have h := nodup_len (0 :: D) (List.range N) (List.nodup_cons.mpr ⟨fun z => (I.dead 0 z).1 rfl, I.nd⟩) (fun x hx => by
    rcases List.mem_cons.mp hx with rfl | hx
    · exact List.mem_range.mpr hN
    · exact List.mem_range.mpr (I.dead x hx).2)
  rw [List.length_cons, List.length_range] at h
  exact h
/-- the words at the room that stays -/
def mergeLb (L : Nat → List Nat → Prop) (A B : Nat) (G : List Nat) : Nat → List Nat → Prop := fun r c => if r = B then False else if r = A then L A c ∨ ∃ h, L B h ∧ c = G ++ h else L r c
theorem Lb.merge (I : Lb N S D ts L W) {r A B : Nat} {a b x1 x2 : List Nat} (hA : A < N) (hB : B < N) (hr : r < N) (hAB : A ≠ B) (hB0 : B ≠ 0) (hAD : A ∉ D) (hBD : B ∉ D) (ha : L A a) (h1 : L r x1) (h2 : L r x2) (hb : L B b) {g : List Int} (hg : Row g (a ++ rv x1 ++ x2 ++ rv b)) (ts' : List T4) (hts : ∀ x ∈ ts', x ∈ ts) :
    Lb N (S + W r) (B :: D) (ts'.map (movedT B A g)) (mergeLb L A B (a ++ rv x1 ++ x2 ++ rv b)) (setF (setF W A (W A + W r + W B)) B 0) := by
  have ala := I.al _ _ ha
  have al1 := I.al _ _ h1
  have al2 := I.al _ _ h2
  have alb := I.al _ _ hb
  obtain ⟨G, hG⟩ : ∃ G, G = a ++ rv x1 ++ x2 ++ rv b := ⟨_, rfl⟩
  rw [← hG] at hg ⊢
  have alG : AL G := by rw [hG]; exact ((ala.app al1.rv).app al2).app alb.rv
  have far : ∀ c h, L A c → L B h → dst c (G ++ h) ≤ W A + W r + W B := fun c h hc hh => by
    have d1 := I.dist _ _ _ hc ha
    have d2 := I.dist _ _ _ h1 h2
    have d3 := I.dist _ _ _ hb hh
    have alc := I.al _ _ hc
    have alh := I.al _ _ hh
    unfold dst at *
    have e : rv c ++ (G ++ h) = (rv c ++ a) ++ ((rv x1 ++ x2) ++ (rv b ++ h)) := by rw [hG]; simp
    rw [e]
    have e1 := sh_len_app (alc.rv.app ala) ((al1.rv.app al2).app (alb.rv.app alh))
    have e2 := sh_len_app (al1.rv.app al2) (alb.rv.app alh)
    omega
  have wset : ∀ i, setF (setF W A (W A + W r + W B)) B 0 i = if i = B then 0 else if i = A then W A + W r + W B else W i := fun i => rfl
  have rowg : ∀ {u : List Int} {c : List Nat}, Row u c → Row (joined g u) (G ++ c) := fun h => hg.join h
  refine ⟨?_, ?_, ?_, ?_, ?_, ?_, ?_, ?_, ?_⟩
  · intro q c hc
    unfold mergeLb at hc
    split at hc
    · exact hc.elim
    split at hc
    · rcases hc with hc | ⟨h, hh, rfl⟩
      · exact I.al _ _ hc
      · exact alG.app (I.al _ _ hh)
    · exact I.al _ _ hc
  · intro q c hc
    rw [wset]
    unfold mergeLb at hc
    by_cases e1 : q = B
    · rw [if_pos e1] at hc
      exact hc.elim
    rw [if_neg e1] at hc ⊢
    by_cases e2 : q = A
    · rw [if_pos e2] at hc ⊢
      rcases hc with hc | ⟨h, hh, rfl⟩
      · have := I.near _ _ hc
        omega
      · have d0 := I.near _ _ ha
        have d2 := I.dist _ _ _ h1 h2
        have d3 := I.dist _ _ _ hb hh
        have alh := I.al _ _ hh
        unfold dst at d2 d3
        have e : G ++ h = a ++ ((rv x1 ++ x2) ++ (rv b ++ h)) := by rw [hG]; simp
        rw [e]
        have e1 := sh_len_app ala ((al1.rv.app al2).app (alb.rv.app alh))
        have e2 := sh_len_app (al1.rv.app al2) (alb.rv.app alh)
        omega
    · rw [if_neg e2] at hc ⊢
      exact I.near _ _ hc
  · unfold mergeLb
    rw [if_neg (fun z => hB0 z.symm)]
    split
    · rename_i e
      exact .inl (by rw [← e]; exact I.zero)
    · exact I.zero
  · intro q c c' hc hc'
    rw [wset]
    unfold mergeLb at hc hc'
    by_cases e1 : q = B
    · rw [if_pos e1] at hc hc'
      exact hc.elim
    rw [if_neg e1] at hc hc' ⊢
    by_cases e2 : q = A
    · rw [if_pos e2] at hc hc' ⊢
      rcases hc with hc | ⟨h, hh, rfl⟩
      · rcases hc' with hc' | ⟨h', hh', rfl⟩
        · have := I.dist _ _ _ hc hc'
          omega
        · exact far _ _ hc hh'
      · rcases hc' with hc' | ⟨h', hh', rfl⟩
        · rw [dst_symm (alG.app (I.al _ _ hh)) (I.al _ _ hc')]
          exact far _ _ hc' hh
        · rw [dst_left alG (I.al _ _ hh) (I.al _ _ hh')]
          have := I.dist _ _ _ hh hh'
          omega
    · rw [if_neg e2] at hc hc' ⊢
      exact I.dist _ _ _ hc hc'
  · intro t' ht'
    obtain ⟨t, ht, rfl⟩ := List.mem_map.mp ht'
    obtain ⟨α, β, hα, hβ, hrow⟩ := I.tie t (hts t ht)
    have key : ∀ (y : Nat) (c : List Nat), L y c → mergeLb L A B G (if y = B then A else y) (if y = B then G ++ c else c) := fun y c hc => by
      unfold mergeLb
      by_cases e : y = B
      · rw [if_pos e, if_pos e, if_neg hAB, if_pos rfl]
        exact .inr ⟨c, by rw [← e]; exact hc, rfl⟩
      · rw [if_neg e, if_neg e, if_neg e]
        split
        · rename_i e2
          exact .inl (by rw [← e2]; exact hc)
        · exact hc
    refine ⟨if t.1 = B then G ++ α else α, if t.2.2.1 = B then G ++ β else β, key _ _ hα, key _ _ hβ, ?_⟩
    unfold movedT
    dsimp only
    by_cases e1 : t.1 = B
    · rw [if_pos e1, if_pos e1]
      by_cases e2 : t.2.2.1 = B
      · rw [if_pos e2, if_pos e2]
        have := (rowg hrow).join hg.back
        rw [rv_app]
        rw [show G ++ (α ++ rv β) ++ rv G = G ++ α ++ (rv β ++ rv G) by simp] at this
        exact this
      · rw [if_neg e2, if_neg e2]
        have := rowg hrow
        rw [← List.append_assoc] at this
        exact this
    · rw [if_neg e1, if_neg e1]
      by_cases e2 : t.2.2.1 = B
      · rw [if_pos e2, if_pos e2]
        have := hrow.join hg.back
        rw [rv_app]
        rw [List.append_assoc] at this
        exact this
      · rw [if_neg e2, if_neg e2]
        exact hrow
  · intro t' ht'
    obtain ⟨t, ht, rfl⟩ := List.mem_map.mp ht'
    obtain ⟨⟨r1, r2⟩, r3, r4⟩ := I.room t (hts t ht)
    have key : ∀ y, y < N → y ∉ D → (if y = B then A else y) < N ∧ (if y = B then A else y) ∉ B :: D := fun y hy hd => by
      by_cases e : y = B
      · rw [if_pos e]
        exact ⟨hA, fun z => by
          rcases List.mem_cons.mp z with z | z
          · exact hAB z
          · exact hAD z⟩
      · rw [if_neg e]
        exact ⟨hy, fun z => by
          rcases List.mem_cons.mp z with z | z
          · exact e z
          · exact hd z⟩
    exact ⟨key _ r1 r2, (key _ r3 r4).1, (key _ r3 r4).2⟩
  · exact List.nodup_cons.mpr ⟨hBD, I.nd⟩
  · intro x hx
    rcases List.mem_cons.mp hx with rfl | hx
    · exact ⟨hB0, hB⟩
    · exact I.dead x hx
  · have s1 := sumT_set (f := setF W A (W A + W r + W B)) (x := 0) hB
    have s2 := sumT_set (f := W) (x := W A + W r + W B) hA
    have e3 : setF W A (W A + W r + W B) B = W B := by unfold setF; rw [if_neg (fun z => hAB z.symm)]
    rw [e3] at s1
    have s3 := sumT_le (f := W) hr
    have s4 := I.sum
    omega
/-- where two ties meet -/
def meetR (o : T4) (e : Nat) : Nat := if e = 2 then o.1 else o.2.2.1
/-- one turn -/
theorem Lb.step (I : Lb N S D ts L W) {o t : T4} {e : Nat} (hp : pairOf ts = some (o, t, e)) (hS : 20 * S + 20 ≤ 16000000) :
    StepFine ts o t e ∧ ((endAt o e = endAt t e ∧ Lb N S D (glueStep ts o t e) L W) ∨ (endAt o e ≠ endAt t e ∧ ∃ L', Lb N (S + W (meetR o e)) (endAt t e :: D) (glueStep ts o t e) L' (setF (setF W (endAt o e) (W (endAt o e) + W (meetR o e) + W (endAt t e))) (endAt t e) 0))) := by
  have ok := pairOf_ok hp
  have o_in : o ∈ ts := ok.o_in
  have t_in : t ∈ ts := ok.t_in
  have meet : MeetAt o t e := ok.meet
  have zero : endAt t e = 0 → endAt o e = 0 := ok.zero
  have lo := I.row o_in
  have lt := I.row t_in
  have lg := glueNs_len o t e
  refine ⟨⟨by omega, fun _ x hx _ => by have := I.row hx; omega⟩, ?_⟩
  unfold glueStep
  by_cases hne : endAt o e = endAt t e
  · rw [if_neg (fun z => z hne)]
    exact .inl ⟨hne, I.erase t⟩
  · rw [if_pos hne]
    refine .inr ⟨hne, ?_⟩
    have hB0 : endAt t e ≠ 0 := fun z => hne ((zero z).trans z.symm)
    obtain ⟨oa, ob, hoa, hob, hor⟩ := I.tie o o_in
    obtain ⟨ta, tb, hta, htb, htr⟩ := I.tie t t_in
    obtain ⟨⟨ro1, ro2⟩, ro3, ro4⟩ := I.room o o_in
    obtain ⟨⟨rt1, rt2⟩, rt3, rt4⟩ := I.room t t_in
    obtain ⟨_, m⟩ := meet
    have sub : ∀ x ∈ ts.erase t, x ∈ ts := fun x hx => List.mem_of_mem_erase hx
    rcases m with ⟨rfl, m⟩ | ⟨rfl, m⟩
    · have hne : o.2.2.1 ≠ t.2.2.1 := hne
      have hB0 : t.2.2.1 ≠ 0 := hB0
      have hg : Row (glueNs o t 2) (ob ++ rv oa ++ ta ++ rv tb) := by
        have := hor.back.join htr
        rw [rv_app, rv_rv (I.al _ _ hob)] at this
        rw [show ob ++ rv oa ++ (ta ++ rv tb) = ob ++ rv oa ++ ta ++ rv tb by simp] at this
        exact this
      rw [← m] at hta
      exact ⟨_, I.merge ro3 rt3 ro1 hne hB0 ro4 rt4 hob hoa hta htb hg _ sub⟩
    · have hne : o.1 ≠ t.1 := hne
      have hB0 : t.1 ≠ 0 := hB0
      have hg : Row (glueNs o t 0) (oa ++ rv ob ++ tb ++ rv ta) := by
        have := hor.join htr.back
        rw [rv_app, rv_rv (I.al _ _ htb)] at this
        rw [show oa ++ rv ob ++ (tb ++ rv ta) = oa ++ rv ob ++ tb ++ rv ta by simp] at this
        exact this
      rw [← m] at htb
      exact ⟨_, I.merge ro1 rt1 ro3 hne hB0 ro2 rt2 hoa hob htb hta hg _ sub⟩
end
/-- what the sizes come to -/
def LbEnd (N M : Nat) (ts : List T4) : Prop := ∃ S D L W, Lb N S D ts L W ∧ (S * 2 ^ (N - 1 - D.length) ≤ M ∨ S ≤ 4)
/-- as far as it goes: sizes are kept -/
theorem Lb.fine {N M : Nat} (hN : 0 < N) (hM : 20 * M + 20 ≤ 16000000) : ∀ (n S : Nat) (D : List Nat) (ts : List T4) (L : Nat → List Nat → Prop) (W : Nat → Nat), Lb N S D ts L W → S * 2 ^ (N - 1 - D.length) ≤ M →
    Fine n ts ∧ LbEnd N M (glueN n ts)
  | 0, S, D, ts, L, W, I, h => ⟨trivial, S, D, L, W, I, .inl h⟩
  | n + 1, S, D, ts, L, W, I, h => by
    have hS : S ≤ M := Nat.le_trans (Nat.le_mul_of_pos_right S (Nat.pow_pos (by decide))) h
    cases g : pairOf ts with
    | none =>
      refine ⟨(fun o t e z => by rw [g] at z; cases z), S, D, L, W, ?_, .inl h⟩
      unfold glueN
      rw [g]
      exact I
    | some p =>
      obtain ⟨o, t, e⟩ := p
      obtain ⟨h1, h2⟩ := I.step g (by omega)
      have key : Fine n (glueStep ts o t e) ∧ LbEnd N M (glueN n (glueStep ts o t e)) := by
        rcases h2 with ⟨_, I2⟩ | ⟨_, L', I2⟩
        · exact Lb.fine hN hM n _ _ _ _ _ I2 h
        · refine Lb.fine hN hM n _ _ _ _ _ I2 ?_
          have dl := I2.dlen hN
          have ok := pairOf_ok g
          have hr : meetR o e < N := by
            obtain ⟨⟨a, _⟩, b, _⟩ := I.room o ok.o_in
            unfold meetR
            split
            · exact a
            · exact b
          have wr := I.wle hr
          rw [List.length_cons] at dl ⊢
          have e1 : N - 1 - D.length = (N - 1 - (D.length + 1)) + 1 := by omega
          rw [e1, Nat.pow_succ] at h
          calc (S + W (meetR o e)) * 2 ^ (N - 1 - (D.length + 1)) ≤ (2 * S) * 2 ^ (N - 1 - (D.length + 1)) := Nat.mul_le_mul_right _ (by omega)
            _ = S * (2 ^ (N - 1 - (D.length + 1)) * 2) := by rw [Nat.mul_comm 2 S, Nat.mul_assoc, Nat.mul_comm 2]
            _ ≤ M := h
      refine ⟨fun o' t' e' z => ?_, ?_⟩
      · rw [g] at z
        cases z
        exact ⟨h1, key.1⟩
      · unfold glueN
        rw [g]
        exact key.2
/-- ties meet at these rooms only -/
def Thin (Z : List Nat) (ts : List T4) : Prop := ts.Pairwise fun x y => (x.1 = y.1 → x.2.1 = y.2.1 → x.1 ∈ Z) ∧ (x.2.2.1 = y.2.2.1 → x.2.1 = y.2.1 → x.2.2.1 ∈ Z)
theorem Thin.erase {Z : List Nat} {ts : List T4} (h : Thin Z ts) (t : T4) : Thin Z (ts.erase t) := List.Pairwise.sublist List.erase_sublist h
theorem Thin.pair {Z : List Nat} {ts : List T4} (h : Thin Z ts) {o t : T4} {e : Nat} (hp : pairOf ts = some (o, t, e)) : meetR o e ∈ Z := by
  have ok := pairOf_ok hp
  have hr : o ∈ ts.erase t := pairOf_rest hp
  have ht : t ∈ ts := ok.t_in
  have pm : ts.Perm (t :: ts.erase t) := List.perm_cons_erase ht
  have h2 : (t :: ts.erase t).Pairwise fun x y => (x.1 = y.1 → x.2.1 = y.2.1 → x.1 ∈ Z) ∧ (x.2.2.1 = y.2.2.1 → x.2.1 = y.2.1 → x.2.2.1 ∈ Z) := (List.Perm.pairwise_iff (fun {x y} h => ⟨fun a b => by rw [a]; exact h.1 a.symm b.symm, fun a b => by rw [a]; exact h.2 a.symm b.symm⟩) pm).mp h
  have h3 := (List.pairwise_cons.mp h2).1 o hr
  have m : MeetAt o t e := ok.meet
  obtain ⟨m1, ⟨rfl, m2⟩ | ⟨rfl, m2⟩⟩ := m
  · have := h3.1 m2.symm m1.symm
    show (if 2 = 2 then o.1 else o.2.2.1) ∈ Z
    rw [if_pos rfl, m2]
    exact this
  · have := h3.2 m2.symm m1.symm
    show (if 0 = 2 then o.1 else o.2.2.1) ∈ Z
    rw [if_neg (by decide), m2]
    exact this
theorem Thin.moved {Z : List Nat} {A B : Nat} {g : List Int} {ts : List T4} (h : Thin Z ts) : Thin (A :: Z) (ts.map (movedT B A g)) := by
  unfold Thin
  rw [List.pairwise_map]
  have key : ∀ a b : Nat, (if a = B then A else a) = (if b = B then A else b) → (a = b → a ∈ Z) → (if a = B then A else a) ∈ A :: Z := fun a b e hz => by
    by_cases ha : a = B
    · rw [if_pos ha]
      exact List.mem_cons_self
    · rw [if_neg ha] at e ⊢
      by_cases hb : b = B
      · rw [if_pos hb] at e
        rw [e]
        exact List.mem_cons_self
      · rw [if_neg hb] at e
        exact List.mem_cons_of_mem _ (hz e)
  exact h.imp fun {x y} hxy => ⟨fun e1 e2 => key x.1 y.1 e1 fun z => hxy.1 z e2, fun e1 e2 => key x.2.2.1 y.2.2.1 e1 fun z => hxy.2 z e2⟩
theorem Thin.step {Z : List Nat} {ts : List T4} (h : Thin Z ts) (o t : T4) (e : Nat) : Thin (endAt o e :: Z) (glueStep ts o t e) := by
  unfold glueStep
  split
  · exact (h.erase t).moved
  · exact (h.erase t).imp fun {x y} hxy => ⟨fun a b => List.mem_cons_of_mem _ (hxy.1 a b), fun a b => List.mem_cons_of_mem _ (hxy.2 a b)⟩
theorem Thin.close {Z : List Nat} {ts : List T4} (h : Thin Z ts) {o t : T4} {e : Nat} (he : endAt o e = endAt t e) : Thin Z (glueStep ts o t e) := by
  unfold glueStep
  rw [if_neg (fun z => z he)]
  exact h.erase t
/-- so many rooms are gone, and where ties meet nothing counts: then a turn costs nothing -/
theorem Lb.free {N M K : Nat} (hN : 0 < N) (hM : 20 * M + 20 ≤ 16000000) (hK : K ≤ 4) : ∀ (n : Nat) (D : List Nat) (ts : List T4) (L : Nat → List Nat → Prop) (W : Nat → Nat) (Z : List Nat), Lb N K D ts L W → Thin Z ts → (∀ z ∈ Z, W z = 0) → K * 2 ^ (N - 1 - (D.length + 1)) ≤ M →
    Fine n ts ∧ LbEnd N M (glueN n ts)
  | 0, D, ts, L, W, Z, I, _, _, h => ⟨trivial, K, D, L, W, I, .inr hK⟩
  | n + 1, D, ts, L, W, Z, I, T, hZ, h => by
    cases g : pairOf ts with
    | none =>
      refine ⟨(fun o t e z => by rw [g] at z; cases z), K, D, L, W, ?_, .inr hK⟩
      unfold glueN
      rw [g]
      exact I
    | some p =>
      obtain ⟨o, t, e⟩ := p
      obtain ⟨h1, h2⟩ := I.step g (by omega)
      have w0 : W (meetR o e) = 0 := hZ _ (T.pair g)
      have key : Fine n (glueStep ts o t e) ∧ LbEnd N M (glueN n (glueStep ts o t e)) := by
        rcases h2 with ⟨he, I2⟩ | ⟨_, L', I2⟩
        · exact Lb.free hN hM hK n _ _ _ _ _ I2 (T.close he) hZ h
        · rw [w0, Nat.add_zero] at I2
          exact Lb.fine hN hM n _ _ _ _ _ I2 h
      refine ⟨fun o' t' e' z => ?_, ?_⟩
      · rw [g] at z
        cases z
        exact ⟨h1, key.1⟩
      · unfold glueN
        rw [g]
        exact key.2
/-- the same for two turns: the first one's rooms count nothing either -/
theorem Lb.free2 {N M K : Nat} (hN : 0 < N) (hM : 20 * M + 20 ≤ 16000000) (hK : K ≤ 4) : ∀ (n : Nat) (D : List Nat) (ts : List T4) (L : Nat → List Nat → Prop) (W : Nat → Nat), Lb N K D ts L W → Thin [0] ts → W 0 = 0 → (∀ t ∈ ts, (t.1 = 0 → W t.2.2.1 = 0) ∧ (t.2.2.1 = 0 → W t.1 = 0)) → K * 2 ^ (N - 1 - (D.length + 2)) ≤ M →
    Fine n ts ∧ LbEnd N M (glueN n ts)
  | 0, D, ts, L, W, I, _, _, _, h => ⟨trivial, K, D, L, W, I, .inr hK⟩
  | n + 1, D, ts, L, W, I, T, hZ, hP, h => by
    cases g : pairOf ts with
    | none =>
      refine ⟨(fun o t e z => by rw [g] at z; cases z), K, D, L, W, ?_, .inr hK⟩
      unfold glueN
      rw [g]
      exact I
    | some p =>
      obtain ⟨o, t, e⟩ := p
      obtain ⟨h1, h2⟩ := I.step g (by omega)
      have r0 : meetR o e = 0 := by simpa using T.pair g
      have ok := pairOf_ok g
      have o_in : o ∈ ts := ok.o_in
      have t_in : t ∈ ts := ok.t_in
      have m : MeetAt o t e := ok.meet
      have hoA : W (endAt o e) = 0 ∧ W (endAt t e) = 0 := by
        obtain ⟨_, ⟨rfl, m2⟩ | ⟨rfl, m2⟩⟩ := m
        · have r0 : o.1 = 0 := r0
          exact ⟨(hP o o_in).1 r0, (hP t t_in).1 (by rw [← m2]; exact r0)⟩
        · have r0 : o.2.2.1 = 0 := r0
          exact ⟨(hP o o_in).2 r0, (hP t t_in).2 (by rw [← m2]; exact r0)⟩
      have key : Fine n (glueStep ts o t e) ∧ LbEnd N M (glueN n (glueStep ts o t e)) := by
        rcases h2 with ⟨he, I2⟩ | ⟨_, L', I2⟩
        · refine Lb.free2 hN hM hK n _ _ _ _ I2 (T.close he) hZ (fun x hx => hP x ?_) h
          unfold glueStep at hx
          rw [if_neg (fun z => z he)] at hx
          exact List.mem_of_mem_erase hx
        · rw [r0, hZ, Nat.add_zero, hoA.1, hoA.2] at I2
          refine Lb.free hN hM hK n _ _ _ _ [endAt o e, 0] I2 (T.step o t e) (fun z hz => ?_) h
          unfold setF
          split
          · rfl
          split
          · rfl
          · rename_i h3 h4
            have : z = 0 := by
              simp only [List.mem_cons, List.not_mem_nil, or_false] at hz
              rcases hz with hz | hz
              · exact absurd hz h4
              · exact hz
            rw [this]
            exact hZ
      refine ⟨fun o' t' e' z => ?_, ?_⟩
      · rw [g] at z
        cases z
        exact ⟨h1, key.1⟩
      · unfold glueN
        rw [g]
        exact key.2
end Gw

/-! ### rings of words of five letters each: the sharper beginning. Plain. -/
namespace Gw
theorem tieT_rooms (r c g : Nat) (m : List Int) : (tieT r c g m = (r, c, g, m) ∧ smallL c = true) ∨ (tieT r c g m = (g, bk c, r, m) ∧ smallL c = false) := by
  unfold tieT
  cases h : smallL c with
  | true => rw [if_pos rfl]; exact .inl ⟨rfl, rfl⟩
  | false => rw [if_neg Bool.false_ne_true]; exact .inr ⟨rfl, rfl⟩
theorem seg_far {w : List Nat} {f : Nat} {y : T4} (hf : 0 < f) (h : y ∈ segT (f + 1) [] (f + 2) w) : y.1 ≠ f ∧ y.2.2.1 ≠ f := by
  have := seg_rooms w (f + 1) [] (f + 2) y h
  omega
theorem seg_thin : ∀ (w : List Nat) (r : Nat) (m : List Int) (f : Nat), AL w → Red w → 0 < f → r < f → Thin [0] (segT r m f w)
  | [], _, _, _, _, _, _, _ => .nil
  | [_], _, _, _, _, _, _, _ => List.pairwise_singleton _ _
  | c :: d :: w, r, m, f, hal, hr, hf, hrf => by
    have ih := seg_thin (d :: w) f [] (f + 1) hal.tail hr.tail (by omega) (by omega)
    have hcd : d ≠ bk c := hr.1
    have hc : isL c = true := hal.head
    have hd : isL d = true := hal.tail.head
    refine List.pairwise_cons.mpr ⟨fun y hy => ?_, ih⟩
    have rm := seg_rooms (d :: w) f [] (f + 1) y hy
    -- where y is at f, it is the next tie
    have atf : (y.1 = f ∨ y.2.2.1 = f) → ∃ g, (g = 0 ∨ f < g) ∧ y = tieT f d g [] := fun h => by
      cases w with
      | nil =>
        have hy : y ∈ [tieT f d 0 []] := hy
        exact ⟨0, .inl rfl, List.mem_singleton.mp hy⟩
      | cons e w =>
        have hy : y ∈ tieT f d (f + 1) [] :: segT (f + 1) [] (f + 1 + 1) (e :: w) := hy
        rcases List.mem_cons.mp hy with hy | hy
        · exact ⟨f + 1, .inr (by omega), hy⟩
        · have := seg_far hf hy
          rcases h with h | h
          · exact absurd h this.1
          · exact absurd h this.2
    have z : ∀ q, (q = f ∨ q = 0 ∨ (f + 1 ≤ q ∧ q < f + 1 + ((d :: w).length - 1))) → r = q → r ∈ [0] := fun q hq e => by
      rw [List.mem_singleton]
      omega
    rcases tieT_rooms r c f m with ⟨e, hs⟩ | ⟨e, hs⟩
    · rw [e]
      refine ⟨fun h1 _ => z _ rm.1 h1, fun h1 h2 => ?_⟩
      exfalso
      have h1 : f = y.2.2.1 := h1
      have h2 : c = y.2.1 := h2
      obtain ⟨g, hg, ey⟩ := atf (.inr h1.symm)
      rcases tieT_rooms f d g [] with ⟨e2, _⟩ | ⟨e2, _⟩
      · rw [ey, e2] at h1
        have h1 : f = g := h1
        omega
      · rw [ey, e2] at h2
        have h2 : c = bk d := h2
        exact hcd (by rw [h2, bk_bk hd])
    · rw [e]
      refine ⟨fun h1 h2 => ?_, fun h1 _ => z _ rm.2 h1⟩
      exfalso
      have h1 : f = y.1 := h1
      have h2 : bk c = y.2.1 := h2
      obtain ⟨g, hg, ey⟩ := atf (.inl h1.symm)
      rcases tieT_rooms f d g [] with ⟨e2, _⟩ | ⟨e2, _⟩
      · rw [ey, e2] at h2
        have h2 : bk c = d := h2
        exact hcd h2.symm
      · rw [ey, e2] at h1
        have h1 : f = g := h1
        omega
theorem dirN_dirN (c : Nat) (m : List Int) : dirN c (dirN c m) = m := by
  unfold dirN
  split
  · rfl
  · unfold behindN
    rw [← List.map_reverse, List.reverse_reverse, List.map_map]
    refine (List.map_congr_left fun i _ => ?_).trans (List.map_id _)
    show - -i = i
    omega
theorem tieT_lab {L : Nat → List Nat → Prop} {r c g : Nat} {m : List Int} {a b : List Nat} (ha : L r a) (hb : L g b) (ala : AL a) (alb : AL b) (h : Row (dirN c m) (a ++ rv b)) :
    ∃ α β, L (tieT r c g m).1 α ∧ L (tieT r c g m).2.2.1 β ∧ Row (tieT r c g m).2.2.2 (α ++ rv β) := by
  rcases tieT_rooms r c g m with ⟨e, hs⟩ | ⟨e, hs⟩
  · rw [e]
    refine ⟨a, b, ha, hb, ?_⟩
    unfold dirN at h
    rw [hs, if_pos rfl] at h
    exact h
  · rw [e]
    refine ⟨b, a, hb, ha, ?_⟩
    have h2 := h.back
    rw [rv_app, rv_rv alb] at h2
    have : behindN (dirN c m) = m := by
      have := dirN_dirN c m
      unfold dirN at this ⊢
      rw [hs] at this ⊢
      exact this
    rw [this] at h2
    exact h2
/-- the words at first -/
def lab5 (L : Nat → List Nat → Prop) (f : Nat) (x : List Nat) : Nat → List Nat → Prop := fun r a => if r < f then L r a else if r = f then a = x else if r = f + 1 then (a = x ∨ a = []) else a = []
theorem rings5 : ∀ ws : List (List Nat), ws.length ≤ 26 → (∀ w ∈ ws, w = [] ∨ (w.length = 5 ∧ AL w ∧ Red w)) →
    ∃ L W, Lb (freshOf ws) ((ws.filter fun w => !w.isEmpty).length) [] (rings ws) L W ∧ Thin [0] (rings ws) ∧ W 0 = 0 ∧ (∀ t ∈ rings ws, (t.1 = 0 → W t.2.2.1 = 0) ∧ (t.2.2.1 = 0 → W t.1 = 0)) ∧ ∀ r, freshOf ws ≤ r → W r = 0 := by
  refine snoc_ind ?_ ?_
  · intro _ _
    refine ⟨fun r a => a = [], fun _ => 0, ⟨(fun r a h => by rw [h]; exact AL.nil), (fun r a h => by rw [h]; exact Nat.zero_le _), rfl, (fun r a b h1 h2 => by rw [h1, h2]; exact Nat.le_refl _), (fun t ht => by cases ht), (fun t ht => by cases ht), List.nodup_nil, (fun x hx => by cases hx), ?_⟩, .nil, rfl, (fun t ht => by cases ht), fun _ _ => rfl⟩
    show sumT 1 (fun _ => 0) ≤ _
    exact Nat.le_refl _
  · intro ws w ih hl hw
    rw [List.length_append, List.length_singleton] at hl
    obtain ⟨L, W, I, T, W0, P, far⟩ := ih (by omega) fun v hv => hw v (List.mem_append_left _ hv)
    have hfp := freshOf_pos ws
    rw [rings_snoc, freshOf_snoc, List.filter_append, List.length_append]
    rcases hw w (by simp) with rfl | ⟨h5, hal, hred⟩
    · exact ⟨L, W, by simpa [segT] using I, by simpa [segT] using T, W0, by simpa [segT] using P, by simpa using far⟩
    obtain ⟨f, hf⟩ : ∃ f, f = freshOf ws := ⟨_, rfl⟩
    rw [← hf] at I far hfp ⊢
    obtain ⟨c1, c2, c3, c4, c5, rfl⟩ : ∃ c1 c2 c3 c4 c5, w = [c1, c2, c3, c4, c5] := by
      match w, h5 with
      | [a, b, c, d, e], _ => exact ⟨a, b, c, d, e, rfl⟩
    have hk : InR ((ws.length : Int) + 1) := first_R (by omega)
    have hL := eN_L hk
    obtain ⟨x, hx⟩ : ∃ x, x = [bk (eN ((ws.length : Int) + 1))] := ⟨_, rfl⟩
    have alx : AL x := by rw [hx]; exact AL.cons (bk_L hL) AL.nil
    have lx : (sh x).length ≤ 1 := by have := sh_len x; rw [hx] at this ⊢; exact this
    have seg : segT 0 (dirN ([c1, c2, c3, c4, c5].headD 0) [(ws.length : Int) + 1]) f [c1, c2, c3, c4, c5] = [tieT 0 c1 f (dirN c1 [(ws.length : Int) + 1]), tieT f c2 (f + 1) [], tieT (f + 1) c3 (f + 2) [], tieT (f + 2) c4 (f + 3) [], tieT (f + 3) c5 0 []] := rfl
    have hlen5 : [c1, c2, c3, c4, c5].length - 1 = 4 := rfl
    rw [hlen5]
    have ths := seg_thin [c1, c2, c3, c4, c5] 0 (dirN ([c1, c2, c3, c4, c5].headD 0) [(ws.length : Int) + 1]) f hal hred hfp hfp
    have below : Below f (rings ws) := by rw [hf]; exact rings_below ws
    rw [seg] at ths ⊢
    have L'r : ∀ r a, r < f → (lab5 L f x r a ↔ L r a) := fun r a h => by unfold lab5; rw [if_pos h]
    have L'f : lab5 L f x f x := by unfold lab5; rw [if_neg (by omega), if_pos rfl]
    have L'1 : lab5 L f x (f + 1) x ∧ lab5 L f x (f + 1) [] := by
      constructor
      · unfold lab5
        rw [if_neg (by omega), if_neg (by omega), if_pos rfl]
        exact .inl rfl
      · unfold lab5
        rw [if_neg (by omega), if_neg (by omega), if_pos rfl]
        exact .inr rfl
    have L'b : ∀ r, f + 1 < r → lab5 L f x r [] := fun r h => by
      unfold lab5
      rw [if_neg (by omega), if_neg (by omega), if_neg (by omega)]
    have L'0 : lab5 L f x 0 [] := (L'r 0 [] hfp).mpr I.zero
    have cases5 : ∀ r a, lab5 L f x r a → (r < f ∧ L r a) ∨ (f ≤ r ∧ (a = [] ∨ (a = x ∧ (r = f ∨ r = f + 1)))) := fun r a h => by
      unfold lab5 at h
      split at h
      · exact .inl ⟨by assumption, h⟩
      rename_i h1
      refine .inr ⟨by omega, ?_⟩
      split at h
      · rename_i h2
        exact .inr ⟨h, .inl h2⟩
      split at h
      · rename_i h3
        rcases h with h | h
        · exact .inr ⟨h, .inr h3⟩
        · exact .inl h
      · exact .inl h
    have Wr : ∀ r, r ≠ f + 1 → setF W (f + 1) 1 r = W r := fun r h => by unfold setF; rw [if_neg h]
    have W1 : setF W (f + 1) 1 (f + 1) = 1 := by unfold setF; rw [if_pos rfl]
    have rx : Row [] (x ++ rv x) := Row.nil.to (alx.app alx.rv) (by rw [sh_rv_r alx]; rfl)
    have r0 : Row [] (([] : List Nat) ++ rv []) := Row.nil
    have rows : ∀ t ∈ [tieT 0 c1 f (dirN c1 [(ws.length : Int) + 1]), tieT f c2 (f + 1) [], tieT (f + 1) c3 (f + 2) [], tieT (f + 2) c4 (f + 3) [], tieT (f + 3) c5 0 []], ∃ a b, lab5 L f x t.1 a ∧ lab5 L f x t.2.2.1 b ∧ Row t.2.2.2 (a ++ rv b) := by
      have dn : ∀ c, dirN c [] = [] := fun c => by unfold dirN; split <;> rfl
      intro t ht
      simp only [List.mem_cons, List.not_mem_nil, or_false] at ht
      rcases ht with rfl | rfl | rfl | rfl | rfl
      · refine tieT_lab L'0 L'f AL.nil alx ?_
        rw [dirN_dirN, hx]
        show Row _ ([] ++ [bk (bk (eN ((ws.length : Int) + 1)))])
        rw [bk_bk hL]
        exact Row.one hk
      · exact tieT_lab L'f L'1.1 alx alx (by rw [dn]; exact rx)
      · exact tieT_lab L'1.2 (L'b _ (by omega)) AL.nil AL.nil (by rw [dn]; exact r0)
      · exact tieT_lab (L'b _ (by omega)) (L'b _ (by omega)) AL.nil AL.nil (by rw [dn]; exact r0)
      · exact tieT_lab (L'b _ (by omega)) L'0 AL.nil AL.nil (by rw [dn]; exact r0)
    have rms : ∀ t ∈ [tieT 0 c1 f (dirN c1 [(ws.length : Int) + 1]), tieT f c2 (f + 1) [], tieT (f + 1) c3 (f + 2) [], tieT (f + 2) c4 (f + 3) [], tieT (f + 3) c5 0 []], (t.1 < f + 4 ∧ t.2.2.1 < f + 4) ∧ (t.1 = 0 → t.2.2.1 = f ∨ t.2.2.1 = f + 3) ∧ (t.2.2.1 = 0 → t.1 = f ∨ t.1 = f + 3) ∧ (t.1 = 0 ∨ f ≤ t.1) ∧ (t.2.2.1 = 0 ∨ f ≤ t.2.2.1) := by
      intro t ht
      simp only [List.mem_cons, List.not_mem_nil, or_false] at ht
      rcases ht with rfl | rfl | rfl | rfl | rfl
      · rcases tieT_rooms 0 c1 f (dirN c1 [(ws.length : Int) + 1]) with ⟨e, _⟩ | ⟨e, _⟩ <;> rw [e] <;> dsimp only <;> omega
      · rcases tieT_rooms f c2 (f + 1) [] with ⟨e, _⟩ | ⟨e, _⟩ <;> rw [e] <;> dsimp only <;> omega
      · rcases tieT_rooms (f + 1) c3 (f + 2) [] with ⟨e, _⟩ | ⟨e, _⟩ <;> rw [e] <;> dsimp only <;> omega
      · rcases tieT_rooms (f + 2) c4 (f + 3) [] with ⟨e, _⟩ | ⟨e, _⟩ <;> rw [e] <;> dsimp only <;> omega
      · rcases tieT_rooms (f + 3) c5 0 [] with ⟨e, _⟩ | ⟨e, _⟩ <;> rw [e] <;> dsimp only <;> omega
    refine ⟨lab5 L f x, setF W (f + 1) 1, ⟨fun r a h => ?_, fun r a h => ?_, L'0, fun r a b ha hb => ?_, fun t ht => ?_, fun t ht => ?_, List.nodup_nil, (fun x hx => by cases hx), ?_⟩, ?_, ?_, fun t ht => ?_, fun r hr => ?_⟩
    · rcases cases5 r a h with ⟨_, h⟩ | ⟨_, rfl | ⟨rfl, _⟩⟩
      · exact I.al _ _ h
      · exact AL.nil
      · exact alx
    · rcases cases5 r a h with ⟨hr, h⟩ | ⟨_, rfl | ⟨rfl, _⟩⟩
      · rw [Wr r (by omega)]
        exact I.near _ _ h
      · exact Nat.zero_le _
      · omega
    · rcases cases5 r a ha with ⟨hr, ha1⟩ | ⟨hr, ha1⟩
      · rcases cases5 r b hb with ⟨_, hb1⟩ | ⟨hr2, _⟩
        · rw [Wr r (by omega)]
          exact I.dist _ _ _ ha1 hb1
        · omega
      · rcases cases5 r b hb with ⟨hr2, _⟩ | ⟨_, hb1⟩
        · omega
        · by_cases e1 : r = f + 1
          · rw [e1, W1]
            rcases ha1 with rfl | ⟨rfl, _⟩
            · rcases hb1 with rfl | ⟨rfl, _⟩
              · exact Nat.zero_le _
              · rw [dst_nil]; exact lx
            · rcases hb1 with rfl | ⟨rfl, _⟩
              · rw [dst_symm alx AL.nil, dst_nil]; exact lx
              · rw [dst_self alx]; exact Nat.zero_le _
          · have same : a = b := by
              unfold lab5 at ha hb
              rw [if_neg (by omega)] at ha hb
              by_cases e2 : r = f
              · rw [if_pos e2] at ha hb
                rw [ha, hb]
              · rw [if_neg e2, if_neg e1] at ha hb
                rw [ha, hb]
            rw [same, dst_self (by rcases hb1 with rfl | ⟨rfl, _⟩; exact AL.nil; exact alx)]
            exact Nat.zero_le _
    · rcases List.mem_append.mp ht with ht | ht
      · obtain ⟨a, b, ha, hb, hr⟩ := I.tie t ht
        have := below t ht
        exact ⟨a, b, (L'r _ _ this.1).mpr ha, (L'r _ _ this.2).mpr hb, hr⟩
      · exact rows t ht
    · rcases List.mem_append.mp ht with ht | ht
      · have := below t ht
        exact ⟨⟨by omega, by simp⟩, by omega, by simp⟩
      · have := (rms t ht).1
        exact ⟨⟨this.1, by simp⟩, this.2, by simp⟩
    · have s1 : sumT f (setF W (f + 1) 1) = sumT f W := sumT_congr fun i hi => Wr i (by omega)
      have s2 := I.sum
      show sumT f (setF W (f + 1) 1) + setF W (f + 1) 1 f + setF W (f + 1) 1 (f + 1) + setF W (f + 1) 1 (f + 2) + setF W (f + 1) 1 (f + 3) ≤ _
      rw [s1, W1, Wr f (by omega), Wr (f + 2) (by omega), Wr (f + 3) (by omega), far f (Nat.le_refl _), far (f + 2) (by omega), far (f + 3) (by omega)]
      show _ ≤ _ + 1
      omega
    · refine List.pairwise_append.mpr ⟨T, ths, fun a ha b hb => ?_⟩
      have h1 := below a ha
      have h2 := (rms b hb).2.2.2
      exact ⟨fun e _ => by rw [List.mem_singleton]; omega, fun e _ => by rw [List.mem_singleton]; omega⟩
    · rw [Wr 0 (by omega)]
      exact W0
    · rcases List.mem_append.mp ht with ht | ht
      · have := below t ht
        rw [Wr _ (by omega), Wr _ (by omega)]
        exact P t ht
      · obtain ⟨_, p1, p2, _⟩ := rms t ht
        refine ⟨fun h => ?_, fun h => ?_⟩
        · rcases p1 h with e | e
          · rw [e, Wr _ (by omega)]; exact far _ (by omega)
          · rw [e, Wr _ (by omega)]; exact far _ (by omega)
        · rcases p2 h with e | e
          · rw [e, Wr _ (by omega)]; exact far _ (by omega)
          · rw [e, Wr _ (by omega)]; exact far _ (by omega)
    · rw [Wr r (by omega)]
      exact far r (by omega)
end Gw

/-! ### words weighed: the letter of one word of the row counts three. Plain. -/
namespace Gw
def wtK (K c : Nat) : Nat := if c = 96 + K ∨ c = 64 + K then 3 else 1
def wsum (K : Nat) : List Nat → Nat
  | [] => 0
  | c :: a => wtK K c + wsum K a
def nz (K : Nat) (a : List Nat) : Nat := wsum K (sh a)
theorem wtK_bk {K c : Nat} (hK : K ≤ 26) (hc : isL c = true) : wtK K (bk c) = wtK K c := by
  have h := isL_iff.mp hc
  have key : (bk c = 96 + K ∨ bk c = 64 + K) ↔ (c = 96 + K ∨ c = 64 + K) := by
    unfold bk
    split <;> omega
  unfold wtK
  by_cases h2 : c = 96 + K ∨ c = 64 + K
  · rw [if_pos h2, if_pos (key.mpr h2)]
  · rw [if_neg h2, if_neg (fun z => h2 (key.mp z))]
theorem wtK_le (K c : Nat) : 1 ≤ wtK K c ∧ wtK K c ≤ 3 := by unfold wtK; split <;> omega
theorem wsum_app (K : Nat) : ∀ a b : List Nat, wsum K (a ++ b) = wsum K a + wsum K b
  | [], b => by rw [List.nil_append]; exact (Nat.zero_add _).symm
  | c :: a, b => by
    show wtK K c + wsum K (a ++ b) = wtK K c + wsum K a + wsum K b
    rw [wsum_app K a b]
    omega
theorem wsum_len (K : Nat) : ∀ a : List Nat, a.length ≤ wsum K a
  | [] => Nat.le_refl _
  | c :: a => by
    have := wsum_len K a
    have := (wtK_le K c).1
    show a.length + 1 ≤ wtK K c + wsum K a
    omega
theorem wsum_rv {K : Nat} (hK : K ≤ 26) : ∀ {a : List Nat}, AL a → wsum K (rv a) = wsum K a
  | [], _ => rfl
  | c :: a, h => by
    rw [rv_cons, wsum_app, wsum_rv hK h.tail]
    show wsum K a + (wtK K (bk c) + 0) = wtK K c + wsum K a
    rw [wtK_bk hK h.head]
    omega
theorem wsum_shSt (K : Nat) (k : List Nat) (c : Nat) : wsum K (shSt k c) ≤ wsum K k + wtK K c := by
  unfold shSt
  split
  · rcases end_of k with rfl | ⟨k, d, rfl⟩
    · exact Nat.zero_le _
    · rw [List.dropLast_concat, wsum_app]
      omega
  · rw [wsum_app]
    exact Nat.le_refl _
theorem wsum_foldl (K : Nat) : ∀ (v k : List Nat), wsum K (v.foldl shSt k) ≤ wsum K k + wsum K v
  | [], k => Nat.le_refl _
  | c :: v, k => by
    have h := wsum_foldl K v (shSt k c)
    have h2 := wsum_shSt K k c
    show wsum K (v.foldl shSt (shSt k c)) ≤ wsum K k + (wtK K c + wsum K v)
    omega
theorem nz_le (K : Nat) (a : List Nat) : nz K a ≤ wsum K a := by
  have := wsum_foldl K a []
  have e : wsum K [] = 0 := rfl
  unfold nz
  unfold sh
  omega
theorem nz_len (K : Nat) (a : List Nat) : (sh a).length ≤ nz K a := wsum_len K _
theorem nz_nil (K : Nat) : nz K [] = 0 := rfl
theorem nz_congr {K : Nat} {a b : List Nat} (e : sh a = sh b) : nz K a = nz K b := by unfold nz; rw [e]
theorem nz_app {K : Nat} {a b : List Nat} (ha : AL a) (hb : AL b) : nz K (a ++ b) ≤ nz K a + nz K b := by
  unfold nz
  rw [sh_app_sh ha hb, ← wsum_app]
  exact nz_le K _
theorem nz_rv {K : Nat} (hK : K ≤ 26) {a : List Nat} (ha : AL a) : nz K (rv a) = nz K a := by
  unfold nz
  rw [sh_rv ha, wsum_rv hK (sh_AL ha)]
theorem nz_one {K c : Nat} (hc : isL c = true) : nz K [c] = wtK K c := by
  unfold nz
  rw [sh_of_red (AL.cons hc AL.nil) trivial]
  rfl
/-- how far two words are apart -/
def dw (K : Nat) (a b : List Nat) : Nat := nz K (rv a ++ b)
theorem dw_nil {K : Nat} {a : List Nat} : dw K [] a = nz K a := rfl
theorem dw_self {K : Nat} {a : List Nat} (ha : AL a) : dw K a a = 0 := by
  unfold dw nz
  rw [sh_rv_l ha]
  rfl
theorem dw_symm {K : Nat} (hK : K ≤ 26) {a b : List Nat} (ha : AL a) (hb : AL b) : dw K a b = dw K b a := by
  unfold dw
  have e : rv (rv a ++ b) = rv b ++ a := by rw [rv_app, rv_rv ha]
  rw [← e, nz_rv hK (ha.rv.app hb)]
theorem nz_mid {K : Nat} {a b c : List Nat} (ha : AL a) (hb : AL b) (hc : AL c) : nz K (a ++ b ++ (rv b ++ c)) = nz K (a ++ c) := nz_congr (sh_mid ha hb hc)
theorem dw_tri {K : Nat} {a b c : List Nat} (ha : AL a) (hb : AL b) (hc : AL c) : dw K a c ≤ dw K a b + dw K b c := by
  unfold dw
  rw [← nz_mid ha.rv hb hc]
  exact nz_app (ha.rv.app hb) (hb.rv.app hc)
theorem dw_left {K : Nat} {g a b : List Nat} (hg : AL g) (ha : AL a) (hb : AL b) : dw K (g ++ a) (g ++ b) = dw K a b := by
  unfold dw
  have h := nz_mid (K := K) (a := rv a) (b := rv g) (c := b) ha.rv hg.rv hb
  rw [rv_rv hg] at h
  rw [rv_app, ← h]
/-- a way of four words along which one comes from c to h -/
theorem dw_far {K : Nat} {c a x y b h : List Nat} (hc : AL c) (ha : AL a) (hx : AL x) (hy : AL y) (hb : AL b) (hh : AL h) : dw K c (a ++ rv x ++ y ++ rv b ++ h) ≤ dw K c a + dw K x y + dw K b h := by
  have e : rv c ++ (a ++ rv x ++ y ++ rv b ++ h) = (rv c ++ a) ++ ((rv x ++ y) ++ (rv b ++ h)) := by simp
  unfold dw
  rw [e]
  have e1 := nz_app (K := K) (hc.rv.app ha) ((hx.rv.app hy).app (hb.rv.app hh))
  have e2 := nz_app (K := K) (hx.rv.app hy) (hb.rv.app hh)
  omega
end Gw

/-! ### rooms in the middle of a ring that nothing has come to yet: their words are free. Plain. -/
namespace Gw
abbrev LL := Nat → List Nat → Prop
def gb (B : Nat) (G : List Nat) (z : Nat) : List Nat := if z = B then G else []
def sg1 (B A z : Nat) : Nat := if z = B then A else z
theorem gb_al {B z : Nat} {G : List Nat} (h : AL G) : AL (gb B G z) := by unfold gb; split; exact h; exact AL.nil
theorem row_moved {A B : Nat} {g : List Int} {G : List Nat} (hg : Row g G) {k : T4} {w : List Nat} (h : Row k.2.2.2 w) : Row (movedT B A g k).2.2.2 (gb B G k.1 ++ w ++ rv (gb B G k.2.2.1)) := by
  unfold movedT gb
  dsimp only
  by_cases e1 : k.1 = B
  · rw [if_pos e1, if_pos e1]
    by_cases e2 : k.2.2.1 = B
    · rw [if_pos e2, if_pos e2]
      exact (hg.join h).join hg.back
    · rw [if_neg e2, if_neg e2, rv_nil, List.append_nil]
      exact hg.join h
  · rw [if_neg e1, if_neg e1, List.nil_append]
    by_cases e2 : k.2.2.1 = B
    · rw [if_pos e2, if_pos e2]
      exact h.join hg.back
    · rw [if_neg e2, if_neg e2, rv_nil, List.append_nil]
      exact h
/-- a tie from a room on to a room, and its word -/
def Go (k : T4) (a : Nat) (w : List Nat) (b : Nat) : Prop := AL w ∧ ((k.1 = a ∧ k.2.2.1 = b ∧ Row k.2.2.2 w) ∨ (k.1 = b ∧ k.2.2.1 = a ∧ Row k.2.2.2 (rv w)))
theorem Go.back {k : T4} {a b : Nat} {w : List Nat} (h : Go k a w b) : Go k b (rv w) a := by
  obtain ⟨al, ⟨h1, h2, h3⟩ | ⟨h1, h2, h3⟩⟩ := h
  · exact ⟨al.rv, .inr ⟨h1, h2, by rw [rv_rv al]; exact h3⟩⟩
  · exact ⟨al.rv, .inl ⟨h1, h2, h3⟩⟩
theorem Go.to {k : T4} {a b : Nat} {w w' : List Nat} (h : Go k a w b) (al' : AL w') (e : sh w = sh w') : Go k a w' b := by
  obtain ⟨al, ⟨h1, h2, h3⟩ | ⟨h1, h2, h3⟩⟩ := h
  · exact ⟨al', .inl ⟨h1, h2, h3.to al' e⟩⟩
  · exact ⟨al', .inr ⟨h1, h2, h3.to al'.rv (by rw [sh_rv al, sh_rv al', e])⟩⟩
theorem Go.moved {A B : Nat} {g : List Int} {G : List Nat} (hg : Row g G) {k : T4} {a b : Nat} {w : List Nat} (h : Go k a w b) : Go (movedT B A g k) (sg1 B A a) (gb B G a ++ w ++ rv (gb B G b)) (sg1 B A b) := by
  have alG := hg.al
  obtain ⟨al, ⟨h1, h2, h3⟩ | ⟨h1, h2, h3⟩⟩ := h
  · refine ⟨((gb_al alG).app al).app (gb_al alG).rv, .inl ⟨?_, ?_, ?_⟩⟩
    · rw [← h1]; rfl
    · rw [← h2]; rfl
    · rw [← h1, ← h2]
      exact row_moved hg h3
  · refine ⟨((gb_al alG).app al).app (gb_al alG).rv, .inr ⟨?_, ?_, ?_⟩⟩
    · rw [← h1]; rfl
    · rw [← h2]; rfl
    · have := row_moved (A := A) (B := B) hg h3
      rw [h1, h2] at this
      rw [rv_app, rv_app, rv_rv (gb_al alG), ← List.append_assoc]
      exact this
/-- from one room of the middle on to the end -/
def Mid : List Nat → Nat → List T4 → Nat → List Nat → Prop
  | [], b, ks, q, y => ∃ k, ks = [k] ∧ Go k b y q
  | b' :: bs, b, ks, q, y => ∃ k ks', ks = k :: ks' ∧ Go k b [] b' ∧ Mid bs b' ks' q y
theorem mid_rev : ∀ (bs : List Nat) (b : Nat) (ks : List T4) (q : Nat) (y : List Nat), Mid bs b ks q y → ∀ (rs : List Nat) (js : List T4) (p : Nat) (z : List Nat), Mid rs b js p z →
    ∃ k' b' bs' ks', Go k' q (rv y) b' ∧ Mid bs' b' ks' p z ∧ (k' :: ks').Perm (ks ++ js) ∧ (b' :: bs').Perm (b :: bs ++ rs) ∧ ∀ k ∈ ks, k = k' ∨ (k.1 ∈ b :: bs ∧ k.2.2.1 ∈ b :: bs)
  | [], b, ks, q, y, ⟨k, e, hk⟩, rs, js, p, z, hm => by
    subst e
    exact ⟨k, b, rs, js, hk.back, hm, List.Perm.refl _, List.Perm.refl _, fun k' h => .inl (List.mem_singleton.mp h)⟩
  | b1 :: bs, b, ks, q, y, ⟨k, ks', e, hk, hm1⟩, rs, js, p, z, hm => by
    subst e
    obtain ⟨k', b', bs', ks2, h1, h2, h3, h4, h5⟩ := mid_rev bs b1 ks' q y hm1 (b :: rs) (k :: js) p z ⟨k, js, rfl, hk.back, hm⟩
    refine ⟨k', b', bs', ks2, h1, h2, h3.trans List.perm_middle, h4.trans ?_, fun j hj => ?_⟩
    · exact List.perm_middle (l₁ := b1 :: bs)
    · rcases List.mem_cons.mp hj with rfl | hj
      · refine .inr ?_
        obtain ⟨_, ⟨e1, e2, _⟩ | ⟨e1, e2, _⟩⟩ := hk
        · rw [e1, e2]; simp
        · rw [e1, e2]; simp
      · rcases h5 j hj with h | ⟨h, h'⟩
        · exact .inl h
        · exact .inr ⟨List.mem_cons_of_mem _ h, List.mem_cons_of_mem _ h'⟩
theorem Mid.moved {A B : Nat} {g : List Int} {G : List Nat} (hg : Row g G) : ∀ {bs : List Nat} {b : Nat} {ks : List T4} {q : Nat} {y : List Nat}, B ∉ b :: bs → Mid bs b ks q y → Mid bs b (ks.map (movedT B A g)) (sg1 B A q) (y ++ rv (gb B G q))
  | [], b, ks, q, y, hB, ⟨k, e, hk⟩ => by
    subst e
    have hb : b ≠ B := fun z => hB (by rw [z]; exact List.mem_cons_self)
    have := hk.moved (A := A) (B := B) hg
    rw [sg1, if_neg hb, gb, if_neg hb, List.nil_append] at this
    exact ⟨_, rfl, this⟩
  | b' :: bs, b, ks, q, y, hB, ⟨k, ks', e, hk, hm⟩ => by
    subst e
    have hb : b ≠ B := fun z => hB (by rw [z]; exact List.mem_cons_self)
    have hb' : b' ≠ B := fun z => hB (by rw [z]; simp)
    have := hk.moved (A := A) (B := B) hg
    rw [sg1, if_neg hb, gb, if_neg hb, sg1, if_neg hb', gb, if_neg hb', List.nil_append, rv_nil, List.append_nil] at this
    exact ⟨_, _, rfl, this, Mid.moved hg (fun z => hB (List.mem_cons_of_mem _ z)) hm⟩
theorem Mid.ends : ∀ {bs : List Nat} {b : Nat} {ks : List T4} {q : Nat} {y : List Nat}, Mid bs b ks q y → ∀ k ∈ ks, (k.1 ∈ b :: bs ∨ k.1 = q) ∧ (k.2.2.1 ∈ b :: bs ∨ k.2.2.1 = q) ∧ (k.1 ∈ b :: bs ∨ k.2.2.1 ∈ b :: bs)
  | [], b, ks, q, y, ⟨k, e, hk⟩, j, hj => by
    subst e
    rw [List.mem_singleton.mp hj]
    obtain ⟨_, ⟨e1, e2, _⟩ | ⟨e1, e2, _⟩⟩ := hk <;> rw [e1, e2] <;> simp
  | b' :: bs, b, ks, q, y, ⟨k, ks', e, hk, hm⟩, j, hj => by
    subst e
    rcases List.mem_cons.mp hj with rfl | hj
    · obtain ⟨_, ⟨e1, e2, _⟩ | ⟨e1, e2, _⟩⟩ := hk <;> rw [e1, e2] <;> simp
    · have := Mid.ends hm j hj
      refine ⟨this.1.imp (List.mem_cons_of_mem _) id, this.2.1.imp (List.mem_cons_of_mem _) id, this.2.2.imp (List.mem_cons_of_mem _) (List.mem_cons_of_mem _)⟩
theorem Mid.rows : ∀ {bs : List Nat} {b : Nat} {ks : List T4} {q : Nat} {y : List Nat}, Mid bs b ks q y → ∀ k ∈ ks, k.2.2.2.length ≤ (sh y).length
  | [], b, ks, q, y, ⟨k, e, hk⟩, j, hj => by
    subst e
    rw [List.mem_singleton.mp hj]
    obtain ⟨al, ⟨_, _, h⟩ | ⟨_, _, h⟩⟩ := hk
    · rw [h.len]; exact Nat.le_refl _
    · rw [h.len, sh_rv al, rv_len]; exact Nat.le_refl _
  | b' :: bs, b, ks, q, y, ⟨k, ks', e, hk, hm⟩, j, hj => by
    subst e
    rcases List.mem_cons.mp hj with rfl | hj
    · obtain ⟨_, ⟨_, _, h⟩ | ⟨_, _, h⟩⟩ := hk
      · rw [h.len]; exact Nat.zero_le _
      · rw [h.len]; exact Nat.zero_le _
    · exact Mid.rows hm j hj
structure Pt where
  k0 : T4
  b : Nat
  bs : List Nat
  ks : List T4
  e : Nat
def Pt.rooms (P : Pt) : List Nat := P.b :: P.bs
def Pt.ties (P : Pt) : List T4 := P.k0 :: P.ks
def Pt.mv (f : T4 → T4) (P : Pt) : Pt := ⟨f P.k0, P.b, P.bs, P.ks.map f, P.e⟩
def PT (K : Nat) (L : LL) (P : Pt) : Prop := ∃ p q α x y β, L p α ∧ L q β ∧ AL x ∧ AL y ∧ nz K x + nz K y ≤ P.e ∧ Go P.k0 p (α ++ x) P.b ∧ Mid P.bs P.b P.ks q (y ++ rv β)
def CT (L : LL) (t : T4) : Prop := ∃ α β, L t.1 α ∧ L t.2.2.1 β ∧ Row t.2.2.2 (α ++ rv β)
abbrev rms (ps : List Pt) : List Nat := ps.flatMap Pt.rooms
abbrev tys (ps : List Pt) : List T4 := ps.flatMap Pt.ties
structure Cr (K N S H : Nat) (D : List Nat) (cs : List T4) (ps : List Pt) (L : LL) (W : Nat → Nat) : Prop where
  al : ∀ r a, L r a → AL a
  near : ∀ r a, L r a → nz K a ≤ H
  zero : L 0 []
  dist : ∀ r a b, L r a → L r b → dw K a b ≤ W r
  lt : ∀ r a, L r a → r < N ∧ r ∉ D ∧ r ∉ rms ps
  core : ∀ t ∈ cs, CT L t
  path : ∀ P ∈ ps, PT K L P
  nd : (D ++ rms ps).Nodup
  dead : ∀ x ∈ D ++ rms ps, x ≠ 0 ∧ x < N
  sum : sumT N W ≤ S
theorem CT.go {L : LL} {t : T4} (h : CT L t) (al : ∀ r a, L r a → AL a) : ∃ α β, L t.1 α ∧ L t.2.2.1 β ∧ Go t t.1 (α ++ rv β) t.2.2.1 := by
  obtain ⟨α, β, h1, h2, h3⟩ := h
  exact ⟨α, β, h1, h2, (al _ _ h1).app (al _ _ h2).rv, .inl ⟨rfl, rfl, h3⟩⟩
theorem Go.ct {L : LL} {t : T4} {a b : Nat} {α β : List Nat} (h : Go t a (α ++ rv β) b) (ha : L a α) (hb : L b β) (al : ∀ r a, L r a → AL a) : CT L t := by
  obtain ⟨_, ⟨e1, e2, h⟩ | ⟨e1, e2, h⟩⟩ := h
  · exact ⟨α, β, by rw [e1]; exact ha, by rw [e2]; exact hb, h⟩
  · refine ⟨β, α, by rw [e1]; exact hb, by rw [e2]; exact ha, ?_⟩
    rw [rv_app, rv_rv (al _ _ hb)] at h
    exact h
section
variable {K N S H A B : Nat} {D : List Nat} {cs : List T4} {ps : List Pt} {L L' : LL} {W : Nat → Nat} {g : List Int} {G : List Nat}
theorem CT.moved (hg : Row g G) (hL : ∀ z c, L z c → L' (sg1 B A z) (gb B G z ++ c)) {t : T4} (h : CT L t) : CT L' (movedT B A g t) := by
  obtain ⟨α, β, h1, h2, h3⟩ := h
  refine ⟨gb B G t.1 ++ α, gb B G t.2.2.1 ++ β, hL _ _ h1, hL _ _ h2, ?_⟩
  have := row_moved (A := A) (B := B) hg h3
  rw [rv_app]
  rw [show gb B G t.1 ++ (α ++ rv β) ++ rv (gb B G t.2.2.1) = gb B G t.1 ++ α ++ (rv β ++ rv (gb B G t.2.2.1)) by simp] at this
  exact this
theorem PT.moved (hg : Row g G) (hL : ∀ z c, L z c → L' (sg1 B A z) (gb B G z ++ c)) {P : Pt} (hB : B ∉ P.rooms) (h : PT K L P) : PT K L' (P.mv (movedT B A g)) := by
  obtain ⟨p, q, α, x, y, β, h1, h2, h3, h4, h5, h6, h7⟩ := h
  refine ⟨sg1 B A p, sg1 B A q, gb B G p ++ α, x, y, gb B G q ++ β, hL _ _ h1, hL _ _ h2, h3, h4, h5, ?_, ?_⟩
  · have hb : P.b ≠ B := fun z => hB (by rw [← z]; exact List.mem_cons_self)
    have := h6.moved (A := A) (B := B) hg
    rw [sg1, gb, sg1, if_neg hb, gb, if_neg hb, rv_nil, List.append_nil, ← List.append_assoc] at this
    exact this
  · have := Mid.moved (A := A) (B := B) hg hB h7
    rw [rv_app, ← List.append_assoc]
    exact this
theorem PT.turn {P : Pt} (al : ∀ r a, L r a → AL a) (hK : K ≤ 26) (h : PT K L P) {t : T4} (ht : t ∈ P.ties) (he : t.1 ∉ P.rooms ∨ t.2.2.1 ∉ P.rooms) :
    ∃ P' : Pt, PT K L P' ∧ P'.k0 = t ∧ P'.ties.Perm P.ties ∧ P'.rooms.Perm P.rooms ∧ P'.e = P.e := by
  rcases List.mem_cons.mp ht with rfl | ht
  · exact ⟨P, h, rfl, List.Perm.refl _, List.Perm.refl _, rfl⟩
  obtain ⟨p, q, α, x, y, β, h1, h2, h3, h4, h5, h6, h7⟩ := h
  obtain ⟨k', b', bs', ks', g1, g2, g3, g4, g5⟩ := mid_rev _ _ _ _ _ h7 [] [P.k0] p (rv (α ++ x)) ⟨_, rfl, h6.back⟩
  have e : t = k' := by
    rcases g5 t ht with h | ⟨h, h'⟩
    · exact h
    · rcases he with he | he
      · exact absurd h he
      · exact absurd h' he
  refine ⟨⟨k', b', bs', ks', P.e⟩, ⟨q, p, β, rv y, rv x, α, h2, h1, h4.rv, h3.rv, ?_, ?_, ?_⟩, e.symm, ?_, ?_, rfl⟩
  · rw [nz_rv hK h3, nz_rv hK h4]
    have h5 : nz K x + nz K y ≤ P.e := h5
    show nz K y + nz K x ≤ P.e
    omega
  · rw [rv_app, rv_rv (al _ _ h2)] at g1
    exact g1
  · rw [rv_app] at g2
    exact g2
  · exact g3.trans (List.perm_append_comm (l₂ := [P.k0]))
  · rw [List.append_nil] at g4
    exact g4
theorem PT.ends {P : Pt} (h : PT K L P) : ∀ k ∈ P.ties, (k.1 ∈ P.rooms ∨ ∃ a, L k.1 a) ∧ (k.2.2.1 ∈ P.rooms ∨ ∃ a, L k.2.2.1 a) ∧ (k.1 ∈ P.rooms ∨ k.2.2.1 ∈ P.rooms) := by
  obtain ⟨p, q, α, x, y, β, h1, h2, h3, h4, h5, h6, h7⟩ := h
  intro k hk
  have mb : P.b ∈ P.rooms := List.mem_cons_self
  rcases List.mem_cons.mp hk with rfl | hk
  · obtain ⟨_, ⟨e1, e2, _⟩ | ⟨e1, e2, _⟩⟩ := h6
    · rw [e1, e2]
      exact ⟨.inr ⟨_, h1⟩, .inl mb, .inr mb⟩
    · rw [e1, e2]
      exact ⟨.inl mb, .inr ⟨_, h1⟩, .inl mb⟩
  · obtain ⟨e1, e2, e3⟩ := h7.ends k hk
    refine ⟨e1.imp id fun e => ⟨_, by rw [e]; exact h2⟩, e2.imp id fun e => ⟨_, by rw [e]; exact h2⟩, e3⟩
end
end Gw

/-! ### the turns of gluing, with free rooms. Plain. -/
namespace Gw
def setL (L : LL) (i : Nat) (Y : List Nat → Prop) : LL := fun r a => if r = i then Y a else L r a
theorem setL_eq {L : LL} {i : Nat} {Y : List Nat → Prop} {a : List Nat} : setL L i Y i a ↔ Y a := by unfold setL; rw [if_pos rfl]
theorem setL_ne {L : LL} {i r : Nat} {Y : List Nat → Prop} {a : List Nat} (h : r ≠ i) : setL L i Y r a ↔ L r a := by unfold setL; rw [if_neg h]
theorem setL_cases {L : LL} {i r : Nat} {Y : List Nat → Prop} {a : List Nat} (h : setL L i Y r a) : (r = i ∧ Y a) ∨ (r ≠ i ∧ L r a) := by
  unfold setL at h
  split at h
  · exact .inl ⟨by assumption, h⟩
  · exact .inr ⟨by assumption, h⟩
section
variable {K N S H A B r : Nat} {D : List Nat} {cs : List T4} {ps : List Pt} {L : LL} {W : Nat → Nat} {g : List Int}
theorem rms_mv (f : T4 → T4) (ps : List Pt) : rms (ps.map (Pt.mv f)) = rms ps := by
  unfold rms
  rw [List.flatMap_map]
  rfl
theorem tys_mv (f : T4 → T4) (ps : List Pt) : tys (ps.map (Pt.mv f)) = (tys ps).map f := by
  unfold tys
  rw [List.flatMap_map, List.map_flatMap]
  rfl
theorem Cr.wle (I : Cr K N S H D cs ps L W) {r : Nat} {a : List Nat} (h : L r a) : W r ≤ S := Nat.le_trans (sumT_le (I.lt _ _ h).1) I.sum
/-- two rooms, both come to -/
theorem Cr.merge (I : Cr K N S H D cs ps L W) (hK : K ≤ 26) {a x1 x2 b : List Nat} (hAB : A ≠ B) (hB0 : B ≠ 0) (ha : L A a) (h1 : L r x1) (h2 : L r x2) (hb : L B b) (hg : Row g (a ++ rv x1 ++ x2 ++ rv b)) {cs' : List T4} (hcs : ∀ x ∈ cs', x ∈ cs) :
    Cr K N (S + W r) (H + 2 * S) (B :: D) (cs'.map (movedT B A g)) (ps.map (Pt.mv (movedT B A g))) (mergeLb L A B (a ++ rv x1 ++ x2 ++ rv b)) (setF (setF W A (W A + W r + W B)) B 0) := by
  have ala := I.al _ _ ha
  have al1 := I.al _ _ h1
  have al2 := I.al _ _ h2
  have alb := I.al _ _ hb
  obtain ⟨lB, dB, tB⟩ := I.lt _ _ hb
  obtain ⟨lA, dA, tA⟩ := I.lt _ _ ha
  obtain ⟨lr, _, _⟩ := I.lt _ _ h1
  obtain ⟨G, hG⟩ : ∃ G, G = a ++ rv x1 ++ x2 ++ rv b := ⟨_, rfl⟩
  have hg' := hg
  rw [← hG] at hg ⊢
  have alG : AL G := hg.al
  have far : ∀ c h, L A c → L B h → dw K c (G ++ h) ≤ W A + W r + W B := fun c h hc hh => by
    have d1 := I.dist _ _ _ hc ha
    have d2 := I.dist _ _ _ h1 h2
    have d3 := I.dist _ _ _ hb hh
    have := dw_far (K := K) (I.al _ _ hc) ala al1 al2 alb (I.al _ _ hh)
    rw [hG]
    omega
  have wset : ∀ i, setF (setF W A (W A + W r + W B)) B 0 i = if i = B then 0 else if i = A then W A + W r + W B else W i := fun i => rfl
  have hL : ∀ z c, L z c → mergeLb L A B G (sg1 B A z) (gb B G z ++ c) := fun z c hc => by
    unfold mergeLb sg1 gb
    by_cases e : z = B
    · rw [if_pos e, if_pos e, if_neg hAB, if_pos rfl]
      exact .inr ⟨c, by rw [← e]; exact hc, rfl⟩
    · rw [if_neg e, if_neg e, if_neg e, List.nil_append]
      split
      · rename_i e2
        exact .inl (by rw [← e2]; exact hc)
      · exact hc
  have cases3 : ∀ q c, mergeLb L A B G q c → q ≠ B ∧ ((q = A ∧ (L A c ∨ ∃ h, L B h ∧ c = G ++ h)) ∨ (q ≠ A ∧ L q c)) := fun q c hc => by
    unfold mergeLb at hc
    split at hc
    · exact hc.elim
    rename_i e1
    split at hc
    · rename_i e2
      exact ⟨e1, .inl ⟨e2, hc⟩⟩
    · rename_i e2
      exact ⟨e1, .inr ⟨e2, hc⟩⟩
  refine ⟨?_, ?_, ?_, ?_, ?_, ?_, ?_, ?_, ?_, ?_⟩
  · intro q c hc
    obtain ⟨_, ⟨_, hc | ⟨h, hh, rfl⟩⟩ | ⟨_, hc⟩⟩ := cases3 q c hc
    · exact I.al _ _ hc
    · exact alG.app (I.al _ _ hh)
    · exact I.al _ _ hc
  · intro q c hc
    obtain ⟨_, ⟨_, hc | ⟨h, hh, rfl⟩⟩ | ⟨_, hc⟩⟩ := cases3 q c hc
    · have := I.near _ _ hc
      omega
    · have d0 := I.near _ _ ha
      have d2 := I.dist _ _ _ h1 h2
      have d3 := I.dist _ _ _ hb hh
      have w1 := I.wle h1
      have w2 := I.wle hb
      have alh := I.al _ _ hh
      unfold dw at d2 d3
      have e : G ++ h = a ++ ((rv x1 ++ x2) ++ (rv b ++ h)) := by rw [hG]; simp
      rw [e]
      have e1 := nz_app (K := K) ala ((al1.rv.app al2).app (alb.rv.app alh))
      have e2 := nz_app (K := K) (al1.rv.app al2) (alb.rv.app alh)
      omega
    · have := I.near _ _ hc
      omega
  · have := hL 0 [] I.zero
    rw [sg1, if_neg (fun z => hB0 z.symm), gb, if_neg (fun z => hB0 z.symm)] at this
    exact this
  · intro q c c' hc hc'
    rw [wset]
    obtain ⟨e1, hc⟩ := cases3 q c hc
    obtain ⟨_, hc'⟩ := cases3 q c' hc'
    rw [if_neg e1]
    rcases hc with ⟨e2, hc⟩ | ⟨e2, hc⟩
    · rcases hc' with ⟨_, hc'⟩ | ⟨z, _⟩
      rotate_left
      · exact absurd e2 z
      rw [if_pos e2]
      rcases hc with hc | ⟨h, hh, rfl⟩
      · rcases hc' with hc' | ⟨h', hh', rfl⟩
        · have := I.dist _ _ _ hc hc'
          omega
        · exact far _ _ hc hh'
      · rcases hc' with hc' | ⟨h', hh', rfl⟩
        · rw [dw_symm hK (alG.app (I.al _ _ hh)) (I.al _ _ hc')]
          exact far _ _ hc' hh
        · rw [dw_left alG (I.al _ _ hh) (I.al _ _ hh')]
          have := I.dist _ _ _ hh hh'
          omega
    · rcases hc' with ⟨z, _⟩ | ⟨_, hc'⟩
      · exact absurd z e2
      rw [if_neg e2]
      exact I.dist _ _ _ hc hc'
  · intro q c hc
    rw [rms_mv]
    obtain ⟨e1, hc⟩ := cases3 q c hc
    have key : ∀ c, L q c → q < N ∧ q ∉ B :: D ∧ q ∉ rms ps := fun c hc => by
      obtain ⟨h1, h2, h3⟩ := I.lt _ _ hc
      exact ⟨h1, fun z => by
        rcases List.mem_cons.mp z with z | z
        · exact e1 z
        · exact h2 z, h3⟩
    rcases hc with ⟨e2, _⟩ | ⟨_, hc⟩
    · exact key a (by rw [e2]; exact ha)
    · exact key _ hc
  · intro t ht
    obtain ⟨t', ht', rfl⟩ := List.mem_map.mp ht
    exact (I.core t' (hcs t' ht')).moved hg hL
  · intro P hP
    obtain ⟨P', hP', rfl⟩ := List.mem_map.mp hP
    exact (I.path P' hP').moved hg hL fun z => tB (List.mem_flatMap.mpr ⟨P', hP', z⟩)
  · rw [rms_mv]
    exact List.nodup_cons.mpr ⟨fun z => (List.mem_append.mp z).elim dB tB, I.nd⟩
  · rw [rms_mv]
    intro x hx
    rcases List.mem_cons.mp hx with rfl | hx
    · exact ⟨hB0, lB⟩
    · exact I.dead x hx
  · have s1 := sumT_set (f := setF W A (W A + W r + W B)) (x := 0) lB
    have s2 := sumT_set (f := W) (x := W A + W r + W B) lA
    have e3 : setF W A (W A + W r + W B) B = W B := by unfold setF; rw [if_neg (fun z => hAB z.symm)]
    rw [e3] at s1
    have s3 := sumT_le (f := W) lr
    have s4 := I.sum
    omega
/-- what becomes of a ring's middle when its first room is come to -/
def tkP (k1 : T4) (bs : List Nat) (ks : List T4) (e : Nat) : List T4 × List Pt := match bs with
  | [] => ([k1], [])
  | b :: bs => ([], [⟨k1, b, bs, ks, e⟩])
/-- a room is come to: its word is told -/
theorem Cr.promote {P : Pt} (I : Cr K N S H D cs (P :: ps) L W) (hK : K ≤ 26) :
    ∃ S' cs' ps' L' W', Cr K N S' (H + P.e) D cs' ps' L' W' ∧ (∀ z, z ≠ P.b → ∀ a, L z a → L' z a) ∧ (∀ z, z ≠ P.b → W' z = W z) ∧ (∃ a, L' P.b a) ∧ P.k0 ∈ cs' ∧ (cs' ++ tys ps').Perm (cs ++ tys (P :: ps)) ∧
      ((P.bs = [] ∧ S' = S + P.e ∧ ps' = ps) ∨ ∃ P', P'.bs.length + 1 = P.bs.length ∧ P'.e = P.e ∧ S' = S ∧ ps' = P' :: ps ∧ P'.rooms = P.bs) := by
  obtain ⟨p, q, α, x, y, β, h1, h2, h3, h4, h5, h6, h7⟩ := I.path P List.mem_cons_self
  have er : rms (P :: ps) = P.b :: (P.bs ++ rms ps) := rfl
  have nd := I.nd
  have dead := I.dead
  rw [er] at nd dead
  have hbm : P.b ∈ D ++ P.b :: (P.bs ++ rms ps) := by simp
  obtain ⟨b0, bN⟩ := dead P.b hbm
  have nd2 : (P.b :: (D ++ (P.bs ++ rms ps))).Nodup := (List.perm_middle.nodup_iff).mp nd
  obtain ⟨bn, nd3⟩ := List.nodup_cons.mp nd2
  have dead3 : ∀ x ∈ D ++ (P.bs ++ rms ps), x ≠ 0 ∧ x < N := fun x hx => dead x (List.perm_middle.mem_iff.mpr (List.mem_cons_of_mem _ hx))
  have noL : ∀ a, ¬ L P.b a := fun a h => (I.lt _ _ h).2.2 (by rw [er]; exact List.mem_cons_self)
  have lt2 : ∀ r a, L r a → r < N ∧ r ∉ D ∧ r ∉ P.bs ++ rms ps ∧ r ≠ P.b := fun r a h => by
    obtain ⟨a1, a2, a3⟩ := I.lt _ _ h
    rw [er] at a3
    exact ⟨a1, a2, fun z => a3 (List.mem_cons_of_mem _ z), fun z => a3 (by rw [z]; exact List.mem_cons_self)⟩
  -- the words
  have mk : ∀ (Y : List Nat → Prop) (w : Nat), (∀ a, Y a → AL a ∧ nz K a ≤ H + P.e) → (∀ a b, Y a → Y b → dw K a b ≤ w) → ∀ cs' ps', (∀ r ∈ rms ps', r ∈ P.bs ++ rms ps) → (D ++ rms ps').Nodup →
      (∀ t ∈ cs', CT (setL L P.b Y) t) → (∀ Q ∈ ps', PT K (setL L P.b Y) Q) → Cr K N (S + w) (H + P.e) D cs' ps' (setL L P.b Y) (setF W P.b w) := by
    intro Y w hY hd cs' ps' hr hn hc hp
    have cases2 : ∀ q a, setL L P.b Y q a → (q = P.b ∧ Y a) ∨ (q ≠ P.b ∧ L q a) := fun q a => setL_cases
    have dead4 : ∀ x ∈ D ++ rms ps', x ≠ 0 ∧ x < N := fun x hx => by
      rcases List.mem_append.mp hx with hx | hx
      · exact dead3 x (List.mem_append_left _ hx)
      · exact dead3 x (List.mem_append_right _ (hr x hx))
    refine ⟨fun q a h => ?_, fun q a h => ?_, ?_, fun q a b ha hb => ?_, fun q a h => ?_, hc, hp, hn, dead4, ?_⟩
    · rcases cases2 q a h with ⟨_, h⟩ | ⟨_, h⟩
      · exact (hY a h).1
      · exact I.al _ _ h
    · rcases cases2 q a h with ⟨_, h⟩ | ⟨_, h⟩
      · exact (hY a h).2
      · have := I.near _ _ h
        omega
    · exact (setL_ne (fun z => b0 z.symm)).mpr I.zero
    · unfold setF
      rcases cases2 q a ha with ⟨e, ha⟩ | ⟨e, ha⟩
      · subst e
        rw [if_pos rfl]
        exact hd a b (setL_eq.mp ha) (setL_eq.mp hb)
      · rw [if_neg e]
        exact I.dist _ _ _ ha ((setL_ne e).mp hb)
    · rcases cases2 q a h with ⟨e, _⟩ | ⟨_, h⟩
      · rw [e]
        refine ⟨bN, fun z => bn (List.mem_append_left _ z), fun z => bn (List.mem_append_right _ (hr _ z))⟩
      · obtain ⟨a1, a2, a3, _⟩ := lt2 _ _ h
        exact ⟨a1, a2, fun z => a3 (hr _ z)⟩
    · have s1 := sumT_set (f := W) (x := w) bN
      have s2 := I.sum
      omega
  have upC : ∀ (Y : List Nat → Prop), ∀ t ∈ cs, CT (setL L P.b Y) t := fun Y t ht => by
    obtain ⟨a, b, ha, hb, hr⟩ := I.core t ht
    exact ⟨a, b, (setL_ne (lt2 _ _ ha).2.2.2).mpr ha, (setL_ne (lt2 _ _ hb).2.2.2).mpr hb, hr⟩
  have upP : ∀ (Y : List Nat → Prop), ∀ Q ∈ ps, PT K (setL L P.b Y) Q := fun Y Q hQ => by
    obtain ⟨p, q, α, x, y, β, h1, h2, h⟩ := I.path Q (List.mem_cons_of_mem _ hQ)
    exact ⟨p, q, α, x, y, β, (setL_ne (lt2 _ _ h1).2.2.2).mpr h1, (setL_ne (lt2 _ _ h2).2.2.2).mpr h2, h⟩
  have alα := I.al _ _ h1
  have alβ := I.al _ _ h2
  have pb := (lt2 _ _ h1).2.2.2
  have qb := (lt2 _ _ h2).2.2.2
  have nx : nz K (rv x) = nz K x := nz_rv hK h3
  have k0C : ∀ (Y : List Nat → Prop), Y (rv x) → (∀ a, Y a → AL a) → CT (setL L P.b Y) P.k0 := fun Y hY hal => by
    have h6 : Go P.k0 p (α ++ rv (rv x)) P.b := by rw [rv_rv h3]; exact h6
    refine h6.ct (L := setL L P.b Y) ((setL_ne pb).mpr h1) (setL_eq.mpr hY) fun r a h => ?_
    rcases setL_cases h with ⟨_, h⟩ | ⟨_, h⟩
    · exact hal a h
    · exact I.al _ _ h
  cases hbs : P.bs with
  | nil =>
    rw [hbs] at h7
    obtain ⟨k, ek, hk⟩ := h7
    have Yal : ∀ a, (a = rv x ∨ a = y) → AL a := fun a h => by
      rcases h with rfl | rfl
      · exact h3.rv
      · exact h4
    refine ⟨S + P.e, k :: P.k0 :: cs, ps, _, _, mk (fun a => a = rv x ∨ a = y) P.e ?_ ?_ (k :: P.k0 :: cs) ps (fun r hr => List.mem_append_right _ hr) ?_ ?_ (upP _), ?_, ?_, ?_, by simp, ?_, .inl ⟨rfl, rfl, rfl⟩⟩
    · intro a h
      refine ⟨Yal a h, ?_⟩
      rcases h with rfl | rfl <;> omega
    · intro a b ha hb
      have self : ∀ a, AL a → dw K a a ≤ P.e := fun a h => by rw [dw_self h]; exact Nat.zero_le _
      have xy : dw K (rv x) y ≤ P.e := by
        unfold dw
        rw [rv_rv h3]
        exact Nat.le_trans (nz_app h3 h4) h5
      rcases ha with rfl | rfl
      · rcases hb with rfl | rfl
        · exact self _ h3.rv
        · exact xy
      · rcases hb with rfl | rfl
        · rw [dw_symm hK h4 h3.rv]; exact xy
        · exact self _ h4
    · have sub : (D ++ rms ps).Sublist (D ++ (P.bs ++ rms ps)) := List.Sublist.append (List.Sublist.refl _) (List.sublist_append_right _ _)
      exact nd3.sublist sub
    · intro t ht
      rcases List.mem_cons.mp ht with rfl | ht
      · refine hk.ct (L := setL L P.b fun a => a = rv x ∨ a = y) (setL_eq.mpr (.inr rfl)) ((setL_ne qb).mpr h2) fun r a h => ?_
        rcases setL_cases h with ⟨_, h⟩ | ⟨_, h⟩
        · exact Yal a h
        · exact I.al _ _ h
      rcases List.mem_cons.mp ht with rfl | ht
      · exact k0C (fun a => a = rv x ∨ a = y) (.inl rfl) Yal
      · exact upC _ t ht
    · exact fun z hz a h => (setL_ne hz).mpr h
    · intro z hz
      unfold setF
      rw [if_neg hz]
    · exact ⟨rv x, setL_eq.mpr (.inl rfl)⟩
    · have e : tys (P :: ps) = P.k0 :: (P.ks ++ tys ps) := rfl
      rw [e, ek]
      show (k :: P.k0 :: (cs ++ tys ps)).Perm (cs ++ P.k0 :: k :: tys ps)
      exact (((List.Perm.swap _ _ _).trans (List.perm_middle.symm.cons _)).trans List.perm_middle.symm)
  | cons b' bs' =>
    rw [hbs] at h7 nd3
    obtain ⟨k, ks', ek, hk, hm⟩ := h7
    refine ⟨S, P.k0 :: cs, ⟨k, b', bs', ks', P.e⟩ :: ps, _, _, mk (fun a => a = rv x) 0 ?_ ?_ (P.k0 :: cs) (⟨k, b', bs', ks', P.e⟩ :: ps) (fun r hr => by rw [hbs]; exact hr) ?_ ?_ ?_, ?_, ?_, ?_, by simp, ?_, .inr ⟨⟨k, b', bs', ks', P.e⟩, rfl, rfl, rfl, rfl, rfl⟩⟩
    · rintro a rfl
      exact ⟨h3.rv, by omega⟩
    · rintro a b rfl rfl
      rw [dw_self h3.rv]
      exact Nat.zero_le _
    · exact nd3
    · intro t ht
      rcases List.mem_cons.mp ht with rfl | ht
      · exact k0C (fun a => a = rv x) rfl (fun a h => by rw [h]; exact h3.rv)
      · exact upC _ t ht
    · intro Q hQ
      rcases List.mem_cons.mp hQ with rfl | hQ
      · exact ⟨P.b, q, rv x, x, y, β, setL_eq.mpr rfl, (setL_ne qb).mpr h2, h3, h4, h5, hk.to (h3.rv.app h3) (by rw [sh_rv_l h3]; rfl), hm⟩
      · exact upP _ Q hQ
    · exact fun z hz a h => (setL_ne hz).mpr h
    · intro z hz
      unfold setF
      rw [if_neg hz]
    · exact ⟨rv x, setL_eq.mpr rfl⟩
    · have e : tys (P :: ps) = P.k0 :: (P.ks ++ tys ps) := rfl
      rw [e, ek]
      show (P.k0 :: (cs ++ (k :: ks' ++ tys ps))).Perm (cs ++ P.k0 :: (k :: ks' ++ tys ps))
      exact List.perm_middle.symm
end
end Gw

/-! ### the turns of gluing where a free room is come to. Plain. -/
namespace Gw
section
variable {K N S H A B r : Nat} {D : List Nat} {cs : List T4} {ps : List Pt} {L : LL} {W : Nat → Nat} {g : List Int}
/-- a free room goes -/
theorem Cr.read {P : Pt} (I : Cr K N S H D cs (P :: ps) L W) (hK : K ≤ 26) {a x1 : List Nat} (ha : L A a) (h1 : L r x1) (hg : ∀ p α x, L p α → Go P.k0 p (α ++ x) P.b → p = r ∧ Row g (a ++ rv x1 ++ (α ++ x))) :
    ∃ S' cs' ps' L' W', Cr K N S' (H + S + P.e) (P.b :: D) cs' ps' L' W' ∧ (∃ a, L' A a) ∧ (cs' ++ tys ps').Perm ((cs ++ (P.ks ++ tys ps)).map (movedT P.b A g)) ∧
      ((P.bs = [] ∧ S' = S + (P.e + W r) ∧ ps' = ps.map (Pt.mv (movedT P.b A g))) ∨ ∃ P', P'.bs.length + 1 = P.bs.length ∧ P'.e = P.e + W r ∧ S' = S ∧ ps' = P' :: ps.map (Pt.mv (movedT P.b A g)) ∧ P'.rooms = P.bs) := by
  obtain ⟨p, q, α, x, y, β, hα, hβ, alx, aly, hxy, hk0, hmid⟩ := I.path P List.mem_cons_self
  obtain ⟨rfl, hg1⟩ := hg p α x hα hk0
  clear hg
  have hg := hg1
  clear hg1
  have er : rms (P :: ps) = P.b :: (P.bs ++ rms ps) := rfl
  have nd := I.nd
  have dead := I.dead
  rw [er] at nd dead
  have hbm : P.b ∈ D ++ P.b :: (P.bs ++ rms ps) := by simp
  obtain ⟨b0, bN⟩ := dead P.b hbm
  have nd2 : (P.b :: (D ++ (P.bs ++ rms ps))).Nodup := (List.perm_middle.nodup_iff).mp nd
  obtain ⟨bn, nd3⟩ := List.nodup_cons.mp nd2
  have lt2 : ∀ r a, L r a → r < N ∧ r ∉ D ∧ r ∉ P.bs ++ rms ps ∧ r ≠ P.b := fun r a h => by
    obtain ⟨a1, a2, a3⟩ := I.lt _ _ h
    rw [er] at a3
    exact ⟨a1, a2, fun z => a3 (List.mem_cons_of_mem _ z), fun z => a3 (by rw [z]; exact List.mem_cons_self)⟩
  obtain ⟨AN, AD, AT, AB⟩ := lt2 _ _ ha
  have ala := I.al _ _ ha
  have al1 := I.al _ _ h1
  have alα := I.al _ _ hα
  have alβ := I.al _ _ hβ
  have qB := (lt2 _ _ hβ).2.2.2
  have d1 := I.dist _ _ _ h1 hα
  have w1 := I.wle h1
  unfold dw at d1
  obtain ⟨G, hG⟩ : ∃ G, G = a ++ rv x1 ++ (α ++ x) := ⟨_, rfl⟩
  rw [← hG] at hg
  have alG := hg.al
  have mk : ∀ (Y : List Nat → Prop) (w : Nat), (∀ c, Y c → AL c ∧ nz K c ≤ H + S + P.e) → (∀ c d, L A c → Y d → dw K c d ≤ W A + w) → (∀ c d, Y c → Y d → dw K c d ≤ W A + w) → ∀ cs' ps', (∀ r ∈ rms ps', r ∈ P.bs ++ rms ps) → (D ++ rms ps').Nodup →
      (∀ t ∈ cs', CT (setL L A fun c => L A c ∨ Y c) t) → (∀ Q ∈ ps', PT K (setL L A fun c => L A c ∨ Y c) Q) → Cr K N (S + w) (H + S + P.e) (P.b :: D) cs' ps' (setL L A fun c => L A c ∨ Y c) (setF W A (W A + w)) := by
    intro Y w hY hd hd2 cs' ps' hr hn hc hp
    have cases3 : ∀ q c, (setL L A fun c => L A c ∨ Y c) q c → (q = A ∧ Y c) ∨ L q c := fun q c h => by
      rcases setL_cases h with ⟨rfl, h | h⟩ | ⟨_, h⟩
      · exact .inr h
      · exact .inl ⟨rfl, h⟩
      · exact .inr h
    refine ⟨fun q c h => ?_, fun q c h => ?_, ?_, fun q c d hc hd' => ?_, fun q c h => ?_, hc, hp, ?_, fun x hx => ?_, ?_⟩
    · rcases cases3 q c h with ⟨_, h⟩ | h
      · exact (hY c h).1
      · exact I.al _ _ h
    · rcases cases3 q c h with ⟨_, h⟩ | h
      · exact (hY c h).2
      · have := I.near _ _ h
        omega
    · by_cases e : 0 = A
      · subst e
        exact setL_eq.mpr (.inl I.zero)
      · exact (setL_ne e).mpr I.zero
    · unfold setF
      by_cases e : q = A
      · subst e
        rw [if_pos rfl]
        rcases setL_eq.mp hc with hc | hc
        · rcases setL_eq.mp hd' with hd' | hd'
          · have := I.dist _ _ _ hc hd'
            omega
          · exact hd _ _ hc hd'
        · rcases setL_eq.mp hd' with hd' | hd'
          · rw [dw_symm hK (hY _ hc).1 (I.al _ _ hd')]
            exact hd _ _ hd' hc
          · exact hd2 _ _ hc hd'
      · rw [if_neg e]
        exact I.dist _ _ _ ((setL_ne e).mp hc) ((setL_ne e).mp hd')
    · have key : ∀ c, L q c → q < N ∧ q ∉ P.b :: D ∧ q ∉ rms ps' := fun c h => by
        obtain ⟨a1, a2, a3, a4⟩ := lt2 _ _ h
        exact ⟨a1, fun z => by
          rcases List.mem_cons.mp z with z | z
          · exact a4 z
          · exact a2 z, fun z => a3 (hr _ z)⟩
      rcases cases3 q c h with ⟨e, _⟩ | h
      · exact key a (by rw [e]; exact ha)
      · exact key _ h
    · refine List.nodup_cons.mpr ⟨fun z => ?_, hn⟩
      rcases List.mem_append.mp z with z | z
      · exact bn (List.mem_append_left _ z)
      · exact bn (List.mem_append_right _ (hr _ z))
    · rcases List.mem_cons.mp hx with rfl | hx
      · exact ⟨b0, bN⟩
      · refine dead x ?_
        rcases List.mem_append.mp hx with hx | hx
        · exact List.mem_append_left _ hx
        · exact List.mem_append_right _ (List.mem_cons_of_mem _ (hr _ hx))
    · have s1 := sumT_set (f := W) (x := W A + w) AN
      have s2 := I.sum
      omega
  have hL : ∀ (Y : List Nat → Prop) z c, L z c → (setL L A fun c => L A c ∨ Y c) (sg1 P.b A z) (gb P.b G z ++ c) := fun Y z c h => by
    have zb := (lt2 _ _ h).2.2.2
    rw [sg1, if_neg zb, gb, if_neg zb, List.nil_append]
    by_cases e : z = A
    · subst e
      exact setL_eq.mpr (.inl h)
    · exact (setL_ne e).mpr h
  have upC : ∀ (Y : List Nat → Prop), ∀ t ∈ cs.map (movedT P.b A g), CT (setL L A fun c => L A c ∨ Y c) t := fun Y t ht => by
    obtain ⟨t', ht', rfl⟩ := List.mem_map.mp ht
    exact (I.core t' ht').moved hg (hL Y)
  have upP : ∀ (Y : List Nat → Prop), ∀ Q ∈ ps.map (Pt.mv (movedT P.b A g)), PT K (setL L A fun c => L A c ∨ Y c) Q := fun Y Q hQ => by
    obtain ⟨Q', hQ', rfl⟩ := List.mem_map.mp hQ
    exact (I.path Q' (List.mem_cons_of_mem _ hQ')).moved hg (hL Y) fun z => bn (List.mem_append_right _ (List.mem_append_right _ (List.mem_flatMap.mpr ⟨Q', hQ', z⟩)))
  have inA : ∀ (Y : List Nat → Prop), (setL L A fun c => L A c ∨ Y c) A a := fun Y => setL_eq.mpr (.inl ha)
  cases hbs : P.bs with
  | nil =>
    rw [hbs] at hmid
    obtain ⟨k, ek, hk⟩ := hmid
    have alY : ∀ c, c = G ++ y → AL c := fun c h => by rw [h]; exact alG.app aly
    have hk2 := hk.moved (A := A) (B := P.b) hg
    rw [sg1, if_pos rfl, gb, if_pos rfl, sg1, if_neg qB, gb, if_neg qB, rv_nil, List.append_nil, ← List.append_assoc] at hk2
    refine ⟨S + (P.e + W p), movedT P.b A g k :: cs.map (movedT P.b A g), ps.map (Pt.mv (movedT P.b A g)), _, _, mk (fun c => c = G ++ y) (P.e + W p) ?_ ?_ ?_ _ _ ?_ ?_ ?_ (upP _), ⟨a, inA _⟩, ?_, .inl ⟨rfl, rfl, rfl⟩⟩
    · rintro c rfl
      refine ⟨alG.app aly, ?_⟩
      have e : G ++ y = a ++ ((rv x1 ++ α) ++ (x ++ y)) := by rw [hG]; simp
      rw [e]
      have e1 := nz_app (K := K) ala ((al1.rv.app alα).app (alx.app aly))
      have e2 := nz_app (K := K) (al1.rv.app alα) (alx.app aly)
      have e3 := nz_app (K := K) alx aly
      have e4 := I.near _ _ ha
      omega
    · rintro c d hc rfl
      have alc := I.al _ _ hc
      have d0 := I.dist _ _ _ hc ha
      unfold dw at d0 ⊢
      have e : rv c ++ (G ++ y) = (rv c ++ a) ++ ((rv x1 ++ α) ++ (x ++ y)) := by rw [hG]; simp
      rw [e]
      have e1 := nz_app (K := K) (alc.rv.app ala) ((al1.rv.app alα).app (alx.app aly))
      have e2 := nz_app (K := K) (al1.rv.app alα) (alx.app aly)
      have e3 := nz_app (K := K) alx aly
      omega
    · rintro c d rfl rfl
      rw [dw_self (alG.app aly)]
      exact Nat.zero_le _
    · intro r hr
      rw [rms_mv] at hr
      exact List.mem_append_right _ hr
    · rw [rms_mv]
      have sub : (D ++ rms ps).Sublist (D ++ (P.bs ++ rms ps)) := List.Sublist.append (List.Sublist.refl _) (List.sublist_append_right _ _)
      exact nd3.sublist sub
    · intro t ht
      rcases List.mem_cons.mp ht with rfl | ht
      · refine hk2.ct (setL_eq.mpr (.inr rfl)) ?_ fun r c h => ?_
        · have := hL (fun c => c = G ++ y) q β hβ
          rw [sg1, if_neg qB, gb, if_neg qB] at this
          exact this
        · rcases setL_cases h with ⟨rfl, h | h⟩ | ⟨_, h⟩
          · exact I.al _ _ h
          · exact alY _ h
          · exact I.al _ _ h
      · exact upC _ t ht
    · rw [tys_mv, ek, List.map_append, List.map_append]
      exact List.perm_middle.symm
  | cons b' bs' =>
    rw [hbs] at hmid nd3 bn
    obtain ⟨k, ks', ek, hk, hm⟩ := hmid
    have b'B : b' ≠ P.b := fun z => bn (by rw [z]; simp)
    have hk2 := hk.moved (A := A) (B := P.b) hg
    rw [sg1, if_pos rfl, gb, if_pos rfl, sg1, if_neg b'B, gb, if_neg b'B, rv_nil, List.append_nil, List.append_nil] at hk2
    have hm2 := Mid.moved (A := A) (B := P.b) hg (fun z => bn (List.mem_append_right _ (List.mem_append_left _ z))) hm
    rw [sg1, if_neg qB, gb, if_neg qB, rv_nil, List.append_nil] at hm2
    refine ⟨S + 0, cs.map (movedT P.b A g), ⟨movedT P.b A g k, b', bs', ks'.map (movedT P.b A g), P.e + W p⟩ :: ps.map (Pt.mv (movedT P.b A g)), _, _, mk (fun c => False) 0 (fun c h => h.elim) (fun c d _ h => h.elim) (fun c d h _ => h.elim) _ _ ?_ ?_ (upC _) ?_, ⟨a, inA _⟩, ?_, .inr ⟨⟨movedT P.b A g k, b', bs', ks'.map (movedT P.b A g), P.e + W p⟩, rfl, rfl, rfl, rfl, rfl⟩⟩
    · intro r hr
      have hr : r ∈ (b' :: bs') ++ rms (ps.map (Pt.mv (movedT P.b A g))) := hr
      rw [rms_mv] at hr
      rw [hbs]
      exact hr
    · show (D ++ ((b' :: bs') ++ rms (ps.map (Pt.mv (movedT P.b A g))))).Nodup
      rw [rms_mv]
      exact nd3
    · intro Q hQ
      rcases List.mem_cons.mp hQ with rfl | hQ
      · refine ⟨A, q, a, rv x1 ++ (α ++ x), y, β, inA _, ?_, al1.rv.app (alα.app alx), aly, ?_, ?_, hm2⟩
        · have := hL (fun _ => False) q β hβ
          rw [sg1, if_neg qB, gb, if_neg qB] at this
          exact this
        · have e2 := nz_app (K := K) (al1.rv.app alα) alx
          rw [List.append_assoc] at e2
          show _ + _ ≤ P.e + W p
          omega
        · rw [← List.append_assoc, ← hG]
          exact hk2
      · exact upP _ Q hQ
    · show (cs.map (movedT P.b A g) ++ (movedT P.b A g k :: (ks'.map (movedT P.b A g) ++ tys (ps.map (Pt.mv (movedT P.b A g)))))).Perm _
      rw [tys_mv, ek, List.map_append, List.map_append]
      exact List.Perm.refl _
/-- a room goes into a free one -/
theorem Cr.read' {P : Pt} (I : Cr K N S H D cs (P :: ps) L W) (hK : K ≤ 26) {b x2 : List Nat} (hb : L B b) (h2 : L r x2) (hB0 : B ≠ 0) (hg : ∀ p α x, L p α → Go P.k0 p (α ++ x) P.b → p = r ∧ Row g (rv (α ++ x) ++ x2 ++ rv b)) {cs0 : List T4} (hcs : ∀ t ∈ cs0, t ∈ cs) :
    ∃ S' cs' ps' L' W', Cr K N S' (H + 2 * S + P.e) (B :: D) cs' ps' L' W' ∧ (∃ a, L' P.b a) ∧ (cs' ++ tys ps').Perm ((cs0 ++ tys (P :: ps)).map (movedT B P.b g)) ∧
      ((P.bs = [] ∧ S' = S + (P.e + W r) ∧ ps' = ps.map (Pt.mv (movedT B P.b g))) ∨ ∃ P', P'.bs.length + 1 = P.bs.length ∧ P'.e = P.e + W r ∧ S' = S ∧ ps' = P' :: ps.map (Pt.mv (movedT B P.b g)) ∧ P'.rooms = P.bs) := by
  obtain ⟨p, q, α, x, y, β, hα, hβ, alx, aly, hxy, hk0, hmid⟩ := I.path P List.mem_cons_self
  obtain ⟨rfl, hg1⟩ := hg p α x hα hk0
  clear hg
  have hg := hg1
  clear hg1
  have er : rms (P :: ps) = P.b :: (P.bs ++ rms ps) := rfl
  have nd := I.nd
  have dead := I.dead
  rw [er] at nd dead
  have hbm : P.b ∈ D ++ P.b :: (P.bs ++ rms ps) := by simp
  obtain ⟨b0, bN⟩ := dead P.b hbm
  have nd2 : (P.b :: (D ++ (P.bs ++ rms ps))).Nodup := (List.perm_middle.nodup_iff).mp nd
  obtain ⟨bn, nd3⟩ := List.nodup_cons.mp nd2
  have lt2 : ∀ r a, L r a → r < N ∧ r ∉ D ∧ r ∉ P.bs ++ rms ps ∧ r ≠ P.b := fun r a h => by
    obtain ⟨a1, a2, a3⟩ := I.lt _ _ h
    rw [er] at a3
    exact ⟨a1, a2, fun z => a3 (List.mem_cons_of_mem _ z), fun z => a3 (by rw [z]; exact List.mem_cons_self)⟩
  obtain ⟨BN, BD, BT, BA⟩ := lt2 _ _ hb
  have AB : P.b ≠ B := fun z => BA z.symm
  have alb := I.al _ _ hb
  have al2 := I.al _ _ h2
  have alα := I.al _ _ hα
  have alβ := I.al _ _ hβ
  have alαx := alα.app alx
  have d1 := I.dist _ _ _ hα h2
  have w1 := I.wle h2
  have w2 := I.wle hb
  unfold dw at d1
  obtain ⟨G, hG⟩ : ∃ G, G = rv (α ++ x) ++ x2 ++ rv b := ⟨_, rfl⟩
  rw [← hG] at hg
  have alG := hg.al
  obtain ⟨LY, hLY⟩ : ∃ LY : (List Nat → Prop) → LL, LY = fun Y => setL (setL L P.b fun c => (∃ h, L B h ∧ c = G ++ h) ∨ Y c) B fun _ => False := ⟨_, rfl⟩
  have LYA : ∀ Y c, LY Y P.b c ↔ (∃ h, L B h ∧ c = G ++ h) ∨ Y c := fun Y c => by
    rw [hLY]
    exact (setL_ne AB).trans setL_eq
  have LYz : ∀ Y z c, z ≠ B → z ≠ P.b → (LY Y z c ↔ L z c) := fun Y z c h1 h2 => by
    rw [hLY]
    exact (setL_ne h1).trans (setL_ne h2)
  have cases4 : ∀ Y z c, LY Y z c → z ≠ B ∧ ((z = P.b ∧ ((∃ h, L B h ∧ c = G ++ h) ∨ Y c)) ∨ (z ≠ P.b ∧ L z c)) := fun Y z c h => by
    rw [hLY] at h
    rcases setL_cases h with ⟨_, h⟩ | ⟨e, h⟩
    · exact h.elim
    · exact ⟨e, setL_cases h⟩
  -- words behind g
  have far : ∀ h, L B h → nz K (G ++ h) ≤ nz K x + W p + W B := fun h hh => by
    have alh := I.al _ _ hh
    have d3 := I.dist _ _ _ hb hh
    unfold dw at d3
    have e : G ++ h = rv x ++ ((rv α ++ x2) ++ (rv b ++ h)) := by rw [hG, rv_app]; simp
    rw [e]
    have e1 := nz_app (K := K) alx.rv ((alα.rv.app al2).app (alb.rv.app alh))
    have e2 := nz_app (K := K) (alα.rv.app al2) (alb.rv.app alh)
    rw [nz_rv hK alx] at e1
    omega
  have near0 : nz K (G ++ b) ≤ nz K x + W p := by
    have e : G ++ b = (rv x ++ (rv α ++ x2)) ++ rv b ++ (rv (rv b) ++ []) := by rw [hG, rv_app, rv_rv alb]; simp
    rw [e, nz_mid (alx.rv.app (alα.rv.app al2)) alb.rv AL.nil, List.append_nil]
    have e1 := nz_app (K := K) alx.rv (alα.rv.app al2)
    rw [nz_rv hK alx] at e1
    omega
  have mk : ∀ (Y : List Nat → Prop) (w : Nat), (∀ c, Y c → AL c ∧ nz K c ≤ H + 2 * S + P.e) → (∀ c h, L B h → Y c → dw K c (G ++ h) ≤ W B + w) → (∀ c d, Y c → Y d → dw K c d ≤ W B + w) → ∀ cs' ps', (∀ r ∈ rms ps', r ∈ P.bs ++ rms ps) → (D ++ rms ps').Nodup →
      (∀ t ∈ cs', CT (LY Y) t) → (∀ Q ∈ ps', PT K (LY Y) Q) → Cr K N (S + w) (H + 2 * S + P.e) (B :: D) cs' ps' (LY Y) (setF (setF W P.b (W B + w)) B 0) := by
    intro Y w hY hd hd2 cs' ps' hr hn hc hp
    refine ⟨fun q c h => ?_, fun q c h => ?_, ?_, fun q c d hc hd' => ?_, fun q c h => ?_, hc, hp, ?_, fun x hx => ?_, ?_⟩
    · obtain ⟨_, ⟨_, ⟨h, hh, rfl⟩ | h⟩ | ⟨_, h⟩⟩ := cases4 Y q c h
      · exact alG.app (I.al _ _ hh)
      · exact (hY c h).1
      · exact I.al _ _ h
    · obtain ⟨_, ⟨_, ⟨h', hh, rfl⟩ | h⟩ | ⟨_, h⟩⟩ := cases4 Y q c h
      · have := far h' hh
        omega
      · exact (hY c h).2
      · have := I.near _ _ h
        omega
    · exact (LYz Y 0 [] (fun z => hB0 z.symm) (fun z => b0 z.symm)).mpr I.zero
    · obtain ⟨e0, hc⟩ := cases4 Y q c hc
      obtain ⟨_, hd'⟩ := cases4 Y q d hd'
      unfold setF
      rw [if_neg e0]
      rcases hc with ⟨e, hc⟩ | ⟨e, hc⟩
      · rcases hd' with ⟨_, hd'⟩ | ⟨z, _⟩
        rotate_left
        · exact absurd e z
        rw [if_pos e]
        rcases hc with ⟨h, hh, rfl⟩ | hc
        · rcases hd' with ⟨h', hh', rfl⟩ | hd'
          · rw [dw_left alG (I.al _ _ hh) (I.al _ _ hh')]
            have := I.dist _ _ _ hh hh'
            omega
          · rw [dw_symm hK (alG.app (I.al _ _ hh)) (hY _ hd').1]
            exact hd _ _ hh hd'
        · rcases hd' with ⟨h', hh', rfl⟩ | hd'
          · exact hd _ _ hh' hc
          · exact hd2 _ _ hc hd'
      · rcases hd' with ⟨z, _⟩ | ⟨_, hd'⟩
        · exact absurd z e
        rw [if_neg e]
        exact I.dist _ _ _ hc hd'
    · obtain ⟨e0, hc⟩ := cases4 Y q c h
      rcases hc with ⟨e, _⟩ | ⟨_, hc⟩
      · rw [e]
        refine ⟨bN, fun z => ?_, fun z => bn (List.mem_append_right _ (hr _ z))⟩
        rcases List.mem_cons.mp z with z | z
        · exact AB z
        · exact bn (List.mem_append_left _ z)
      · obtain ⟨a1, a2, a3, a4⟩ := lt2 _ _ hc
        exact ⟨a1, fun z => by
          rcases List.mem_cons.mp z with z | z
          · exact e0 z
          · exact a2 z, fun z => a3 (hr _ z)⟩
    · refine List.nodup_cons.mpr ⟨fun z => ?_, hn⟩
      rcases List.mem_append.mp z with z | z
      · exact BD z
      · exact BT (hr _ z)
    · rcases List.mem_cons.mp hx with rfl | hx
      · exact ⟨hB0, BN⟩
      · refine dead x ?_
        rcases List.mem_append.mp hx with hx | hx
        · exact List.mem_append_left _ hx
        · exact List.mem_append_right _ (List.mem_cons_of_mem _ (hr _ hx))
    · have s1 := sumT_set (f := setF W P.b (W B + w)) (x := 0) BN
      have s2 := sumT_set (f := W) (x := W B + w) bN
      have e3 : setF W P.b (W B + w) B = W B := by unfold setF; rw [if_neg BA]
      rw [e3] at s1
      have s4 := I.sum
      omega
  have hL : ∀ (Y : List Nat → Prop) z c, L z c → LY Y (sg1 B P.b z) (gb B G z ++ c) := fun Y z c h => by
    by_cases e : z = B
    · subst e
      rw [sg1, if_pos rfl, gb, if_pos rfl]
      exact (LYA Y _).mpr (.inl ⟨c, h, rfl⟩)
    · rw [sg1, if_neg e, gb, if_neg e, List.nil_append]
      exact (LYz Y z c e (lt2 _ _ h).2.2.2).mpr h
  have alLY : ∀ Y : List Nat → Prop, (∀ c, Y c → AL c) → ∀ r a, LY Y r a → AL a := fun Y hY r a h => by
    obtain ⟨_, ⟨_, ⟨h, hh, rfl⟩ | h⟩ | ⟨_, h⟩⟩ := cases4 Y r a h
    · exact alG.app (I.al _ _ hh)
    · exact hY _ h
    · exact I.al _ _ h
  have inA : ∀ Y : List Nat → Prop, LY Y P.b (G ++ b) := fun Y => (LYA Y _).mpr (.inl ⟨b, hb, rfl⟩)
  have k0C : ∀ Y : List Nat → Prop, (∀ c, Y c → AL c) → CT (LY Y) (movedT B P.b g P.k0) := fun Y hY => by
    have h := hk0.moved (A := P.b) (B := B) hg
    have e1 : sg1 B P.b P.b = P.b := by rw [sg1, if_neg AB]
    have e2 : gb B G P.b = [] := by rw [gb, if_neg AB]
    rw [e1, e2, rv_nil, List.append_nil] at h
    have algb : AL (gb B G p) := gb_al alG
    refine Go.ct (α := gb B G p ++ x2) (β := G ++ b) (h.to ((algb.app al2).app (alG.app alb).rv) ?_) (hL Y _ _ h2) (inA Y) (alLY Y hY)
    have e3 : rv (G ++ b) = rv b ++ (rv (rv b) ++ (rv x2 ++ (α ++ x))) := by
      rw [hG, rv_app, rv_app, rv_app (rv (α ++ x)), rv_rv alαx]
    have e : gb B G p ++ x2 ++ rv (G ++ b) = gb B G p ++ x2 ++ rv b ++ (rv (rv b) ++ (rv x2 ++ (α ++ x))) := by
      rw [e3]
      simp
    rw [e, sh_mid (algb.app al2) alb.rv (al2.rv.app alαx), sh_mid algb al2 alαx]
  have upC : ∀ (Y : List Nat → Prop), ∀ t ∈ cs0.map (movedT B P.b g), CT (LY Y) t := fun Y t ht => by
    obtain ⟨t', ht', rfl⟩ := List.mem_map.mp ht
    exact (I.core t' (hcs t' ht')).moved hg (hL Y)
  have upP : ∀ (Y : List Nat → Prop), ∀ Q ∈ ps.map (Pt.mv (movedT B P.b g)), PT K (LY Y) Q := fun Y Q hQ => by
    obtain ⟨Q', hQ', rfl⟩ := List.mem_map.mp hQ
    exact (I.path Q' (List.mem_cons_of_mem _ hQ')).moved hg (hL Y) fun z => BT (List.mem_append_right _ (List.mem_flatMap.mpr ⟨Q', hQ', z⟩))
  cases hbs : P.bs with
  | nil =>
    rw [hbs] at hmid
    obtain ⟨k, ek, hk⟩ := hmid
    have Yal : ∀ c, c = y → AL c := fun c h => by rw [h]; exact aly
    have hk2 := hk.moved (A := P.b) (B := B) hg
    have e1 : sg1 B P.b P.b = P.b := by rw [sg1, if_neg AB]
    have e2 : gb B G P.b = [] := by rw [gb, if_neg AB]
    rw [e1, e2, List.nil_append, List.append_assoc, ← rv_app] at hk2
    refine ⟨S + (P.e + W p), movedT B P.b g k :: movedT B P.b g P.k0 :: cs0.map (movedT B P.b g), ps.map (Pt.mv (movedT B P.b g)), _, _, mk (fun c => c = y) (P.e + W p) ?_ ?_ ?_ _ _ ?_ ?_ ?_ (upP _), ⟨_, inA _⟩, ?_, .inl ⟨rfl, rfl, rfl⟩⟩
    · rintro c rfl
      exact ⟨aly, by omega⟩
    · rintro c h hh rfl
      have e1 := nz_app (K := K) aly.rv (alG.app (I.al _ _ hh))
      have e2 := far h hh
      rw [nz_rv hK aly] at e1
      unfold dw
      omega
    · rintro c d rfl rfl
      rw [dw_self aly]
      exact Nat.zero_le _
    · intro r hr
      rw [rms_mv] at hr
      exact List.mem_append_right _ hr
    · rw [rms_mv]
      have sub : (D ++ rms ps).Sublist (D ++ (P.bs ++ rms ps)) := List.Sublist.append (List.Sublist.refl _) (List.sublist_append_right _ _)
      exact nd3.sublist sub
    · intro t ht
      rcases List.mem_cons.mp ht with rfl | ht
      · exact hk2.ct ((LYA _ _).mpr (.inr rfl)) (hL _ _ _ hβ) (alLY _ Yal)
      rcases List.mem_cons.mp ht with rfl | ht
      · exact k0C _ Yal
      · exact upC _ t ht
    · have e : tys (P :: ps) = P.k0 :: (P.ks ++ tys ps) := rfl
      rw [tys_mv, e, ek, List.map_append]
      show (movedT B P.b g k :: movedT B P.b g P.k0 :: (cs0.map (movedT B P.b g) ++ (tys ps).map (movedT B P.b g))).Perm (cs0.map (movedT B P.b g) ++ movedT B P.b g P.k0 :: movedT B P.b g k :: (tys ps).map (movedT B P.b g))
      exact (((List.Perm.swap _ _ _).trans (List.perm_middle.symm.cons _)).trans List.perm_middle.symm)
  | cons b' bs' =>
    rw [hbs] at hmid nd3 bn BT
    obtain ⟨k, ks', ek, hk, hm⟩ := hmid
    have b'B : b' ≠ B := fun z => BT (by rw [← z]; simp)
    have hk2 := hk.moved (A := P.b) (B := B) hg
    have e1 : sg1 B P.b P.b = P.b := by rw [sg1, if_neg AB]
    have e2 : gb B G P.b = [] := by rw [gb, if_neg AB]
    rw [e1, e2, sg1, if_neg b'B, gb, if_neg b'B, rv_nil, List.append_nil, List.append_nil] at hk2
    have hm2 := Mid.moved (A := P.b) (B := B) hg (fun z => BT (List.mem_append_left _ z)) hm
    rw [List.append_assoc, ← rv_app] at hm2
    refine ⟨S + 0, movedT B P.b g P.k0 :: cs0.map (movedT B P.b g), ⟨movedT B P.b g k, b', bs', ks'.map (movedT B P.b g), P.e + W p⟩ :: ps.map (Pt.mv (movedT B P.b g)), _, _, mk (fun c => False) 0 (fun c h => h.elim) (fun c d _ h => h.elim) (fun c d h _ => h.elim) _ _ ?_ ?_ ?_ ?_, ⟨_, inA _⟩, ?_, .inr ⟨⟨movedT B P.b g k, b', bs', ks'.map (movedT B P.b g), P.e + W p⟩, rfl, rfl, rfl, rfl, rfl⟩⟩
    · intro r hr
      have hr : r ∈ (b' :: bs') ++ rms (ps.map (Pt.mv (movedT B P.b g))) := hr
      rw [rms_mv] at hr
      rw [hbs]
      exact hr
    · show (D ++ ((b' :: bs') ++ rms (ps.map (Pt.mv (movedT B P.b g))))).Nodup
      rw [rms_mv]
      exact nd3
    · intro t ht
      rcases List.mem_cons.mp ht with rfl | ht
      · exact k0C _ (fun c h => h.elim)
      · exact upC _ t ht
    · intro Q hQ
      rcases List.mem_cons.mp hQ with rfl | hQ
      · refine ⟨P.b, sg1 B P.b q, G ++ b, rv (G ++ b), y, gb B G q ++ β, inA _, hL _ _ _ hβ, (alG.app alb).rv, aly, ?_, hk2.to ((alG.app alb).app (alG.app alb).rv) (by rw [sh_rv_r (alG.app alb)]; rfl), hm2⟩
        rw [nz_rv hK (alG.app alb)]
        show _ + _ ≤ P.e + W p
        omega
      · exact upP _ Q hQ
    · have e : tys (P :: ps) = P.k0 :: (P.ks ++ tys ps) := rfl
      show (movedT B P.b g P.k0 :: (cs0.map (movedT B P.b g) ++ (movedT B P.b g k :: (ks'.map (movedT B P.b g) ++ tys (ps.map (Pt.mv (movedT B P.b g))))))).Perm _
      rw [tys_mv, e, ek, List.map_append]
      show (_ : List T4).Perm (cs0.map (movedT B P.b g) ++ movedT B P.b g P.k0 :: (k :: ks' ++ tys ps).map (movedT B P.b g))
      rw [List.map_append]
      exact List.perm_middle.symm
end
end Gw

/-! ### one turn of gluing, in sizes only. Plain. -/
namespace Gw
section
variable {K N S H A B r : Nat} {D : List Nat} {cs cs' : List T4} {ps ps' : List Pt} {L : LL} {W : Nat → Nat} {g : List Int} {o t : T4} {e : Nat}
def sgP (ps : List Pt) : List (Nat × Nat) := ps.map fun P => (P.bs.length, P.e)
def es (l : List (Nat × Nat)) : Nat := (l.map fun p => p.2).sum
theorem es_perm {l l' : List (Nat × Nat)} (h : l.Perm l') : es l = es l' := (h.map _).sum_nat
theorem es_cons (p : Nat × Nat) (l : List (Nat × Nat)) : es (p :: l) = p.2 + es l := rfl
theorem sgP_mv (f : T4 → T4) (ps : List Pt) : sgP (ps.map (Pt.mv f)) = sgP ps := by
  unfold sgP
  rw [List.map_map]
  refine List.map_congr_left fun P _ => ?_
  show ((Pt.mv f P).bs.length, (Pt.mv f P).e) = _
  rfl
theorem Cr.up (I : Cr K N S H D cs ps L W) {H' : Nat} (h : H ≤ H') : Cr K N S H' D cs ps L W := ⟨I.al, fun r a z => Nat.le_trans (I.near r a z) h, I.zero, I.dist, I.lt, I.core, I.path, I.nd, I.dead, I.sum⟩
theorem Cr.sub (I : Cr K N S H D cs ps L W) (h : ∀ t ∈ cs', t ∈ cs) : Cr K N S H D cs' ps L W := ⟨I.al, I.near, I.zero, I.dist, I.lt, fun t ht => I.core t (h t ht), I.path, I.nd, I.dead, I.sum⟩
theorem Cr.swap (I : Cr K N S H D cs ps L W) (p : ps.Perm ps') : Cr K N S H D cs ps' L W := by
  have q : (rms ps).Perm (rms ps') := p.flatMap_right _
  refine ⟨I.al, I.near, I.zero, I.dist, fun r a h => ?_, I.core, fun P hP => I.path P (p.mem_iff.mpr hP), ((q.append_left D).nodup_iff).mp I.nd, fun x hx => I.dead x (((q.append_left D).mem_iff).mpr hx), I.sum⟩
  obtain ⟨a1, a2, a3⟩ := I.lt r a h
  exact ⟨a1, a2, fun z => a3 (q.mem_iff.mpr z)⟩
theorem Cr.turn {P P' : Pt} (I : Cr K N S H D cs (P :: ps) L W) (h : PT K L P') (hr : P'.rooms.Perm P.rooms) : Cr K N S H D cs (P' :: ps) L W := by
  have q : (rms (P :: ps)).Perm (rms (P' :: ps)) := (hr.append_right (rms ps)).symm
  refine ⟨I.al, I.near, I.zero, I.dist, fun r a h => ?_, I.core, fun Q hQ => ?_, ((q.append_left D).nodup_iff).mp I.nd, fun x hx => I.dead x (((q.append_left D).mem_iff).mpr hx), I.sum⟩
  · obtain ⟨a1, a2, a3⟩ := I.lt r a h
    exact ⟨a1, a2, fun z => a3 (q.mem_iff.mpr z)⟩
  · rcases List.mem_cons.mp hQ with rfl | hQ
    · exact h
    · exact I.path Q (List.mem_cons_of_mem _ hQ)
theorem Cr.ele (P : Pt) (h : P ∈ ps) : P.e ≤ es (sgP ps) := by
  induction ps with
  | nil => cases h
  | cons Q ps ih =>
    have e : es (sgP (Q :: ps)) = Q.e + es (sgP ps) := rfl
    rw [e]
    rcases List.mem_cons.mp h with rfl | h
    · omega
    · have := ih h
      omega
theorem Cr.row (I : Cr K N S H D cs ps L W) (h : t ∈ cs ++ tys ps) (hK : K ≤ 26) : t.2.2.2.length ≤ 2 * H + es (sgP ps) := by
  rcases List.mem_append.mp h with h | h
  · obtain ⟨α, β, h1, h2, hr⟩ := I.core t h
    have a1 := I.near _ _ h1
    have a2 := I.near _ _ h2
    have a3 := nz_app (K := K) (I.al _ _ h1) (I.al _ _ h2).rv
    rw [nz_rv hK (I.al _ _ h2)] at a3
    have a4 := nz_len K (α ++ rv β)
    rw [hr.len]
    omega
  · obtain ⟨P, hP, h⟩ := List.mem_flatMap.mp h
    have pe := Cr.ele P hP
    obtain ⟨p, q, α, x, y, β, h1, h2, h3, h4, h5, h6, h7⟩ := I.path P hP
    have a1 := I.near _ _ h1
    have a2 := I.near _ _ h2
    rcases List.mem_cons.mp h with rfl | h
    · have a3 := nz_app (K := K) (I.al _ _ h1) h3
      have a4 := nz_len K (α ++ x)
      obtain ⟨al, ⟨_, _, hr⟩ | ⟨_, _, hr⟩⟩ := h6
      · rw [hr.len]
        omega
      · rw [hr.len, sh_rv al, rv_len]
        omega
    · have a3 := nz_app (K := K) h4 (I.al _ _ h2).rv
      rw [nz_rv hK (I.al _ _ h2)] at a3
      have a4 := nz_len K (y ++ rv β)
      have := h7.rows t h
      omega
/-- from where two ties meet on -/
def GoE (t : T4) (e : Nat) (w : List Nat) : Prop := AL w ∧ (if e = 2 then Row t.2.2.2 w else Row t.2.2.2 (rv w))
theorem go_e {p b : Nat} {w : List Nat} (h : Go t p w b) (hne : p ≠ b) (he : e = 0 ∨ e = 2) (hb : endAt t e = b) : p = meetR t e ∧ GoE t e w := by
  obtain ⟨al, h⟩ := h
  unfold GoE meetR endAt at *
  rcases he with rfl | rfl
  · rw [if_pos rfl] at hb
    rw [if_neg (by decide), if_neg (by decide)]
    rcases h with ⟨h1, h2, h3⟩ | ⟨h1, h2, h3⟩
    · exact absurd (h1.symm.trans hb) hne
    · exact ⟨h2.symm, al, h3⟩
  · rw [if_neg (by decide)] at hb
    rw [if_pos rfl, if_pos rfl]
    rcases h with ⟨h1, h2, h3⟩ | ⟨h1, h2, h3⟩
    · exact ⟨h1.symm, al, h3⟩
    · exact absurd (h2.symm.trans hb) hne
theorem glue_row {wo wt : List Nat} (h1 : GoE o e wo) (h2 : GoE t e wt) (he : e = 0 ∨ e = 2) : Row (glueNs o t e) (rv wo ++ wt) := by
  obtain ⟨a1, h1⟩ := h1
  obtain ⟨a2, h2⟩ := h2
  unfold glueNs
  rcases he with rfl | rfl
  · rw [if_neg (by decide)] at h1 h2
    rw [if_pos rfl]
    have := h1.join h2.back
    rwa [rv_rv a2] at this
  · rw [if_pos rfl] at h1 h2
    rw [if_neg (by decide)]
    exact h1.back.join h2
theorem CT.at (h : CT L t) (al : ∀ r a, L r a → AL a) (he : e = 0 ∨ e = 2) : ∃ α β, L (meetR t e) α ∧ L (endAt t e) β ∧ GoE t e (α ++ rv β) := by
  obtain ⟨α, β, h1, h2, h3⟩ := h
  have aα := al _ _ h1
  have aβ := al _ _ h2
  unfold GoE meetR endAt
  rcases he with rfl | rfl
  · rw [if_neg (by decide), if_pos rfl]
    refine ⟨β, α, h2, h1, aβ.app aα.rv, ?_⟩
    rw [if_neg (by decide), rv_app, rv_rv aα]
    exact h3
  · rw [if_pos rfl, if_neg (by decide)]
    exact ⟨α, β, h1, h2, aα.app aβ.rv, by rw [if_pos rfl]; exact h3⟩
theorem ends_e (t : T4) (he : e = 0 ∨ e = 2) : (t.1 = meetR t e ∧ t.2.2.1 = endAt t e) ∨ (t.1 = endAt t e ∧ t.2.2.1 = meetR t e) := by
  unfold meetR endAt
  rcases he with rfl | rfl
  · exact .inr ⟨rfl, rfl⟩
  · exact .inl ⟨rfl, rfl⟩
/-- a tie between rooms that are come to is no tie of a middle -/
theorem Cr.incs (I : Cr K N S H D cs ps L W) (h : t ∈ cs ++ tys ps) (he : e = 0 ∨ e = 2) (h1 : meetR t e ∉ rms ps) (h2 : endAt t e ∉ rms ps) : t ∈ cs := by
  rcases List.mem_append.mp h with h | h
  · exact h
  · obtain ⟨P, hP, h⟩ := List.mem_flatMap.mp h
    exfalso
    have z := ((I.path P hP).ends t h).2.2
    have up : ∀ x, x ∈ P.rooms → x ∈ rms ps := fun x hx => List.mem_flatMap.mpr ⟨P, hP, hx⟩
    rcases ends_e t he with ⟨e1, e2⟩ | ⟨e1, e2⟩
    · rw [e1, e2] at z
      exact z.elim (fun z => h1 (up _ z)) fun z => h2 (up _ z)
    · rw [e1, e2] at z
      exact z.elim (fun z => h2 (up _ z)) fun z => h1 (up _ z)
/-- the tie that leads to a free room -/
theorem Cr.focus (I : Cr K N S H D cs ps L W) (hK : K ≤ 26) (h : t ∈ cs ++ tys ps) (he : e = 0 ∨ e = 2) (h1 : meetR t e ∉ rms ps) (h2 : endAt t e ∈ rms ps) :
    ∃ P ps', Cr K N S H D cs (P :: ps') L W ∧ P.k0 = t ∧ (tys (P :: ps')).Perm (tys ps) ∧ (sgP (P :: ps')).Perm (sgP ps) ∧ (rms (P :: ps')).Perm (rms ps) ∧ P.b = endAt t e ∧ ∀ p w, (∃ a, L p a) → Go P.k0 p w P.b → p = meetR t e ∧ GoE t e w := by
  have noL : ∀ z a, z ∈ rms ps → ¬ L z a := fun z a hz hl => (I.lt _ _ hl).2.2 hz
  rcases List.mem_append.mp h with h | h
  · obtain ⟨α, β, a1, a2, _⟩ := (I.core t h).at I.al he
    exact absurd a2 (noL _ _ h2)
  obtain ⟨P, hP, h⟩ := List.mem_flatMap.mp h
  obtain ⟨l1, l2, el⟩ := List.append_of_mem hP
  have pm : ps.Perm (P :: (l1 ++ l2)) := by rw [el]; exact List.perm_middle
  have up : ∀ x, x ∈ P.rooms → x ∈ rms ps := fun x hx => List.mem_flatMap.mpr ⟨P, hP, hx⟩
  have hmr : meetR t e ∉ P.rooms := fun z => h1 (up _ z)
  obtain ⟨P', g1, g2, g3, g4, g5⟩ := (I.path P hP).turn I.al hK h (by
    rcases ends_e t he with ⟨e1, e2⟩ | ⟨e1, e2⟩
    · exact .inl (by rw [e1]; exact hmr)
    · exact .inr (by rw [e2]; exact hmr))
  have I2 := (I.swap pm).turn g1 g4
  have hl : P'.bs.length = P.bs.length := by
    have := g4.length_eq
    simpa [Pt.rooms] using this
  have endB : P'.b = endAt t e := by
    obtain ⟨p, q, α, x, y, β, a1, a2, a3, a4, a5, ⟨_, a6⟩, a7⟩ := g1
    rw [g2] at a6
    have pT : p ∉ rms ps := fun z => noL _ _ z a1
    have bT : P'.b ∈ rms ps := up _ (g4.mem_iff.mp List.mem_cons_self)
    rcases ends_e t he with ⟨e1, e2⟩ | ⟨e1, e2⟩
    · rw [e1, e2] at a6
      rcases a6 with ⟨z1, z2, _⟩ | ⟨z1, z2, _⟩
      · exact z2.symm
      · exact absurd (by rw [z1]; exact bT) h1
    · rw [e1, e2] at a6
      rcases a6 with ⟨z1, z2, _⟩ | ⟨z1, z2, _⟩
      · exact absurd (by rw [z2]; exact bT) h1
      · exact z1.symm
  refine ⟨P', l1 ++ l2, I2, g2, ?_, ?_, ?_, endB, fun p w ⟨a, ha⟩ hgo => ?_⟩
  · exact (g3.append_right (tys (l1 ++ l2))).trans (pm.symm.flatMap_right Pt.ties)
  · have e1 : sgP (P' :: (l1 ++ l2)) = sgP (P :: (l1 ++ l2)) := by
      show (P'.bs.length, P'.e) :: _ = (P.bs.length, P.e) :: _
      rw [hl, g5]
    rw [e1]
    exact (pm.symm.map _)
  · exact (g4.append_right (rms (l1 ++ l2))).trans (pm.symm.flatMap_right Pt.rooms)
  · rw [g2] at hgo
    refine go_e hgo (fun z => ?_) he endB.symm
    rw [z] at ha
    exact noL _ _ (up _ (g4.mem_iff.mp List.mem_cons_self)) ha
/-- what is left of a middle -/
def tk (S dd e : Nat) (l : List (Nat × Nat)) : Nat × List (Nat × Nat) := match dd with
  | 0 => (S + e, l)
  | dd + 1 => (S, (dd, e) :: l)
def Ss (K N S : Nat) (l : List (Nat × Nat)) (d H : Nat) (ts : List T4) : Prop := ∃ D cs ps L W Z, Cr K N S H D cs ps L W ∧ ts.Perm (cs ++ tys ps) ∧ Thin Z ts ∧ (∀ z ∈ Z, z ∉ rms ps) ∧ (sgP ps).Perm l ∧ D.length = d
theorem perm_tys (h : ps.Perm ps') : (tys ps).Perm (tys ps') := h.flatMap_right _
variable {ts : List T4} {Z : List Nat}
theorem Thin.same (T : Thin Z ts) (hp : pairOf ts = some (o, t, e)) (z : endAt o e = endAt t e) : endAt t e ∈ Z := by
  have ok := pairOf_ok hp
  have t_in : t ∈ ts := ok.t_in
  have meet : MeetAt o t e := ok.meet
  have hr2 : o ∈ ts.erase t := pairOf_rest hp
  have pm2 : ts.Perm (t :: ts.erase t) := List.perm_cons_erase t_in
  have h2 : (t :: ts.erase t).Pairwise fun x y => (x.1 = y.1 → x.2.1 = y.2.1 → x.1 ∈ Z) ∧ (x.2.2.1 = y.2.2.1 → x.2.1 = y.2.1 → x.2.2.1 ∈ Z) := (List.Perm.pairwise_iff (fun {x y} h => ⟨fun a b => by rw [a]; exact h.1 a.symm b.symm, fun a b => by rw [a]; exact h.2 a.symm b.symm⟩) pm2).mp T
  have h3 := (List.pairwise_cons.mp h2).1 o hr2
  obtain ⟨m1, ⟨rfl, m⟩ | ⟨rfl, m⟩⟩ := meet
  · exact h3.2 z.symm m1.symm
  · exact h3.1 z.symm m1.symm
/-- a free room goes -/
theorem step_read (I : Cr K N S H D cs ps L W) (hK : K ≤ 26) (pm : ts.Perm (cs ++ tys ps)) (T : Thin Z ts) (hZ : ∀ z ∈ Z, z ∉ rms ps) (ho : o ∈ ts) (ht : t ∈ ts) (he : e = 0 ∨ e = 2) (hm : meetR o e = meetR t e) (hr : meetR o e ∉ rms ps) (hA : endAt o e ∉ rms ps) (hB : endAt t e ∈ rms ps) :
    ∃ dd e1 rr, (sgP ps).Perm ((dd, e1) :: rr) ∧ Ss K N (tk S dd (e1 + W (meetR o e)) rr).1 (tk S dd (e1 + W (meetR o e)) rr).2 (D.length + 1) (H + S + es (sgP ps)) (glueStep ts o t e) := by
  have oc : o ∈ cs := I.incs (pm.mem_iff.mp ho) he hr hA
  obtain ⟨α, β, a1, a2, a3⟩ := (I.core o oc).at I.al he
  obtain ⟨P, ps', I2, g1, g2, g3, g4, g5, g6⟩ := I.focus hK (pm.mem_iff.mp ht) he (by rw [← hm]; exact hr) hB
  have hne : endAt o e ≠ endAt t e := fun z => hA (by rw [z]; exact hB)
  obtain ⟨S', cs', ps2, L', W', J, lA, q, out⟩ := I2.read (A := endAt o e) (r := meetR o e) (g := glueNs o t e) hK a2 a1 fun p w x hp hgo => by
    obtain ⟨z1, z2⟩ := g6 p (w ++ x) ⟨_, hp⟩ hgo
    refine ⟨z1.trans hm.symm, ?_⟩
    have := glue_row a3 z2 he
    rw [rv_app, rv_rv (I.al _ _ a2)] at this
    exact this
  have e1 : P.e ≤ es (sgP ps) := by
    rw [← es_perm g3]
    exact Cr.ele P List.mem_cons_self
  refine ⟨P.bs.length, P.e, sgP ps', g3.symm, ?_⟩
  have pe : (ts.erase t).Perm (cs ++ (P.ks ++ tys ps')) := by
    have p1 : ts.Perm (t :: (cs ++ (P.ks ++ tys ps'))) := by
      refine pm.trans ((g2.symm.append_left cs).trans ?_)
      show (cs ++ P.k0 :: (P.ks ++ tys ps')).Perm _
      rw [g1]
      exact List.perm_middle
    have := p1.erase t
    rwa [List.erase_cons_head] at this
  have pq : (glueStep ts o t e).Perm (cs' ++ tys ps2) := by
    unfold glueStep
    rw [if_pos hne, ← g5]
    exact (pe.map _).trans q.symm
  have hA2 : endAt o e ∉ rms ps2 := by
    obtain ⟨a, la⟩ := lA
    exact (J.lt _ _ la).2.2
  have sub : ∀ z, z ∈ rms ps2 → z ∈ rms ps := fun z hz => by
    refine g4.mem_iff.mp ?_
    show z ∈ P.b :: (P.bs ++ rms ps')
    rcases out with ⟨_, _, ep⟩ | ⟨P', _, _, _, ep, er⟩
    · rw [ep, rms_mv] at hz
      exact List.mem_cons_of_mem _ (List.mem_append_right _ hz)
    · rw [ep] at hz
      have hz : z ∈ P'.rooms ++ rms (ps'.map (Pt.mv (movedT P.b (endAt o e) (glueNs o t e)))) := hz
      rw [rms_mv, er] at hz
      exact List.mem_cons_of_mem _ hz
  have mkS : Ss K N S' (sgP ps2) (D.length + 1) (H + S + es (sgP ps)) (glueStep ts o t e) :=
    ⟨_, _, _, _, _, _, J.up (by omega), pq, T.step o t e, fun z hz => by
      rcases List.mem_cons.mp hz with rfl | hz
      · exact hA2
      · exact fun h => hZ z hz (sub z h), List.Perm.refl _, rfl⟩
  rcases out with ⟨eb, eS, ep⟩ | ⟨P', hl, hPe, eS, ep, er⟩
  · rw [eb]
    have : tk S 0 (P.e + W (meetR o e)) (sgP ps') = (S', sgP ps2) := by
      rw [ep, sgP_mv, eS]
      rfl
    show Ss K N (tk S 0 (P.e + W (meetR o e)) (sgP ps')).1 (tk S 0 (P.e + W (meetR o e)) (sgP ps')).2 _ _ _
    rw [this]
    exact mkS
  · have : tk S P.bs.length (P.e + W (meetR o e)) (sgP ps') = (S', sgP ps2) := by
      rw [ep, ← hl, eS]
      show (S, (P'.bs.length, P.e + W (meetR o e)) :: sgP ps') = (S, (P'.bs.length, P'.e) :: sgP (ps'.map (Pt.mv (movedT P.b (endAt o e) (glueNs o t e)))))
      rw [sgP_mv, hPe]
    rw [this]
    exact mkS
theorem Ss.step {l : List (Nat × Nat)} {d : Nat} (h : Ss K N S l d H ts) (hK : K ≤ 26) (hp : pairOf ts = some (o, t, e)) (hf : 10 * H + 5 * es l + 10 ≤ 16000000) :
    StepFine ts o t e ∧ (Ss K N S l d H (glueStep ts o t e) ∨ ∃ w, w ≤ S ∧ (Ss K N (S + w) l (d + 1) (H + 2 * S + 3 * es l) (glueStep ts o t e) ∨
      (∃ dd e1 rr, l.Perm ((dd, e1) :: rr) ∧ Ss K N (tk S dd (e1 + w) rr).1 (tk S dd (e1 + w) rr).2 (d + 1) (H + 2 * S + 3 * es l) (glueStep ts o t e)) ∨
      (∃ d1 e1 r1 d2 e2 r2, l.Perm ((d1, e1) :: r1) ∧ (tk S d1 e1 r1).2.Perm ((d2, e2) :: r2) ∧ Ss K N (tk (tk S d1 e1 r1).1 d2 (e2 + w) r2).1 (tk (tk S d1 e1 r1).1 d2 (e2 + w) r2).2 (d + 1) (H + 2 * S + 3 * es l) (glueStep ts o t e)))) := by
  obtain ⟨D, cs, ps, L, W, Z, I, pm, T, hZ, hl, rfl⟩ := h
  have el := es_perm hl
  have ok := pairOf_ok hp
  have o_in : o ∈ ts := ok.o_in
  have t_in : t ∈ ts := ok.t_in
  have he : e = 0 ∨ e = 2 := ok.end_
  have meet : MeetAt o t e := ok.meet
  have zero : endAt t e = 0 → endAt o e = 0 := ok.zero
  have rowL : ∀ x ∈ ts, x.2.2.2.length ≤ 2 * H + es l := fun x hx => by
    rw [← el]
    exact I.row (pm.mem_iff.mp hx) hK
  have lo := rowL o o_in
  have lt := rowL t t_in
  have lg := glueNs_len o t e
  refine ⟨⟨by omega, fun _ x hx _ => by have := rowL x hx; omega⟩, ?_⟩
  have hr : meetR o e ∉ rms ps := hZ _ (T.pair hp)
  have hm : meetR o e = meetR t e := by
    obtain ⟨_, ⟨rfl, m⟩ | ⟨rfl, m⟩⟩ := meet
    · exact m
    · exact m
  have pmE : t ∈ cs → (ts.erase t).Perm (cs.erase t ++ tys ps) := fun h => by
    have := pm.erase t
    rwa [List.erase_append_left _ h] at this
  by_cases hB : endAt t e ∈ rms ps
  · by_cases hA : endAt o e ∈ rms ps
    · -- both free
      obtain ⟨P, ps', I2, g1, g2, g3, g4, g5, g6⟩ := I.focus hK (pm.mem_iff.mp o_in) he hr hA
      obtain ⟨p, q, α, x, y, β, b1, b2, b3, b4, b5, b6, b7⟩ := I2.path P List.mem_cons_self
      obtain ⟨rfl, _⟩ := g6 p _ ⟨_, b1⟩ b6
      have wr := I.wle b1
      have hAB : endAt o e ≠ endAt t e := fun z => by
        exact hZ _ (T.same hp z) hB
      have pb : P.b = endAt o e := g5
      obtain ⟨S1, cs1, ps2, L', W', J, up, wz, lA, oc, q, out⟩ := I2.promote hK
      have e1 : P.e ≤ es l := by
        rw [← el, ← es_perm g3]
        exact Cr.ele P List.mem_cons_self
      have pm2 : ts.Perm (cs1 ++ tys ps2) := (pm.trans (g2.symm.append_left cs)).trans q.symm
      have sub : ∀ z, z ∈ rms ps2 → z ∈ rms ps := fun z hz => by
        refine g4.mem_iff.mp ?_
        show z ∈ P.b :: (P.bs ++ rms ps')
        rcases out with ⟨_, _, ep⟩ | ⟨P', _, _, _, ep, er⟩
        · rw [ep] at hz
          exact List.mem_cons_of_mem _ (List.mem_append_right _ hz)
        · rw [ep] at hz
          have hz : z ∈ P'.rooms ++ rms ps' := hz
          rw [er] at hz
          exact List.mem_cons_of_mem _ hz
      have hB2 : endAt t e ∈ rms ps2 := by
        have hz : endAt t e ∈ P.b :: (P.bs ++ rms ps') := g4.mem_iff.mpr hB
        rw [pb] at hz
        rcases List.mem_cons.mp hz with hz | hz
        · exact absurd hz.symm hAB
        rcases out with ⟨eb, _, ep⟩ | ⟨P', _, _, _, ep, er⟩
        · rw [eb] at hz
          rw [ep]
          exact hz
        · rw [ep]
          show endAt t e ∈ P'.rooms ++ rms ps'
          rw [er]
          exact hz
      have hA2 : endAt o e ∉ rms ps2 := by
        obtain ⟨a, la⟩ := lA
        rw [pb] at la
        exact (J.lt _ _ la).2.2
      have rP : meetR o e ≠ P.b := fun z => hr (by rw [z, pb]; exact hA)
      obtain ⟨d2, e2, r2, h1, h2⟩ := step_read J hK pm2 T (fun z hz h => hZ z hz (sub z h)) o_in t_in he hm (fun h => hr (sub _ h)) hA2 hB2
      rw [wz _ rP] at h2
      have eS : (S1, sgP ps2) = tk S P.bs.length P.e (sgP ps') := by
        rcases out with ⟨eb, eS, ep⟩ | ⟨P', hl', hPe, eS, ep, er⟩
        · rw [eb, eS, ep]
          rfl
        · rw [← hl', eS, ep, ← hPe]
          rfl
      have eS1 : S1 = (tk S P.bs.length P.e (sgP ps')).1 := congrArg Prod.fst eS
      have eS2 : sgP ps2 = (tk S P.bs.length P.e (sgP ps')).2 := congrArg Prod.snd eS
      have le1 : S1 ≤ S + P.e := by
        rcases out with ⟨_, h, _⟩ | ⟨_, _, _, h, _⟩ <;> omega
      have le2 : es (sgP ps2) ≤ es l := by
        have hh : es (sgP (P :: ps')) = es l := (es_perm g3).trans el
        have hh : P.e + es (sgP ps') = es l := hh
        rcases out with ⟨_, _, ep⟩ | ⟨P', _, h, _, ep, _⟩
        · rw [ep]; omega
        · rw [ep]
          show P'.e + es (sgP ps') ≤ _
          omega
      refine .inr ⟨W (meetR o e), wr, .inr (.inr ⟨P.bs.length, P.e, sgP ps', d2, e2, r2, hl.symm.trans g3.symm, ?_, ?_⟩)⟩
      · rw [← eS2]
        exact h1
      · rw [← eS1]
        obtain ⟨D', cs', ps', L', W', Z', J', q2, q3, q4, q5, q6⟩ := h2
        exact ⟨D', cs', ps', L', W', Z', J'.up (by omega), q2, q3, q4, q5, q6⟩
    · obtain ⟨α, β, a1, a2, a3⟩ := (I.core o (I.incs (pm.mem_iff.mp o_in) he hr hA)).at I.al he
      obtain ⟨dd, e1, rr, h1, D', cs', ps', L', W', Z', J, h2, h3, h4, h5, h6⟩ := step_read I hK pm T hZ o_in t_in he hm hr hA hB
      exact .inr ⟨W (meetR o e), I.wle a1, .inr (.inl ⟨dd, e1, rr, hl.symm.trans h1, D', cs', ps', L', W', Z', J.up (by omega), h2, h3, h4, h5, h6⟩)⟩
  · by_cases hA : endAt o e ∈ rms ps
    · have tc : t ∈ cs := I.incs (pm.mem_iff.mp t_in) he (by rw [← hm]; exact hr) hB
      obtain ⟨α, β, a1, a2, a3⟩ := (I.core t tc).at I.al he
      obtain ⟨P, ps', I2, g1, g2, g3, g4, g5, g6⟩ := I.focus hK (pm.mem_iff.mp o_in) he hr hA
      have hB0 : endAt t e ≠ 0 := fun z => (I.dead _ (List.mem_append_right _ hA)).1 (zero z)
      have hne : endAt o e ≠ endAt t e := fun z => hB (by rw [← z]; exact hA)
      rw [← hm] at a1
      obtain ⟨S', cs', ps2, L', W', J, lA, q, out⟩ := I2.read' (B := endAt t e) (r := meetR o e) (g := glueNs o t e) hK a2 a1 hB0 (fun p w x hp hgo => by
        obtain ⟨z1, z2⟩ := g6 p (w ++ x) ⟨_, hp⟩ hgo
        refine ⟨z1, ?_⟩
        have := glue_row z2 a3 he
        rw [← List.append_assoc] at this
        exact this) (cs0 := cs.erase t) (fun x hx => List.mem_of_mem_erase hx)
      have e1 : P.e ≤ es l := by
        rw [← el, ← es_perm g3]
        exact Cr.ele P List.mem_cons_self
      have pq : (glueStep ts o t e).Perm (cs' ++ tys ps2) := by
        unfold glueStep
        rw [if_pos hne, ← g5]
        exact (((pmE tc).trans (g2.symm.append_left _)).map _).trans q.symm
      have hA2 : endAt o e ∉ rms ps2 := by
        obtain ⟨a, la⟩ := lA
        rw [g5] at la
        exact (J.lt _ _ la).2.2
      have sub : ∀ z, z ∈ rms ps2 → z ∈ rms ps := fun z hz => by
        refine g4.mem_iff.mp ?_
        show z ∈ P.b :: (P.bs ++ rms ps')
        rcases out with ⟨_, _, ep⟩ | ⟨P', _, _, _, ep, er⟩
        · rw [ep, rms_mv] at hz
          exact List.mem_cons_of_mem _ (List.mem_append_right _ hz)
        · rw [ep] at hz
          have hz : z ∈ P'.rooms ++ rms (ps'.map (Pt.mv (movedT (endAt t e) P.b (glueNs o t e)))) := hz
          rw [rms_mv, er] at hz
          exact List.mem_cons_of_mem _ hz
      have mkS : Ss K N S' (sgP ps2) (D.length + 1) (H + 2 * S + 3 * es l) (glueStep ts o t e) :=
        ⟨_, _, _, _, _, _, J.up (by omega), pq, T.step o t e, fun z hz => by
          rcases List.mem_cons.mp hz with rfl | hz
          · exact hA2
          · exact fun h => hZ z hz (sub z h), List.Perm.refl _, rfl⟩
      refine .inr ⟨W (meetR o e), I.wle a1, .inr (.inl ⟨P.bs.length, P.e, sgP ps', hl.symm.trans g3.symm, ?_⟩)⟩
      rcases out with ⟨eb, eS, ep⟩ | ⟨P', hl', hPe, eS, ep, er⟩
      · rw [eb]
        have : tk S 0 (P.e + W (meetR o e)) (sgP ps') = (S', sgP ps2) := by
          rw [ep, sgP_mv, eS]
          rfl
        show Ss K N (tk S 0 (P.e + W (meetR o e)) (sgP ps')).1 (tk S 0 (P.e + W (meetR o e)) (sgP ps')).2 _ _ _
        rw [this]
        exact mkS
      · have : tk S P.bs.length (P.e + W (meetR o e)) (sgP ps') = (S', sgP ps2) := by
          rw [ep, ← hl', eS]
          show (S, (P'.bs.length, P.e + W (meetR o e)) :: sgP ps') = (S, (P'.bs.length, P'.e) :: sgP (ps'.map (Pt.mv (movedT (endAt t e) P.b (glueNs o t e)))))
          rw [sgP_mv, hPe]
        rw [this]
        exact mkS
    · have tc : t ∈ cs := I.incs (pm.mem_iff.mp t_in) he (by rw [← hm]; exact hr) hB
      have oc : o ∈ cs := I.incs (pm.mem_iff.mp o_in) he hr hA
      by_cases hne : endAt o e = endAt t e
      · refine .inl ⟨D, cs.erase t, ps, L, W, Z, I.sub fun x hx => List.mem_of_mem_erase hx, ?_, T.close hne, hZ, hl, rfl⟩
        unfold glueStep
        rw [if_neg (fun z => z hne)]
        exact pmE tc
      · have hB0 : endAt t e ≠ 0 := fun z => hne ((zero z).trans z.symm)
        obtain ⟨α, β, a1, a2, a3⟩ := (I.core t tc).at I.al he
        obtain ⟨α', β', b1, b2, b3⟩ := (I.core o oc).at I.al he
        rw [← hm] at a1
        have hg := glue_row b3 a3 he
        rw [rv_app, rv_rv (I.al _ _ b2), ← List.append_assoc] at hg
        have J := I.merge hK hne hB0 b2 b1 a1 a2 hg (cs' := cs.erase t) fun x hx => List.mem_of_mem_erase hx
        refine .inr ⟨W (meetR o e), I.wle a1, .inl ⟨_, _, _, _, _, _, J.up (by omega), ?_, T.step o t e, fun z hz => ?_, ?_, rfl⟩⟩
        · unfold glueStep
          rw [if_pos hne, tys_mv, ← List.map_append]
          exact (pmE tc).map _
        · rw [rms_mv]
          rcases List.mem_cons.mp hz with rfl | hz
          · exact hA
          · exact hZ z hz
        · rw [sgP_mv]
          exact hl
end
end Gw

/-! ### how far the sizes can come: four words of at most five letters. Plain. -/
namespace Gw
def potC : List (List Nat) := [[1], [2, 4, 6, 12], [4, 8, 16, 24, 48, 72, 144], [8, 16, 32, 64, 96, 192, 288, 576, 864, 1728], [16, 32, 64, 128, 256, 384, 768, 1152, 2304, 3456, 6912, 10368, 20736]]
def potB : List (List Nat) := [[1], [1, 2, 2, 4], [2, 4, 8, 12, 24, 24, 48], [4, 8, 16, 32, 48, 96, 144, 288, 288, 576], [8, 16, 32, 64, 128, 192, 384, 576, 1152, 1728, 3456, 3456, 6912]]
def potG : List Nat := [24, 48, 96, 160, 320, 480, 960, 1440, 2880, 3456, 6912, 6912, 13824]
def cT (r t : Nat) : Nat := (potC.getD r []).getD (t - r) 0
def bT (r t : Nat) : Nat := (potB.getD r []).getD (t - r) 0
def gT (t : Nat) : Nat := potG.getD (t - 4) 0
theorem F1 : ∀ r < 5, ∀ t < 17, r ≤ t → t + 1 ≤ 4 * r → cT r t + bT r t ≤ cT r (t + 1) ∧ bT r t ≤ bT r (t + 1) := by decide
theorem F2 : ∀ r < 4, ∀ t < 17, r ≤ t → t ≤ 4 * r → 2 * cT r t ≤ cT (r + 1) (t + 1) ∧ cT r t ≤ bT (r + 1) (t + 1) ∧ bT r t ≤ bT (r + 1) (t + 1) := by decide
theorem F3 : ∀ r < 5, ∀ t < 17, r ≤ t → t + 2 ≤ 4 * r → 2 * cT r t + 2 * bT r t ≤ cT r (t + 2) ∧ 2 * bT r t ≤ bT r (t + 2) := by decide
theorem F4a : ∀ r < 4, ∀ t < 17, r ≤ t → t ≤ 4 * r → 2 * cT r t + 2 * bT r t ≤ cT (r + 1) (t + 2) ∧ 4 * cT r t ≤ cT (r + 1) (t + 2) := by decide
theorem F4b : ∀ r < 4, ∀ t < 17, r ≤ t → t ≤ 4 * r → 2 * cT r t ≤ bT (r + 1) (t + 2) ∧ 2 * bT r t ≤ bT (r + 1) (t + 2) := by decide
theorem F4 (r : Nat) (h : r < 4) (t : Nat) (h2 : t < 17) (h3 : r ≤ t) (h4 : t ≤ 4 * r) : 2 * cT r t + 2 * bT r t ≤ cT (r + 1) (t + 2) ∧ 4 * cT r t ≤ cT (r + 1) (t + 2) ∧ 2 * cT r t ≤ bT (r + 1) (t + 2) ∧ 2 * bT r t ≤ bT (r + 1) (t + 2) :=
  ⟨(F4a r h t h2 h3 h4).1, (F4a r h t h2 h3 h4).2, F4b r h t h2 h3 h4⟩
theorem F5 : ∀ r < 3, ∀ t < 17, r ≤ t → t ≤ 4 * r → 4 * cT r t ≤ cT (r + 2) (t + 2) ∧ 2 * cT r t ≤ bT (r + 2) (t + 2) ∧ 2 * bT r t ≤ bT (r + 2) (t + 2) := by decide
theorem F6 : ∀ t < 17, 4 ≤ t → t + 1 ≤ 16 → gT t ≤ gT (t + 1) := by decide
theorem F7 : ∀ t < 17, 3 ≤ t → t ≤ 12 → cT 3 t + 3 * bT 3 t ≤ gT (t + 1) ∧ 2 * (cT 3 t + 3 * bT 3 t) ≤ gT (t + 2) := by decide
theorem F8 : ∀ t < 17, 4 ≤ t → t + 2 ≤ 16 → 2 * gT t ≤ gT (t + 2) := by decide
theorem F9 : ∀ t < 17, 2 ≤ t → t ≤ 8 → 2 * (2 * cT 2 t + 2 * bT 2 t) ≤ gT (t + 2) := by decide
theorem F10 : ∀ r < 5, ∀ t < 17, r ≤ t → t ≤ 4 * r → 15 + t ≤ 16 * cT r t ∧ 15 + t ≤ 16 * bT r t := by decide
theorem F11 : ∀ r < 4, ∀ t < 17, r ≤ t → t ≤ 4 * r → 2 * cT r t + r * bT r t ≤ 13824 := by decide
theorem F12 : ∀ t < 17, 4 ≤ t → t ≤ 16 → gT t ≤ 13824 := by decide
def tau (l : List (Nat × Nat)) : Nat := (l.map fun p => p.1 + 1).sum
theorem tau_cons (p : Nat × Nat) (l : List (Nat × Nat)) : tau (p :: l) = p.1 + 1 + tau l := rfl
theorem tau_perm {l l' : List (Nat × Nat)} (h : l.Perm l') : tau l = tau l' := (h.map _).sum_nat
theorem tau_len : ∀ {l : List (Nat × Nat)}, (∀ p ∈ l, p.1 ≤ 3) → l.length ≤ tau l ∧ tau l ≤ 4 * l.length
  | [], _ => ⟨Nat.le_refl _, Nat.le_refl _⟩
  | p :: l, h => by
    have ih := tau_len (l := l) fun q hq => h q (List.mem_cons_of_mem _ hq)
    have := h p List.mem_cons_self
    rw [tau_cons, List.length_cons]
    omega
theorem es_le : ∀ {l : List (Nat × Nat)}, (∀ p ∈ l, p.2 ≤ 1) → es l ≤ l.length
  | [], _ => Nat.le_refl _
  | p :: l, h => by
    have ih := es_le (l := l) fun q hq => h q (List.mem_cons_of_mem _ hq)
    have := h p List.mem_cons_self
    rw [es_cons, List.length_cons]
    omega
structure Pot (v S : Nat) (l : List (Nat × Nat)) : Prop where
  sm : ∀ p ∈ l, p.1 ≤ 3
  len : l.length ≤ 4
  pot : 2 ^ v * (cT l.length (tau l) * S + bT l.length (tau l) * es l) ≤ 13824 ∨ (S = 0 ∧ (∀ p ∈ l, p.2 ≤ 1) ∧ l.length = 4 ∧ 2 ^ v * gT (tau l) ≤ 13824)
theorem Pot.perm {v S : Nat} {l l' : List (Nat × Nat)} (h : l.Perm l') (P : Pot v S l) : Pot v S l' := by
  obtain ⟨h1, h2, h3⟩ := P
  refine ⟨fun p hp => h1 p (h.mem_iff.mpr hp), by rw [← h.length_eq]; exact h2, ?_⟩
  rw [← h.length_eq, ← tau_perm h, ← es_perm h]
  exact h3.imp id fun ⟨a, b, c⟩ => ⟨a, fun p hp => b p (h.mem_iff.mpr hp), c⟩
theorem lin {c' b' c b S S' e E E' x y : Nat} (h1 : S' ≤ x * S + e) (h2 : E' ≤ E + y * S) (h3 : x * c' + y * b' ≤ c) (h4 : e = 0 ∨ c' ≤ b) (h5 : b' ≤ b) : c' * S' + b' * E' ≤ c * S + b * (e + E) := by
  have a1 : c' * S' ≤ c' * (x * S + e) := Nat.mul_le_mul_left _ h1
  have a2 : b' * E' ≤ b' * (E + y * S) := Nat.mul_le_mul_left _ h2
  rw [Nat.mul_add, ← Nat.mul_assoc, Nat.mul_comm c' x] at a1
  rw [Nat.mul_add, ← Nat.mul_assoc, Nat.mul_comm b' y] at a2
  have a3 : x * c' * S + y * b' * S ≤ c * S := by rw [← Nat.add_mul]; exact Nat.mul_le_mul_right _ h3
  have a4 : c' * e ≤ b * e := by
    rcases h4 with rfl | h4
    · exact Nat.le_refl _
    · exact Nat.mul_le_mul_right _ h4
  have a5 : b' * E ≤ b * E := Nat.mul_le_mul_right _ h5
  rw [Nat.mul_add]
  omega
theorem pow2 (v x : Nat) : 2 ^ (v + 1) * x = 2 ^ v * (2 * x) := by rw [Nat.pow_succ, Nat.mul_assoc]
theorem up2 {v x y M : Nat} (h : x ≤ y) (h2 : 2 ^ v * y ≤ M) : 2 ^ v * x ≤ M := Nat.le_trans (Nat.mul_le_mul_left _ h) h2
theorem Pot.core {v S w : Nat} {l : List (Nat × Nat)} (P : Pot (v + 1) S l) (hw : w ≤ S) : Pot v (S + w) l := by
  obtain ⟨h1, h2, h3⟩ := P
  refine ⟨h1, h2, ?_⟩
  rcases h3 with h3 | ⟨rfl, a, b, h3⟩
  · left
    rw [pow2] at h3
    refine up2 ?_ h3
    have a1 : cT l.length (tau l) * (S + w) ≤ cT l.length (tau l) * (2 * S) := Nat.mul_le_mul_left _ (by omega)
    rw [Nat.mul_left_comm] at a1
    omega
  · right
    rw [pow2] at h3
    exact ⟨by omega, a, b, up2 (by omega) h3⟩
theorem Pot.read {v S w dd e : Nat} {l : List (Nat × Nat)} (P : Pot v S ((dd, e) :: l)) (hw : w ≤ S) : Pot v (tk S dd (e + w) l).1 (tk S dd (e + w) l).2 := by
  obtain ⟨h1, h2, h3⟩ := P
  have hd : dd ≤ 3 := h1 _ List.mem_cons_self
  have h1' : ∀ p ∈ l, p.1 ≤ 3 := fun p hp => h1 p (List.mem_cons_of_mem _ hp)
  obtain ⟨t1, t2⟩ := tau_len h1'
  rw [tau_cons, es_cons, List.length_cons] at h3
  rw [List.length_cons] at h2
  dsimp only at h3
  cases dd with
  | zero =>
    show Pot v (S + (e + w)) l
    refine ⟨h1', by omega, ?_⟩
    have f := F2 l.length (by omega) (tau l) (by omega) t1 t2
    rcases h3 with h3 | ⟨rfl, a, b, h3⟩
    · left
      refine up2 ?_ h3
      rw [show 0 + 1 + tau l = tau l + 1 by omega]
      exact lin (x := 2) (y := 0) (by omega) (by omega) (by omega) (.inr f.2.1) f.2.2
    · left
      have el := es_le fun p hp => a p (List.mem_cons_of_mem _ hp)
      have e1 : e ≤ 1 := a _ List.mem_cons_self
      have l3 : l.length = 3 := by omega
      rw [l3] at t1 t2 el ⊢
      have f7 := (F7 (tau l) (by omega) t1 t2).1
      rw [show 0 + 1 + tau l = tau l + 1 by omega] at h3
      refine up2 ?_ h3
      have a1 : cT 3 (tau l) * (0 + (e + w)) ≤ cT 3 (tau l) * 1 := Nat.mul_le_mul_left _ (by omega)
      have a2 : bT 3 (tau l) * es l ≤ bT 3 (tau l) * 3 := Nat.mul_le_mul_left _ el
      omega
  | succ dd =>
    show Pot v S ((dd, e + w) :: l)
    have h1'' : ∀ p ∈ (dd, e + w) :: l, p.1 ≤ 3 := fun p hp => by
      rcases List.mem_cons.mp hp with rfl | hp
      · show dd ≤ 3
        omega
      · exact h1' p hp
    refine ⟨h1'', by rw [List.length_cons]; exact h2, ?_⟩
    rw [tau_cons, es_cons, List.length_cons]
    dsimp only
    rw [show dd + 1 + 1 + tau l = (dd + 1 + tau l) + 1 by omega] at h3
    rcases h3 with h3 | ⟨rfl, a, b, h3⟩
    · left
      have f := F1 (l.length + 1) (by omega) (dd + 1 + tau l) (by omega) (by omega) (by omega)
      refine up2 ?_ h3
      have := lin (S := S) (S' := S) (e := 0) (E := e + es l) (E' := e + w + es l) (x := 1) (y := 1) (by omega) (by omega) (by omega) (.inl rfl) f.2 (c := cT (l.length + 1) (dd + 1 + tau l + 1)) (c' := cT (l.length + 1) (dd + 1 + tau l))
      rw [Nat.zero_add] at this
      exact this
    · right
      have w0 : w = 0 := by omega
      subst w0
      refine ⟨rfl, fun p hp => ?_, b, up2 (F6 (dd + 1 + tau l) (by omega) (by omega) (by omega)) h3⟩
      rcases List.mem_cons.mp hp with rfl | hp
      · exact a (dd + 1, e) List.mem_cons_self
      · exact a p (List.mem_cons_of_mem _ hp)
theorem Pot.pair {v S w d1 e1 d2 e2 : Nat} {l r2 : List (Nat × Nat)} (P : Pot v S ((d1, e1) :: l)) (hp : (tk S d1 e1 l).2.Perm ((d2, e2) :: r2)) (hw : w ≤ S) :
    Pot (v + 1) (tk (tk S d1 e1 l).1 d2 (e2 + w) r2).1 (tk (tk S d1 e1 l).1 d2 (e2 + w) r2).2 := by
  obtain ⟨h1, h2, h3⟩ := P
  have hd : d1 ≤ 3 := h1 _ List.mem_cons_self
  have h1' : ∀ p ∈ l, p.1 ≤ 3 := fun p hp => h1 p (List.mem_cons_of_mem _ hp)
  rw [tau_cons, es_cons, List.length_cons] at h3
  rw [List.length_cons] at h2
  dsimp only at h3
  cases d1 with
  | zero =>
    have hp : l.Perm ((d2, e2) :: r2) := hp
    have ep := es_perm hp
    have tp := tau_perm hp
    have lp := hp.length_eq
    rw [es_cons] at ep
    rw [tau_cons] at tp
    rw [List.length_cons] at lp
    dsimp only at ep tp
    have hr : ∀ p ∈ r2, p.1 ≤ 3 := fun p h => h1' p (hp.mem_iff.mpr (List.mem_cons_of_mem _ h))
    have hd2 : d2 ≤ 3 := h1' _ (hp.mem_iff.mpr List.mem_cons_self)
    obtain ⟨t1, t2⟩ := tau_len hr
    rw [ep, tp, lp] at h3
    cases d2 with
    | zero =>
      show Pot (v + 1) (S + e1 + (e2 + w)) r2
      refine ⟨hr, by omega, ?_⟩
      left
      rw [pow2]
      have f := F5 r2.length (by omega) (tau r2) (by omega) t1 t2
      rw [show 0 + 1 + (0 + 1 + tau r2) = tau r2 + 2 by omega] at h3
      rcases h3 with h3 | ⟨rfl, a, b, h3⟩
      · refine up2 ?_ h3
        have := lin (S := S) (S' := S + e1 + (e2 + w)) (e := e1 + e2) (E := es r2) (E' := es r2) (x := 2) (y := 0) (by omega) (by omega) (by omega) (.inr f.2.1) f.2.2 (c := cT (r2.length + 2) (tau r2 + 2)) (c' := 2 * cT r2.length (tau r2)) (b' := 2 * bT r2.length (tau r2))
        rw [Nat.mul_assoc, Nat.mul_assoc, ← Nat.mul_add] at this
        rw [show e1 + (e2 + es r2) = e1 + e2 + es r2 by omega]
        exact this
      · have el := es_le fun p h => a p (List.mem_cons_of_mem _ (hp.mem_iff.mpr (List.mem_cons_of_mem _ h)))
        have q1 : e1 ≤ 1 := a _ List.mem_cons_self
        have q2 : e2 ≤ 1 := a (0, e2) (List.mem_cons_of_mem _ (hp.mem_iff.mpr List.mem_cons_self))
        have l3 : r2.length = 2 := by omega
        rw [l3] at t1 t2 el ⊢
        refine up2 ?_ h3
        have f9 := F9 (tau r2) (by omega) t1 t2
        have a1 : cT 2 (tau r2) * (0 + e1 + (e2 + w)) ≤ cT 2 (tau r2) * 2 := Nat.mul_le_mul_left _ (by omega)
        have a2 : bT 2 (tau r2) * es r2 ≤ bT 2 (tau r2) * 2 := Nat.mul_le_mul_left _ el
        omega
    | succ d2 =>
      show Pot (v + 1) (S + e1) ((d2, e2 + w) :: r2)
      have hr' : ∀ p ∈ (d2, e2 + w) :: r2, p.1 ≤ 3 := fun p h => by
        rcases List.mem_cons.mp h with rfl | h
        · show d2 ≤ 3
          omega
        · exact hr p h
      refine ⟨hr', by rw [List.length_cons]; omega, ?_⟩
      left
      rw [pow2, tau_cons, es_cons, List.length_cons]
      dsimp only
      rw [show 0 + 1 + (d2 + 1 + 1 + tau r2) = (d2 + 1 + tau r2) + 2 by omega] at h3
      have f := F4 (r2.length + 1) (by omega) (d2 + 1 + tau r2) (by omega) (by omega) (by omega)
      rcases h3 with h3 | ⟨rfl, a, b, h3⟩
      · refine up2 ?_ h3
        have := lin (S := S) (S' := S + e1) (e := e1) (E := e2 + es r2) (E' := e2 + w + es r2) (x := 1) (y := 1) (by omega) (by omega) (by omega) (.inr f.2.2.1) f.2.2.2 (c := cT (r2.length + 1 + 1) (d2 + 1 + tau r2 + 2)) (c' := 2 * cT (r2.length + 1) (d2 + 1 + tau r2)) (b' := 2 * bT (r2.length + 1) (d2 + 1 + tau r2))
        rw [Nat.mul_assoc, Nat.mul_assoc, ← Nat.mul_add] at this
        exact this
      · have el := es_le fun p h => a p (List.mem_cons_of_mem _ (hp.mem_iff.mpr (List.mem_cons_of_mem _ h)))
        have q1 : e1 ≤ 1 := a _ List.mem_cons_self
        have q2 : e2 ≤ 1 := a (d2 + 1, e2) (List.mem_cons_of_mem _ (hp.mem_iff.mpr List.mem_cons_self))
        have l3 : r2.length = 2 := by omega
        rw [l3] at t1 t2 el ⊢
        refine up2 ?_ h3
        have f7 := (F7 (d2 + 1 + tau r2) (by omega) (by omega) (by omega)).2
        have a1 : cT 3 (d2 + 1 + tau r2) * (0 + e1) ≤ cT 3 (d2 + 1 + tau r2) * 1 := Nat.mul_le_mul_left _ (by omega)
        have a2 : bT 3 (d2 + 1 + tau r2) * (e2 + w + es r2) ≤ bT 3 (d2 + 1 + tau r2) * 3 := Nat.mul_le_mul_left _ (by omega)
        show 2 * (cT 3 (d2 + 1 + tau r2) * (0 + e1) + bT 3 (d2 + 1 + tau r2) * (e2 + w + es r2)) ≤ _
        omega
  | succ d1 =>
    have hp : ((d1, e1) :: l).Perm ((d2, e2) :: r2) := hp
    have ep := es_perm hp
    have tp := tau_perm hp
    have lp := hp.length_eq
    rw [es_cons, es_cons] at ep
    rw [tau_cons, tau_cons] at tp
    rw [List.length_cons, List.length_cons] at lp
    dsimp only at ep tp
    have h1'' : ∀ p ∈ (d1, e1) :: l, p.1 ≤ 3 := fun p hp => by
      rcases List.mem_cons.mp hp with rfl | hp
      · show d1 ≤ 3
        omega
      · exact h1' p hp
    have hr : ∀ p ∈ r2, p.1 ≤ 3 := fun p h => h1'' p (hp.mem_iff.mpr (List.mem_cons_of_mem _ h))
    have hd2 : d2 ≤ 3 := h1'' _ (hp.mem_iff.mpr List.mem_cons_self)
    obtain ⟨t1, t2⟩ := tau_len hr
    rw [ep, lp, show d1 + 1 + 1 + tau l = d2 + 1 + tau r2 + 1 by omega] at h3
    have hs := (tau_len h1).2
    rw [tau_cons, List.length_cons] at hs
    dsimp only at hs
    have a2up : (∀ p ∈ (d1 + 1, e1) :: l, p.2 ≤ 1) → ∀ p ∈ (d2, e2) :: r2, p.2 ≤ 1 := fun a p h => by
      rcases List.mem_cons.mp (hp.mem_iff.mpr h) with rfl | h
      · exact a (d1 + 1, e1) List.mem_cons_self
      · exact a p (List.mem_cons_of_mem _ h)
    cases d2 with
    | zero =>
      show Pot (v + 1) (S + (e2 + w)) r2
      refine ⟨hr, by omega, ?_⟩
      left
      rw [pow2]
      rw [show 0 + 1 + tau r2 + 1 = tau r2 + 2 by omega] at h3
      have f := F4 r2.length (by omega) (tau r2) (by omega) t1 t2
      rcases h3 with h3 | ⟨rfl, a, b, h3⟩
      · refine up2 ?_ h3
        have := lin (S := S) (S' := S + (e2 + w)) (e := e2) (E := es r2) (E' := es r2) (x := 2) (y := 0) (by omega) (by omega) (by omega) (.inr f.2.2.1) f.2.2.2 (c := cT (r2.length + 1) (tau r2 + 2)) (c' := 2 * cT r2.length (tau r2)) (b' := 2 * bT r2.length (tau r2))
        rw [Nat.mul_assoc, Nat.mul_assoc, ← Nat.mul_add] at this
        exact this
      · have a := a2up a
        have el := es_le fun p h => a p (List.mem_cons_of_mem _ h)
        have q2 : e2 ≤ 1 := a (0, e2) List.mem_cons_self
        have l3 : r2.length = 3 := by omega
        rw [l3] at t1 t2 el ⊢
        refine up2 ?_ h3
        have f7 := (F7 (tau r2) (by omega) (by omega) (by omega)).2
        have a1 : cT 3 (tau r2) * (0 + (e2 + w)) ≤ cT 3 (tau r2) * 1 := Nat.mul_le_mul_left _ (by omega)
        have a2 : bT 3 (tau r2) * es r2 ≤ bT 3 (tau r2) * 3 := Nat.mul_le_mul_left _ (by omega)
        omega
    | succ d2 =>
      show Pot (v + 1) S ((d2, e2 + w) :: r2)
      have hr' : ∀ p ∈ (d2, e2 + w) :: r2, p.1 ≤ 3 := fun p h => by
        rcases List.mem_cons.mp h with rfl | h
        · show d2 ≤ 3
          omega
        · exact hr p h
      refine ⟨hr', by rw [List.length_cons]; omega, ?_⟩
      rw [pow2, pow2, tau_cons, es_cons, List.length_cons]
      dsimp only
      rw [show d2 + 1 + 1 + tau r2 + 1 = (d2 + 1 + tau r2) + 2 by omega] at h3
      rcases h3 with h3 | ⟨rfl, a, b, h3⟩
      · left
        have f := F3 (r2.length + 1) (by omega) (d2 + 1 + tau r2) (by omega) (by omega) (by omega)
        refine up2 ?_ h3
        have := lin (S := S) (S' := S) (e := 0) (E := e2 + es r2) (E' := e2 + w + es r2) (x := 1) (y := 1) (by omega) (by omega) (by omega) (.inl rfl) f.2 (c := cT (r2.length + 1) (d2 + 1 + tau r2 + 2)) (c' := 2 * cT (r2.length + 1) (d2 + 1 + tau r2)) (b' := 2 * bT (r2.length + 1) (d2 + 1 + tau r2))
        rw [Nat.mul_assoc, Nat.mul_assoc, ← Nat.mul_add, Nat.zero_add] at this
        exact this
      · right
        have w0 : w = 0 := by omega
        subst w0
        have a := a2up a
        refine ⟨rfl, fun p hp => ?_, by omega, up2 (F8 (d2 + 1 + tau r2) (by omega) (by omega) (by omega)) h3⟩
        rcases List.mem_cons.mp hp with rfl | hp
        · exact a (d2 + 1, e2) List.mem_cons_self
        · exact a p (List.mem_cons_of_mem _ hp)
end Gw

/-! ### four short words glued: the sizes at the end. Plain. -/
namespace Gw
theorem rms_len : ∀ ps : List Pt, (rms ps).length = tau (sgP ps)
  | [] => rfl
  | P :: ps => by
    show (P.rooms ++ rms ps).length = P.bs.length + 1 + tau (sgP ps)
    rw [List.length_append, rms_len ps]
    rfl
section
variable {K N S H : Nat} {D : List Nat} {cs : List T4} {ps : List Pt} {L : LL} {W : Nat → Nat} {ts : List T4} {l : List (Nat × Nat)} {d : Nat}
theorem Cr.len (I : Cr K N S H D cs ps L W) (hN : 0 < N) : D.length + tau (sgP ps) + 1 ≤ N := by
  have h := nodup_len (0 :: (D ++ rms ps)) (List.range N) (List.nodup_cons.mpr ⟨fun z => (I.dead 0 z).1 rfl, I.nd⟩) (fun x hx => by
    rcases List.mem_cons.mp hx with rfl | hx
    · exact List.mem_range.mpr hN
    · exact List.mem_range.mpr (I.dead x hx).2)
  rw [List.length_cons, List.length_append, rms_len, List.length_range] at h
  exact h
theorem Ss.len (h : Ss K N S l d H ts) (hN : 0 < N) : d + tau l + 1 ≤ N := by
  obtain ⟨D, cs, ps, L, W, Z, I, _, _, _, h1, rfl⟩ := h
  rw [← tau_perm h1]
  exact I.len hN
theorem Pot.sum {v : Nat} (P : Pot v S l) : S + es l ≤ 13824 := by
  obtain ⟨h1, h2, h3⟩ := P
  obtain ⟨t1, t2⟩ := tau_len h1
  have f := F10 l.length (by omega) (tau l) (by omega) t1 t2
  rcases h3 with h3 | ⟨rfl, a, b, _⟩
  · have p : 1 ≤ 2 ^ v := Nat.pow_pos (by decide)
    have a1 : 1 * S ≤ cT l.length (tau l) * S := Nat.mul_le_mul_right _ (by omega)
    have a2 : 1 * es l ≤ bT l.length (tau l) * es l := Nat.mul_le_mul_right _ (by omega)
    have a3 := Nat.mul_le_mul_right (cT l.length (tau l) * S + bT l.length (tau l) * es l) p
    omega
  · have := es_le a
    omega
theorem Ss.run (hK : K ≤ 26) (hN : 0 < N) (hN2 : N ≤ 17) : ∀ (n S : Nat) (l : List (Nat × Nat)) (d H : Nat) (ts : List T4), Ss K N S l d H ts → Pot (N - 1 - d - tau l) S l → H ≤ 1 + 41472 * d →
    Fine n ts ∧ ∃ S' l' d' H', Ss K N S' l' d' H' (glueN n ts) ∧ Pot (N - 1 - d' - tau l') S' l' ∧ H' ≤ 1 + 41472 * d'
  | 0, S, l, d, H, ts, h, hp, hH => ⟨trivial, S, l, d, H, h, hp, hH⟩
  | n + 1, S, l, d, H, ts, h, hp, hH => by
    have len := h.len hN
    have sm := hp.sum
    cases g : pairOf ts with
    | none =>
      refine ⟨(fun o t e z => by rw [g] at z; cases z), S, l, d, H, ?_, hp, hH⟩
      unfold glueN
      rw [g]
      exact h
    | some p =>
      obtain ⟨o, t, e⟩ := p
      obtain ⟨h1, h2⟩ := h.step hK g (by omega)
      have key : Fine n (glueStep ts o t e) ∧ ∃ S' l' d' H', Ss K N S' l' d' H' (glueN n (glueStep ts o t e)) ∧ Pot (N - 1 - d' - tau l') S' l' ∧ H' ≤ 1 + 41472 * d' := by
        rcases h2 with h2 | ⟨w, hw, h2 | ⟨dd, e1, rr, hl, h2⟩ | ⟨d1, e1, r1, d2, e2, r2, hl, hl2, h2⟩⟩
        · exact Ss.run hK hN hN2 n _ _ _ _ _ h2 hp hH
        · have len2 := h2.len hN
          refine Ss.run hK hN hN2 n _ _ _ _ _ h2 ?_ (by omega)
          refine Pot.core ?_ hw
          rw [show N - 1 - (d + 1) - tau l + 1 = N - 1 - d - tau l by omega]
          exact hp
        · have len2 := h2.len hN
          refine Ss.run hK hN hN2 n _ _ _ _ _ h2 ?_ (by omega)
          have tp := tau_perm hl
          rw [tau_cons] at tp
          dsimp only at tp
          have ht : tau (tk S dd (e1 + w) rr).2 + 1 = tau l := by
            cases dd with
            | zero =>
              show tau rr + 1 = _
              omega
            | succ dd =>
              show dd + 1 + tau rr + 1 = _
              omega
          rw [show N - 1 - (d + 1) - tau (tk S dd (e1 + w) rr).2 = N - 1 - d - tau l by omega]
          exact (hp.perm hl).read hw
        · have len2 := h2.len hN
          refine Ss.run hK hN hN2 n _ _ _ _ _ h2 ?_ (by omega)
          have tp := tau_perm hl
          have tp2 := tau_perm hl2
          rw [tau_cons] at tp tp2
          dsimp only at tp tp2
          have ht1 : tau (tk S d1 e1 r1).2 + 1 = tau l := by
            cases d1 with
            | zero =>
              show tau r1 + 1 = _
              omega
            | succ dd =>
              show dd + 1 + tau r1 + 1 = _
              omega
          have ht2 : tau (tk (tk S d1 e1 r1).1 d2 (e2 + w) r2).2 + 2 = tau l := by
            cases d2 with
            | zero =>
              show tau r2 + 2 = _
              omega
            | succ dd =>
              show dd + 1 + tau r2 + 2 = _
              omega
          rw [show N - 1 - (d + 1) - tau (tk (tk S d1 e1 r1).1 d2 (e2 + w) r2).2 = (N - 1 - d - tau l) + 1 by omega]
          exact (hp.perm hl).pair hl2 hw
      refine ⟨fun o' t' e' z => ?_, ?_⟩
      · rw [g] at z
        cases z
        exact ⟨h1, key.1⟩
      · unfold glueN
        rw [g]
        exact key.2
theorem Cr.finish (hK : K ≤ 26) {M : Nat} : ∀ (k : Nat) (ps : List Pt) (cs : List T4) (S H : Nat) (L : LL) (W : Nat → Nat), (rms ps).length = k → es (sgP ps) ≤ M → Cr K N S H D cs ps L W →
    ∃ S' cs' L' W', Cr K N S' (H + k * M) D cs' [] L' W' ∧ cs'.Perm (cs ++ tys ps) ∧ S' ≤ S + es (sgP ps)
  | k, [], cs, S, H, L, W, hk, _, I => by
    refine ⟨S, cs, L, W, I.up (Nat.le_add_right _ _), ?_, Nat.le_add_right _ _⟩
    show cs.Perm (cs ++ [])
    rw [List.append_nil]
  | 0, P :: ps, cs, S, H, L, W, hk, _, I => by
    have : (P.rooms ++ rms ps).length = 0 := hk
    rw [List.length_append] at this
    have h2 : P.rooms.length = P.bs.length + 1 := rfl
    omega
  | k + 1, P :: ps, cs, S, H, L, W, hk, hM, I => by
    have hk : (P.rooms ++ rms ps).length = k + 1 := hk
    rw [List.length_append] at hk
    have h2 : P.rooms.length = P.bs.length + 1 := rfl
    have ee : es (sgP (P :: ps)) = P.e + es (sgP ps) := rfl
    obtain ⟨S1, cs1, ps1, L1, W1, J, _, _, _, _, q, out⟩ := I.promote hK
    have out2 : (rms ps1).length = k ∧ S1 + es (sgP ps1) = S + (P.e + es (sgP ps)) ∧ es (sgP ps1) ≤ P.e + es (sgP ps) := by
      rcases out with ⟨eb, eS, ep⟩ | ⟨P', hl, hPe, eS, ep, er⟩
      · rw [eb] at h2
        have h2 : P.rooms.length = 1 := h2
        rw [ep]
        refine ⟨by omega, by omega, by omega⟩
      · rw [ep]
        have e1 : es (sgP (P' :: ps)) = P'.e + es (sgP ps) := rfl
        have e2 : (rms (P' :: ps)).length = P'.rooms.length + (rms ps).length := by
          show (P'.rooms ++ rms ps).length = _
          rw [List.length_append]
        have e3 : P'.rooms.length = P'.bs.length + 1 := rfl
        rw [e1, e2]
        refine ⟨by omega, by omega, by omega⟩
    obtain ⟨S', cs', L', W', J2, q2, hS⟩ := Cr.finish hK (M := M) k ps1 cs1 S1 (H + P.e) L1 W1 out2.1 (by omega) J
    refine ⟨S', cs', L', W', J2.up ?_, q2.trans q, by omega⟩
    rw [Nat.succ_mul]
    omega
/-! the rings at first -/
theorem tieT_go {r c f : Nat} {m : List Int} {w : List Nat} (alw : AL w) (h : Row (dirN c m) w) : Go (tieT r c f m) r w f := by
  rcases tieT_rooms r c f m with ⟨e, hs⟩ | ⟨e, hs⟩
  · rw [e]
    unfold dirN at h
    rw [hs, if_pos rfl] at h
    exact ⟨alw, .inl ⟨rfl, rfl, h⟩⟩
  · rw [e]
    have : behindN (dirN c m) = m := by
      have := dirN_dirN c m
      unfold dirN at this ⊢
      rw [hs] at this ⊢
      exact this
    have h2 := h.back
    rw [this] at h2
    exact ⟨alw, .inr ⟨rfl, rfl, h2⟩⟩
theorem dirN_nil (c : Nat) : dirN c [] = [] := by unfold dirN; split <;> rfl
theorem seg_mid : ∀ (w : List Nat) (c f : Nat), Mid (List.range' (f + 1) w.length) f (segT f [] (f + 1) (c :: w)) 0 []
  | [], c, f => ⟨tieT f c 0 [], rfl, tieT_go AL.nil (by rw [dirN_nil]; exact Row.nil)⟩
  | d :: w, c, f => ⟨tieT f c (f + 1) [], segT (f + 1) [] (f + 1 + 1) (d :: w), rfl, tieT_go AL.nil (by rw [dirN_nil]; exact Row.nil), seg_mid w d (f + 1)⟩
/-- the words at first: one for each word of one letter -/
def L0 (K s : Nat) : LL := fun r a => r = 0 ∧ (a = [] ∨ (2 ≤ s ∧ ∃ k : Nat, k < 26 ∧ k + 1 ≠ K ∧ a = [eN ((k : Int) + 1)]))
theorem nz_num {k : Nat} (h : k < 26) (hk : k + 1 ≠ K) (hK : K ≤ 26) : nz K [eN ((k : Int) + 1)] = 1 := by
  rw [nz_one (eN_L (first_R h))]
  have e : eN ((k : Int) + 1) = 97 + k := by
    unfold eN
    rw [if_pos (by omega)]
    omega
  rw [e]
  unfold wtK
  rw [if_neg (by omega)]
theorem L0_al {s : Nat} (r : Nat) (a : List Nat) (h : L0 K s r a) : AL a := by
  obtain ⟨_, rfl | ⟨_, k, hk, _, rfl⟩⟩ := h
  · exact AL.nil
  · exact AL.cons (eN_L (first_R hk)) AL.nil
theorem L0_nz {s : Nat} (hK : K ≤ 26) (r : Nat) (a : List Nat) (h : L0 K s r a) : nz K a ≤ 1 ∧ (s < 2 → a = []) := by
  obtain ⟨_, rfl | ⟨h2, k, hk, h3, rfl⟩⟩ := h
  · exact ⟨Nat.zero_le _, fun _ => rfl⟩
  · exact ⟨by rw [nz_num hk h3 hK]; exact Nat.le_refl _, fun z => by omega⟩
theorem rings_cr (hK : K ≤ 26) {s : Nat} : ∀ ws : List (List Nat), ws.length ≤ 26 → (ws.length < K ∨ K = 0) → (∀ w ∈ ws, AL w ∧ Red w ∧ (w.length = 1 → 2 ≤ s)) →
    ∃ cs ps, Cr K (freshOf ws) s 1 [] cs ps (L0 K s) (setF (fun _ => 0) 0 s) ∧ (rings ws).Perm (cs ++ tys ps) ∧ Thin [0] (rings ws) ∧ (sgP ps).Perm ((ws.filter fun w => decide (2 ≤ w.length)).map fun w => (w.length - 2, 1)) := by
  refine snoc_ind ?_ ?_
  · intro _ _ _
    refine ⟨[], [], ⟨L0_al, fun r a h => (L0_nz hK r a h).1, ⟨rfl, .inl rfl⟩, ?_, ?_, (fun t h => by cases h), (fun P h => by cases h), List.nodup_nil, (fun x h => by cases h), ?_⟩, List.Perm.refl _, .nil, List.Perm.refl _⟩
    · intro r a b ha hb
      have e0 : r = 0 := ha.1
      subst e0
      obtain ⟨a1, a2⟩ := L0_nz hK _ _ ha
      obtain ⟨b1, b2⟩ := L0_nz hK _ _ hb
      have ala := L0_al _ _ ha
      have alb := L0_al _ _ hb
      have := nz_app (K := K) ala.rv alb
      rw [nz_rv hK ala] at this
      show dw K a b ≤ setF (fun _ => 0) 0 s 0
      unfold setF
      rw [if_pos rfl]
      by_cases h : s < 2
      · rw [a2 h, b2 h]
        exact Nat.zero_le _
      · unfold dw
        omega
    · intro r a h
      have e0 : r = 0 := h.1
      subst e0
      exact ⟨by decide, by simp, by simp⟩
    · show sumT 0 _ + setF (fun _ => 0) 0 s 0 ≤ s
      unfold setF
      rw [if_pos rfl]
      show 0 + s ≤ s
      omega
  · intro ws w ih hl hk hw
    rw [List.length_append, List.length_singleton] at hl hk
    obtain ⟨cs, ps, I, pm, T, hs⟩ := ih (by omega) (by omega) fun v hv => hw v (List.mem_append_left _ hv)
    obtain ⟨alw, redw, one⟩ := hw w (by simp)
    have hfp := freshOf_pos ws
    rw [rings_snoc, freshOf_snoc, List.filter_append]
    have hk26 : ws.length < 26 := by omega
    have hR := first_R hk26
    have hL := eN_L hR
    have h1 : nz K [eN ((ws.length : Int) + 1)] = 1 := nz_num hk26 (by omega) hK
    obtain ⟨f, hf⟩ : ∃ f, f = freshOf ws := ⟨_, rfl⟩
    rw [← hf] at I hfp ⊢
    have below : Below f (rings ws) := by rw [hf]; exact rings_below ws
    have sumk : ∀ n, sumT (f + n) (setF (fun _ => 0) 0 s) = sumT f (setF (fun _ => 0) 0 s) := fun n => by
      induction n with
      | zero => rfl
      | succ n ih =>
        show sumT (f + n) _ + setF (fun _ => 0) 0 s (f + n) = _
        rw [ih]
        unfold setF
        rw [if_neg (by omega)]
        rfl
    cases w with
    | nil => exact ⟨cs, ps, by simpa [segT] using I, by simpa [segT] using pm, by simpa [segT] using T, by simpa using hs⟩
    | cons c w =>
    cases w with
    | nil =>
      have s2 : 2 ≤ s := one rfl
      refine ⟨tieT 0 c 0 (dirN c [(ws.length : Int) + 1]) :: cs, ps, ?_, ?_, ?_, ?_⟩
      · show Cr K (f + 0) s 1 [] _ ps _ _
        refine ⟨I.al, I.near, I.zero, I.dist, I.lt, fun t ht => ?_, I.path, I.nd, I.dead, I.sum⟩
        rcases List.mem_cons.mp ht with rfl | ht
        · refine (tieT_go (r := 0) (f := 0) (c := c) (m := dirN c [(ws.length : Int) + 1]) (w := [eN ((ws.length : Int) + 1)] ++ rv []) (by rw [rv_nil, List.append_nil]; exact AL.cons hL AL.nil) ?_).ct ?_ ?_ L0_al
          · rw [dirN_dirN, rv_nil, List.append_nil]
            exact Row.one hR
          · exact ⟨rfl, .inr ⟨s2, ws.length, hk26, by omega, rfl⟩⟩
          · exact ⟨rfl, .inl rfl⟩
        · exact I.core t ht
      · show (rings ws ++ [tieT 0 c 0 (dirN c [(ws.length : Int) + 1])]).Perm _
        exact (List.perm_append_singleton _ _).trans (pm.cons _)
      · show Thin [0] (rings ws ++ [tieT 0 c 0 (dirN c [(ws.length : Int) + 1])])
        refine List.pairwise_append.mpr ⟨T, List.pairwise_singleton _ _, fun a ha b hb => ?_⟩
        rw [List.mem_singleton.mp hb]
        rcases tieT_rooms 0 c 0 (dirN c [(ws.length : Int) + 1]) with ⟨e, _⟩ | ⟨e, _⟩ <;> rw [e] <;> exact ⟨fun z _ => by rw [List.mem_singleton]; exact z, fun z _ => by rw [List.mem_singleton]; exact z⟩
      · simpa using hs
    | cons c2 w =>
      have hsg : segT 0 (dirN ((c :: c2 :: w).headD 0) [(ws.length : Int) + 1]) f (c :: c2 :: w) = tieT 0 c f (dirN c [(ws.length : Int) + 1]) :: segT f [] (f + 1) (c2 :: w) := rfl
      have hlen : (c :: c2 :: w).length - 1 = w.length + 1 := rfl
      have ths := seg_thin (c :: c2 :: w) 0 (dirN ((c :: c2 :: w).headD 0) [(ws.length : Int) + 1]) f alw redw hfp hfp
      have rms1 := seg_rooms (c :: c2 :: w) 0 (dirN ((c :: c2 :: w).headD 0) [(ws.length : Int) + 1]) f
      rw [hsg] at ths rms1 ⊢
      rw [hlen] at rms1 ⊢
      have hP : ∃ P : Pt, P = ⟨tieT 0 c f (dirN c [(ws.length : Int) + 1]), f, List.range' (f + 1) w.length, segT f [] (f + 1) (c2 :: w), 1⟩ := ⟨_, rfl⟩
      obtain ⟨P, hP⟩ := hP
      have rP : P.rooms = List.range' f (w.length + 1) := by rw [hP]; rfl
      have er : rms (P :: ps) = List.range' f (w.length + 1) ++ rms ps := by
        show P.rooms ++ rms ps = _
        rw [rP]
      have lt2 : ∀ x ∈ rms ps, x < f := fun x hx => (I.dead x (by rw [List.nil_append]; exact hx)).2
      refine ⟨cs, P :: ps, ⟨I.al, I.near, I.zero, I.dist, fun r a h => ?_, I.core, fun Q hQ => ?_, ?_, fun x hx => ?_, ?_⟩, ?_, ?_, ?_⟩
      · have e0 : r = 0 := h.1
        obtain ⟨_, _, a3⟩ := I.lt r a h
        refine ⟨by omega, by simp, fun z => ?_⟩
        rw [er] at z
        rcases List.mem_append.mp z with z | z
        · have := (List.mem_range'_1.mp z).1
          omega
        · exact a3 z
      · rcases List.mem_cons.mp hQ with rfl | hQ
        · rw [hP]
          refine ⟨0, 0, [], [eN ((ws.length : Int) + 1)], [], [], ⟨rfl, .inl rfl⟩, ⟨rfl, .inl rfl⟩, AL.cons hL AL.nil, AL.nil, ?_, ?_, seg_mid w c2 f⟩
          · rw [h1, nz_nil]
            exact Nat.le_refl _
          · exact tieT_go (AL.cons hL AL.nil) (by rw [dirN_dirN]; exact Row.one hR)
        · exact I.path Q hQ
      · rw [List.nil_append, er]
        have nd := I.nd
        rw [List.nil_append] at nd
        refine List.nodup_append.mpr ⟨List.nodup_range', nd, fun a ha b hb => ?_⟩
        have := (List.mem_range'_1.mp ha).1
        have := lt2 b hb
        omega
      · rw [List.nil_append, er] at hx
        rcases List.mem_append.mp hx with hx | hx
        · have := List.mem_range'_1.mp hx
          omega
        · have := lt2 x hx
          have := (I.dead x (by rw [List.nil_append]; exact hx)).1
          omega
      · rw [sumk]
        exact I.sum
      · have et : tys (P :: ps) = tieT 0 c f (dirN c [(ws.length : Int) + 1]) :: segT f [] (f + 1) (c2 :: w) ++ tys ps := by
          show P.ties ++ tys ps = _
          rw [hP]
          rfl
        rw [et]
        refine (pm.append_right _).trans ?_
        rw [List.append_assoc]
        exact List.perm_append_comm.append_left cs
      · refine List.pairwise_append.mpr ⟨T, ths, fun a ha b hb => ?_⟩
        have h1 := below a ha
        have h2 := rms1 b hb
        exact ⟨fun e _ => by rw [List.mem_singleton]; omega, fun e _ => by rw [List.mem_singleton]; omega⟩
      · have e1 : sgP (P :: ps) = (w.length, 1) :: sgP ps := by
          show (P.bs.length, P.e) :: sgP ps = _
          rw [hP]
          show ((List.range' (f + 1) w.length).length, 1) :: sgP ps = _
          rw [List.length_range']
        have e2 : ([c :: c2 :: w].filter fun w => decide (2 ≤ w.length)).map (fun w => (w.length - 2, 1)) = [(w.length, 1)] := by
          rw [List.filter_cons, if_pos (by rw [decide_eq_true_eq]; show 2 ≤ w.length + 1 + 1; omega)]
          rfl
        rw [e1, List.map_append, e2]
        exact (hs.cons _).trans (List.perm_append_singleton _ _).symm
end
end Gw

/-! ### short words glued: the sizes; a word that is read round: what is beside the words of the rooms. Plain. -/
namespace Gw
/-- words at the rooms, ties between them -/
structure Lw (K N S H : Nat) (D : List Nat) (ts : List T4) (L : LL) : Prop where
  al : ∀ r a, L r a → AL a
  near : ∀ r a, L r a → nz K a ≤ H
  zero : L 0 []
  dist : ∀ r a b, L r a → L r b → dw K a b ≤ S
  lt : ∀ r a, L r a → r < N ∧ r ∉ D
  tie : ∀ t ∈ ts, CT L t
  nd : D.Nodup
  dead : ∀ x ∈ D, x ≠ 0 ∧ x < N
theorem Lw.row {K N S H : Nat} {D : List Nat} {ts : List T4} {L : LL} (I : Lw K N S H D ts L) (hK : K ≤ 26) {t : T4} (h : t ∈ ts) : t.2.2.2.length ≤ 2 * H := by
  obtain ⟨α, β, h1, h2, hr⟩ := I.tie t h
  have a1 := I.near _ _ h1
  have a2 := I.near _ _ h2
  have a3 := nz_app (K := K) (I.al _ _ h1) (I.al _ _ h2).rv
  rw [nz_rv hK (I.al _ _ h2)] at a3
  have a4 := nz_len K (α ++ rv β)
  rw [hr.len]
  omega
theorem fresh_tau : ∀ vs : List (List Nat), freshOf vs = 1 + tau ((vs.filter fun w => decide (2 ≤ w.length)).map fun w => (w.length - 2, 1)) := by
  refine snoc_ind rfl fun vs w ih => ?_
  rw [freshOf_snoc, List.filter_append, List.map_append, ih]
  have app : ∀ a b : List (Nat × Nat), tau (a ++ b) = tau a + tau b := fun a b => by
    unfold tau
    rw [List.map_append, List.sum_append]
  rw [app]
  by_cases h : 2 ≤ w.length
  · rw [List.filter_cons, if_pos (decide_eq_true h)]
    show _ = 1 + (_ + (w.length - 2 + 1 + 0))
    omega
  · rw [List.filter_cons, if_neg (by rw [decide_eq_true_eq]; exact h)]
    show _ = 1 + (_ + 0)
    omega
theorem es_ones : ∀ ws : List (List Nat), es (ws.map fun w => (w.length - 2, 1)) = ws.length
  | [] => rfl
  | w :: ws => by
    have := es_ones ws
    show 1 + es (ws.map fun w => (w.length - 2, 1)) = ws.length + 1
    omega
theorem filter_two : ∀ vs : List (List Nat), (vs.filter fun w => decide (2 ≤ w.length)).length ≤ (vs.filter fun w => !w.isEmpty).length ∧ ((∃ w ∈ vs, w.length = 1) → (vs.filter fun w => decide (2 ≤ w.length)).length + 1 ≤ (vs.filter fun w => !w.isEmpty).length)
  | [] => ⟨Nat.le_refl _, fun ⟨_, h, _⟩ => by cases h⟩
  | v :: vs => by
    obtain ⟨h1, h2⟩ := filter_two vs
    cases v with
    | nil => exact ⟨h1, fun ⟨w, hw, e⟩ => h2 ⟨w, by
        rcases List.mem_cons.mp hw with rfl | hw
        · cases e
        · exact hw, e⟩⟩
    | cons c v =>
      have e : ((c :: v) :: vs).filter (fun w => !w.isEmpty) = (c :: v) :: vs.filter (fun w => !w.isEmpty) := rfl
      rw [e, List.length_cons]
      by_cases h : 2 ≤ (c :: v).length
      · rw [List.filter_cons, if_pos (decide_eq_true h), List.length_cons]
        refine ⟨by omega, fun ⟨w, hw, ew⟩ => ?_⟩
        have := h2 ⟨w, by
          rcases List.mem_cons.mp hw with rfl | hw
          · omega
          · exact hw, ew⟩
        omega
      · rw [List.filter_cons, if_neg (by rw [decide_eq_true_eq]; exact h)]
        exact ⟨by omega, fun _ => by omega⟩
theorem two_pow_le : ∀ v x : Nat, 15 + v + x ≤ 2 ^ v * (15 + x)
  | 0, x => by omega
  | v + 1, x => by
    have := two_pow_le v x
    rw [Nat.pow_succ, Nat.mul_right_comm]
    omega
/-- what the sizes come to -/
theorem Pot.last {v S : Nat} {l : List (Nat × Nat)} (P : Pot v S l) (hv : v + tau l ≤ 16) : (15 + v + tau l) * (S + es l) ≤ 221184 := by
  obtain ⟨h1, h2, h3⟩ := P
  obtain ⟨t1, t2⟩ := tau_len h1
  obtain ⟨f1, f2⟩ := F10 l.length (by omega) (tau l) (by omega) t1 t2
  rcases h3 with h3 | ⟨rfl, a, b, _⟩
  · have a0 := Nat.mul_le_mul_right (S + es l) (two_pow_le v (tau l))
    have a1 : (15 + tau l) * S ≤ (16 * cT l.length (tau l)) * S := Nat.mul_le_mul_right _ f1
    have a2 : (15 + tau l) * es l ≤ (16 * bT l.length (tau l)) * es l := Nat.mul_le_mul_right _ f2
    have a3 : (15 + tau l) * (S + es l) ≤ 16 * (cT l.length (tau l) * S + bT l.length (tau l) * es l) := by
      rw [Nat.mul_add, Nat.mul_add, ← Nat.mul_assoc, ← Nat.mul_assoc]
      omega
    have a4 := Nat.mul_le_mul_left (2 ^ v) a3
    rw [Nat.mul_left_comm (2 ^ v) 16] at a4
    rw [Nat.mul_assoc] at a0
    omega
  · have e4 := es_le a
    have : (15 + v + tau l) * (0 + es l) ≤ 31 * 4 := Nat.mul_le_mul (by omega) (by omega)
    omega
/-- at most four words of at most five letters -/
theorem short_end {K : Nat} (hK : K ≤ 26) {vs : List (List Nat)} (hl : vs.length ≤ 26) (hk : vs.length < K ∨ K = 0) (h5 : ∀ w ∈ vs, w.length ≤ 5 ∧ AL w ∧ Red w) (h4 : (vs.filter fun w => !w.isEmpty).length ≤ 4) :
    freshOf vs ≤ 17 ∧ FineAll (rings vs) ∧ ∃ S H D L, Lw K (freshOf vs) S H D (glue (rings vs)) L ∧ (15 + (freshOf vs - 1 - D.length)) * S ≤ 221184 ∧ S ≤ 13824 ∧ H ≤ 900000 := by
  have hp := freshOf_pos vs
  obtain ⟨f1, f2⟩ := filter_two vs
  have ft := fresh_tau vs
  obtain ⟨l, hl0⟩ : ∃ l, l = (vs.filter fun w => decide (2 ≤ w.length)).map fun w => (w.length - 2, 1) := ⟨_, rfl⟩
  have ll : l.length = (vs.filter fun w => decide (2 ≤ w.length)).length := by rw [hl0, List.length_map]
  have lsm : ∀ p ∈ l, p.1 ≤ 3 ∧ p.2 = 1 := fun p hp => by
    rw [hl0] at hp
    obtain ⟨w, hw, rfl⟩ := List.mem_map.mp hp
    have := (h5 w (List.mem_filter.mp hw).1).1
    exact ⟨by show w.length - 2 ≤ 3; omega, rfl⟩
  have le : es l = l.length := by rw [ll, hl0]; exact es_ones _
  rw [← hl0] at ft
  obtain ⟨t1, t2⟩ := tau_len fun p hp => (lsm p hp).1
  have h17 : freshOf vs ≤ 17 := by omega
  refine ⟨h17, ?_⟩
  obtain ⟨s, hs1, hs2⟩ : ∃ s, (∀ w ∈ vs, w.length = 1 → 2 ≤ s) ∧ (s = 0 ∨ (s = 2 ∧ l.length ≤ 3)) := by
    by_cases h : ∃ w ∈ vs, w.length = 1
    · exact ⟨2, fun _ _ _ => Nat.le_refl _, .inr ⟨rfl, by have := f2 h; omega⟩⟩
    · exact ⟨0, fun w hw e => absurd ⟨w, hw, e⟩ h, .inl rfl⟩
  have pot : Pot 0 s l := by
    refine ⟨fun p hp => (lsm p hp).1, by omega, ?_⟩
    rw [le]
    rcases hs2 with rfl | ⟨rfl, h3⟩
    · by_cases h4' : l.length = 4
      · exact .inr ⟨rfl, fun p hp => by rw [(lsm p hp).2]; exact Nat.le_refl _, h4', by
          have := F12 (tau l) (by omega) (by omega) (by omega)
          omega⟩
      · left
        have f := F11 l.length (by omega) (tau l) (by omega) t1 t2
        rw [Nat.mul_comm l.length] at f
        omega
    · left
      have f := F11 l.length (by omega) (tau l) (by omega) t1 t2
      rw [Nat.mul_comm l.length] at f
      omega
  obtain ⟨cs, ps, I, pm, T, hsg⟩ := rings_cr hK (s := s) vs hl hk fun w hw => ⟨(h5 w hw).2.1, (h5 w hw).2.2, hs1 w hw⟩
  rw [← hl0] at hsg
  have st : Ss K (freshOf vs) s l 0 1 (rings vs) := ⟨[], cs, ps, _, _, [0], I, pm, T, fun z hz h => by
    rw [List.mem_singleton.mp hz] at h
    exact (I.dead 0 (by rw [List.nil_append]; exact h)).1 rfl, hsg, rfl⟩
  have run := fun n => Ss.run hK hp h17 n s l 0 1 (rings vs) st (by rw [show freshOf vs - 1 - 0 - tau l = 0 by omega]; exact pot) (by omega)
  refine ⟨fun n => (run n).1, ?_⟩
  obtain ⟨S', l', d', H', ⟨D, cs', ps', L, W, Z, J, pm', _, _, hs', rfl⟩, P', hH'⟩ := (run (rings vs).length).2
  have len := J.len hp
  have ts' := tau_perm hs'
  have es' := es_perm hs'
  have sum := P'.sum
  obtain ⟨S2, cs2, L2, W2, J2, q2, hS2⟩ := Cr.finish hK (M := 13824) (tau l') ps' cs' S' H' L W (by rw [rms_len, ts']) (by omega) J
  have last := P'.last (by omega)
  have pg : (glue (rings vs)).Perm cs2 := pm'.trans q2.symm
  refine ⟨S' + es l', H' + tau l' * 13824, D, L2, ⟨J2.al, J2.near, J2.zero, fun r a b h1 h2 => ?_, fun r a h => ⟨(J2.lt r a h).1, (J2.lt r a h).2.1⟩, fun t ht => J2.core t (pg.mem_iff.mp ht), ?_, fun x hx => J2.dead x (List.mem_append_left _ hx)⟩, ?_, sum, ?_⟩
  · have e1 := J2.dist r a b h1 h2
    have e2 := J2.wle h1
    omega
  · have nd := J2.nd
    have e : rms ([] : List Pt) = [] := rfl
    rw [e, List.append_nil] at nd
    exact nd
  · rw [show 15 + (freshOf vs - 1 - D.length) = 15 + (freshOf vs - 1 - D.length - tau l') + tau l' by omega]
    exact last
  · have : tau l' * 13824 ≤ 16 * 13824 := Nat.mul_le_mul_right _ (by omega)
    omega
/-- rows, up to something beside the words of the rooms -/
def ExcT (K : Nat) (L : LL) (X : Nat) (ts : List T4) : Prop := ∀ t ∈ ts, ∃ α q β, L t.1 α ∧ L t.2.2.1 β ∧ AL q ∧ nz K q ≤ X ∧ Row t.2.2.2 (α ++ q ++ rv β)
theorem Lw.exc {K N S H : Nat} {D : List Nat} {ts : List T4} {L : LL} (I : Lw K N S H D ts L) (X : Nat) : ExcT K L X ts := fun t ht => by
  obtain ⟨a, b, ha, hb, hr⟩ := I.tie t ht
  exact ⟨a, [], b, ha, hb, AL.nil, Nat.zero_le _, by rw [List.append_nil]; exact hr⟩
theorem tieT_exc {K : Nat} (hK : K ≤ 26) {L : Nat → List Nat → Prop} {r c g : Nat} {m : List Int} {a q b : List Nat} {X : Nat} (ha : L r a) (hb : L g b) (ala : AL a) (alq : AL q) (alb : AL b) (hq : nz K q ≤ X) (h : Row (dirN c m) (a ++ q ++ rv b)) :
    ∃ α q' β, L (tieT r c g m).1 α ∧ L (tieT r c g m).2.2.1 β ∧ AL q' ∧ nz K q' ≤ X ∧ Row (tieT r c g m).2.2.2 (α ++ q' ++ rv β) := by
  rcases tieT_rooms r c g m with ⟨e, hs⟩ | ⟨e, hs⟩
  · rw [e]
    refine ⟨a, q, b, ha, hb, alq, hq, ?_⟩
    unfold dirN at h
    rw [hs, if_pos rfl] at h
    exact h
  · rw [e]
    refine ⟨b, rv q, a, hb, ha, alq.rv, by rw [nz_rv hK alq]; exact hq, ?_⟩
    have h2 := h.back
    rw [rv_app, rv_app, rv_rv alb, ← List.append_assoc] at h2
    have : behindN (dirN c m) = m := by
      have := dirN_dirN c m
      unfold dirN at this ⊢
      rw [hs] at this ⊢
      exact this
    rw [this] at h2
    exact h2
/-- the row that the next tie gets -/
def nextM (d : Nat) (g : List Int) : List Int := if smallL d then joined g [] else joined [] (behindN g)
theorem nextM_row {d : Nat} {g : List Int} {G : List Nat} (alG : AL G) (h : Row g G) : Row (dirN d (nextM d g)) G := by
  unfold dirN nextM
  cases smallL d with
  | true =>
    rw [if_pos rfl, if_pos rfl]
    have := h.join Row.nil
    rwa [List.append_nil] at this
  | false =>
    rw [if_neg Bool.false_ne_true, if_neg Bool.false_ne_true]
    have := (Row.nil.join h.back).back
    rw [List.nil_append, rv_rv alG] at this
    exact this
theorem moved_seg2 {f A : Nat} {g : List Int} (hf : 0 < f) (d : Nat) (w : List Nat) : (segT f [] (f + 1) (d :: w)).map (movedT f A g) = segT A (nextM d g) (f + 1) (d :: w) := by
  have head : ∀ G : Nat, G ≠ f → movedT f A g (tieT f d G []) = tieT A d G (nextM d g) := fun G hG => by
    unfold movedT tieT nextM
    by_cases hs : smallL d = true
    · rw [if_pos hs, if_pos hs, if_pos hs]
      dsimp only
      rw [if_pos rfl, if_pos rfl, if_neg hG, if_neg hG]
    · rw [if_neg hs, if_neg hs, if_neg hs]
      dsimp only
      rw [if_pos rfl, if_pos rfl, if_neg hG, if_neg hG]
  cases w with
  | nil =>
    show [movedT f A g (tieT f d 0 [])] = _
    rw [head 0 (by omega)]
    rfl
  | cons e w =>
    show movedT f A g (tieT f d (f + 1) []) :: _ = _
    rw [head (f + 1) (by omega)]
    show _ :: List.map _ _ = _ :: _
    congr 1
    refine moved_map_id fun t ht => ?_
    have := seg_rooms (e :: w) (f + 1) [] (f + 1 + 1) t ht
    omega
section
variable {K f B N S H X : Nat} {D : List Nat} {Γ : List T4} {L : Nat → List Nat → Prop}
theorem seg_nil_rows : ∀ (w : List Nat) (r f : Nat), ∀ t ∈ segT r [] f w, t.2.2.2 = []
  | [], _, _, t, h => by cases h
  | [c], r, f, t, h => by
    rw [segT, List.mem_singleton] at h
    rw [h]
    unfold tieT
    split <;> rfl
  | c :: d :: w, r, f, t, h => by
    rw [segT] at h
    rcases List.mem_cons.mp h with rfl | h
    · unfold tieT
      split <;> rfl
    · exact seg_nil_rows (d :: w) _ _ t h
theorem tieT_row (r c g : Nat) (m : List Int) : (tieT r c g m).2.2.2 = m := by unfold tieT; split <;> rfl
theorem dirN_len (c : Nat) (m : List Int) : (dirN c m).length = m.length := by
  unfold dirN
  split
  · rfl
  · unfold behindN
    rw [List.length_map, List.length_reverse]
/-- the whole word is read, round: beside one tie something is left -/
theorem read_lb (hK : K ≤ 26) (G : Glu f B Γ) (I : Lw K N S H D Γ L) (hX : 10 + 10 * H + 3 * X ≤ 16000000) : ∀ (w : List Nat) (a : Nat) (m : List Int) (f' : Nat) (x q : List Nat), w ≠ [] → AL w → f ≤ f' → Walk (Γ.map T4.t3) a w 0 → L a x → AL q → Row (dirN (w.headD 0) m) (x ++ q) → nz K q + (w.length - 1) * S ≤ X →
    FineAll (Γ ++ segT a m f' w) ∧ ((glue (Γ ++ segT a m f' w)).map T4.t3).Perm (Γ.map T4.t3) ∧ ExcT K L X (glue (Γ ++ segT a m f' w))
  | [], _, _, _, _, _, h, _, _, _, _, _, _, _ => absurd rfl h
  | [c], a, m, f', x, q, _, hw, hf, ⟨a', s, e0⟩, hx, alq, hrow, hb => by
    have e0 : a' = 0 := e0
    have hrow : Row (dirN c m) (x ++ q) := hrow
    have hb : nz K q + 0 * S ≤ X := hb
    rw [Nat.zero_mul, Nat.add_zero] at hb
    have alx := I.al _ _ hx
    have ml : m.length ≤ H + X := by
      have h1 := hrow.len
      rw [dirN_len] at h1
      have h2 := nz_app (K := K) alx alq
      have h3 := I.near _ _ hx
      have h4 := nz_len K (x ++ q)
      omega
    obtain ⟨o, o_in, _, h2⟩ := read_pair G hw.head s (g := 0) (.inl rfl) m []
    obtain ⟨y, z, e, hp, he, h3, hxy⟩ := h2 e0 rfl
    show FineAll (Γ ++ [tieT a c 0 m]) ∧ ((glue (Γ ++ [tieT a c 0 m])).map T4.t3).Perm (Γ.map T4.t3) ∧ ExcT K L X (glue (Γ ++ [tieT a c 0 m]))
    have tl := tieT_row a c 0 m
    have ol := I.row hK o_in
    have z3 : z.t3 = (tieT a c 0 m).t3 := by
      rcases hxy with ⟨_, rfl⟩ | ⟨_, rfl⟩
      · rfl
      · exact h3
    have z_in : z ∈ Γ ++ [tieT a c 0 m] := (pairOf_ok hp).t_in
    have hst : glueStep (Γ ++ [tieT a c 0 m]) y z e = (Γ ++ [tieT a c 0 m]).erase z := by
      unfold glueStep
      rw [if_neg (fun w => w he)]
    have pm : (((Γ ++ [tieT a c 0 m]).erase z).map T4.t3).Perm (Γ.map T4.t3) := by
      have p1 : ((Γ ++ [tieT a c 0 m]).map T4.t3).Perm (z.t3 :: ((Γ ++ [tieT a c 0 m]).erase z).map T4.t3) := (List.perm_cons_erase z_in).map T4.t3
      have p2 : ((Γ ++ [tieT a c 0 m]).map T4.t3).Perm ((tieT a c 0 m).t3 :: Γ.map T4.t3) := by
        rw [List.map_append]
        exact List.perm_append_singleton _ _
      rw [z3] at p1
      exact (p1.symm.trans p2).cons_inv
    have hno : pairOf ((Γ ++ [tieT a c 0 m]).erase z) = none := pairOf_of_folded (folded_perm pm.symm G.fold)
    have hgl : glue (Γ ++ [tieT a c 0 m]) = (Γ ++ [tieT a c 0 m]).erase z := by rw [glue_some hp, hst, glue_none hno]
    refine ⟨.of fun o' t' e' w => ?_, ?_, ?_⟩
    · rw [hp] at w
      cases w
      refine ⟨⟨?_, fun w => absurd he w⟩, ?_⟩
      · rcases hxy with ⟨rfl, rfl⟩ | ⟨rfl, rfl⟩
        · rw [tl]; omega
        · rw [tl]; omega
      · rw [hst]
        exact .none hno
    · rw [hgl]
      exact pm
    · rw [hgl]
      intro t ht
      rcases List.mem_append.mp (List.mem_of_mem_erase ht) with ht | ht
      · exact I.exc X t ht
      · rw [List.mem_singleton.mp ht]
        exact tieT_exc hK hx I.zero alx alq AL.nil hb (by show Row _ (x ++ q ++ []); rw [List.append_nil]; exact hrow)
  | c :: d :: w, a, m, f', x, q, _, hw, hf, ⟨a', s, hwalk⟩, hx, alq, hrow, hb => by
    have hfp := G.pos
    have hrow : Row (dirN c m) (x ++ q) := hrow
    have hlen : (c :: d :: w).length - 1 = ((d :: w).length - 1) + 1 := rfl
    rw [hlen, Nat.succ_mul] at hb
    have alx := I.al _ _ hx
    have ml : m.length ≤ H + X := by
      have h1 := hrow.len
      rw [dirN_len] at h1
      have h2 := nz_app (K := K) alx alq
      have h3 := I.near _ _ hx
      have h4 := nz_len K (x ++ q)
      omega
    obtain ⟨o, o_in, h1, _⟩ := read_pair G hw.head s (g := f') (.inr hf) m (segT f' [] (f' + 1) (d :: w))
    obtain ⟨e, hp, ho, ht, he⟩ := h1 (by omega)
    have ol := I.row hK o_in
    obtain ⟨ha, ha'⟩ := st_below G.below s
    have tl := tieT_row a c f' m
    have gl := glueNs_len o (tieT a c f' m) e
    rw [tl] at gl
    have hmap := moved_seg2 (f := f') (A := a') (g := glueNs o (tieT a c f' m) e) (by omega) d w
    have hnot : tieT a c f' m ∉ Γ := not_below G.below (by
      unfold tieT
      split
      · right; exact hf
      · left; exact hf)
    have hst : glueStep (Γ ++ segT a m f' (c :: d :: w)) o (tieT a c f' m) e = Γ ++ segT a' (nextM d (glueNs o (tieT a c f' m) e)) (f' + 1) (d :: w) := by
      unfold glueStep
      rw [ho, ht, if_pos (by omega)]
      show ((Γ ++ tieT a c f' m :: segT f' [] (f' + 1) (d :: w)).erase (tieT a c f' m)).map _ = _
      rw [List.erase_append_right _ hnot, List.erase_cons_head, List.map_append, hmap]
      congr 1
      refine moved_map_id fun t ht => ?_
      have := G.below t ht
      omega
    -- the words
    obtain ⟨β, α, hβ, hα, hg⟩ : ∃ β α, L a' β ∧ L a α ∧ Row (glueNs o (tieT a c f' m) e) (β ++ (rv α ++ x ++ q)) := by
      have mt : MeetAt o (tieT a c f' m) e := (pairOf_ok hp).meet
      obtain ⟨oa, ob, hoa, hob, hor⟩ := I.tie o o_in
      obtain ⟨_, mt⟩ := mt
      rcases tieT_rooms a c f' m with ⟨et, hs⟩ | ⟨et, hs⟩
      · have hrm : Row m (x ++ q) := by unfold dirN at hrow; rwa [hs, if_pos rfl] at hrow
        rw [et] at mt ht ⊢
        rcases mt with ⟨rfl, m2⟩ | ⟨rfl, m2⟩
        · have m2 : o.1 = a := m2
          have ho : o.2.2.1 = a' := ho
          rw [m2] at hoa
          rw [ho] at hob
          refine ⟨ob, oa, hob, hoa, ?_⟩
          have := hor.back.join hrm
          rw [rv_app, rv_rv (I.al _ _ hob)] at this
          rw [show ob ++ (rv oa ++ x ++ q) = ob ++ rv oa ++ (x ++ q) by simp]
          exact this
        · have ht : a = f' := ht
          omega
      · have hrm : Row (behindN m) (x ++ q) := by unfold dirN at hrow; rwa [hs, if_neg Bool.false_ne_true] at hrow
        rw [et] at mt ht ⊢
        rcases mt with ⟨rfl, m2⟩ | ⟨rfl, m2⟩
        · have ht : a = f' := ht
          omega
        · have m2 : o.2.2.1 = a := m2
          have ho : o.1 = a' := ho
          rw [m2] at hob
          rw [ho] at hoa
          refine ⟨oa, ob, hoa, hob, ?_⟩
          have := hor.join hrm
          rw [show oa ++ (rv ob ++ x ++ q) = oa ++ rv ob ++ (x ++ q) by simp]
          exact this
    have alβ := I.al _ _ hβ
    have alα := I.al _ _ hα
    have alq' : AL (rv α ++ x ++ q) := (alα.rv.app alx).app alq
    have hq' : nz K (rv α ++ x ++ q) ≤ S + nz K q := by
      have d1 := I.dist _ _ _ hα hx
      have d2 := nz_app (K := K) (alα.rv.app alx) alq
      unfold dw at d1
      omega
    obtain ⟨i1, i2, i3⟩ := read_lb hK G I hX (d :: w) a' (nextM d (glueNs o (tieT a c f' m) e)) (f' + 1) β (rv α ++ x ++ q) (by simp) hw.tail (by omega) hwalk hβ alq' (nextM_row (alβ.app alq') hg) (by omega)
    have hgl : glue (Γ ++ segT a m f' (c :: d :: w)) = glue (Γ ++ segT a' (nextM d (glueNs o (tieT a c f' m) e)) (f' + 1) (d :: w)) := by
      have hp' : pairOf (Γ ++ segT a m f' (c :: d :: w)) = some (o, tieT a c f' m, e) := hp
      rw [glue_some hp', hst]
    refine ⟨.of fun o' t' e' z => ?_, ?_, ?_⟩
    · have z : pairOf (Γ ++ tieT a c f' m :: segT f' [] (f' + 1) (d :: w)) = some (o', t', e') := z
      rw [hp] at z
      cases z
      refine ⟨⟨by rw [tl]; omega, fun _ x hx hi => ?_⟩, by rw [hst]; exact i1⟩
      rw [ht] at hi
      have hxm : x.2.2.2.length ≤ m.length := by
        rcases List.mem_append.mp hx with hx | hx
        · have := G.below x hx
          omega
        · have hx : x ∈ tieT a c f' m :: segT f' [] (f' + 1) (d :: w) := hx
          rcases List.mem_cons.mp hx with rfl | hx
          · rw [tl]
            exact Nat.le_refl _
          · rw [seg_nil_rows _ _ _ x hx]
            exact Nat.zero_le _
      omega
    · rw [hgl]
      exact i2
    · rw [hgl]
      exact i3
end
end Gw

/-! ### rows of numbers stand for products of the words. Plain. -/
namespace Gw
/-- a number's word, or its back -/
def ev1 (us : List (List Nat)) (n : Int) : List Nat := if 0 < n then us.getD (n.toNat - 1) [] else rv (us.getD ((-n).toNat - 1) [])
def evN (us : List (List Nat)) (ns : List Int) : List Nat := ns.flatMap (ev1 us)
section
variable {us : List (List Nat)}
theorem getD_al (h : ∀ u ∈ us, AL u) (i : Nat) : AL (us.getD i []) := by
  rw [List.getD_eq_getElem?_getD]
  cases e : us[i]? with
  | none => exact AL.nil
  | some u => exact h u (List.mem_of_getElem? e)
theorem ev1_al (h : ∀ u ∈ us, AL u) (n : Int) : AL (ev1 us n) := by
  unfold ev1
  split
  · exact getD_al h _
  · exact (getD_al h _).rv
theorem evN_al (h : ∀ u ∈ us, AL u) (ns : List Int) : AL (evN us ns) := fun c hc => by
  obtain ⟨n, _, hn⟩ := List.mem_flatMap.mp hc
  exact ev1_al h n c hn
theorem ev1_neg (h : ∀ u ∈ us, AL u) {n : Int} (hn : n ≠ 0) : ev1 us (-n) = rv (ev1 us n) := by
  unfold ev1
  by_cases h1 : 0 < n
  · rw [if_neg (by omega), if_pos h1, show - -n = n by omega]
  · rw [if_pos (by omega), if_neg h1, rv_rv (getD_al h _)]
theorem evN_app (a b : List Int) : evN us (a ++ b) = evN us a ++ evN us b := List.flatMap_append
theorem evN_one (n : Int) : evN us [n] = ev1 us n := by
  unfold evN
  rw [List.flatMap_cons, List.flatMap_nil, List.append_nil]
/-- numbers of these words -/
def InU (k : Nat) (ns : List Int) : Prop := ∀ n ∈ ns, n ≠ 0 ∧ n.natAbs ≤ k
theorem joined_InU {k : Nat} : ∀ {v u : List Int}, InU k u → InU k v → InU k (joined u v) := by
  have step : ∀ {u : List Int} {n : Int}, InU k u → (n ≠ 0 ∧ n.natAbs ≤ k) → InU k (joinStep u n) := fun {u n} hu hn => by
    unfold joinStep
    split
    · exact fun m hm => hu m (List.dropLast_subset _ hm)
    · intro m hm
      rcases List.mem_append.mp hm with hm | hm
      · exact hu m hm
      · rw [List.mem_singleton.mp hm]
        exact hn
  intro v
  induction v with
  | nil => intro u hu _; exact hu
  | cons n v ih => exact fun {u} hu hv => ih (step hu (hv n List.mem_cons_self)) fun m hm => hv m (List.mem_cons_of_mem _ hm)
theorem behind_InU {k : Nat} {u : List Int} (h : InU k u) : InU k (behindN u) := fun n hn => by
  unfold behindN at hn
  obtain ⟨m, hm, rfl⟩ := List.mem_map.mp hn
  have := h m (List.mem_reverse.mp hm)
  omega
theorem ev_step (h : ∀ u ∈ us, AL u) {u : List Int} {n : Int} (hn : n ≠ 0) : sh (evN us (joinStep u n)) = sh (evN us u ++ ev1 us n) := by
  unfold joinStep
  split
  · rename_i e
    rcases end_of u with rfl | ⟨k, d, rfl⟩
    · cases e
    · rw [List.getLast?_concat] at e
      have e : d = -n := Option.some.inj e
      rw [List.dropLast_concat, evN_app, evN_one, e, ev1_neg h hn]
      have ak := evN_al h k
      have an := ev1_al h n
      have := sh_mid (a := evN us k) (b := rv (ev1 us n)) (c := []) ak an.rv AL.nil
      rw [rv_rv an, List.append_nil, List.append_nil] at this
      exact this.symm
  · rw [evN_app, evN_one]
theorem ev_joined (h : ∀ u ∈ us, AL u) {k : Nat} : ∀ {v u : List Int}, InU k v → sh (evN us (joined u v)) = sh (evN us u ++ evN us v) := by
  intro v
  induction v with
  | nil => intro u _; show sh (evN us u) = sh (evN us u ++ []); rw [List.append_nil]
  | cons n v ih =>
    intro u hv
    show sh (evN us (joined (joinStep u n) v)) = _
    rw [ih fun m hm => hv m (List.mem_cons_of_mem _ hm)]
    have e : evN us (n :: v) = ev1 us n ++ evN us v := List.flatMap_cons
    rw [e, ← List.append_assoc]
    exact sh_congr (evN_al h _) (evN_al h _) ((evN_al h _).app (ev1_al h _)) (evN_al h _) (ev_step h (hv n List.mem_cons_self).1) rfl
theorem ev_behind (h : ∀ u ∈ us, AL u) {k : Nat} : ∀ {u : List Int}, InU k u → evN us (behindN u) = rv (evN us u) := by
  intro u
  induction u with
  | nil => intro _; rfl
  | cons n u ih =>
    intro hu
    have e : behindN (n :: u) = behindN u ++ [-n] := by
      unfold behindN
      rw [List.reverse_cons, List.map_append]
      rfl
    have e2 : evN us (n :: u) = ev1 us n ++ evN us u := List.flatMap_cons
    rw [e, evN_app, evN_one, ih fun m hm => hu m (List.mem_cons_of_mem _ hm), e2, rv_app, ev1_neg h (hu n List.mem_cons_self).1]
/-- each tie's row makes the letter, seen from the words of its rooms -/
structure Val (us : List (List Nat)) (ν : Nat → List Nat) (ts : List T4) : Prop where
  zero : ν 0 = []
  al : ∀ r, AL (ν r)
  rng : ∀ t ∈ ts, InU us.length t.2.2.2
  val : ∀ t ∈ ts, isL t.2.1 = true ∧ sh (evN us t.2.2.2) = sh (ν t.1 ++ t.2.1 :: rv (ν t.2.2.1))
variable {ν : Nat → List Nat} {ts : List T4}
theorem Val.step (h : ∀ u ∈ us, AL u) (V : Val us ν ts) {o t : T4} {e : Nat} (hp : pairOf ts = some (o, t, e)) : Val us ν (glueStep ts o t e) := by
  have ok := pairOf_ok hp
  have o_in : o ∈ ts := ok.o_in
  have t_in : t ∈ ts := ok.t_in
  have mt : MeetAt o t e := ok.meet
  have eW : ∀ t ∈ ts.erase t, t ∈ ts := fun x hx => List.mem_of_mem_erase hx
  unfold glueStep
  split
  case isFalse =>
    exact ⟨V.zero, V.al, fun x hx => V.rng x (List.mem_of_mem_erase hx), fun x hx => V.val x (List.mem_of_mem_erase hx)⟩
  rename_i hne
  obtain ⟨g, hg⟩ : ∃ g, g = glueNs o t e := ⟨_, rfl⟩
  rw [← hg]
  have ro := V.rng o o_in
  have rt := V.rng t t_in
  have gin : InU us.length g := by
    rw [hg]
    unfold glueNs
    split
    · exact joined_InU ro (behind_InU rt)
    · exact joined_InU (behind_InU ro) rt
  obtain ⟨oL, ov⟩ := V.val o o_in
  obtain ⟨tL, tv⟩ := V.val t t_in
  have aA := V.al (endAt o e)
  have aB := V.al (endAt t e)
  have aeo := evN_al h o.2.2.2
  have aet := evN_al h t.2.2.2
  -- the row that is put ahead
  have gv : sh (evN us g) = sh (ν (endAt o e) ++ rv (ν (endAt t e))) := by
    rw [hg]
    unfold glueNs
    obtain ⟨m1, ⟨rfl, m2⟩ | ⟨rfl, m2⟩⟩ := mt
    · rw [if_neg (by decide), ev_joined h rt, ev_behind h ro]
      show _ = sh (ν o.2.2.1 ++ rv (ν t.2.2.1))
      have a1 := V.al o.1
      have a2 := V.al o.2.2.1
      have a3 := V.al t.2.2.1
      have P : AL (ν o.1 ++ o.2.1 :: rv (ν o.2.2.1)) := a1.app (AL.cons oL a2.rv)
      have R : AL (ν t.1 ++ t.2.1 :: rv (ν t.2.2.1)) := (V.al t.1).app (AL.cons tL a3.rv)
      have s1 : sh (rv (evN us o.2.2.2)) = sh (rv (ν o.1 ++ o.2.1 :: rv (ν o.2.2.1))) := by rw [sh_rv aeo, ov, ← sh_rv P]
      rw [sh_congr aeo.rv aet P.rv R s1 tv]
      rw [← m2, ← m1, rv_app, rv_cons, rv_rv a2]
      have c1 : AL (o.2.1 :: rv (ν t.2.2.1)) := AL.cons oL a3.rv
      have z1 := sh_mid (a := ν o.2.2.1 ++ [bk o.2.1]) (b := rv (ν o.1)) (c := o.2.1 :: rv (ν t.2.2.1)) (a2.app (AL.cons (bk_L oL) AL.nil)) a1.rv c1
      rw [rv_rv a1] at z1
      rw [show ν o.2.2.1 ++ [bk o.2.1] ++ rv (ν o.1) ++ (ν o.1 ++ o.2.1 :: rv (ν t.2.2.1)) = ν o.2.2.1 ++ [bk o.2.1] ++ rv (ν o.1) ++ (ν o.1 ++ (o.2.1 :: rv (ν t.2.2.1))) from rfl, z1]
      have z2 := sh_mid (a := ν o.2.2.1) (b := [bk o.2.1]) (c := rv (ν t.2.2.1)) a2 (AL.cons (bk_L oL) AL.nil) a3.rv
      have e1 : rv [bk o.2.1] = [o.2.1] := by show [bk (bk o.2.1)] = _; rw [bk_bk oL]
      rw [e1] at z2
      exact z2
    · rw [if_pos rfl, ev_joined h (behind_InU rt), ev_behind h rt]
      show _ = sh (ν o.1 ++ rv (ν t.1))
      have a1 := V.al o.1
      have a2 := V.al o.2.2.1
      have a3 := V.al t.1
      have P : AL (ν o.1 ++ o.2.1 :: rv (ν o.2.2.1)) := a1.app (AL.cons oL a2.rv)
      have R : AL (ν t.1 ++ t.2.1 :: rv (ν t.2.2.1)) := a3.app (AL.cons tL (V.al t.2.2.1).rv)
      have s1 : sh (rv (evN us t.2.2.2)) = sh (rv (ν t.1 ++ t.2.1 :: rv (ν t.2.2.1))) := by rw [sh_rv aet, tv, ← sh_rv R]
      rw [sh_congr aeo aet.rv P R.rv ov s1]
      rw [← m2, ← m1, rv_app, rv_cons, rv_rv a2]
      have z1 := sh_mid (a := ν o.1 ++ [o.2.1]) (b := rv (ν o.2.2.1)) (c := [bk o.2.1] ++ rv (ν t.1)) (a1.app (AL.cons oL AL.nil)) a2.rv ((AL.cons (bk_L oL) AL.nil).app a3.rv)
      rw [rv_rv a2] at z1
      rw [show ν o.1 ++ o.2.1 :: rv (ν o.2.2.1) ++ (ν o.2.2.1 ++ [bk o.2.1] ++ rv (ν t.1)) = ν o.1 ++ [o.2.1] ++ rv (ν o.2.2.1) ++ (ν o.2.2.1 ++ ([bk o.2.1] ++ rv (ν t.1))) by simp, z1]
      have z2 := sh_mid (a := ν o.1) (b := [o.2.1]) (c := rv (ν t.1)) a1 (AL.cons oL AL.nil) a3.rv
      exact z2
  generalize endAt o e = A at gv aA hne ⊢
  generalize endAt t e = B at gv aB hne ⊢
  have aeg := evN_al h g
  have gvr : sh (rv (evN us g)) = sh (ν B ++ rv (ν A)) := by
    rw [sh_rv aeg, gv, ← sh_rv (aA.app aB.rv), rv_app, rv_rv aB]
  refine ⟨V.zero, V.al, fun x' hx' => ?_, fun x' hx' => ?_⟩
  · obtain ⟨x, hx, rfl⟩ := List.mem_map.mp hx'
    have rx := V.rng x (List.mem_of_mem_erase hx)
    unfold movedT
    dsimp only
    have r1 : InU us.length (if x.1 = B then joined g x.2.2.2 else x.2.2.2) := by
      split
      · exact joined_InU gin rx
      · exact rx
    split
    · exact joined_InU r1 (behind_InU gin)
    · exact r1
  · obtain ⟨x, hx, rfl⟩ := List.mem_map.mp hx'
    have rx := V.rng x (List.mem_of_mem_erase hx)
    obtain ⟨xL, xv⟩ := V.val x (List.mem_of_mem_erase hx)
    refine ⟨xL, ?_⟩
    have aex := evN_al h x.2.2.2
    have a1 := V.al x.1
    have a2 := V.al x.2.2.1
    unfold movedT
    dsimp only
    -- from the begin
    obtain ⟨n1, hn1⟩ : ∃ n1, n1 = (if x.1 = B then joined g x.2.2.2 else x.2.2.2) := ⟨_, rfl⟩
    obtain ⟨s, hs⟩ : ∃ s, s = (if x.1 = B then A else x.1) := ⟨_, rfl⟩
    rw [← hn1, ← hs]
    have as := V.al s
    have v1 : sh (evN us n1) = sh (ν s ++ x.2.1 :: rv (ν x.2.2.1)) := by
      rw [hn1, hs]
      by_cases h1 : x.1 = B
      · rw [if_pos h1, if_pos h1, ev_joined h rx]
        rw [sh_congr aeg aex (aA.app aB.rv) (a1.app (AL.cons xL a2.rv)) gv xv]
        rw [h1] at a1 ⊢
        have z := sh_mid (a := ν A) (b := rv (ν B)) (c := x.2.1 :: rv (ν x.2.2.1)) aA aB.rv (AL.cons xL a2.rv)
        rw [rv_rv aB] at z
        exact z
      · rw [if_neg h1, if_neg h1]
        exact xv
    have aen := evN_al h n1
    by_cases h2 : x.2.2.1 = B
    · rw [if_pos h2, if_pos h2, ev_joined h (behind_InU gin), ev_behind h gin]
      rw [sh_congr aen aeg.rv (as.app (AL.cons xL a2.rv)) (aB.app aA.rv) v1 gvr]
      rw [h2] at a2 ⊢
      have z := sh_mid (a := ν s ++ [x.2.1]) (b := rv (ν B)) (c := rv (ν A)) (as.app (AL.cons xL AL.nil)) aB.rv aA.rv
      rw [rv_rv aB] at z
      rw [show ν s ++ x.2.1 :: rv (ν B) ++ (ν B ++ rv (ν A)) = ν s ++ [x.2.1] ++ rv (ν B) ++ (ν B ++ rv (ν A)) by simp, z]
      simp
    · rw [if_neg h2, if_neg h2]
      exact v1
theorem Val.glueN (h : ∀ u ∈ us, AL u) : ∀ (n : Nat) (ts : List T4), Val us ν ts → Val us ν (Gw.glueN n ts)
  | 0, _, V => V
  | n + 1, ts, V => by
    unfold Gw.glueN
    cases g : pairOf ts with
    | none => exact V
    | some p =>
      obtain ⟨o, t, e⟩ := p
      exact Val.glueN h n _ (V.step h g)
theorem tieT_val (h : ∀ u ∈ us, AL u) {r c f : Nat} {m : List Int} (hc : isL c = true) (ar : AL (ν r)) (af : AL (ν f)) (hm : InU us.length m) (e : sh (evN us (dirN c m)) = sh (ν r ++ c :: rv (ν f))) :
    InU us.length (tieT r c f m).2.2.2 ∧ isL (tieT r c f m).2.1 = true ∧ sh (evN us (tieT r c f m).2.2.2) = sh (ν (tieT r c f m).1 ++ (tieT r c f m).2.1 :: rv (ν (tieT r c f m).2.2.1)) := by
  rw [tieT_row]
  refine ⟨hm, ?_⟩
  rcases tieT_rooms r c f m with ⟨et, hs⟩ | ⟨et, hs⟩
  · rw [et]
    unfold dirN at e
    rw [hs, if_pos rfl] at e
    exact ⟨hc, e⟩
  · rw [et]
    unfold dirN at e
    rw [hs, if_neg Bool.false_ne_true, ev_behind h hm] at e
    refine ⟨bk_L hc, ?_⟩
    have am := evN_al h m
    have P : AL (ν r ++ c :: rv (ν f)) := ar.app (AL.cons hc af.rv)
    have e2 : sh (rv (rv (evN us m))) = sh (rv (ν r ++ c :: rv (ν f))) := by rw [sh_rv am.rv, e, ← sh_rv P]
    rw [rv_rv am] at e2
    rw [e2, rv_app, rv_cons, rv_rv af]
    show sh (ν f ++ [bk c] ++ rv (ν r)) = sh (ν f ++ bk c :: rv (ν r))
    simp
/-- one ring -/
theorem seg_val (h : ∀ u ∈ us, AL u) : ∀ (w : List Nat) (r : Nat) (m : List Int) (f : Nat) (ν : Nat → List Nat), w ≠ [] → AL w → 0 < f → r < f → ν 0 = [] → (∀ q, AL (ν q)) → InU us.length m → sh (evN us (dirN (w.headD 0) m)) = sh (ν r ++ w) →
    ∃ ν' : Nat → List Nat, (∀ q, q < f → ν' q = ν q) ∧ (∀ q, AL (ν' q)) ∧ ∀ t ∈ segT r m f w, InU us.length t.2.2.2 ∧ isL t.2.1 = true ∧ sh (evN us t.2.2.2) = sh (ν' t.1 ++ t.2.1 :: rv (ν' t.2.2.1))
  | [], _, _, _, _, z, _, _, _, _, _, _, _ => absurd rfl z
  | [c], r, m, f, ν, _, hw, _, _, h0, hal, hm, e => by
    refine ⟨ν, fun _ _ => rfl, hal, fun t ht => ?_⟩
    rw [segT, List.mem_singleton] at ht
    subst ht
    have e : sh (evN us (dirN c m)) = sh (ν r ++ [c]) := e
    refine tieT_val h hw.head (hal r) (hal 0) hm ?_
    rw [e, h0]
    rfl
  | c :: d :: w, r, m, f, ν, _, hw, hf, hr, h0, hal, hm, e => by
    have e : sh (evN us (dirN c m)) = sh (ν r ++ c :: d :: w) := e
    obtain ⟨ν1, hν1⟩ : ∃ ν1 : Nat → List Nat, ν1 = fun q => if q = f then rv (d :: w) else ν q := ⟨_, rfl⟩
    have at1 : ∀ q, q ≠ f → ν1 q = ν q := fun q hq => by rw [hν1]; exact if_neg hq
    have atf : ν1 f = rv (d :: w) := by rw [hν1]; exact if_pos rfl
    have al1 : ∀ q, AL (ν1 q) := fun q => by
      by_cases z : q = f
      · rw [z, atf]; exact hw.tail.rv
      · rw [at1 q z]; exact hal q
    obtain ⟨ν', old, al', ties⟩ := seg_val h (d :: w) f [] (f + 1) ν1 (by simp) hw.tail (by omega) (by omega) (by rw [at1 0 (by omega)]; exact h0) al1 (fun n hn => by cases hn) (by
      have : dirN ((d :: w).headD 0) [] = [] := by unfold dirN; split <;> rfl
      rw [this, atf]
      show sh [] = _
      rw [sh_rv_l hw.tail]
      rfl)
    refine ⟨ν', fun q hq => by rw [old q (by omega), at1 q (by omega)], al', fun t ht => ?_⟩
    rw [segT] at ht
    rcases List.mem_cons.mp ht with rfl | ht
    · refine tieT_val h hw.head (al' r) (al' f) hm ?_
      rw [old r (by omega), at1 r (by omega), old f (by omega), atf, rv_rv hw.tail]
      exact e
    · exact ties t ht
end
/-- the rings of the first words -/
theorem rings_val {us : List (List Nat)} (h : ∀ u ∈ us, AL u) : ∀ ws : List (List Nat), (∃ post, us = ws ++ post) → ∃ ν, Val us ν (rings ws) := by
  refine snoc_ind ?_ ?_
  · intro _
    exact ⟨fun _ => [], rfl, fun _ => AL.nil, (fun t ht => by cases ht), fun t ht => by cases ht⟩
  · intro ws w ih ⟨post, hp⟩
    obtain ⟨ν, V⟩ := ih ⟨w :: post, by rw [hp]; simp⟩
    have hw : AL w := h w (by rw [hp]; simp)
    rw [rings_snoc]
    by_cases hne : w = []
    · subst hne
      exact ⟨ν, by simpa [segT] using V⟩
    have hfp := freshOf_pos ws
    have hl : ws.length < us.length := by rw [hp, List.length_append, List.length_append, List.length_singleton]; omega
    have ei : InU us.length [(ws.length : Int) + 1] := fun n hn => by
      rw [List.mem_singleton.mp hn]
      omega
    have dI : InU us.length (dirN (w.headD 0) [(ws.length : Int) + 1]) := by
      unfold dirN
      split
      · exact ei
      · exact behind_InU ei
    obtain ⟨ν', old, al', ties⟩ := seg_val h w 0 (dirN (w.headD 0) [(ws.length : Int) + 1]) (freshOf ws) ν hne hw hfp hfp V.zero V.al dI (by
      rw [dirN_dirN, evN_one, V.zero]
      show sh (ev1 us _) = sh w
      unfold ev1
      rw [if_pos (by omega), show ((ws.length : Int) + 1).toNat - 1 = ws.length by omega, hp]
      congr 1
      rw [List.getD_eq_getElem?_getD, List.append_assoc, List.getElem?_append_right (Nat.le_refl _), Nat.sub_self]
      rfl)
    have below := rings_below ws
    refine ⟨ν', by rw [old 0 hfp]; exact V.zero, al', fun t ht => ?_, fun t ht => ?_⟩
    · rcases List.mem_append.mp ht with ht | ht
      · exact V.rng t ht
      · exact (ties t ht).1
    · rcases List.mem_append.mp ht with ht | ht
      · have := below t ht
        rw [old _ this.1, old _ this.2]
        exact V.val t ht
      · exact (ties t ht).2
theorem glued_val {us : List (List Nat)} (h : ∀ u ∈ us, AL u) : ∃ ν, Val (us.map sh) ν (gluedOf us) := by
  have h2 : ∀ u ∈ us.map sh, AL u := fun u hu => by
    obtain ⟨v, hv, rfl⟩ := List.mem_map.mp hu
    exact sh_AL (h v hv)
  obtain ⟨ν, V⟩ := rings_val h2 (us.map sh) ⟨[], by rw [List.append_nil]⟩
  exact ⟨ν, V.glueN h2 _ _⟩
end Gw

/-! ### rows of law k05: sizes; numbers along a way. Plain. -/
namespace Gw
/-- at most four words of at most five letters, empty ones, and perhaps a product -/
structure LawRow5 (us : List (List Nat)) : Prop where
  al : ∀ u ∈ us, AL u
  form : ∃ vs, vs.length ≤ 9 ∧ (∀ u ∈ vs, u.length ≤ 5) ∧ (vs.filter fun w => !w.isEmpty).length ≤ 4 ∧ (us = vs ∨ ∃ p, us = vs ++ [p] ∧ p.length ≤ 15 ∧ Made vs p)
/-- the sizes: rooms, words of the rooms, what is beside -/
structure SizeOk (K : Nat) (Γ : List T4) (N S X H : Nat) (D : List Nat) (L : Nat → List Nat → Prop) : Prop where
  hK : K ≤ 26
  zero : L 0 []
  al : ∀ r a, L r a → AL a
  near : ∀ r a, L r a → nz K a ≤ H
  dist : ∀ r a b, L r a → L r b → dw K a b ≤ S
  room : ∀ t ∈ Γ, (t.1 < N ∧ t.1 ∉ D) ∧ t.2.2.1 < N ∧ t.2.2.1 ∉ D
  nd : D.Nodup
  dead : ∀ x ∈ D, x ≠ 0 ∧ x < N
  exc : ExcT K L X Γ
  pos : 0 < N
  big : H ≤ 900000 ∧ X ≤ 200000
  num : ∀ n, n ≤ 15 + (N - 1 - D.length) → n * (S + X) + S ≤ 3355000
theorem num_ok {S X j : Nat} (hj : j ≤ 16) (h : (15 + j) * S ≤ 221184) (h2 : S ≤ 13824) (hX : X ≤ 3 + 14 * S) : ∀ n, n ≤ 15 + j → n * (S + X) + S ≤ 3355000 := by
  intro n hn
  have e : n * (S + X) ≤ n * (3 + 15 * S) := Nat.mul_le_mul_left _ (by omega)
  have e2 : n * (3 + 15 * S) = n * 3 + 15 * (n * S) := by
    rw [Nat.mul_add, Nat.mul_left_comm]
  have e3 : n * S ≤ (15 + j) * S := Nat.mul_le_mul_right _ hn
  omega
/-- how long the words are -/
def WtOk (K : Nat) (us : List (List Nat)) : Prop := ∀ n : Int, n ≠ 0 → n.natAbs ≤ us.length → (ev1 us n).length ≤ 5 * wtK K (eN n)
theorem ev1_len (us : List (List Nat)) {n : Int} (h : n ≠ 0) : (ev1 us n).length = (us.getD (n.natAbs - 1) []).length := by
  unfold ev1
  split
  · rw [show n.toNat - 1 = n.natAbs - 1 by omega]
  · rw [rv_len, show (-n).toNat - 1 = n.natAbs - 1 by omega]
theorem getD_len {us : List (List Nat)} {B : Nat} (h : ∀ u ∈ us, u.length ≤ B) (i : Nat) : (us.getD i []).length ≤ B := by
  rw [List.getD_eq_getElem?_getD]
  cases e : us[i]? with
  | none => exact Nat.zero_le _
  | some u => exact h u (List.mem_of_getElem? e)
theorem WtOk.len {K : Nat} {us : List (List Nat)} (W : WtOk K us) : ∀ ns : List Int, InU us.length ns → (evN us ns).length ≤ 5 * wsum K (eW ns)
  | [], _ => Nat.zero_le _
  | n :: ns, h => by
    have ih := W.len ns fun m hm => h m (List.mem_cons_of_mem _ hm)
    obtain ⟨h1, h2⟩ := h n List.mem_cons_self
    have := W n h1 h2
    show (ev1 us n ++ evN us ns).length ≤ 5 * (wtK K (eN n) + wsum K (eW ns))
    rw [List.length_append]
    omega
theorem filter_sh_le : ∀ vs : List (List Nat), ((vs.map sh).filter fun w => !w.isEmpty).length ≤ (vs.filter fun w => !w.isEmpty).length
  | [] => Nat.le_refl _
  | v :: vs => by
    have ih := filter_sh_le vs
    cases v with
    | nil =>
      show (((sh [] :: vs.map sh)).filter _).length ≤ _
      rw [show sh [] = [] from rfl]
      simpa using ih
    | cons c v =>
      rw [List.map_cons]
      have e : ((c :: v) :: vs).filter (fun w => !w.isEmpty) = (c :: v) :: vs.filter (fun w => !w.isEmpty) := rfl
      rw [e, List.length_cons, List.filter_cons]
      split
      · rw [List.length_cons]
        omega
      · omega
theorem LawRow5.ok {us : List (List Nat)} (L5 : LawRow5 us) : FineAll (rings (us.map sh)) ∧ ∃ K N S X H D L, SizeOk K (gluedOf us) N S X H D L ∧ WtOk K us := by
  obtain ⟨hal, vs, h9, h5, h4, hf⟩ := L5
  have hv : ∀ u ∈ vs, AL u := fun u hu => by
    rcases hf with rfl | ⟨p, rfl, _⟩
    · exact hal u hu
    · exact hal u (List.mem_append_left _ hu)
  have se : ∀ K, K ≤ 26 → (vs.length < K ∨ K = 0) → freshOf (vs.map sh) ≤ 17 ∧ FineAll (rings (vs.map sh)) ∧ ∃ S H D L, Lw K (freshOf (vs.map sh)) S H D (glue (rings (vs.map sh))) L ∧ (15 + (freshOf (vs.map sh) - 1 - D.length)) * S ≤ 221184 ∧ S ≤ 13824 ∧ H ≤ 900000 := fun K hK hk => short_end (K := K) hK (vs := vs.map sh) (by rw [List.length_map]; omega) (by rw [List.length_map]; exact hk) (fun w hw => by
    obtain ⟨u, hu, rfl⟩ := List.mem_map.mp hw
    exact ⟨Nat.le_trans (sh_len u) (h5 u hu), sh_AL (hv u hu), sh_red (hv u hu)⟩) (Nat.le_trans (filter_sh_le vs) h4)
  have hp := freshOf_pos (vs.map sh)
  have roomOf : ∀ {K S H D L}, Lw K (freshOf (vs.map sh)) S H D (glue (rings (vs.map sh))) L → ∀ t ∈ glue (rings (vs.map sh)), (t.1 < freshOf (vs.map sh) ∧ t.1 ∉ D) ∧ t.2.2.1 < freshOf (vs.map sh) ∧ t.2.2.1 ∉ D := fun I t ht => by
    obtain ⟨α, β, h1, h2, _⟩ := I.tie t ht
    exact ⟨I.lt _ _ h1, I.lt _ _ h2⟩
  rcases hf with rfl | ⟨p, rfl, hpl, hm⟩
  · obtain ⟨n17, F, S, H, D, L, I, hS, hS2, hH⟩ := se 0 (by omega) (.inr rfl)
    refine ⟨F, 0, _, S, 0, H, D, L, ⟨by omega, I.zero, I.al, I.near, I.dist, roomOf I, I.nd, I.dead, I.exc 0, hp, ⟨hH, by omega⟩, num_ok (by omega) hS hS2 (by omega)⟩, fun n h1 h2 => ?_⟩
    rw [ev1_len _ h1]
    have := getD_len h5 (n.natAbs - 1)
    have := (wtK_le 0 (eN n)).1
    omega
  · have hKe : ∃ K, K = vs.length + 1 := ⟨_, rfl⟩
    obtain ⟨K, hKe⟩ := hKe
    obtain ⟨n17, F, S, H, D, L, I, hS, hS2, hH⟩ := se K (by omega) (.inl (by omega))
    have hK : K ≤ 26 := by omega
    have size : ∀ Γ X, (∀ t ∈ Γ, (t.1 < freshOf (vs.map sh) ∧ t.1 ∉ D) ∧ t.2.2.1 < freshOf (vs.map sh) ∧ t.2.2.1 ∉ D) → ExcT K L X Γ → X ≤ 3 + 14 * S → SizeOk K Γ (freshOf (vs.map sh)) S X H D L := fun Γ X hr hx hX =>
      ⟨hK, I.zero, I.al, I.near, I.dist, hr, I.nd, I.dead, hx, hp, ⟨hH, by omega⟩, num_ok (by omega) hS hS2 hX⟩
    have wt : WtOk K (vs ++ [p]) := fun n h1 h2 => by
      rw [List.length_append, List.length_singleton] at h2
      rw [ev1_len _ h1]
      by_cases e : n.natAbs - 1 < vs.length
      · have w1 := (wtK_le K (eN n)).1
        have := getD_len h5 (n.natAbs - 1)
        rw [List.getD_eq_getElem?_getD, List.getElem?_append_left e, ← List.getD_eq_getElem?_getD]
        omega
      · have e2 : n.natAbs - 1 = vs.length := by omega
        have w3 : wtK K (eN n) = 3 := by
          unfold wtK eN
          rw [if_pos]
          split <;> omega
        rw [e2, w3, List.getD_eq_getElem?_getD, List.getElem?_append_right (Nat.le_refl _), Nat.sub_self]
        exact hpl
    have fold : Folded ((glue (rings (vs.map sh))).map T4.t3) := glue_folded _
    have R : Rounds (vs.map sh) ((glue (rings (vs.map sh))).map T4.t3) := glue_rounds (rings_rounds fun w hw => by
      obtain ⟨u, hu, rfl⟩ := List.mem_map.mp hw
      exact sh_AL (hv u hu))
    have hw := hm.walk hv fold R
    have hwal := sh_AL (hm.al hv)
    have hl : (sh p).length ≤ 15 := Nat.le_trans (sh_len p) hpl
    have G : Glu (freshOf (vs.map sh)) (2 * H) (glue (rings (vs.map sh))) := ⟨fold, glue_below _ _ (Nat.le_refl _) (rings_below _), hp, fun t ht => I.row hK ht⟩
    have gl : FineAll (rings ((vs ++ [p]).map sh)) ∧ ∃ N S X H D L, SizeOk K (gluedOf (vs ++ [p])) N S X H D L := by
      unfold gluedOf
      rw [List.map_append]
      show FineAll (rings (vs.map sh ++ [sh p])) ∧ ∃ N S X H D L, SizeOk K (glue (rings (vs.map sh ++ [sh p]))) N S X H D L
      rw [rings_snoc]
      by_cases hn : sh p = []
      · rw [hn]
        show FineAll (rings (vs.map sh) ++ []) ∧ ∃ N S X H D L, SizeOk K (glue (rings (vs.map sh) ++ [])) N S X H D L
        rw [List.append_nil]
        exact ⟨F, _, S, 0, H, D, L, size _ 0 (roomOf I) (I.exc 0) (by omega)⟩
      have hk : InR (((vs.map sh).length : Int) + 1) := first_R (by rw [List.length_map]; omega)
      have hL := eN_L hk
      obtain ⟨h1, h2, h3⟩ := read_lb (X := 3 + 14 * S) hK G I (by omega) (sh p) 0 (dirN ((sh p).headD 0) [((vs.map sh).length : Int) + 1]) (freshOf (vs.map sh)) [] [eN (((vs.map sh).length : Int) + 1)] hn hwal (Nat.le_refl _) hw I.zero (AL.cons hL AL.nil) (by
        rw [dirN_dirN]
        exact Row.one hk) (by
        have a : nz K [eN (((vs.map sh).length : Int) + 1)] ≤ 3 := by rw [nz_one hL]; exact (wtK_le _ _).2
        have b : ((sh p).length - 1) * S ≤ 14 * S := Nat.mul_le_mul_right _ (by omega)
        omega)
      have e := glue_app (f := freshOf (vs.map sh)) (post := segT 0 (dirN ((sh p).headD 0) [((vs.map sh).length : Int) + 1]) (freshOf (vs.map sh)) (sh p)) seg_beyond _ _ (Nat.le_refl _) (rings_below (vs.map sh))
      refine ⟨fine_app seg_beyond _ _ (Nat.le_refl _) (rings_below _) F h1, ?_⟩
      rw [e]
      refine ⟨_, S, 3 + 14 * S, H, D, L, size _ _ (fun t ht => ?_) h3 (Nat.le_refl _)⟩
      have hm3 : t.t3 ∈ (glue (rings (vs.map sh))).map T4.t3 := h2.mem_iff.mp (List.mem_map.mpr ⟨t, ht, rfl⟩)
      obtain ⟨s, hs, es⟩ := List.mem_map.mp hm3
      have := roomOf I s hs
      unfold T4.t3 at es
      simp only [Prod.mk.injEq] at es
      rw [← es.1, ← es.2.2]
      exact this
    obtain ⟨g1, N, S, X, H, D, L, g2⟩ := gl
    exact ⟨g1, K, N, S, X, H, D, L, g2, wt⟩
/-! numbers along a way -/
abbrev Nums := List ((Nat × Nat) × (Nat × List Int))
def numPut (m : Nums) (t : T4) : Nums := aput (aput m (t.1, t.2.1) (t.2.2.1, t.2.2.2)) (t.2.2.1, bk t.2.1) (t.1, behindN t.2.2.2)
def numbersT (ts : List T4) : Nums := ts.foldl numPut []
theorem aget_numPut (m : Nums) (t : T4) (k : Nat × Nat) : aget (numPut m t) k = if k = (t.2.2.1, bk t.2.1) then some (t.1, behindN t.2.2.2) else if k = (t.1, t.2.1) then some (t.2.2.1, t.2.2.2) else aget m k := by
  unfold numPut
  rw [aget_put, aget_put]
theorem num_st : ∀ (ts : List T4) (r c g : Nat) (ns : List Int), aget (numbersT ts) (r, c) = some (g, ns) → ∃ t ∈ ts, (t.1 = r ∧ t.2.1 = c ∧ t.2.2.1 = g ∧ t.2.2.2 = ns) ∨ (t.2.2.1 = r ∧ bk t.2.1 = c ∧ t.1 = g ∧ behindN t.2.2.2 = ns) := by
  refine snoc_ind ?_ ?_
  · intro r c g ns h
    cases h
  · intro ts t ih r c g ns h
    have e : numbersT (ts ++ [t]) = numPut (numbersT ts) t := by unfold numbersT; rw [List.foldl_append]; rfl
    rw [e, aget_numPut] at h
    split at h
    · rename_i k
      have k := Prod.mk.inj k
      have h := Prod.mk.inj (Option.some.inj h)
      exact ⟨t, by simp, .inr ⟨k.1.symm, k.2.symm, h.1, h.2⟩⟩
    split at h
    · rename_i k
      have k := Prod.mk.inj k
      have h := Prod.mk.inj (Option.some.inj h)
      exact ⟨t, by simp, .inl ⟨k.1.symm, k.2.symm, h.1, h.2⟩⟩
    · obtain ⟨s, hs, z⟩ := ih r c g ns h
      exact ⟨s, List.mem_append_left _ hs, z⟩
theorem num_some : ∀ (ts : List T4) (r c : Nat), (∃ t ∈ ts, (t.1 = r ∧ t.2.1 = c) ∨ (t.2.2.1 = r ∧ bk t.2.1 = c)) → ∃ p, aget (numbersT ts) (r, c) = some p := by
  refine snoc_ind ?_ ?_
  · rintro r c ⟨t, ht, _⟩
    cases ht
  · rintro ts t ih r c ⟨s, hs, h⟩
    have e : numbersT (ts ++ [t]) = numPut (numbersT ts) t := by unfold numbersT; rw [List.foldl_append]; rfl
    rw [e, aget_numPut]
    split
    · exact ⟨_, rfl⟩
    split
    · exact ⟨_, rfl⟩
    rename_i h1 h2
    rcases List.mem_append.mp hs with hs | hs
    · exact ih r c ⟨s, hs, h⟩
    · rw [List.mem_singleton.mp hs] at h
      rcases h with ⟨a, b⟩ | ⟨a, b⟩
      · exact absurd (by rw [a, b]) h2
      · exact absurd (by rw [a, b]) h1
def madeStep (ts : List T4) (s : Nat × List Int) (c : Nat) : Nat × List Int := match aget (numbersT ts) (s.1, c) with
  | some p => (p.1, joined s.2 p.2)
  | none => s
def madeT (ts : List T4) (u : List Nat) : List Int := (u.foldl (madeStep ts) (0, [])).2
/-- what holds along the way -/
structure MInv (K : Nat) (us : List (List Nat)) (ν : Nat → List Nat) (L : Nat → List Nat → Prop) (C : Nat) (pre : List Nat) (r : Nat) (ns : List Int) : Prop where
  rng : InU us.length ns
  val : sh (evN us ns) = sh (pre ++ rv (ν r))
  row : ∃ p β, L r β ∧ AL p ∧ Row ns (p ++ rv β) ∧ nz K p ≤ pre.length * C
section
variable {us : List (List Nat)} {ν : Nat → List Nat} {Γ : List T4} {K N S X H : Nat} {D : List Nat} {L : Nat → List Nat → Prop}
theorem small_of_isL {c : Nat} (h : isL c = true) : smallL c = false → smallL (bk c) = true := fun h2 => by
  have := isL_iff.mp h
  unfold smallL at h2 ⊢
  rw [decide_eq_false_iff_not] at h2
  rw [decide_eq_true_eq]
  unfold bk
  split <;> omega
theorem made_next (h : ∀ u ∈ us, AL u) (sm : ∀ t ∈ Γ, 97 ≤ t.2.1 ∧ t.2.1 ≤ 122) (F : Folded (Γ.map T4.t3)) (Z : SizeOk K Γ N S X H D L) (V : Val us ν Γ) {pre : List Nat} {r c g : Nat} {ns : List Int} (hal : AL pre) (hc : isL c = true) (hr : r < N) (s : St (Γ.map T4.t3) r c g) (M : MInv K us ν L (S + X) pre r ns) (hn : pre.length + 1 ≤ 15 + (N - 1 - D.length)) :
    ∃ m, aget (numbersT Γ) (r, c) = some (g, m) ∧ g < N ∧ ns.length + m.length ≤ 16000000 ∧ InU us.length m ∧ MInv K us ν L (S + X) (pre ++ [c]) g (joined ns m) := by
  obtain ⟨⟨g', m⟩, hp⟩ : ∃ p, aget (numbersT Γ) (r, c) = some p := num_some Γ r c (by
    rcases s with ⟨_, hm⟩ | ⟨_, hm⟩
    · obtain ⟨t, ht, e⟩ := List.mem_map.mp hm
      have e := Prod.mk.inj e
      have e2 := Prod.mk.inj e.2
      exact ⟨t, ht, .inl ⟨e.1, e2.1⟩⟩
    · obtain ⟨t, ht, e⟩ := List.mem_map.mp hm
      have e := Prod.mk.inj e
      have e2 := Prod.mk.inj e.2
      exact ⟨t, ht, .inr ⟨e2.2, by rw [e2.1, bk_bk hc]⟩⟩)
  -- the row from r on, and its words
  obtain ⟨t, ht, hcs⟩ := num_st Γ r c g' m hp
  have stt := sm t ht
  have tL : isL t.2.1 = true := isL_iff.mpr (.inl stt)
  have tS : smallL t.2.1 = true := decide_eq_true stt
  obtain ⟨α, q, β, hα, hβ, alq, hq, hrow⟩ := Z.exc t ht
  obtain ⟨⟨r1, _⟩, r2, _⟩ := Z.room t ht
  have rngt := V.rng t ht
  obtain ⟨_, vt⟩ := V.val t ht
  have key : ∃ α q β, L r α ∧ L g' β ∧ AL q ∧ nz K q ≤ X ∧ Row m (α ++ q ++ rv β) ∧ InU us.length m ∧ g' < N ∧ sh (evN us m) = sh (ν r ++ c :: rv (ν g')) ∧ St (Γ.map T4.t3) r c g' := by
    rcases hcs with ⟨e1, e2, e3, e4⟩ | ⟨e1, e2, e3, e4⟩
    · subst e1 e2 e3 e4
      exact ⟨α, q, β, hα, hβ, alq, hq, hrow, rngt, r2, vt, .inl ⟨tS, List.mem_map.mpr ⟨t, ht, rfl⟩⟩⟩
    · subst e1 e2 e3 e4
      have alα := Z.al _ _ hα
      have alβ := Z.al _ _ hβ
      refine ⟨β, rv q, α, hβ, hα, alq.rv, by rw [nz_rv Z.hK alq]; exact hq, ?_, behind_InU rngt, r1, ?_, .inr ⟨?_, ?_⟩⟩
      · have h2 := hrow.back
        rw [rv_app, rv_app, rv_rv alβ, ← List.append_assoc] at h2
        exact h2
      · have am := evN_al h t.2.2.2
        have P : AL (ν t.1 ++ t.2.1 :: rv (ν t.2.2.1)) := (V.al t.1).app (AL.cons tL (V.al t.2.2.1).rv)
        rw [ev_behind h rngt, sh_rv am, vt, ← sh_rv P, rv_app, rv_cons, rv_rv (V.al t.2.2.1)]
        simp
      · have := small_bk stt
        exact this.1
      · rw [(small_bk stt).2]
        exact List.mem_map.mpr ⟨t, ht, rfl⟩
  obtain ⟨α, q, β, hα, hβ, alq, hq, hrow, rngm, hg', vm, sg⟩ := key
  obtain rfl : g' = g := F.one hc sg s
  obtain ⟨p, β0, hβ0, alp, hrow0, hp0⟩ := M.row
  have alα := Z.al _ _ hα
  have alβ := Z.al _ _ hβ
  have alβ0 := Z.al _ _ hβ0
  have num := Z.num (pre.length + 1) hn
  have hd := Z.dist r β0 α hβ0 hα
  have n1 := Z.near _ _ hα
  have n2 := Z.near _ _ hβ
  have n3 := Z.near _ _ hβ0
  have big := Z.big
  have l1 : ns.length ≤ pre.length * (S + X) + H := by
    rw [hrow0.len]
    have a := nz_app (K := K) alp alβ0.rv
    have b := nz_len K (p ++ rv β0)
    rw [nz_rv Z.hK alβ0] at a
    omega
  have l2 : m.length ≤ H + X + H := by
    rw [hrow.len]
    have a := nz_app (K := K) (alα.app alq) alβ.rv
    have b := nz_app (K := K) alα alq
    have c := nz_len K (α ++ q ++ rv β)
    rw [nz_rv Z.hK alβ] at a
    omega
  rw [Nat.succ_mul] at num
  refine ⟨m, hp, hg', by omega, rngm, joined_InU M.rng rngm, ?_, ?_⟩
  · rw [ev_joined h rngm]
    have as := V.al r
    have ag := V.al g'
    rw [sh_congr (evN_al h _) (evN_al h _) (hal.app as.rv) (as.app (AL.cons hc ag.rv)) M.val vm]
    have z := sh_mid (a := pre) (b := rv (ν r)) (c := c :: rv (ν g')) hal as.rv (AL.cons hc ag.rv)
    rw [rv_rv as] at z
    rw [z]
    simp
  · refine ⟨p ++ (rv β0 ++ α) ++ q, β, hβ, (alp.app (alβ0.rv.app alα)).app alq, ?_, ?_⟩
    · have := hrow0.join hrow
      rw [show p ++ rv β0 ++ (α ++ q ++ rv β) = p ++ (rv β0 ++ α) ++ q ++ rv β by simp] at this
      exact this
    · have a := nz_app (K := K) (alp.app (alβ0.rv.app alα)) alq
      have b := nz_app (K := K) alp (alβ0.rv.app alα)
      unfold dw at hd
      rw [List.length_append, List.length_singleton, Nat.succ_mul]
      omega
theorem made_inv (h : ∀ u ∈ us, AL u) (sm : ∀ t ∈ Γ, 97 ≤ t.2.1 ∧ t.2.1 ≤ 122) (F : Folded (Γ.map T4.t3)) (Z : SizeOk K Γ N S X H D L) (V : Val us ν Γ) : ∀ pre : List Nat, ∀ r, AL pre → pre.length ≤ 15 + (N - 1 - D.length) → Walk (Γ.map T4.t3) 0 pre r →
    r < N ∧ ∃ ns, pre.foldl (madeStep Γ) (0, []) = (r, ns) ∧ MInv K us ν L (S + X) pre r ns := by
  refine snoc_ind ?_ ?_
  · intro r _ _ w
    have w : 0 = r := w
    subst w
    refine ⟨Z.pos, [], rfl, (fun n hn => by cases hn), ?_, [], [], Z.zero, AL.nil, Row.nil, Nat.zero_le _⟩
    rw [V.zero]
    rfl
  · intro pre c ih r hal hn w
    rw [List.length_append, List.length_singleton] at hn
    obtain ⟨q, w1, w2⟩ := w.split
    obtain ⟨g, s, e⟩ := w2
    have e : g = r := e
    subst e
    obtain ⟨hq, ns, e1, M⟩ := ih q hal.left (by omega) w1
    obtain ⟨m, hm, hg, _, _, M2⟩ := made_next h sm F Z V hal.left hal.right.head hq s M hn
    refine ⟨hg, joined ns m, ?_, M2⟩
    rw [List.foldl_append, e1]
    show madeStep Γ (q, ns) c = _
    unfold madeStep
    dsimp only
    rw [hm]
/-- the numbers make the word -/
theorem made_ok (h : ∀ u ∈ us, AL u) (sm : ∀ t ∈ Γ, 97 ≤ t.2.1 ∧ t.2.1 ≤ 122) (F : Folded (Γ.map T4.t3)) (Z : SizeOk K Γ N S X H D L) (V : Val us ν Γ) {u : List Nat} (hal : AL u) (hn : u.length ≤ 15 + (N - 1 - D.length)) (w : Walk (Γ.map T4.t3) 0 u 0) :
    InU us.length (madeT Γ u) ∧ sh (evN us (madeT Γ u)) = sh u ∧ wsum K (eW (madeT Γ u)) ≤ 3355000 := by
  obtain ⟨_, ns, e, M⟩ := made_inv h sm F Z V u 0 hal hn w
  unfold madeT
  rw [e]
  refine ⟨M.rng, ?_⟩
  have := M.val
  rw [V.zero] at this
  rw [this]
  refine ⟨by show sh (u ++ []) = _; rw [List.append_nil], ?_⟩
  obtain ⟨p, β, hβ, alp, hrow, hp⟩ := M.row
  have d := Z.dist 0 [] β Z.zero hβ
  rw [dw_nil] at d
  have num := Z.num u.length hn
  have a := nz_app (K := K) alp (Z.al _ _ hβ).rv
  rw [nz_rv Z.hK (Z.al _ _ hβ)] at a
  rw [hrow.eq]
  show nz K _ ≤ _
  omega
end
end Gw

/-! ### the law's own finding: rooms and the ties by which they are found. Plain. -/
namespace Gw
abbrev FU := Found × List T3
def tryF (r : Nat) (way : List Nat) (c : Nat) (s : FU) (t : T3) : FU := if t.1 = r ∧ t.2.1 = c ∧ t.2.2 ∉ keysF s.1 then (s.1 ++ [(t.2.2, way ++ [c])], s.2 ++ [t]) else s
def tryG (r : Nat) (way : List Nat) (c : Nat) (s : FU) (t : T3) : FU := if t.2.2 = r ∧ t.2.1 = c ∧ t.1 ∉ keysF s.1 then (s.1 ++ [(t.1, way ++ [bk c])], s.2 ++ [t]) else s
def tryR (ts : List T3) (r : Nat) (way : List Nat) (s : FU) (c : Nat) : FU := ts.foldl (tryG r way c) (ts.foldl (tryF r way c) s)
/-- a tie by which a room is found -/
def UsedIn (f : Found) (t : T3) : Prop := ∃ w, ((t.1, w) ∈ f ∧ (t.2.2, w ++ [t.2.1]) ∈ f) ∨ ((t.2.2, w) ∈ f ∧ (t.1, w ++ [bk t.2.1]) ∈ f)
structure UsedOk (ts : List T3) (s : FU) : Prop where
  tree : FTree (stepF ts) s.1
  used : ∀ t ∈ ts, t ∈ s.2 ↔ UsedIn s.1 t
  sub : ∀ t ∈ s.2, t ∈ ts
  nd : s.2.Nodup
  len : s.2.length + 1 = s.1.length
section
variable {ts : List T3}
/-- one way leads to one room -/
theorem TreeOk.one (F : Folded ts) {f : Found} (T : TreeOk ts f) {a b : Nat} {w : List Nat} (h : (a, w) ∈ f) (h' : (b, w) ∈ f) : a = b :=
  Walk.det F (T.walk _ _ h).1 (T.walk _ _ h).2.1 (T.walk _ _ h').2.1
/-- a room more, found by the tie z: it alone is used beside those that were -/
theorem used_more (hs : ∀ t ∈ ts, 97 ≤ t.2.1 ∧ t.2.1 ≤ 122) (F : Folded ts) {f : Found} {us : List T3} (U : UsedOk ts (f, us)) {r d g : Nat} {way : List Nat} (hr : (r, way) ∈ f) (hd : isL d = true) (s : St ts r d g) (hg : g ∉ keysF f) {z : T3} (hz : (smallL d = true ∧ z = (r, d, g)) ∨ (smallL d = false ∧ z = (g, bk d, r))) : UsedOk ts (f ++ [(g, way ++ [d])], us ++ [z]) := by
  have T : TreeOk ts f := U.tree.ok hs F
  have tree : FTree (stepF ts) (f ++ [(g, way ++ [d])]) := .snoc U.tree hr hd ((stepF_iff hs F hd).mpr s) hg
  have T2 := tree.ok hs F
  have key : ∀ {a w}, (a, w) ∈ f → a ≠ g := fun h e => hg (by rw [← e]; exact List.mem_map.mpr ⟨_, h, rfl⟩)
  -- a child of a room of f, in the longer list
  have child : ∀ {q w c y}, isL c = true → (q, w) ∈ f ++ [(g, way ++ [d])] → (y, w ++ [c]) ∈ f ++ [(g, way ++ [d])] → ((q, w) ∈ f ∧ (y, w ++ [c]) ∈ f) ∨ (q = r ∧ w = way ∧ c = d ∧ y = g) := fun {q w c y} hc h1 h2 => by
    rcases List.mem_append.mp h2 with h2 | h2
    · -- its parent stands in f
      rcases T.par _ _ h2 with ⟨_, e⟩ | ⟨q', w', c', a1, _, _, a4, _⟩
      · have := congrArg List.length e
        rw [List.length_append] at this
        simp at this
      · obtain ⟨e1, e2⟩ := List.append_inj' a4 rfl
        subst e1
        have := T2.one F h1 (List.mem_append_left _ a1)
        subst this
        exact .inl ⟨a1, h2⟩
    · rw [List.mem_singleton] at h2
      injection h2 with e1 e2
      obtain ⟨e2, e3⟩ := List.append_inj' e2 rfl
      injection e3 with e3
      subst e2
      have := T2.one F h1 (List.mem_append_left _ hr)
      exact .inr ⟨this, rfl, e3, e1⟩
  have zin : z ∈ ts := by
    rcases hz with ⟨a, rfl⟩ | ⟨a, rfl⟩
    · rcases s with ⟨_, s⟩ | ⟨b, _⟩
      · exact s
      · rw [a] at b
        cases b
    · rcases s with ⟨b, _⟩ | ⟨_, s⟩
      · rw [a] at b
        cases b
      · exact s
  have znew : z ∉ us := fun h => by
    obtain ⟨w, ⟨h1, h2⟩ | ⟨h1, h2⟩⟩ := (U.used z zin).mp h
    · rcases hz with ⟨_, rfl⟩ | ⟨_, rfl⟩
      · exact key h2 rfl
      · exact key h1 rfl
    · rcases hz with ⟨_, rfl⟩ | ⟨_, rfl⟩
      · exact key h1 rfl
      · exact key h2 rfl
  refine ⟨tree, fun t ht => ?_, fun t ht => ?_, ?_, ?_⟩
  rotate_left
  · rcases List.mem_append.mp ht with ht | ht
    · exact U.sub t ht
    · rw [List.mem_singleton.mp ht]
      exact zin
  · show (us ++ [z]).Nodup
    rw [List.nodup_append]
    exact ⟨U.nd, by simp, fun a ha b hb e => znew (by rw [List.mem_singleton] at hb; rw [← hb, ← e]; exact ha)⟩
  · show (us ++ [z]).length + 1 = (f ++ [(g, way ++ [d])]).length
    have := U.len
    have this : us.length + 1 = f.length := this
    rw [List.length_append, List.length_append, List.length_singleton, List.length_singleton]
    omega
  have sm := hs t ht
  have hc : isL t.2.1 = true := isL_iff.mpr (.inl sm)
  have sb := small_bk sm
  have sc : smallL t.2.1 = true := by unfold smallL; exact decide_eq_true sm
  show t ∈ us ++ [z] ↔ _
  rw [List.mem_append, List.mem_singleton, show t ∈ us ↔ UsedIn f t from U.used t ht]
  constructor
  · rintro (⟨w, ⟨h1, h2⟩ | ⟨h1, h2⟩⟩ | rfl)
    · exact ⟨w, .inl ⟨List.mem_append_left _ h1, List.mem_append_left _ h2⟩⟩
    · exact ⟨w, .inr ⟨List.mem_append_left _ h1, List.mem_append_left _ h2⟩⟩
    · rcases hz with ⟨_, rfl⟩ | ⟨_, rfl⟩
      · exact ⟨way, .inl ⟨List.mem_append_left _ hr, List.mem_append_right _ List.mem_cons_self⟩⟩
      · refine ⟨way, .inr ⟨List.mem_append_left _ hr, ?_⟩⟩
        show (g, way ++ [bk (bk d)]) ∈ _
        rw [bk_bk hd]
        exact List.mem_append_right _ List.mem_cons_self
  · rintro ⟨w, ⟨h1, h2⟩ | ⟨h1, h2⟩⟩
    · rcases child hc h1 h2 with ⟨a, b⟩ | ⟨e1, e2, e3, e4⟩
      · exact .inl ⟨w, .inl ⟨a, b⟩⟩
      · right
        rcases hz with ⟨_, rfl⟩ | ⟨hz, _⟩
        · rw [← e1, ← e3, ← e4]
        · rw [← e3, sc] at hz
          cases hz
    · rcases child (bk_L hc) h1 h2 with ⟨a, b⟩ | ⟨e1, e2, e3, e4⟩
      · exact .inl ⟨w, .inr ⟨a, b⟩⟩
      · right
        rcases hz with ⟨hz, _⟩ | ⟨_, rfl⟩
        · rw [← e3, sb.1] at hz
          cases hz
        · rw [← e1, ← e3, ← e4, sb.2]
theorem foldF_none {r c : Nat} {way : List Nat} : ∀ {l : List T3} {s : FU}, (∀ t ∈ l, ¬ (t.1 = r ∧ t.2.1 = c)) → l.foldl (tryF r way c) s = s
  | [], _, _ => rfl
  | t :: l, s, h => by
    rw [List.foldl_cons]
    have : tryF r way c s t = s := if_neg fun z => h t List.mem_cons_self ⟨z.1, z.2.1⟩
    rw [this]
    exact foldF_none fun x hx => h x (List.mem_cons_of_mem _ hx)
theorem foldG_none {r c : Nat} {way : List Nat} : ∀ {l : List T3} {s : FU}, (∀ t ∈ l, ¬ (t.2.2 = r ∧ t.2.1 = c)) → l.foldl (tryG r way c) s = s
  | [], _, _ => rfl
  | t :: l, s, h => by
    rw [List.foldl_cons]
    have : tryG r way c s t = s := if_neg fun z => h t List.mem_cons_self ⟨z.1, z.2.1⟩
    rw [this]
    exact foldG_none fun x hx => h x (List.mem_cons_of_mem _ hx)
theorem foldF_ok (hs : ∀ t ∈ ts, 97 ≤ t.2.1 ∧ t.2.1 ≤ 122) (F : Folded ts) {s : FU} (U : UsedOk ts s) {r c : Nat} {way : List Nat} (hr : (r, way) ∈ s.1) (hc : 97 ≤ c ∧ c ≤ 122) :
    UsedOk ts (ts.foldl (tryF r way c) s) ∧ (ts.foldl (tryF r way c) s).1 = tryL (stepF ts) r way s.1 c := by
  have hL : isL c = true := isL_iff.mpr (.inl hc)
  have sc : smallL c = true := by unfold smallL; exact decide_eq_true hc
  have T := U.tree.ok hs F
  by_cases ex : ∃ g, (r, c, g) ∈ ts
  · obtain ⟨g, hg⟩ := ex
    have st : St ts r c g := .inl ⟨sc, hg⟩
    have e := (stepF_iff hs F hL).mpr st
    obtain ⟨pre, post, hts⟩ := List.append_of_mem hg
    have P := F
    rw [hts] at P
    unfold Folded at P
    rw [List.pairwise_append] at P
    obtain ⟨_, P2, P3⟩ := P
    have n1 : ∀ t ∈ pre, ¬ (t.1 = r ∧ t.2.1 = c) := fun t ht z => (P3 t ht (r, c, g) List.mem_cons_self).1 z
    have n2 : ∀ t ∈ post, ¬ (t.1 = r ∧ t.2.1 = c) := fun t ht z => ((List.pairwise_cons.mp P2).1 t ht).1 ⟨z.1.symm, z.2.symm⟩
    have fold : ts.foldl (tryF r way c) s = tryF r way c s (r, c, g) := by
      rw [hts, List.foldl_append, foldF_none n1, List.foldl_cons, foldF_none n2]
    rw [fold]
    unfold tryF tryL
    dsimp only
    rw [e, Option.getD_some]
    by_cases hk : g ∈ keysF s.1
    · rw [if_neg (fun z => z.2.2 hk), if_pos (ahas_mem.mpr hk)]
      exact ⟨U, rfl⟩
    · rw [if_pos ⟨rfl, rfl, hk⟩, if_neg (fun z => hk (ahas_mem.mp z))]
      exact ⟨used_more hs F U hr hL st hk (.inl ⟨sc, rfl⟩), rfl⟩
  · have fold : ts.foldl (tryF r way c) s = s := foldF_none fun t ht z => ex ⟨t.2.2, by rw [← z.1, ← z.2]; exact ht⟩
    rw [fold]
    unfold tryL
    dsimp only
    cases e : stepF ts r c with
    | some g =>
      rcases (stepF_iff hs F hL).mp e with ⟨_, z⟩ | ⟨z, _⟩
      · exact absurd ⟨g, z⟩ ex
      · rw [sc] at z
        cases z
    | none =>
      rw [Option.getD_none, if_pos (ahas_mem.mpr (List.mem_map.mpr ⟨_, T.root, rfl⟩))]
      exact ⟨U, rfl⟩
theorem foldG_ok (hs : ∀ t ∈ ts, 97 ≤ t.2.1 ∧ t.2.1 ≤ 122) (F : Folded ts) {s : FU} (U : UsedOk ts s) {r c : Nat} {way : List Nat} (hr : (r, way) ∈ s.1) (hc : 97 ≤ c ∧ c ≤ 122) :
    UsedOk ts (ts.foldl (tryG r way c) s) ∧ (ts.foldl (tryG r way c) s).1 = tryL (stepF ts) r way s.1 (bk c) := by
  have hL : isL (bk c) = true := bk_L (isL_iff.mpr (.inl hc))
  have sb := small_bk hc
  have T := U.tree.ok hs F
  by_cases ex : ∃ g, (g, c, r) ∈ ts
  · obtain ⟨g, hg⟩ := ex
    have st : St ts r (bk c) g := .inr ⟨sb.1, by rw [sb.2]; exact hg⟩
    have e := (stepF_iff hs F hL).mpr st
    obtain ⟨pre, post, hts⟩ := List.append_of_mem hg
    have P := F
    rw [hts] at P
    unfold Folded at P
    rw [List.pairwise_append] at P
    obtain ⟨_, P2, P3⟩ := P
    have n1 : ∀ t ∈ pre, ¬ (t.2.2 = r ∧ t.2.1 = c) := fun t ht z => (P3 t ht (g, c, r) List.mem_cons_self).2 z
    have n2 : ∀ t ∈ post, ¬ (t.2.2 = r ∧ t.2.1 = c) := fun t ht z => ((List.pairwise_cons.mp P2).1 t ht).2 ⟨z.1.symm, z.2.symm⟩
    have fold : ts.foldl (tryG r way c) s = tryG r way c s (g, c, r) := by
      rw [hts, List.foldl_append, foldG_none n1, List.foldl_cons, foldG_none n2]
    rw [fold]
    unfold tryG tryL
    dsimp only
    rw [e, Option.getD_some]
    by_cases hk : g ∈ keysF s.1
    · rw [if_neg (fun z => z.2.2 hk), if_pos (ahas_mem.mpr hk)]
      exact ⟨U, rfl⟩
    · rw [if_pos ⟨rfl, rfl, hk⟩, if_neg (fun z => hk (ahas_mem.mp z))]
      exact ⟨used_more hs F U hr hL st hk (.inr ⟨sb.1, by rw [sb.2]⟩), rfl⟩
  · have fold : ts.foldl (tryG r way c) s = s := foldG_none fun t ht z => ex ⟨t.1, by rw [← z.1, ← z.2]; exact ht⟩
    rw [fold]
    unfold tryL
    dsimp only
    cases e : stepF ts r (bk c) with
    | some g =>
      rcases (stepF_iff hs F hL).mp e with ⟨z, _⟩ | ⟨_, z⟩
      · rw [sb.1] at z
        cases z
      · rw [sb.2] at z
        exact absurd ⟨g, z⟩ ex
    | none =>
      rw [Option.getD_none, if_pos (ahas_mem.mpr (List.mem_map.mpr ⟨_, T.root, rfl⟩))]
      exact ⟨U, rfl⟩
theorem tryR_ok (hs : ∀ t ∈ ts, 97 ≤ t.2.1 ∧ t.2.1 ≤ 122) (F : Folded ts) {s : FU} (U : UsedOk ts s) {r c : Nat} {way : List Nat} (hr : (r, way) ∈ s.1) (hc : 97 ≤ c ∧ c ≤ 122) :
    UsedOk ts (tryR ts r way s c) ∧ (tryR ts r way s c).1 = tryBoth (stepF ts) r way s.1 c := by
  obtain ⟨U1, e1⟩ := foldF_ok hs F U hr hc
  have hr1 : (r, way) ∈ (ts.foldl (tryF r way c) s).1 := by
    rw [e1]
    obtain ⟨x, hx⟩ := tryL_pre (st := stepF ts) (r := r) (c := c) (way := way) (f := s.1)
    rw [hx]
    exact List.mem_append_left _ hr
  obtain ⟨U2, e2⟩ := foldG_ok hs F U1 hr1 hc
  exact ⟨U2, by unfold tryR tryBoth; rw [e2, e1]⟩
theorem foldR_ok (hs : ∀ t ∈ ts, 97 ≤ t.2.1 ∧ t.2.1 ≤ 122) (F : Folded ts) {r : Nat} {way : List Nat} : ∀ (ls : List Nat) (s : FU), (∀ c ∈ ls, 97 ≤ c ∧ c ≤ 122) → UsedOk ts s → (r, way) ∈ s.1 →
    UsedOk ts (ls.foldl (tryR ts r way) s) ∧ (ls.foldl (tryR ts r way) s).1 = ls.foldl (tryBoth (stepF ts) r way) s.1
  | [], s, _, U, _ => ⟨U, rfl⟩
  | c :: ls, s, hl, U, hr => by
    rw [List.foldl_cons, List.foldl_cons]
    obtain ⟨U1, e1⟩ := tryR_ok hs F U hr (hl c List.mem_cons_self)
    have hr1 : (r, way) ∈ (tryR ts r way s c).1 := by
      rw [e1]
      obtain ⟨x, hx⟩ := tryBoth_pre (st := stepF ts) (r := r) (c := c) (way := way) (f := s.1)
      rw [hx]
      exact List.mem_append_left _ hr
    obtain ⟨U2, e2⟩ := foldR_ok hs F ls _ (fun d hd => hl d (List.mem_cons_of_mem _ hd)) U1 hr1
    exact ⟨U2, by rw [e2, e1]⟩
def bfsU (ts : List T3) (ls : List Nat) : Nat → Nat → FU → FU
  | 0, _, s => s
  | n + 1, i, s => match s.1[i]? with
    | none => s
    | some p => bfsU ts ls n (i + 1) (ls.foldl (tryR ts p.1 p.2) s)
theorem bfsU_ok (hs : ∀ t ∈ ts, 97 ≤ t.2.1 ∧ t.2.1 ≤ 122) (F : Folded ts) {ls : List Nat} (hl : ∀ c ∈ ls, 97 ≤ c ∧ c ≤ 122) : ∀ (n i : Nat) (s : FU), UsedOk ts s → UsedOk ts (bfsU ts ls n i s) ∧ (bfsU ts ls n i s).1 = bfs (stepF ts) ls n i s.1
  | 0, _, s, U => ⟨U, rfl⟩
  | n + 1, i, s, U => by
    unfold bfsU bfs
    cases e : s.1[i]? with
    | none => exact ⟨U, rfl⟩
    | some p =>
      obtain ⟨r, way⟩ := p
      obtain ⟨U1, e1⟩ := foldR_ok hs F ls s hl U (List.mem_of_getElem? e)
      obtain ⟨U2, e2⟩ := bfsU_ok hs F hl n (i + 1) _ U1
      refine ⟨U2, ?_⟩
      show (bfsU ts ls n (i + 1) (ls.foldl (tryR ts r way) s)).1 = bfs (stepF ts) ls n (i + 1) (tryRoom (stepF ts) ls s.1 r way)
      rw [e2, e1]
      rfl
def foundU (ts : List T3) : FU := bfsU ts (lettersOf ts) (2 * ts.length + 2) 0 ([(0, [])], [])
theorem filter_split {α : Type} (q : α → Bool) : ∀ l : List α, (l.filter q).length + (l.filter fun t => !q t).length = l.length
  | [] => rfl
  | a :: l => by
    have ih := filter_split q l
    rw [List.filter_cons, List.filter_cons]
    cases q a
    · simp only [Bool.false_eq_true, if_false, Bool.not_false, if_true, List.length_cons]
      omega
    · simp only [Bool.not_true, Bool.false_eq_true, if_false, if_true, List.length_cons]
      omega
theorem usedOk_init (ts : List T3) : UsedOk ts ([(0, [])], []) := ⟨.base, (fun t _ => ⟨(fun h => by cases h), fun ⟨w, h⟩ => by
    have no : ∀ {a : Nat} {c : Nat}, (a, w ++ [c]) ∈ [((0 : Nat), ([] : List Nat))] → False := fun h => by
      rw [List.mem_singleton] at h
      injection h with _ h
      have := congrArg List.length h
      rw [List.length_append] at this
      simp at this
    rcases h with ⟨_, h⟩ | ⟨_, h⟩
    · exact (no h).elim
    · exact (no h).elim⟩), (fun t h => by cases h), List.nodup_nil, rfl⟩
/-- the law's finding is the program's -/
theorem foundU_ok (W : WebOk ts) : (foundU ts).1 = foundRooms ts ∧ (∀ t ∈ ts, t ∈ (foundU ts).2 ↔ fewIs ts t = true) ∧ (fewTies ts).length + ((foundRooms ts).length - 1) = ts.length := by
  have hl : ∀ c ∈ lettersOf ts, 97 ≤ c ∧ c ≤ 122 := fun c hc => by
    obtain ⟨t, ht, e⟩ := List.mem_map.mp ((lettersOf_mem W.sm c).mp hc)
    rw [← e]
    exact W.sm t ht
  have U0 : UsedOk ts ([(0, [])], []) := usedOk_init ts
  obtain ⟨U, e⟩ := bfsU_ok W.sm W.fold hl (2 * ts.length + 2) 0 ([(0, [])], []) U0
  have e : (foundU ts).1 = foundRooms ts := e
  have U : UsedOk ts (foundU ts) := U
  have iff : ∀ t ∈ ts, t ∈ (foundU ts).2 ↔ fewIs ts t = true := fun t ht => ?_
  · refine ⟨e, iff, ?_⟩
    have p : (ts.filter fun t => fewIs ts t).Perm (foundU ts).2 := by
      refine (List.perm_ext_iff_of_nodup ((folded_nodup W.fold).filter _) U.nd).mpr fun t => ?_
      rw [List.mem_filter]
      exact ⟨fun ⟨a, b⟩ => (iff t a).mpr b, fun a => ⟨U.sub t a, (iff t (U.sub t a)).mp a⟩⟩
    have h1 := p.length_eq
    have h2 := U.len
    rw [e] at h2
    have h3 : (ts.filter fun t => fewIs ts t).length + (fewTies ts).length = ts.length := by
      exact filter_split (fun t => fewIs ts t) ts
    omega
  rw [U.used t ht, e]
  have T : TreeOk ts (foundRooms ts) := (found_tree W.sm).ok W.sm W.fold
  obtain ⟨k1, k2⟩ := W.all_ t ht
  unfold fewIs
  rw [Bool.or_eq_true, decide_eq_true_eq, decide_eq_true_eq]
  constructor
  · rintro ⟨w, ⟨h1, h2⟩ | ⟨h1, h2⟩⟩
    · left
      rw [← way_of T h1, ← way_of T h2]
    · right
      rw [← way_of T h1, ← way_of T h2]
  · rintro (h | h)
    · exact ⟨_, .inl ⟨way_mem k1, by rw [← h]; exact way_mem k2⟩⟩
    · exact ⟨_, .inr ⟨way_mem k2, by rw [← h]; exact way_mem k1⟩⟩
end
end Gw

/-! ### a web of at most twenty ties and its few words' webs. Plain. -/
namespace Gw
/-- some few words' row: it is fine, its web is a web, and maps into what has their ties -/
structure FewRow (ts Δ es : List T3) : Prop where
  al : ∀ u ∈ es.map (fewW ts), AL u
  short : ∀ u ∈ es.map (fewW ts), u.length ≤ 83
  few : es.length ≤ 20
  fine : FineAll (rings ((es.map (fewW ts)).map sh))
  len : (rings ((es.map (fewW ts)).map sh)).length ≤ 1660
  ok : WebOk ((gluedOf (es.map (fewW ts))).map T4.t3)
  round : ∀ t ∈ es, Walk ((gluedOf (es.map (fewW ts))).map T4.t3) 0 (fewW ts t) 0
  into : ∃ φ : Nat → Nat, φ 0 = 0 ∧ ∀ t ∈ (gluedOf (es.map (fewW ts))).map T4.t3, mapT φ t ∈ Δ
theorem fewRow {ts Δ es : List T3} (W : IsWeb ts) (l20 : ts.length ≤ 20) (F : Folded Δ) (sub : ∀ t ∈ Δ, t ∈ ts) (hT : ∀ t ∈ ts, fewIs ts t = true → t ∈ Δ) (hE : ∀ t ∈ es, t ∈ ts ∧ t ∈ Δ ∧ fewIs ts t = false) (nd : es.Nodup) : FewRow ts Δ es := by
  obtain ⟨a, ⟨φ, h0, hφ⟩, b, c, d⟩ := few_row W l20 F hT hE nd
  have hE' : ∀ t ∈ es, t ∈ ts ∧ fewIs ts t = false := fun t ht => ⟨(hE t ht).1, (hE t ht).2.2⟩
  have e := fewW_sh W hE'
  have al : ∀ u ∈ es.map (fewW ts), AL u := fun u hu => by
    obtain ⟨t, ht, rfl⟩ := List.mem_map.mp hu
    exact (fewW_red W (hE' t ht).1 (hE' t ht).2).1
  have hφ' : ∀ t ∈ (gluedOf (es.map (fewW ts))).map T4.t3, mapT φ t ∈ Δ := fun t ht => by
    obtain ⟨x, hx, rfl⟩ := List.mem_map.mp ht
    unfold gluedOf at hx
    rw [e] at hx
    exact hφ x hx
  obtain ⟨V, R⟩ := gluedOf_ok (us := es.map (fewW ts)) al fun t ht => by
    have := W.ok.sm _ (sub _ (hφ' t ht))
    exact this
  refine ⟨al, fun u hu => ?_, b, by rw [e]; exact a, by rw [e]; exact d, V, fun t ht => ?_, φ, h0, hφ'⟩
  · obtain ⟨t, ht, rfl⟩ := List.mem_map.mp hu
    exact c t ht
  · have := R.round (fewW ts t) (by rw [e]; exact List.mem_map.mpr ⟨t, ht, rfl⟩)
    exact this
section
variable {ts : List T3}
theorem fewTies_nodup (W : IsWeb ts) : (fewTies ts).Nodup := (folded_nodup W.ok.fold).filter _
theorem few_all (W : IsWeb ts) (l20 : ts.length ≤ 20) : FewRow ts ts (fewTies ts) ∧ webOf (fewT ts) = ts := by
  have R := fewRow (Δ := ts) (es := fewTies ts) W l20 W.ok.fold (fun t h => h) (fun t h _ => h) (fun t h => ⟨(fewTies_mem h).1, (fewTies_mem h).1, (fewTies_mem h).2⟩) (fewTies_nodup W)
  refine ⟨R, ?_⟩
  obtain ⟨φ, h0, hφ⟩ := R.into
  rw [fewT_eq W]
  exact few_web W R.ok R.round h0 hφ
/-- a walk in a numbered graph is one in the graph -/
theorem numbered_into {Θ Δ : List T3} (V : WebOk Θ) {φ : Nat → Nat} (h0 : φ 0 = 0) (hφ : ∀ t ∈ Θ, mapT φ t ∈ Δ) : ∃ φ' : Nat → Nat, φ' 0 = 0 ∧ ∀ t ∈ numberedT Θ, mapT φ' t ∈ Δ := by
  have at_ : ∀ r ∈ keysF (foundRooms Θ), (keysF (foundRooms Θ)).getD (numOf (foundRooms Θ) r) 0 = r := fun r hr => by
    unfold numOf
    have h := List.idxOf_lt_length_of_mem hr
    show (keysF (foundRooms Θ)).getD ((keysF (foundRooms Θ)).idxOf r) 0 = r
    rw [List.getD_eq_getElem?_getD, List.getElem?_eq_getElem h, Option.getD_some]
    exact List.getElem_idxOf h
  refine ⟨fun i => φ ((keysF (foundRooms Θ)).getD i 0), ?_, fun t ht => ?_⟩
  · have := at_ 0 (zero_found Θ)
    rw [numOf_zero] at this
    show φ ((keysF (foundRooms Θ)).getD 0 0) = 0
    rw [this, h0]
  · obtain ⟨s, hs, rfl⟩ := List.mem_map.mp ((numbered_perm Θ).mem_iff.mp ht)
    obtain ⟨k1, k2⟩ := V.all_ s hs
    have := hφ s hs
    show (φ ((keysF (foundRooms Θ)).getD (numOf (foundRooms Θ) s.1) 0), s.2.1, φ ((keysF (foundRooms Θ)).getD (numOf (foundRooms Θ) s.2.2) 0)) ∈ Δ
    rw [at_ _ k1, at_ _ k2]
    exact this
/-- one few word left out -/
theorem few_less (W : IsWeb ts) (l20 : ts.length ≤ 20) {k : Nat} {t : T3} (hk : (fewTies ts)[k]? = some t) : FewRow ts (ts.erase t) ((fewTies ts).eraseIdx k) ∧ ¬ Walk (webOf (((fewTies ts).eraseIdx k).map (fewW ts))) 0 (fewW ts t) 0 ∧ webOf (((fewTies ts).eraseIdx k).map (fewW ts)) ≠ ts := by
  have ht := List.mem_of_getElem? hk
  obtain ⟨t1, t2⟩ := fewTies_mem ht
  have nd := fewTies_nodup W
  have ndt := folded_nodup W.ok.fold
  have hk1 := (List.getElem?_eq_some_iff.mp hk).1
  have hk2 := (List.getElem?_eq_some_iff.mp hk).2
  have ne : ∀ s ∈ (fewTies ts).eraseIdx k, s ≠ t := fun s hs e => by
    obtain ⟨i, hi, hne⟩ := List.mem_eraseIdx_iff_getElem?.mp hs
    rw [e] at hne
    have h1 := (List.getElem?_eq_some_iff.mp hne)
    obtain ⟨g1, g2⟩ := h1
    have a := List.Nodup.idxOf_getElem nd i g1
    have b := List.Nodup.idxOf_getElem nd k hk1
    rw [g2] at a
    rw [hk2] at b
    exact hi (a.symm.trans b)
  have R := fewRow (Δ := ts.erase t) (es := (fewTies ts).eraseIdx k) W l20 (List.Pairwise.sublist List.erase_sublist W.ok.fold) (fun s h => List.mem_of_mem_erase h) (fun s h hf => (List.mem_erase_of_ne fun e => by rw [e, t2] at hf; cases hf).mpr h) (fun s h => by
    obtain ⟨a, b⟩ := fewTies_mem (List.mem_of_mem_eraseIdx h)
    exact ⟨a, (List.mem_erase_of_ne (ne s h)).mpr a, b⟩) (nd.sublist (List.eraseIdx_sublist _ _))
  obtain ⟨φ, h0, hφ⟩ := R.into
  obtain ⟨φ', h0', hφ'⟩ := numbered_into R.ok h0 hφ
  have no : ¬ Walk (webOf (((fewTies ts).eraseIdx k).map (fewW ts))) 0 (fewW ts t) 0 := few_not W t1 t2 h0' hφ'
  refine ⟨R, no, fun e => no ?_⟩
  rw [e]
  exact (few_walkM (Δ := ts) (es := [t]) W (fun s h _ => h) (fun s h => by rw [List.mem_singleton] at h; rw [h]; exact ⟨t1, t1, t2⟩) (by show 1 ≤ 26; decide) List.mem_cons_self).walk
end
end Gw

/-! ### the law's ways: steps told as lists by room, rooms found along them. Plain. -/
namespace Gw
abbrev SK := List (Nat × List (Nat × Nat))
def nbrK (B : SK) (r : Nat) : List (Nat × Nat) := (aget B r).getD []
def addK (B : SK) (r : Nat) (p : Nat × Nat) : SK := aput B r (nbrK B r ++ [p])
def stK (B : SK) (t : T3) : SK := addK (addK B t.1 (t.2.1, t.2.2)) t.2.2 (bk t.2.1, t.1)
def lawK (ts : List T3) : SK := ts.foldl stK []
theorem nbrK_add (B : SK) (r : Nat) (p : Nat × Nat) (q : Nat) : nbrK (addK B r p) q = if q = r then nbrK B q ++ [p] else nbrK B q := by
  unfold addK
  conv => lhs; unfold nbrK
  rw [aget_put]
  by_cases h : q = r
  · rw [if_pos h, if_pos h, h]
    rfl
  · rw [if_neg h, if_neg h]
    rfl
theorem lawK_mem : ∀ (ts : List T3) (B : SK) (r : Nat) (p : Nat × Nat), p ∈ nbrK (ts.foldl stK B) r ↔ p ∈ nbrK B r ∨ ∃ t ∈ ts, (t.1 = r ∧ (t.2.1, t.2.2) = p) ∨ (t.2.2 = r ∧ (bk t.2.1, t.1) = p)
  | [], B, r, p => ⟨.inl, fun h => h.elim id fun ⟨_, ht, _⟩ => by cases ht⟩
  | t :: ts, B, r, p => by
    rw [List.foldl_cons, lawK_mem ts]
    have e : p ∈ nbrK (stK B t) r ↔ p ∈ nbrK B r ∨ (t.1 = r ∧ (t.2.1, t.2.2) = p) ∨ (t.2.2 = r ∧ (bk t.2.1, t.1) = p) := by
      unfold stK
      rw [nbrK_add, nbrK_add]
      by_cases h1 : r = t.2.2
      · rw [if_pos h1]
        by_cases h2 : r = t.1
        · rw [if_pos h2, List.mem_append, List.mem_append, List.mem_singleton, List.mem_singleton]
          constructor
          · rintro ((h | h) | h)
            · exact .inl h
            · exact .inr (.inl ⟨h2.symm, h.symm⟩)
            · exact .inr (.inr ⟨h1.symm, h.symm⟩)
          · rintro (h | ⟨_, h⟩ | ⟨_, h⟩)
            · exact .inl (.inl h)
            · exact .inl (.inr h.symm)
            · exact .inr h.symm
        · rw [if_neg h2, List.mem_append, List.mem_singleton]
          constructor
          · rintro (h | h)
            · exact .inl h
            · exact .inr (.inr ⟨h1.symm, h.symm⟩)
          · rintro (h | ⟨h, _⟩ | ⟨_, h⟩)
            · exact .inl h
            · exact absurd h.symm h2
            · exact .inr h.symm
      · rw [if_neg h1]
        by_cases h2 : r = t.1
        · rw [if_pos h2, List.mem_append, List.mem_singleton]
          constructor
          · rintro (h | h)
            · exact .inl h
            · exact .inr (.inl ⟨h2.symm, h.symm⟩)
          · rintro (h | ⟨_, h⟩ | ⟨h, _⟩)
            · exact .inl h
            · exact .inr h.symm
            · exact absurd h.symm h1
        · rw [if_neg h2]
          constructor
          · exact .inl
          · rintro (h | ⟨h, _⟩ | ⟨h, _⟩)
            · exact h
            · exact absurd h.symm h2
            · exact absurd h.symm h1
    rw [e]
    constructor
    · rintro ((h | h) | ⟨s, hs, h⟩)
      · exact .inl h
      · exact .inr ⟨t, List.mem_cons_self, h⟩
      · exact .inr ⟨s, List.mem_cons_of_mem _ hs, h⟩
    · rintro (h | ⟨s, hs, h⟩)
      · exact .inl (.inl h)
      · rcases List.mem_cons.mp hs with rfl | hs
        · exact .inl (.inr h)
        · exact .inr ⟨s, hs, h⟩
theorem lawK_st {ts : List T3} (hs : ∀ t ∈ ts, 97 ≤ t.2.1 ∧ t.2.1 ≤ 122) {r c g : Nat} (h : (c, g) ∈ nbrK (lawK ts) r) : isL c = true ∧ St ts r c g := by
  rcases (lawK_mem ts [] r (c, g)).mp h with h | ⟨t, ht, ⟨e1, e2⟩ | ⟨e1, e2⟩⟩
  · cases h
  · have e2 := Prod.mk.inj e2
    have st := hs t ht
    have hL : isL t.2.1 = true := isL_iff.mpr (.inl st)
    rw [← e1, ← e2.1, ← e2.2]
    exact ⟨hL, .inl ⟨decide_eq_true st, ht⟩⟩
  · have e2 := Prod.mk.inj e2
    have st := hs t ht
    have hL : isL t.2.1 = true := isL_iff.mpr (.inl st)
    rw [← e1, ← e2.1, ← e2.2]
    obtain ⟨h1, h2⟩ := small_bk st
    exact ⟨bk_L hL, .inr ⟨h1, by rw [h2]; exact ht⟩⟩
theorem lawK_len : ∀ (ts : List T3) (B : SK) (r : Nat), (nbrK (ts.foldl stK B) r).length ≤ (nbrK B r).length + 2 * ts.length
  | [], B, r => Nat.le_refl _
  | t :: ts, B, r => by
    have h1 := lawK_len ts (stK B t) r
    have h2 : (nbrK (stK B t) r).length ≤ (nbrK B r).length + 2 := by
      unfold stK
      rw [nbrK_add, nbrK_add]
      split <;> split <;> simp
    rw [List.foldl_cons, List.length_cons]
    omega
/-- a way along the lists -/
def WalkK (B : SK) : Nat → List Nat → Nat → Prop
  | a, [], b => a = b
  | a, c :: w, b => ∃ g, (c, g) ∈ nbrK B a ∧ WalkK B g w b
theorem WalkK.snoc {B : SK} : ∀ {w : List Nat} {a b c g : Nat}, WalkK B a w b → (c, g) ∈ nbrK B b → WalkK B a (w ++ [c]) g
  | [], _, _, _, _, h, k => by
    have h : _ = _ := h
    rw [h]
    exact ⟨_, k, rfl⟩
  | _ :: _, _, _, _, _, ⟨m, h1, h2⟩, k => ⟨m, h1, WalkK.snoc h2 k⟩
theorem WalkK.walk {ts : List T3} (hs : ∀ t ∈ ts, 97 ≤ t.2.1 ∧ t.2.1 ≤ 122) : ∀ {w : List Nat} {a b : Nat}, WalkK (lawK ts) a w b → AL w ∧ Walk ts a w b
  | [], _, _, h => ⟨AL.nil, h⟩
  | _ :: _, _, _, ⟨m, h1, h2⟩ => by
    obtain ⟨x, y⟩ := lawK_st hs h1
    obtain ⟨u, v⟩ := WalkK.walk hs h2
    exact ⟨AL.cons x u, m, y, v⟩
def tryK (way : List Nat) (f : Found) (p : Nat × Nat) : Found := if p.2 ∈ keysF f then f else f ++ [(p.2, way ++ [p.1])]
def bfsK (B : SK) : Nat → Nat → Found → Found
  | 0, _, f => f
  | n + 1, i, f => match f[i]? with
    | none => f
    | some q => bfsK B n (i + 1) ((nbrK B q.1).foldl (tryK q.2) f)
structure KOk (B : SK) (D : List Nat) (f : Found) : Prop where
  nd : (keysF f).Nodup
  sub : ∀ r ∈ keysF f, r ∈ D
  zero : (0, []) ∈ f
  way : ∀ p ∈ f, WalkK B 0 p.2 p.1 ∧ p.2.length < f.length
section
variable {B : SK} {D : List Nat}
theorem KOk.len {f : Found} (h : KOk B D f) : f.length ≤ D.length := by
  have := nodup_leA _ _ h.nd h.sub
  rwa [keysF, List.length_map] at this
theorem tryK_pre (way : List Nat) (f : Found) (p : Nat × Nat) : ∃ x, tryK way f p = f ++ x := by
  unfold tryK
  split
  · exact ⟨[], (List.append_nil _).symm⟩
  · exact ⟨_, rfl⟩
theorem foldK_pre (way : List Nat) : ∀ (l : List (Nat × Nat)) (f : Found), ∃ x, l.foldl (tryK way) f = f ++ x
  | [], f => ⟨[], (List.append_nil _).symm⟩
  | p :: l, f => by
    obtain ⟨x, hx⟩ := tryK_pre way f p
    obtain ⟨y, hy⟩ := foldK_pre way l (f ++ x)
    rw [List.foldl_cons, hx, hy, List.append_assoc]
    exact ⟨_, rfl⟩
theorem KOk.tryK {f : Found} (h : KOk B D f) {r : Nat} {way : List Nat} (hr : (r, way) ∈ f) {p : Nat × Nat} (hp : p ∈ nbrK B r) (hD : p.2 ∈ D) : KOk B D (Gw.tryK way f p) ∧ p.2 ∈ keysF (Gw.tryK way f p) := by
  unfold Gw.tryK
  split
  · rename_i e
    exact ⟨h, e⟩
  · rename_i e
    refine ⟨⟨?_, fun q hq => ?_, List.mem_append_left _ h.zero, fun q hq => ?_⟩, ?_⟩
    · rw [keysF, List.map_append, List.nodup_append]
      refine ⟨h.nd, by simp, fun a ha b hb z => e ?_⟩
      have hb : b = p.2 := by simpa using hb
      rw [← hb, ← z]
      exact ha
    · rw [keysF, List.map_append] at hq
      rcases List.mem_append.mp hq with hq | hq
      · exact h.sub q hq
      · have : q = p.2 := by simpa using hq
        rw [this]
        exact hD
    · rw [List.length_append, List.length_singleton]
      rcases List.mem_append.mp hq with hq | hq
      · obtain ⟨a, b⟩ := h.way q hq
        exact ⟨a, by omega⟩
      · rw [List.mem_singleton.mp hq]
        obtain ⟨a, b⟩ := h.way _ hr
        refine ⟨a.snoc hp, ?_⟩
        have b : way.length < f.length := b
        show (way ++ [p.1]).length < _
        rw [List.length_append, List.length_singleton]
        omega
    · rw [keysF, List.map_append]
      exact List.mem_append_right _ (by simp)
theorem KOk.foldK {r : Nat} {way : List Nat} : ∀ (l : List (Nat × Nat)) (f : Found), (∀ p ∈ l, p ∈ nbrK B r ∧ p.2 ∈ D) → KOk B D f → (r, way) ∈ f → KOk B D (l.foldl (Gw.tryK way) f) ∧ ∀ p ∈ l, p.2 ∈ keysF (l.foldl (Gw.tryK way) f)
  | [], f, _, h, _ => ⟨h, fun p hp => by cases hp⟩
  | p :: l, f, hl, h, hr => by
    obtain ⟨h1, h2⟩ := hl p List.mem_cons_self
    obtain ⟨a, b⟩ := h.tryK hr h1 h2
    obtain ⟨x, hx⟩ := tryK_pre way f p
    obtain ⟨c, d⟩ := KOk.foldK l _ (fun q hq => hl q (List.mem_cons_of_mem _ hq)) a (by rw [hx]; exact List.mem_append_left _ hr)
    refine ⟨c, fun q hq => ?_⟩
    rcases List.mem_cons.mp hq with rfl | hq
    · obtain ⟨y, hy⟩ := foldK_pre way l (Gw.tryK way f q)
      show q.2 ∈ keysF (l.foldl (Gw.tryK way) (Gw.tryK way f q))
      rw [hy]
      exact keys_pre b
    · exact d q hq
theorem bfsK_ok (hD : ∀ r, ∀ p ∈ nbrK B r, p.2 ∈ D) : ∀ (n i : Nat) (f : Found), KOk B D f → D.length < n + i → (∀ (j : Nat) q, j < i → f[j]? = some q → ∀ p ∈ nbrK B q.1, p.2 ∈ keysF f) → KOk B D (bfsK B n i f) ∧ ∀ q ∈ bfsK B n i f, ∀ p ∈ nbrK B q.1, p.2 ∈ keysF (bfsK B n i f)
  | 0, i, f, h, hn, hc => by
    refine ⟨h, fun q hq p hp => ?_⟩
    have hq : q ∈ f := hq
    obtain ⟨j, hj⟩ := List.getElem?_of_mem hq
    have h1 := (List.getElem?_eq_some_iff.mp hj).1
    have h2 := h.len
    exact hc j q (by omega) hj p hp
  | n + 1, i, f, h, hn, hc => by
    unfold bfsK
    cases q : f[i]? with
    | none =>
      refine ⟨h, fun q' hq p hp => ?_⟩
      have hq : q' ∈ f := hq
      obtain ⟨j, hj⟩ := List.getElem?_of_mem hq
      have h1 := (List.getElem?_eq_some_iff.mp hj).1
      have h2 := List.getElem?_eq_none_iff.mp q
      exact hc j q' (by omega) hj p hp
    | some e =>
      obtain ⟨a, b⟩ := KOk.foldK (r := e.1) (way := e.2) (nbrK B e.1) f (fun p hp => ⟨hp, hD _ p hp⟩) h (List.mem_of_getElem? q)
      obtain ⟨x, hx⟩ := foldK_pre e.2 (nbrK B e.1) f
      refine bfsK_ok hD n (i + 1) _ a (by omega) fun j q' hj hq' p hp => ?_
      have hi := (List.getElem?_eq_some_iff.mp q).1
      have old : f[j]? = some q' := by
        rw [hx, List.getElem?_append_left (by omega)] at hq'
        exact hq'
      by_cases hji : j < i
      · have := hc j q' hji old p hp
        rw [hx]
        exact keys_pre this
      · have : j = i := by omega
        rw [this, q] at old
        cases old
        exact b p hp
theorem kOk_init (h0 : 0 ∈ D) : KOk B D [(0, [])] := ⟨by decide, (fun r hr => by rw [keysF, List.map_cons, List.map_nil, List.mem_singleton] at hr; rw [hr]; exact h0), List.mem_cons_self, fun p hp => by rw [List.mem_singleton.mp hp]; exact ⟨rfl, Nat.zero_lt_one⟩⟩
end
/-- all rooms of ties, and 0 -/
def roomsK (ts : List T3) : List Nat := 0 :: ts.flatMap fun t => [t.1, t.2.2]
theorem roomsK_len (ts : List T3) : (roomsK ts).length = 2 * ts.length + 1 := by
  unfold roomsK
  rw [List.length_cons]
  congr 1
  induction ts with
  | nil => rfl
  | cons t ts ih => rw [List.flatMap_cons, List.length_append, ih]; show 2 + 2 * ts.length = 2 * (ts.length + 1); omega
theorem roomsK_nbr (ts : List T3) (r : Nat) (p : Nat × Nat) (h : p ∈ nbrK (lawK ts) r) : p.2 ∈ roomsK ts := by
  rcases (lawK_mem ts [] r p).mp h with h | ⟨t, ht, ⟨_, e⟩ | ⟨_, e⟩⟩
  · cases h
  · rw [← e]
    exact List.mem_cons_of_mem _ (List.mem_flatMap.mpr ⟨t, ht, by simp⟩)
  · rw [← e]
    exact List.mem_cons_of_mem _ (List.mem_flatMap.mpr ⟨t, ht, by simp⟩)
def waysK (ts : List T3) : Found := bfsK (lawK ts) (2 * ts.length + 2) 0 [(0, [])]
theorem waysK_ok (ts : List T3) : KOk (lawK ts) (roomsK ts) (waysK ts) ∧ ∀ q ∈ waysK ts, ∀ p ∈ nbrK (lawK ts) q.1, p.2 ∈ keysF (waysK ts) :=
  bfsK_ok (roomsK_nbr ts) _ _ _ (kOk_init List.mem_cons_self) (by rw [roomsK_len]; omega) fun j q hj => by omega
/-- where a way leads, there is a way -/
theorem waysK_has (ts : List T3) : ∀ {w : List Nat} {a b : Nat}, WalkK (lawK ts) a w b → a ∈ keysF (waysK ts) → b ∈ keysF (waysK ts)
  | [], _, _, h, ha => by
    have h : _ = _ := h
    rw [← h]
    exact ha
  | _ :: _, _, _, ⟨m, h1, h2⟩, ha => by
    obtain ⟨q, hq, rfl⟩ := List.mem_map.mp ha
    exact waysK_has ts h2 ((waysK_ok ts).2 q hq _ h1)
theorem waysK_get (ts : List T3) {r : Nat} (h : r ∈ keysF (waysK ts)) : ∃ w, aget (waysK ts) r = some w ∧ WalkK (lawK ts) 0 w r ∧ w.length < (waysK ts).length := by
  have h1 := ahas_mem.mpr h
  rw [ahas_get] at h1
  obtain ⟨w, hw⟩ := Option.isSome_iff_exists.mp h1
  obtain ⟨a, b⟩ := (waysK_ok ts).1.way _ (aget_mem hw)
  exact ⟨w, hw, a, b⟩
/-- so many rooms at most -/
theorem waysK_le {ts : List T3} (W : WebOk ts) : (waysK ts).length ≤ (foundRooms ts).length := by
  have h := (waysK_ok ts).1
  have := nodup_leA (keysF (waysK ts)) (keysF (foundRooms ts)) h.nd fun r hr => by
    have := h.sub r hr
    unfold roomsK at this
    rcases List.mem_cons.mp this with rfl | this
    · exact zero_found ts
    · obtain ⟨t, ht, e⟩ := List.mem_flatMap.mp this
      have a := W.all_ t ht
      simp only [List.mem_cons, List.not_mem_nil, or_false] at e
      rcases e with rfl | rfl
      · exact a.1
      · exact a.2
  rwa [keysF, keysF, List.length_map, List.length_map] at this
/-- the rooms of the glued ties are few -/
theorem SizeOk.rooms {K H : Nat} {Γ : List T4} {N S X : Nat} {D : List Nat} {L : Nat → List Nat → Prop} (Z : SizeOk K Γ N S X H D L) (hs : ∀ t ∈ Γ.map T4.t3, 97 ≤ t.2.1 ∧ t.2.1 ≤ 122) (F : Folded (Γ.map T4.t3)) : (foundRooms (Γ.map T4.t3)).length ≤ 1 + (N - 1 - D.length) := by
  have T := (found_tree hs).ok hs F
  have key : ∀ r ∈ keysF (foundRooms (Γ.map T4.t3)), r < N ∧ r ∉ D := fun r hr => by
    obtain ⟨p, hp, rfl⟩ := List.mem_map.mp hr
    rcases T.par p.1 p.2 hp with ⟨h, _⟩ | ⟨q, wq, d, _, _, s, _⟩
    · rw [h]
      exact ⟨Z.pos, fun z => (Z.dead 0 z).1 rfl⟩
    · obtain ⟨t, ht, e⟩ : ∃ t ∈ Γ.map T4.t3, t.1 = p.1 ∨ t.2.2 = p.1 := by
        rcases s with ⟨_, h⟩ | ⟨_, h⟩
        · exact ⟨_, h, .inr rfl⟩
        · exact ⟨_, h, .inl rfl⟩
      obtain ⟨x, hx, rfl⟩ := List.mem_map.mp ht
      obtain ⟨a, b⟩ := Z.room x hx
      rcases e with e | e
      · rw [← e]; exact a
      · rw [← e]; exact b
  have := nodup_leA (keysF (foundRooms (Γ.map T4.t3)) ++ D) (List.range N) (by
    rw [List.nodup_append]
    exact ⟨T.nd, Z.nd, fun a ha b hb e => (key a ha).2 (by rw [e]; exact hb)⟩) fun x hx => by
      rcases List.mem_append.mp hx with hx | hx
      · exact List.mem_range.mpr (key x hx).1
      · exact List.mem_range.mpr (Z.dead x hx).2
  rw [List.length_append, List.length_range, keysF, List.length_map] at this
  have h0 : 0 < (keysF (foundRooms (Γ.map T4.t3))).length := List.length_pos_of_mem (zero_found _)
  rw [keysF, List.length_map] at h0
  omega
end Gw

/-! ### plain data: shape, equality -/
namespace Gw
open PySem PySem.Spec PyProof.Rows L2 RT
/-- data of depth n at most -/
def Shd (n : Nat) (d : PyData) : Prop := d.canLay0 = true ∧ d.depth ≤ n
theorem Shd.shaped {n : Nat} {d : PyData} (h : Shd n d) (hn : n ≤ 64 := by decide) : SeqAt.shaped d = true := by
  unfold SeqAt.shaped
  rw [Bool.and_eq_true, decide_eq_true_eq]
  exact ⟨h.1, Nat.le_trans h.2 hn⟩
theorem Shd.mono {n m : Nat} {d : PyData} (h : Shd n d) (l : n ≤ m) : Shd m d := ⟨h.1, Nat.le_trans h.2 l⟩
theorem Shd.int {n : Nat} {i : Int} : Shd n (.int i) := ⟨by simp only [PyData.canLay0], by simp [PyData.depth]⟩
theorem Shd.bl {n : Nat} {i : Bool} : Shd n (.bool i) := ⟨by simp only [PyData.canLay0], by simp [PyData.depth]⟩
theorem Shd.non {n : Nat} : Shd n .none := ⟨by simp only [PyData.canLay0], by simp [PyData.depth]⟩
theorem Shd.str {n : Nat} {x : Str} (h : PyData.strOk x = true) : Shd n (.str x) := ⟨by simpa only [PyData.canLay0] using h, by simp [PyData.depth]⟩
theorem Shd.all {n : Nat} : ∀ {ds : List PyData}, (∀ d ∈ ds, Shd n d) → PyData.canLayAll0 ds = true ∧ PyData.depthAll ds ≤ n
  | [], _ => ⟨by simp [PyData.canLayAll0], by simp [PyData.depthAll]⟩
  | d :: ds, h => by
    obtain ⟨a, b⟩ := h d (List.mem_cons_self ..)
    obtain ⟨c, e⟩ := Shd.all (ds := ds) fun x hx => h x (List.mem_cons_of_mem _ hx)
    refine ⟨by simp only [PyData.canLayAll0, a, c, Bool.and_self], ?_⟩
    simp only [PyData.depthAll]
    omega
theorem Shd.list {n : Nat} {ds : List PyData} (h : ∀ d ∈ ds, Shd n d) : Shd (n + 1) (.list ds) := by
  obtain ⟨a, b⟩ := Shd.all h
  exact ⟨by simpa only [PyData.canLay0] using a, by simp only [PyData.depth]; omega⟩
theorem Shd.tup {n : Nat} {ds : List PyData} (h : ∀ d ∈ ds, Shd n d) : Shd (n + 1) (.tuple ds) := by
  obtain ⟨a, b⟩ := Shd.all h
  exact ⟨by simpa only [PyData.canLay0] using a, by simp only [PyData.depth]; omega⟩
theorem eqv_int (i j : Int) : PyData.eqv (.int i) (.int j) = decide (i = j) := by
  simp only [PyData.eqv]
  rfl
theorem eqv_str (i j : Str) : PyData.eqv (.str i) (.str j) = decide (i = j) := by
  simp only [PyData.eqv]
  rw [Bool.eq_iff_iff, beq_iff_eq, decide_eq_true_eq]
theorem eqvAll_map {α : Type} [DecidableEq α] {enc : α → PyData} (h : ∀ a b, PyData.eqv (enc a) (enc b) = decide (a = b)) : ∀ xs ys : List α, PyData.eqvAll (xs.map enc) (ys.map enc) = decide (xs = ys)
  | [], [] => by simp [PyData.eqvAll]
  | [], y :: ys => by simp [PyData.eqvAll]
  | x :: xs, [] => by simp [PyData.eqvAll]
  | x :: xs, y :: ys => by
    simp only [List.map_cons, PyData.eqvAll, h, eqvAll_map h xs ys]
    rw [Bool.eq_iff_iff, Bool.and_eq_true, decide_eq_true_eq, decide_eq_true_eq, decide_eq_true_eq, List.cons.injEq]
theorem eqv_list {α : Type} [DecidableEq α] {enc : α → PyData} (h : ∀ a b, PyData.eqv (enc a) (enc b) = decide (a = b)) (xs ys : List α) : PyData.eqv (.list (xs.map enc)) (.list (ys.map enc)) = decide (xs = ys) := by
  rw [← eqvAll_map h]
  simp only [PyData.eqv]
theorem eqv_tup {α : Type} [DecidableEq α] {enc : α → PyData} (h : ∀ a b, PyData.eqv (enc a) (enc b) = decide (a = b)) (xs ys : List α) : PyData.eqv (.tuple (xs.map enc)) (.tuple (ys.map enc)) = decide (xs = ys) := by
  rw [← eqvAll_map h]
  simp only [PyData.eqv]
section
variable {K : PySem.W.Frag} {H : Hp} {Q : VK}
theorem dpAll_map {α : Type} {f : α → V} {g : α → PyData} : ∀ {l : List α}, (∀ a ∈ l, Dp K H (f a) (g a)) → DpAll K H (l.map f) (l.map g)
  | [], _ => .nil
  | a :: l, h => .cons (h a (List.mem_cons_self ..)) (dpAll_map fun x hx => h x (List.mem_cons_of_mem _ hx))
/-- a list against the empty one written -/
theorem w_neNil {α : Type} {l e : Addr} {xs : List α} {f : α → V} {g : α → PyData} {n : Nat} (hl : SqL K H l (xs.map f)) (he : SqL K H e []) (hd : ∀ a ∈ xs, Dp K H (f a) (g a)) (hs : ∀ a ∈ xs, Shd n (g a)) (hn : n + 1 ≤ 64 := by decide) (q : Q (.bl (!xs.isEmpty)) H) : rNeD K (.ref l) (.ref e) H Q := by
  refine ⟨_, _, .lst hl (dpAll_map hd), .lst he .nil, (Shd.list (n := n) fun d hd => ?_).shaped hn, (Shd.list (n := 0) fun d hd => by cases hd).shaped, ?_⟩
  · obtain ⟨a, ha, rfl⟩ := List.mem_map.mp hd
    exact hs a ha
  · cases xs <;> simpa [PyData.eqv, PyData.eqvAll] using q
end
end Gw

/-! ### words -/
namespace Gw
open PySem PySem.Spec PyProof.Rows L2 RT
abbrev tx (w : List Nat) : Str := ⟨w.toArray⟩
theorem small_list : (Str.ofString "abcdefghijklmnopqrstuvwxyz").cps.toList = (List.range 26).map (97 + ·) := by decide +kernel
theorem great_list : (Str.ofString "ABCDEFGHIJKLMNOPQRSTUVWXYZ").cps.toList = (List.range 26).map (65 + ·) := by decide +kernel
theorem small_len : (Str.ofString "abcdefghijklmnopqrstuvwxyz").length = 26 := by decide +kernel
theorem great_len : (Str.ofString "ABCDEFGHIJKLMNOPQRSTUVWXYZ").length = 26 := by decide +kernel
theorem mem_small {c : Nat} : c ∈ (Str.ofString "abcdefghijklmnopqrstuvwxyz").cps.toList ↔ 97 ≤ c ∧ c ≤ 122 := by
  rw [small_list, List.mem_map]
  constructor
  · rintro ⟨a, h, rfl⟩
    have := List.mem_range.mp h
    omega
  · rintro ⟨h1, h2⟩
    exact ⟨c - 97, List.mem_range.mpr (by omega), by omega⟩
theorem mem_great {c : Nat} : c ∈ (Str.ofString "ABCDEFGHIJKLMNOPQRSTUVWXYZ").cps.toList ↔ 65 ≤ c ∧ c ≤ 90 := by
  rw [great_list, List.mem_map]
  constructor
  · rintro ⟨a, h, rfl⟩
    have := List.mem_range.mp h
    omega
  · rintro ⟨h1, h2⟩
    exact ⟨c - 65, List.mem_range.mpr (by omega), by omega⟩
theorem occ_small : ∀ i, i < 26 → Builtin.Str.occurrences (Str.ofString "abcdefghijklmnopqrstuvwxyz") ⟨#[97 + i]⟩ 0 (Str.ofString "abcdefghijklmnopqrstuvwxyz").length 1 = [i] := by decide +kernel
theorem occ_great : ∀ i, i < 26 → Builtin.Str.occurrences (Str.ofString "ABCDEFGHIJKLMNOPQRSTUVWXYZ") ⟨#[65 + i]⟩ 0 (Str.ofString "ABCDEFGHIJKLMNOPQRSTUVWXYZ").length 1 = [i] := by decide +kernel
theorem at_small {i : Nat} (h : i < 26) : atI (Str.ofString "abcdefghijklmnopqrstuvwxyz").cps.toList ((i : Nat) : Int) = some (97 + i) := by
  refine atI_nat ?_
  rw [small_list, List.getElem?_map, List.getElem?_range h]
  rfl
theorem at_great {i : Nat} (h : i < 26) : atI (Str.ofString "ABCDEFGHIJKLMNOPQRSTUVWXYZ").cps.toList ((i : Nat) : Int) = some (65 + i) := by
  refine atI_nat ?_
  rw [great_list, List.getElem?_map, List.getElem?_range h]
  rfl
section
variable {P : Program} {w : World} {K : PySem.W.Frag} {mg : Str → Option Value} {base : Heap}
abbrev N_back_of : List Str := ["letter"]
theorem sc_back_of : FnScope ["letter"] ["letter"] (defScope s_back_of) := ⟨rfl, rfl, rfl, by decide +kernel, rfl, by decide +kernel, by decide +kernel⟩
theorem b_back_of : BindsT "back_of" s_back_of ["letter"] := fun _ _ _ _ _ _ us hl => match us, hl with | [_], _ => rfl
def sp_back_of : Sp := fun vs H Q _ => ∃ c : Nat, vs = [.str (sg c)] ∧ isL c = true ∧ Ret H Q fun v _ => v = .str (sg (bk c))
theorem ok_back_of (T : Tx K mg) : Ok P w K mg base 1 "back_of" ["letter"] sp_back_of := by
  refine Ok.of T.f_back_of sc_back_of b_back_of (fun vs H Q E h => by obtain ⟨a, rfl, _⟩ := h; rfl) (fun cdv A outer s H vs Q E hr h => ?_)
  obtain ⟨c, rfl, hc, q⟩ := h
  refine ⟨_, (pss_cons (ps_if (pt_cmpR op_in_sign (pv 0) (pe_txt (by rfl) T.v_SMALL) (by rfl)) (pss_one (ps_ret (pe_ix ix_str (pe_txt (by rfl) T.v_GREAT) (pe_bm PySem.F.plainAttrs_str PySem.F.slot_str_index PySem.F.type_str_index mt_sindex (pe_txt (by rfl) T.v_SMALL) (pa_cons (pv 0) pa_nil)) (fun _ _ => rfl)))) pss_nil)
      (pss_one (ps_ret (pe_ix ix_str (pe_txt (by rfl) T.v_SMALL) (pe_bm PySem.F.plainAttrs_str PySem.F.slot_str_index PySem.F.type_str_index mt_sindex (pe_txt (by rfl) T.v_GREAT) (pa_cons (pv 0) pa_nil)) (fun _ _ => rfl))))), ?_⟩
  walk_at "gw"
  rcases isL_cases hc with ⟨i, hi, rfl⟩ | ⟨i, hi, rfl⟩
  · rw [if_pos (decide_eq_true (mem_small.mpr (by omega)))]
    walk_at "gw"
    refine ⟨_, _, _, _, rfl, rfl, occ_small i hi, ?_⟩
    refine w_ixS (by rw [great_len]; decide) (at_great hi) ?_
    refine q _ _ (L2.Same.refl _) ?_
    rw [show bk (97 + i) = 65 + i by unfold bk; rw [if_pos (by omega)]; omega]
  · rw [if_neg (fun e => by have := mem_small.mp (of_decide_eq_true e); omega)]
    walk_at "gw"
    refine ⟨_, _, _, _, rfl, rfl, occ_great i hi, ?_⟩
    refine w_ixS (by rw [small_len]; decide) (at_small hi) ?_
    refine q _ _ (L2.Same.refl _) ?_
    rw [show bk (65 + i) = 97 + i by unfold bk; rw [if_neg (by omega)]; omega]

abbrev sgs (w : List Nat) : List V := w.map fun c => V.str (sg c)
theorem seqs_tx {w : List Nat} : Seqs (Its (tx w)) (fun _ => True) w (fun c x _ => x = .str (sg c)) := seqs_str (z := tx w)
theorem join_sgs (u : List Nat) : Txt.join (Str.ofString "") (u.map sg) = tx u := by
  show Builtin.Str.glued (Str.ofString "") (u.map sg) = tx u
  rw [PySem.StrLaws.glued_eq_join]
  induction u with
  | nil => rfl
  | cons c r ih =>
    cases r with
    | nil => rfl
    | cons d r =>
      have e : Str.join (Str.ofString "") ((c :: d :: r).map sg) = sg c ++ Str.ofString "" ++ Str.join (Str.ofString "") ((d :: r).map sg) := rfl
      rw [e, ih]
      exact Str.ext' (by simp [Str.cps_append, show (Str.ofString "").cps = #[] by decide +kernel])
theorem sum_sgs (u : List Nat) : ((u.map sg).map (·.length)).sum = u.length := by
  induction u with
  | nil => rfl
  | cons c r ih =>
    rw [List.map_cons, List.map_cons, List.sum_cons, ih, List.length_cons]
    show 1 + r.length = r.length + 1
    omega
abbrev N_shortened : List Str := ["word", "kept", "letter"]
theorem sc_shortened : FnScope ["word", "kept", "letter"] ["word"] (defScope s_shortened) := ⟨rfl, rfl, rfl, by decide +kernel, rfl, by decide +kernel, by decide +kernel⟩
theorem b_shortened : BindsT "shortened" s_shortened ["word"] := fun _ _ _ _ _ _ us hl => match us, hl with | [_], _ => rfl
def sp_shortened : Sp := fun vs H Q _ => ∃ u : List Nat, vs = [.str (tx u)] ∧ (∀ c ∈ u, isL c = true) ∧ u.length ≤ 100000 ∧ Ret H Q fun v _ => v = .str (tx (sh u))
theorem ok_shortened (T : Tx K mg) (G_back_of : Ok P w K mg base 1 "back_of" ["letter"] sp_back_of) : Ok P w K mg base 2 "shortened" ["word"] sp_shortened := by
  refine Ok.of T.f_shortened sc_shortened b_shortened (fun vs H Q E h => by obtain ⟨a, rfl, _⟩ := h; rfl) (fun cdv A outer s H vs Q E hr h => ?_)
  obtain ⟨u, rfl, hw, hl, q⟩ := h
  refine ⟨_, (pss_cons (ps_set (i := 1) sc_shortened.nd rfl (.inl rfl) (pe_lstN pa_nil))
      (pss_cons (ps_for PassesOwn.never rfl (pi_str (pv 0)) (pg_name (i := 2) sc_shortened.nd rfl (.inl rfl)) (pss_one (ps_if (PW.pt (pw_and (pt_cmpR op_gt (pe_callB (call_len_seqK K) (by rfl) T.n_len (by decide +kernel) (pa_cons (pv 1) pa_nil)) pe_int (nomark _)) (pw_and1 (pt_cmpR op_eq (pe_ix (ix_listK K) (pv 1) (pe_un un_neg pe_int) (fun _ _ => rfl)) (pe_g G_back_of (hr.mono (by decide)) (by rfl) (pa_cons (pv 2) pa_nil)) (nomark _))))) (pss_one (ps_expr (pe_bm0 PySem.F.plainAttrs_list PySem.F.slot_list_pop PySem.F.type_list_pop mt_popN (pv 1)))) (pss_one (ps_expr (pe_bm PySem.F.plainAttrs_list PySem.F.slot_list_append PySem.F.type_list_append mt_appN (pv 1) (pa_cons (pv 2) pa_nil)))))))
      (pss_one (ps_ret (pe_join pe_str (pv 1)))))), ?_⟩
  walk_at "gw"
  refine sz_and (Nat.zero_le _) fun p H1 n1 => ?_
  walk_at "gw"
  refine forS (bs := u) seqs_tx (fun pre σ' H' => ∃ y, σ' = [some (.str (tx u)), some (.ref p), y] ∧ Ex H H' ∧ H' p = some (.lst (sgs (sh pre)))) ⟨_, rfl, n1.ex, n1.at_⟩ (fun _ _ _ _ => trivial) ?_ ?_
  · rintro pre c post x σ' H2 H3 e ⟨y, rfl, ex, hp⟩ e3 rfl
    have hp3 := e3 _ _ hp
    have hc : isL c = true := hw c (by rw [e]; simp)
    have hlen : (sh pre).length ≤ 100000 := by
      have h1 := sh_len pre
      have h2 := congrArg List.length e
      rw [List.length_append] at h2
      omega
    rw [sh_snoc]
    walk_at "gw"
    refine ex_lenL (sqL_of hp3) ?_
    walk_at "gw"
    rcases list_end (sh pre) with ek | ⟨k, d, ek⟩
    · rw [ek] at hp3 ⊢
      rw [if_neg (by decide), if_neg (by decide)]
      walk_at "gw"
      refine w_app hp3 (by decide) fun H4 c4 => ?_
      walk_at "gw"
      refine ⟨_, rfl, c4.ex (ex.trans e3) n1.no, ?_⟩
      rw [c4.at_]
      rfl
    · have hd : isL d = true := sh_AL (w := pre) (fun c h => hw c (by rw [e]; simp [h])) d (by rw [ek]; simp)
      rw [ek] at hp3 hlen ⊢
      rw [if_pos (by simp)]
      walk_at "gw"
      refine w_ixL (sqL_of hp3) (v := .str (sg d)) (by simp only [sgs, List.map_append]; exact atI_last _ _) ?_
      walk_at "gw"
      refine ⟨c, rfl, hc, fun v H4 e4 ev => ?_⟩
      subst ev
      have hp4 := e4 _ _ hp3
      walk_at "gw"
      by_cases hcd : d = bk c
      · rw [if_pos (by rw [hcd]; exact decide_eq_true rfl)]
        walk_at "gw"
        simp only [sgs, List.map_append] at hp4
        refine w_pop hp4 fun H5 c5 => ?_
        walk_at "gw"
        refine ⟨_, rfl, c5.ex ((ex.trans e3).trans e4) n1.no, ?_⟩
        rw [c5.at_, shSt, if_pos (by rw [hcd]; simp), List.dropLast_concat]
      · rw [if_neg (fun z => hcd (by
          have z1 := of_decide_eq_true z
          cases z1
          rfl))]
        walk_at "gw"
        refine w_app hp4 (by simp only [List.length_map]; omega) fun H5 c5 => ?_
        walk_at "gw"
        refine ⟨_, rfl, c5.ex ((ex.trans e3).trans e4) n1.no, ?_⟩
        rw [c5.at_, shSt, if_neg (by simpa using hcd)]
        simp only [sgs, List.map_append]
        rfl
  · rintro σ' H2 ⟨y, rfl, ex, hp⟩
    walk_at "gw"
    refine ⟨_, _, sh u |>.map sg, rfl, rfl, .inl (sqL_of ?_), ?_, ?_⟩
    · rw [hp, List.map_map]
      rfl
    · rw [sum_sgs, show (Str.ofString "").length = 0 by decide +kernel, Nat.mul_zero]
      have := sh_len u
      omega
    · rw [join_sgs]
      exact q _ _ ex rfl

/-! what is a word -/
/-- v is the word u, or (none) no word -/
def IsW (K : PySem.W.Frag) (H : Hp) (v : V) (r : Option (List Nat)) : Prop :=
  (∃ z : List Nat, v = .str (tx z) ∧ z.length ≤ 100000 ∧ ((AL z ∧ r = some z) ∨ ((∃ c ∈ z, isL c = false) ∧ r = none))) ∨
  (r = none ∧ ∃ t, TyX K H v t ∧ PySem.W.kitOne K t (.type "str") = some false)
theorem IsW.word {H : Hp} {u : List Nat} (h : AL u) (l : u.length ≤ 100000) : IsW K H (.str (tx u)) (some u) := .inl ⟨u, rfl, l, .inl ⟨h, rfl⟩⟩
theorem IsW.some_of {H : Hp} {v : V} {u : List Nat} (h : IsW K H v (some u)) : v = .str (tx u) ∧ AL u ∧ u.length ≤ 100000 := by
  rcases h with ⟨z, rfl, l, ⟨h, e⟩ | ⟨_, e⟩⟩ | ⟨e, _⟩
  · cases e
    exact ⟨rfl, h, l⟩
  · cases e
  · cases e
theorem TyX.mono {H H' : Hp} {v : V} {t : Value} (e : Ex H H') (h : TyX K H v t) : TyX K H' v t := by
  cases h with
  | base h =>
    cases h with
    | non => exact .base .non
    | bl x => exact .base (.bl x)
    | int i => exact .base (.int i)
    | str x => exact .base (.str x)
    | flt x => exact .base (.flt x)
    | lst h => exact .base (.lst (e _ _ h))
    | frz h => exact .base (.frz (e _ _ h))
    | tup h => exact .base (.tup (e _ _ h))
    | dK h => exact .base (.dK (e _ _ h))
    | dT h => exact .base (.dT (e _ _ h))
    | ins h a b c d f => exact .base (.ins (e _ _ h) a b c d f)
  | byt b => exact .byt b
  | set h => exact .set (e _ _ h)
  | kList a b => exact .kList a b
  | kTuple a b => exact .kTuple a b
  | kDict a b => exact .kDict a b
  | fTuple h => exact .fTuple (e _ _ h)
  | fDict h => exact .fDict (e _ _ h)
theorem IsW.mono {H H' : Hp} {v : V} {r : Option (List Nat)} (h : IsW K H v r) (e : Ex H H') : IsW K H' v r := by
  rcases h with h | ⟨h1, t, h2, h3⟩
  · exact .inl h
  · exact .inr ⟨h1, t, TyX.mono e h2, h3⟩
theorem tx_app (u v : List Nat) : tx u ++ tx v = tx (u ++ v) := Str.ext' (by simp [Str.cps_append])
theorem isL_test (c : Nat) : (decide (c ∈ (Str.ofString "abcdefghijklmnopqrstuvwxyz").cps.toList) || decide (c ∈ (Str.ofString "ABCDEFGHIJKLMNOPQRSTUVWXYZ").cps.toList)) = isL c := by
  rw [Bool.eq_iff_iff, isL_iff, Bool.or_eq_true, decide_eq_true_eq, decide_eq_true_eq, mem_small, mem_great]
theorem all_isL {z : List Nat} {r : Option (List Nat)} (h : (AL z ∧ r = some z) ∨ ((∃ c ∈ z, isL c = false) ∧ r = none)) : (z.map isL).all id = r.isSome := by
  rcases h with ⟨h, rfl⟩ | ⟨⟨c, hc, e⟩, rfl⟩
  · exact List.all_eq_true.mpr fun b hb => by
      obtain ⟨c, hc, rfl⟩ := List.mem_map.mp hb
      exact h c hc
  · cases q : (z.map isL).all id with
    | false => rfl
    | true =>
      have := List.all_eq_true.mp q (isL c) (List.mem_map.mpr ⟨c, hc, rfl⟩)
      rw [e] at this
      cases this
abbrev N_is_word : List Str := ["thing", "sign"]
theorem sc_is_word : FnScope ["thing", "sign"] ["thing"] (defScope s_is_word) := ⟨rfl, rfl, rfl, by decide +kernel, rfl, by decide +kernel, by decide +kernel⟩
theorem b_is_word : BindsT "is_word" s_is_word ["thing"] := fun _ _ _ _ _ _ us hl => match us, hl with | [_], _ => rfl
def sp_is_word (K : PySem.W.Frag) : Sp := fun vs H Q _ => ∃ p : V × Option (List Nat), vs = [p.1] ∧ IsW K H p.1 p.2 ∧ Ret H Q fun v _ => v = .bl p.2.isSome
theorem ok_is_word (T : Tx K mg) : Ok P w K mg base 1 "is_word" ["thing"] (sp_is_word K) := by
  refine Ok.of T.f_is_word sc_is_word b_is_word (fun vs H Q E h => by obtain ⟨a, rfl, _⟩ := h; rfl) (fun cdv A outer s H vs Q E hr h => ?_)
  obtain ⟨⟨v, r⟩, rfl, hv, q⟩ := h
  refine ⟨_, (pss_one (ps_ret (pe_and (pe_callB call_isi (by rfl) T.n_isinstance (by decide +kernel) (pa_cons (pv 0) (pa_cons (pe_bltn (v := .ty "str") (by rfl) T.n_str (by decide +kernel) rfl) pa_nil))) (pe_one (pe_callB (cr_all rfl) (by rfl) T.n_all (by decide +kernel) (pa_cons (pe_lc (own := [("sign", 1)]) (g := gName 1) (tt := tYes) rfl sc_is_word.nd (pi_str (pv 0)) (blkOk_by (N := N_is_word) (sc := defScope s_is_word) (by decide +kernel)) (fun _ _ _ _ _ => (pg_name (i := 1) sc_is_word.nd rfl (.inl rfl))) (fun _ _ _ _ _ => pts_nil) (fun _ _ _ _ _ => (pe_or (pe_cmpR op_in_sign (pv 1) (pe_txt (by rfl) T.v_SMALL) (by rfl)) (pe_one (pe_cmpR op_in_sign (pv 1) (pe_txt (by rfl) T.v_GREAT) (by rfl)))))) pa_nil)))))), ?_⟩
  walk_at "gw"
  rcases hv with ⟨z, rfl, hl, hz⟩ | ⟨rfl, t, ty, kt⟩
  · refine ⟨_, _, _, _, true, rfl, .ty "str", .base (.str (tx z)), kit_ty (by decide +kernel), ?_⟩
    walk_at "gw"
    refine lcN (bs := z) seqs_tx (fun c v _ => v = .bl (isL c)) (fun _ _ _ _ _ h => h) (fun _ _ => trivial) (by omega) (fun _ => rfl) ?_ (fun _ _ _ _ _ h => h) ?_
    · rintro c x H' hc e rfl Q' q'
      walk_at "gw"
      have e1 := isL_test c
      cases h1 : decide (c ∈ (Str.ofString "abcdefghijklmnopqrstuvwxyz").cps.toList) with
      | true =>
        rw [h1, Bool.true_or] at e1
        walk_at "gw"
        exact q' _ _ (L2.Same.refl _) (by rw [e1])
      | false =>
        rw [h1, Bool.false_or] at e1
        walk_at "gw"
        exact q' _ _ (L2.Same.refl _) (by rw [e1])
    · intro l H' ys hn ex hy py
      walk_at "gw"
      have e2 := paired_eq py
      refine ⟨l, z.map isL, rfl, sqL_of (by rw [hy, e2, List.map_map]; rfl), ?_⟩
      rw [all_isL hz]
      exact q _ _ ex rfl
  · refine ⟨_, _, _, _, false, rfl, .ty "str", ty, kt, ?_⟩
    walk_at "gw"
    exact q _ _ (L2.Same.refl _) rfl
abbrev N_need_word : List Str := ["thing"]
theorem sc_need_word : FnScope ["thing"] ["thing"] (defScope s_need_word) := ⟨rfl, rfl, rfl, by decide +kernel, rfl, by decide +kernel, by decide +kernel⟩
theorem b_need_word : BindsT "need_word" s_need_word ["thing"] := fun _ _ _ _ _ _ us hl => match us, hl with | [_], _ => rfl
/-- a word is refused -/
abbrev NoWord (K : PySem.W.Frag) (H : Hp) (E : XK) : Prop := ∀ H', Ex H H' → E (.ref (He.ga K "BadWord")) none H'
def sp_need_word (K : PySem.W.Frag) : Sp := fun vs H Q E => ∃ p : V × Option (List Nat), vs = [p.1] ∧ IsW K H p.1 p.2 ∧ (∀ u, p.2 = some u → Ret H Q fun v _ => v = .non) ∧ (p.2 = none → NoWord K H E)
theorem ok_need_word (T : Tx K mg) (G_is_word : Ok P w K mg base 1 "is_word" ["thing"] (sp_is_word K)) : Ok P w K mg base 2 "need_word" ["thing"] (sp_need_word K) := by
  refine Ok.ofX T.f_need_word sc_need_word b_need_word (fun vs H Q E h => by obtain ⟨a, rfl, _⟩ := h; rfl) (fun cdv A outer s H vs Q E hr h => ?_)
  obtain ⟨⟨v, r⟩, rfl, hv, q, qe⟩ := h
  refine ⟨_, (pss_one (ps_if (pt_not (pt_val (pe_g G_is_word (hr.mono (by decide)) (by rfl) (pa_cons (pv 0) pa_nil)))) (pss_one (L2N.ps_raise rfl (L2N.takes_of rfl rfl rfl rfl) (L2N.pmk_own PySem.F.excBase_ValueError T.x_BadWord.1 T.g_BadWord T.x_BadWord.2.1 (raises_own T.x_BadWord.2.2.1 T.x_BadWord.2.2.2) rfl))) pss_nil)), ?_⟩
  walk_at "gw"
  refine ⟨(v, r), rfl, hv, ?_⟩
  rintro _ H1 e1 rfl
  walk_at "gw"
  cases r with
  | none => exact qe rfl H1 e1
  | some u =>
    walk_at "gw"
    exact q u rfl _ _ e1 rfl
def sp_turned : Sp := fun vs H Q _ => ∃ u : List Nat, vs = [.str (tx u)] ∧ (∀ c ∈ u, isL c = true) ∧ u.length ≤ 100000 ∧ Ret H Q fun v _ => v = .str (tx (sh (rv u)))
theorem seqs_revtx {u : List Nat} : Seqs (Itrs (tx u)) (fun _ => True) u.reverse (fun c x _ => x = .str (sg c)) := seqs_revS (z := tx u)
/-! calls, in short -/
section
variable {H0 H : Hp} {Q : VK} {E : XK} {u v : List Nat}
theorem c_isword {x : V} {r : Option (List Nat)} (e : Ex H0 H) (h : IsW K H x r) (q : ∀ H', Ex H0 H' → Q (.bl r.isSome) H') : sp_is_word K [x] H Q E0 := ⟨(x, r), rfl, h, fun _ H' e' z => by subst z; exact q H' (e.trans e')⟩
theorem c_shortened (e : Ex H0 H) (hu : AL u) (hl : u.length ≤ 100000) (q : ∀ H', Ex H0 H' → Q (.str (tx (sh u))) H') : sp_shortened [.str (tx u)] H Q E0 := ⟨u, rfl, hu, hl, fun _ H' e' z => by subst z; exact q H' (e.trans e')⟩
theorem c_turned (e : Ex H0 H) (hu : AL u) (hl : u.length ≤ 100000) (q : ∀ H', Ex H0 H' → Q (.str (tx (sh (rv u)))) H') : sp_turned [.str (tx u)] H Q E0 := ⟨u, rfl, hu, hl, fun _ H' e' z => by subst z; exact q H' (e.trans e')⟩
theorem c_back_of {c : Nat} (e : Ex H0 H) (hc : isL c = true) (q : ∀ H', Ex H0 H' → Q (.str (sg (bk c))) H') : sp_back_of [.str (sg c)] H Q E0 := ⟨c, rfl, hc, fun _ H' e' z => by subst z; exact q H' (e.trans e')⟩
/-- no words -/
theorem IsW.bad {z : List Nat} {c : Nat} (hl : z.length ≤ 100000) (hc : c ∈ z) (h : isL c = false) : IsW K H (.str (tx z)) none := .inl ⟨z, rfl, hl, .inr ⟨⟨c, hc, h⟩, rfl⟩⟩
theorem IsW.ty {x : V} {n : String} (h : TyX K H x (.type n)) (k : PySem.W.kitOne K (.type n) (.type "str") = some false) : IsW K H x none := .inr ⟨rfl, _, h, k⟩
end
end
end Gw

/-! ### the laws' common helpers -/
namespace Gw
open PySem PySem.Spec PyProof.Rows L2 RT
section
variable {P : Program} {w : World} {K : PySem.W.Frag} {mg : Str → Option Value} {base : Heap}
theorem at_ints {ns : List Int} {k : Nat} (h : k < ns.length) : atI (ns.map V.int) ((k : Nat) : Int) = some (.int (ns.getD k 0)) := by
  refine atI_nat ?_
  rw [List.getElem?_map, List.getD_eq_getElem?_getD, List.getElem?_eq_getElem h]
  rfl
abbrev N__law_cell : List Str := ["_law_script", "_law_k"]
theorem sc__law_cell : FnScope ["_law_script", "_law_k"] ["_law_script", "_law_k"] (defScope s__law_cell) := ⟨rfl, rfl, rfl, by decide +kernel, rfl, by decide +kernel, by decide +kernel⟩
theorem b__law_cell : BindsT "_law_cell" s__law_cell ["_law_script", "_law_k"] := fun _ _ _ _ _ _ us hl => match us, hl with | [_, _], _ => rfl
def sp__law_cell (K : PySem.W.Frag) : Sp := fun vs H Q _ => ∃ p : Addr × List Int × Nat, vs = [.ref p.1, .int ((p.2.2 : Nat) : Int)] ∧ SqL K H p.1 (p.2.1.map V.int) ∧ Ret H Q fun v _ => v = .int (p.2.1.getD p.2.2 0)
theorem ok__law_cell (T : Tx K mg) : Ok P w K mg base 1 "_law_cell" ["_law_script", "_law_k"] (sp__law_cell K) := by
  refine Ok.of T.f__law_cell sc__law_cell b__law_cell (fun vs H Q E h => by obtain ⟨a, rfl, _⟩ := h; rfl) (fun cdv A outer s H vs Q E hr h => ?_)
  obtain ⟨⟨a, ns, k⟩, rfl, hS, q⟩ := h
  refine ⟨_, (pss_cons (ps_if (pt_cmpR op_lt (pv 1) (pe_callB (call_len_seqK K) (by rfl) T.n_len (by decide +kernel) (pa_cons (pv 0) pa_nil)) (nomark _)) (pss_one (ps_ret (pe_ix (ix_listK K) (pv 0) (pv 1) (fun _ _ => rfl)))) pss_nil)
      (pss_one (ps_ret pe_int))), ?_⟩
  walk_at "gw"
  refine ex_lenL hS ?_
  walk_at "gw"
  by_cases hk : k < ns.length
  · rw [if_pos (by simp only [List.length_map]; exact decide_eq_true (by omega))]
    walk_at "gw"
    refine w_ixL hS (at_ints hk) ?_
    walk_at "gw"
    exact q _ _ (L2.Same.refl _) rfl
  · rw [if_neg (fun e => by have := of_decide_eq_true e; simp only [List.length_map] at this; omega)]
    walk_at "gw"
    refine q _ _ (L2.Same.refl _) ?_
    show V.int 0 = V.int (ns.getD k 0)
    rw [List.getD_eq_getElem?_getD, List.getElem?_eq_none (show ns.length ≤ k by omega)]
    rfl
abbrev N__law_mixed : List Str := ["_law_cell_here", "_law_k", "_law_number"]
theorem sc__law_mixed : FnScope ["_law_cell_here", "_law_k", "_law_number"] ["_law_cell_here", "_law_k"] (defScope s__law_mixed) := ⟨rfl, rfl, rfl, by decide +kernel, rfl, by decide +kernel, by decide +kernel⟩
theorem b__law_mixed : BindsT "_law_mixed" s__law_mixed ["_law_cell_here", "_law_k"] := fun _ _ _ _ _ _ us hl => match us, hl with | [_, _], _ => rfl
def mixed (c : Int) (k : Nat) : Int := (c % 2147483647 + 7919 * k * k + 31 * k) * 48271 % 2147483647 * (69621 + 2 * k) % 2147483629
theorem mixed_nn (c : Int) (k : Nat) : 0 ≤ mixed c k := Int.emod_nonneg _ (by decide)
def sp__law_mixed : Sp := fun vs H Q _ => ∃ p : Int × Nat, vs = [.int p.1, .int ((p.2 : Nat) : Int)] ∧ p.2 ≤ 16000000 ∧ Ret H Q fun v _ => v = .int (mixed p.1 p.2)
theorem ok__law_mixed (T : Tx K mg) : Ok P w K mg base 1 "_law_mixed" ["_law_cell_here", "_law_k"] sp__law_mixed := by
  refine Ok.of T.f__law_mixed sc__law_mixed b__law_mixed (fun vs H Q E h => by obtain ⟨a, rfl, _⟩ := h; rfl) (fun cdv A outer s H vs Q E hr h => ?_)
  obtain ⟨⟨c, k⟩, rfl, hk, q⟩ := h
  have hk : k ≤ 16000000 := hk
  refine ⟨_, (pss_cons (ps_set (i := 2) sc__law_mixed.nd rfl (.inl rfl) (pe_op op_mod (pe_op op_mul (pe_op op_add (pe_op op_add (pe_op op_mod (pv 0) pe_int) (pe_op op_mul (pe_op op_mul pe_int (pv 1)) (pv 1))) (pe_op op_mul pe_int (pv 1))) pe_int) pe_int))
      (pss_one (ps_ret (pe_op op_mod (pe_op op_mul (pv 2) (pe_op op_add pe_int (pe_op op_mul pe_int (pv 1)))) pe_int)))), ?_⟩
  walk_at "gw"
  exact q _ _ (L2.Same.refl _) rfl
abbrev N__law_letters : List Str := ["_law_cell_here", "_law_some", "_law_step", "_law_many", "_law_k"]
theorem sc__law_letters : FnScope ["_law_cell_here", "_law_some", "_law_step", "_law_many", "_law_k"] ["_law_cell_here"] (defScope s__law_letters) := ⟨rfl, rfl, rfl, by decide +kernel, rfl, by decide +kernel, by decide +kernel⟩
theorem b__law_letters : BindsT "_law_letters" s__law_letters ["_law_cell_here"] := fun _ _ _ _ _ _ us hl => match us, hl with | [_], _ => rfl
/-- letters of a law: one to eight small ones, unlike -/
structure Lets (ls : List Nat) : Prop where
  pos : 0 < ls.length
  few : ls.length ≤ 8
  sm : ∀ c ∈ ls, 97 ≤ c ∧ c ≤ 122
  nd : ls.Nodup
def steps8 : List Int := [1, 3, 5, 7, 9, 11, 15, 25]
theorem steps_nd : ∀ s ∈ steps8, ∀ i, i < 8 → ∀ j, j < 8 → (((i : Nat) : Int) * s - (j : Nat) * s) % 26 = 0 → i = j := by decide +kernel
theorem lets_of {c s : Int} {m : Nat} (hs : s ∈ steps8) (h1 : 0 < m) (h8 : m ≤ 8) : Lets ((List.range m).map fun k => 97 + ((c + (k : Nat) * s) % 26).toNat) where
  pos := by rw [List.length_map, List.length_range]; exact h1
  few := by rw [List.length_map, List.length_range]; exact h8
  sm := fun x hx => by
    obtain ⟨k, _, rfl⟩ := List.mem_map.mp hx
    have := Int.emod_lt_of_pos (c + (k : Nat) * s) (show (0 : Int) < 26 by decide)
    omega
  nd := by
    refine List.pairwise_map.mpr ?_
    refine (List.nodup_range (n := m)).imp_of_mem ?_
    intro i j hi hj hne e
    refine hne (steps_nd s hs i (by have := List.mem_range.mp hi; omega) j (by have := List.mem_range.mp hj; omega) ?_)
    have a1 := Int.emod_nonneg (c + (i : Nat) * s) (show (26 : Int) ≠ 0 by decide)
    have a2 := Int.emod_nonneg (c + (j : Nat) * s) (show (26 : Int) ≠ 0 by decide)
    have e2 : (c + (i : Nat) * s) % 26 = (c + (j : Nat) * s) % 26 := by omega
    have e3 := Int.emod_emod_of_dvd (c + (i : Nat) * s - (c + (j : Nat) * s)) (show (26 : Int) ∣ 26 from ⟨1, rfl⟩)
    have e4 : (c + (i : Nat) * s - (c + (j : Nat) * s)) % 26 = 0 := Int.emod_eq_emod_iff_emod_sub_eq_zero.mp e2
    rw [show c + (i : Nat) * s - (c + (j : Nat) * s) = (i : Nat) * s - (j : Nat) * s by omega] at e4
    exact e4
def sp__law_letters : Sp := fun vs H Q _ => ∃ c : Int, vs = [.int c] ∧ Ret H Q fun v H' => ∃ ls, Lets ls ∧ NewL H v H' (sgs ls)
theorem at_some {c : Int} : atI (Str.ofString "abcdefghijklmnopqrstuvwxyz").cps.toList (c % 26) = some (97 + (c % 26).toNat) := by
  have h0 := Int.emod_nonneg c (show (26 : Int) ≠ 0 by decide)
  have h1 := Int.emod_lt_of_pos c (show (0 : Int) < 26 by decide)
  have h2 := at_small (i := (c % 26).toNat) (by omega)
  rw [show (((c % 26).toNat : Nat) : Int) = c % 26 by omega] at h2
  exact h2
theorem ok__law_letters (T : Tx K mg) : Ok P w K mg base 1 "_law_letters" ["_law_cell_here"] sp__law_letters := by
  refine Ok.of T.f__law_letters sc__law_letters b__law_letters (fun vs H Q E h => by obtain ⟨a, rfl, _⟩ := h; rfl) (fun cdv A outer s H vs Q E hr h => ?_)
  obtain ⟨c, rfl, q⟩ := h
  refine ⟨_, (pss_cons (ps_set (i := 1) sc__law_letters.nd rfl (.inr rfl) pe_str)
      (pss_cons (ps_set (i := 2) sc__law_letters.nd rfl (.inr rfl) (pe_ix (ix_listK K) (pe_lstN (pa_cons pe_int (pa_cons pe_int (pa_cons pe_int (pa_cons pe_int (pa_cons pe_int (pa_cons pe_int (pa_cons pe_int (pa_cons pe_int pa_nil))))))))) (pe_op op_mod (pe_op op_fdiv (pv 0) pe_int) pe_int) (fun _ _ => rfl)))
      (pss_cons (ps_set (i := 3) sc__law_letters.nd rfl (.inl rfl) (pe_ix (ix_listK K) (pe_lstN (pa_cons pe_int (pa_cons pe_int (pa_cons pe_int (pa_cons pe_int (pa_cons (pe_op op_add pe_int (pe_op op_mod (pe_op op_fdiv (pv 0) pe_int) pe_int)) (pa_cons pe_int (pa_cons pe_int (pa_cons pe_int pa_nil))))))))) (pe_op op_mod (pe_op op_fdiv (pv 0) pe_int) pe_int) (fun _ _ => rfl)))
      (pss_one (ps_ret (pe_lc (own := [("_law_k", 4)]) (g := gName 4) (tt := tYes) rfl sc__law_letters.nd (pi_range1 (by rfl) T.n_range (pa_cons (pv 3) pa_nil)) (blkOk_by (N := N__law_letters) (sc := defScope s__law_letters) (by decide +kernel)) (fun _ _ _ _ _ => (pg_name (i := 4) sc__law_letters.nd rfl (.inl rfl))) (fun _ _ _ _ _ => pts_nil) (fun _ _ _ _ _ => (pe_ix ix_str (pv 1) (pe_op op_mod (pe_op op_add (pv 0) (pe_op op_mul (pv 4) (pv 2))) pe_int) (fun _ _ => rfl))))))))), ?_⟩
  walk_at "gw"
  refine sz_and (by decide) fun p H1 n1 => ?_
  walk_at "gw"
  have a0 := Int.emod_nonneg (c / 26) (show (8 : Int) ≠ 0 by decide)
  have a1 := Int.emod_lt_of_pos (c / 26) (show (0 : Int) < 8 by decide)
  obtain ⟨v, hv, hat⟩ := at_mem (xs := steps8.map V.int) (i := c / 26 % 8) a0 (by show _ < (8 : Int); exact a1)
  obtain ⟨st, hst, rfl⟩ := List.mem_map.mp hv
  refine w_ixL (sqL_of n1.at_) hat ?_
  walk_at "gw"
  refine sz_and (by show 8 ≤ 16000000; decide) fun p2 H2 n2 => ?_
  walk_at "gw"
  have b0 := Int.emod_nonneg (c / 208) (show (8 : Int) ≠ 0 by decide)
  have b1 := Int.emod_lt_of_pos (c / 208) (show (0 : Int) < 8 by decide)
  have c0 := Int.emod_nonneg (c / 1664) (show (5 : Int) ≠ 0 by decide)
  have c1 := Int.emod_lt_of_pos (c / 1664) (show (0 : Int) < 5 by decide)
  obtain ⟨v2, hv2, hat2⟩ := at_mem (xs := [V.int 2, .int 3, .int 2, .int 1, .int (4 + c / 1664 % 5), .int 3, .int 2, .int 8]) (i := c / 208 % 8) b0 (by show _ < (8 : Int); exact b1)
  obtain ⟨m, rfl, h1, h8⟩ : ∃ m : Nat, v2 = .int ((m : Nat) : Int) ∧ 0 < m ∧ m ≤ 8 := by
    simp only [List.mem_cons, List.not_mem_nil, or_false] at hv2
    rcases hv2 with e | e | e | e | e | e | e | e
    · exact ⟨2, e, by decide, by decide⟩
    · exact ⟨3, e, by decide, by decide⟩
    · exact ⟨2, e, by decide, by decide⟩
    · exact ⟨1, e, by decide, by decide⟩
    · exact ⟨(4 + c / 1664 % 5).toNat, by rw [e, show (((4 + c / 1664 % 5).toNat : Nat) : Int) = 4 + c / 1664 % 5 by omega], by omega, by omega⟩
    · exact ⟨3, e, by decide, by decide⟩
    · exact ⟨2, e, by decide, by decide⟩
    · exact ⟨8, e, by decide, by decide⟩
  refine w_ixL (sqL_of n2.at_) hat2 ?_
  walk_at "gw"
  refine ex_rng1 (n := m) (by omega) ?_
  refine lcN (bs := List.range m) seqs_rng (fun k v _ => v = .str (sg (97 + ((c + (k : Nat) * st) % 26).toNat))) (fun _ _ _ _ _ h => h) (fun _ _ => trivial) (by rw [List.length_range]; omega) (fun _ => rfl) ?_ (fun _ _ _ _ _ h => h) ?_
  · rintro k x H' hk e rfl Q' q'
    have hk := List.mem_range.mp hk
    rw [Int.zero_add]
    walk_at "gw"
    refine w_ixS (by rw [small_len]; decide) at_some ?_
    exact q' _ _ (L2.Same.refl _) rfl
  · intro l H' ys hn ex hy py
    have e2 := paired_eq py
    refine q _ _ ((n1.ex.trans n2.ex).trans ex) ⟨_, lets_of (c := c) hst h1 h8, l, rfl, (n1.ex.trans n2.ex).free hn, ?_⟩
    rw [hy, e2]
    simp only [sgs, List.map_map]
    rfl
abbrev N__law_back : List Str := ["_law_letter"]
theorem sc__law_back : FnScope ["_law_letter"] ["_law_letter"] (defScope s__law_back) := ⟨rfl, rfl, rfl, by decide +kernel, rfl, by decide +kernel, by decide +kernel⟩
theorem b__law_back : BindsT "_law_back" s__law_back ["_law_letter"] := fun _ _ _ _ _ _ us hl => match us, hl with | [_], _ => rfl
theorem lower_a : ∀ i, i < 26 → Txt.lower ⟨#[97 + i]⟩ = ⟨#[97 + i]⟩ := by decide +kernel
theorem lower_A : ∀ i, i < 26 → Txt.lower ⟨#[65 + i]⟩ = ⟨#[97 + i]⟩ := by decide +kernel
theorem upper_a : ∀ i, i < 26 → Txt.upper ⟨#[97 + i]⟩ = ⟨#[65 + i]⟩ := by decide +kernel
def sp__law_back : Sp := fun vs H Q _ => ∃ c : Nat, vs = [.str (sg c)] ∧ isL c = true ∧ Ret H Q fun v _ => v = .str (sg (bk c))
theorem sg_inj {a b : Nat} (h : V.str ⟨#[a]⟩ = V.str ⟨#[b]⟩) : a = b := by
  injection h with h
  injection h with h
  have := congrArg Array.toList h
  injection this
theorem ok__law_back (T : Tx K mg) : Ok P w K mg base 1 "_law_back" ["_law_letter"] sp__law_back := by
  refine Ok.of T.f__law_back sc__law_back b__law_back (fun vs H Q E h => by obtain ⟨a, rfl, _⟩ := h; rfl) (fun cdv A outer s H vs Q E hr h => ?_)
  obtain ⟨c, rfl, hc, q⟩ := h
  refine ⟨_, (pss_cons (ps_if (pt_cmpR op_eq (pv 0) (pe_lower (pv 0)) (nomark _)) (pss_one (ps_ret (pe_upper (pv 0)))) pss_nil)
      (pss_one (ps_ret (pe_lower (pv 0))))), ?_⟩
  walk_at "gw"
  rcases isL_cases hc with ⟨i, hi, rfl⟩ | ⟨i, hi, rfl⟩
  · refine ⟨rfl, (by show 1 ≤ 5592405; decide), ?_⟩
    rw [lower_a i hi]
    walk_at "gw"
    rw [if_pos (decide_eq_true rfl)]
    walk_at "gw"
    refine ⟨rfl, (by show 1 ≤ 5592405; decide), ?_⟩
    rw [upper_a i hi]
    refine q _ _ (L2.Same.refl _) ?_
    rw [show bk (97 + i) = 65 + i by unfold bk; rw [if_pos (by omega)]; omega]
  · refine ⟨rfl, (by show 1 ≤ 5592405; decide), ?_⟩
    rw [lower_A i hi]
    walk_at "gw"
    rw [if_neg (fun e => by have := sg_inj (of_decide_eq_true e); omega)]
    walk_at "gw"
    refine ⟨rfl, (by show 1 ≤ 5592405; decide), ?_⟩
    rw [lower_A i hi]
    refine q _ _ (L2.Same.refl _) ?_
    rw [show bk (65 + i) = 97 + i by unfold bk; rw [if_neg (by omega)]; omega]

/-- a letter's small one -/
def low (c : Nat) : Nat := if 97 ≤ c then c else c + 32
/-- a word of these letters -/
def OfL (ls : List Nat) (u : List Nat) : Prop := ∀ c ∈ u, isL c = true ∧ low c ∈ ls
theorem OfL.al {ls u : List Nat} (h : OfL ls u) : AL u := fun c hc => (h c hc).1
theorem OfL.app {ls u v : List Nat} (h : OfL ls u) (h' : OfL ls v) : OfL ls (u ++ v) := fun c hc => (List.mem_append.mp hc).elim (h c) (h' c)
theorem OfL.nil {ls : List Nat} : OfL ls [] := fun c hc => by cases hc
theorem OfL.one {ls : List Nat} {c : Nat} (h1 : isL c = true) (h2 : low c ∈ ls) : OfL ls [c] := fun d hd => by
  rw [List.mem_singleton.mp hd]
  exact ⟨h1, h2⟩
theorem at_sgs {ls : List Nat} {n : Int} (h : 0 < ls.length) : ∃ c ∈ ls, atI (sgs ls) (n % (ls.length : Int)) = some (.str (sg c)) := by
  have h0 := Int.emod_nonneg n (show (ls.length : Int) ≠ 0 by omega)
  have h1 := Int.emod_lt_of_pos n (show (0 : Int) < ls.length by omega)
  obtain ⟨v, hv, e⟩ := at_mem (xs := sgs ls) h0 (by simp only [List.length_map]; exact h1)
  obtain ⟨c, hc, rfl⟩ := List.mem_map.mp hv
  exact ⟨c, hc, e⟩
theorem seqs_rng0 {n : Nat} : Seqs (Itr 0 n) (fun _ => True) (List.range n) (fun i x _ => x = .int ((i : Nat) : Int)) where
  go := seqs_rng.go
  yld := fun i H x H' b h hb y => by
    obtain ⟨e1, e2⟩ := (seqs_rng (lo := 0)).yld i H x H' b h hb y
    exact ⟨e1, by rw [e2, Int.zero_add]⟩
  stop := seqs_rng.stop
theorem range_split {n : Nat} {pre post : List Nat} {k : Nat} (e : List.range n = pre ++ k :: post) : k = pre.length ∧ k < n := by
  have h1 : (List.range n)[pre.length]? = some k := by
    rw [e, List.getElem?_append_right (Nat.le_refl _)]
    simp
  obtain ⟨h2, h3⟩ := List.getElem?_eq_some_iff.mp h1
  rw [List.getElem_range] at h3
  rw [List.length_range] at h2
  exact ⟨h3.symm, by omega⟩
abbrev N__law_word : List Str := ["_law_cell_here", "_law_letters_here", "_law_size", "_law_word_here", "_law_k", "_law_number", "_law_letter"]
theorem sc__law_word : FnScope ["_law_cell_here", "_law_letters_here", "_law_size", "_law_word_here", "_law_k", "_law_number", "_law_letter"] ["_law_cell_here", "_law_letters_here", "_law_size"] (defScope s__law_word) := ⟨rfl, rfl, rfl, by decide +kernel, rfl, by decide +kernel, by decide +kernel⟩
theorem b__law_word : BindsT "_law_word" s__law_word ["_law_cell_here", "_law_letters_here", "_law_size"] := fun _ _ _ _ _ _ us hl => match us, hl with | [_, _, _], _ => rfl
def sp__law_word (K : PySem.W.Frag) : Sp := fun vs H Q _ => ∃ p : Int × Addr × List Nat × Nat, vs = [.int p.1, .ref p.2.1, .int ((p.2.2.2 : Nat) : Int)] ∧ SqL K H p.2.1 (sgs p.2.2.1) ∧ 0 < p.2.2.1.length ∧ (∀ c ∈ p.2.2.1, 97 ≤ c ∧ c ≤ 122) ∧ p.2.2.2 ≤ 1000 ∧
  Ret H Q fun v _ => ∃ u, v = .str (tx u) ∧ u.length = p.2.2.2 ∧ OfL p.2.2.1 u
theorem ok__law_word (T : Tx K mg) (G__law_mixed : Ok P w K mg base 1 "_law_mixed" ["_law_cell_here", "_law_k"] sp__law_mixed) : Ok P w K mg base 2 "_law_word" ["_law_cell_here", "_law_letters_here", "_law_size"] (sp__law_word K) := by
  refine Ok.of T.f__law_word sc__law_word b__law_word (fun vs H Q E h => by obtain ⟨a, rfl, _⟩ := h; rfl) (fun cdv A outer s H vs Q E hr h => ?_)
  obtain ⟨⟨c, l, ls, n⟩, rfl, hS, h0, hsm, hn, q⟩ := h
  have hS : SqL K H l (sgs ls) := hS
  have h0 : 0 < ls.length := h0
  have hsm : ∀ c ∈ ls, 97 ≤ c ∧ c ≤ 122 := hsm
  have hn : n ≤ 1000 := hn
  refine ⟨_, (pss_cons (ps_set (i := 3) sc__law_word.nd rfl (.inl rfl) pe_str)
      (pss_cons (ps_for PassesOwn.never rfl (pi_range1 (by rfl) T.n_range (pa_cons (pv 2) pa_nil)) (pg_name (i := 4) sc__law_word.nd rfl (.inl rfl)) (pss_cons (ps_set (i := 5) sc__law_word.nd rfl (.inl rfl) (pe_op op_fdiv (pe_g G__law_mixed (hr.mono (by decide)) (by rfl) (pa_cons (pv 0) (pa_cons (pv 4) pa_nil))) pe_int))
      (pss_cons (ps_set (i := 6) sc__law_word.nd rfl (.inl rfl) (pe_ix (ix_listK K) (pv 1) (pe_op op_mod (pv 5) (pe_callB (call_len_seqK K) (by rfl) T.n_len (by decide +kernel) (pa_cons (pv 1) pa_nil))) (fun _ _ => rfl)))
      (pss_one (ps_set (i := 3) sc__law_word.nd rfl (.inl rfl) (pe_op op_add_str (pv 3) (pe_ix (ix_listK K) (pe_lstN (pa_cons (pv 6) (pa_cons (pe_upper (pv 6)) pa_nil))) (pe_op op_mod (pe_op op_fdiv (pv 5) pe_int) pe_int) (fun _ _ => rfl))))))))
      (pss_one (ps_ret (pv 3))))), ?_⟩
  walk_at "gw"
  refine ex_rng1 (n := n) (by omega) ?_
  refine forS (bs := List.range n) seqs_rng0 (fun pre σ' H' => ∃ y z x u, σ' = [some (.int c), some (.ref l), some (.int ((n : Nat) : Int)), some (.str (tx u)), y, z, x] ∧ Ex H H' ∧ u.length = pre.length ∧ OfL ls u) ⟨_, _, _, [], rfl, L2.Same.refl _, rfl, .nil⟩ (fun _ _ _ _ => trivial) ?_ ?_
  · rintro pre k post x σ' H2 H3 e ⟨y, z, x, u, rfl, ex, hu, ho⟩ e3 rfl
    obtain ⟨hk, hkn⟩ := range_split e
    have hS3 : SqL K H3 l (sgs ls) := (ex.trans e3).seq hS
    walk_at "gw"
    refine ⟨(c, k), rfl, (show k ≤ 16000000 by omega), ?_⟩
    rintro _ H4 e4 rfl
    have hS4 : SqL K H4 l (sgs ls) := e4.seq hS3
    walk_at "gw"
    refine ex_lenL hS4 ?_
    walk_at "gw"
    refine w_rI (show (0 : Int) < ((sgs ls).length : Nat) by simp only [List.length_map]; omega) ?_
    obtain ⟨d, hd, hat⟩ := at_sgs (n := mixed c k / 7) h0
    refine w_ixL hS4 (by rw [List.length_map]; exact hat) ?_
    walk_at "gw"
    refine ⟨rfl, (by show 1 ≤ 5592405; decide), ?_⟩
    have hd2 := hsm d hd
    have e5 : Txt.upper (sg d) = sg (d - 32) := by
      have := upper_a (d - 97) (by omega)
      rw [show 97 + (d - 97) = d by omega, show 65 + (d - 97) = d - 32 by omega] at this
      exact this
    rw [e5]
    walk_at "gw"
    refine sz_and (by show 2 ≤ 16000000; decide) fun p5 H5 n5 => ?_
    walk_at "gw"
    obtain ⟨v, hv, hat2⟩ := at_mem (xs := [V.str (sg d), .str (sg (d - 32))]) (i := mixed c k / 7 / 16 % 2) (Int.emod_nonneg _ (by decide)) (by show _ < (2 : Int); exact Int.emod_lt_of_pos _ (by decide))
    refine w_ixL (sqL_of n5.at_) hat2 ?_
    obtain ⟨d', rfl, hd'⟩ : ∃ d', v = .str (sg d') ∧ isL d' = true ∧ low d' ∈ ls := by
      simp only [List.mem_cons, List.not_mem_nil, or_false] at hv
      rcases hv with e | e
      · exact ⟨d, e, isL_iff.mpr (.inl hd2), by unfold low; rw [if_pos hd2.1]; exact hd⟩
      · exact ⟨d - 32, e, isL_iff.mpr (.inr (by omega)), by unfold low; rw [if_neg (by omega), show d - 32 + 32 = d by omega]; exact hd⟩
    walk_at "gw"
    refine ⟨line_le (by show u.length + 1 ≤ _; omega), ?_⟩
    walk_at "gw"
    rw [show tx u ++ sg d' = tx (u ++ [d']) from tx_app u [d']]
    exact ⟨_, _, _, u ++ [d'], rfl, ((ex.trans e3).trans e4).trans n5.ex, by rw [List.length_append, List.length_append, hu]; rfl, ho.app (.one hd'.1 hd'.2)⟩
  · rintro σ' H2 ⟨y, z, x, u, rfl, ex, hu, ho⟩
    walk_at "gw"
    exact q _ _ ex ⟨u, rfl, by rw [hu, List.length_range], ho⟩
abbrev N__law_turned : List Str := ["_law_word_here", "_law_letter"]
theorem sc__law_turned : FnScope ["_law_word_here", "_law_letter"] ["_law_word_here"] (defScope s__law_turned) := ⟨rfl, rfl, rfl, by decide +kernel, rfl, by decide +kernel, by decide +kernel⟩
theorem b__law_turned : BindsT "_law_turned" s__law_turned ["_law_word_here"] := fun _ _ _ _ _ _ us hl => match us, hl with | [_], _ => rfl
def sp__law_turned : Sp := fun vs H Q _ => ∃ u : List Nat, vs = [.str (tx u)] ∧ AL u ∧ u.length ≤ 100000 ∧ Ret H Q fun v _ => v = .str (tx (rv u))
theorem ok__law_turned (T : Tx K mg) (G__law_back : Ok P w K mg base 1 "_law_back" ["_law_letter"] sp__law_back) : Ok P w K mg base 2 "_law_turned" ["_law_word_here"] sp__law_turned := by
  refine Ok.of T.f__law_turned sc__law_turned b__law_turned (fun vs H Q E h => by obtain ⟨a, rfl, _⟩ := h; rfl) (fun cdv A outer s H vs Q E hr h => ?_)
  obtain ⟨u, rfl, hu, hl, q⟩ := h
  refine ⟨_, (pss_one (ps_ret (pe_join pe_str (pe_lc (own := [("_law_letter", 1)]) (g := gName 1) (tt := tYes) rfl sc__law_turned.nd (pi_revS (by rfl) T.n_reversed (pv 0)) (blkOk_by (N := N__law_turned) (sc := defScope s__law_turned) (by decide +kernel)) (fun _ _ _ _ _ => (pg_name (i := 1) sc__law_turned.nd rfl (.inl rfl))) (fun _ _ _ _ _ => pts_nil) (fun _ _ _ _ _ => (pe_g G__law_back (hr.mono (by decide)) (by rfl) (pa_cons (pv 1) pa_nil))))))), ?_⟩
  walk_at "gw"
  refine sz_and (by show u.length ≤ _; omega) ?_
  refine lcN (bs := u.reverse) seqs_revtx (fun c v _ => v = .str (sg (bk c))) (fun _ _ _ _ _ h => h) (fun _ _ => trivial) (by rw [List.length_reverse]; omega) (fun _ => rfl) ?_ (fun _ _ _ _ _ h => h) ?_
  · rintro c x H' hc e rfl Q' q'
    walk_at "gw"
    refine ⟨c, rfl, hu c (List.mem_reverse.mp hc), ?_⟩
    rintro _ H2 e2 rfl
    exact q' _ _ e2 rfl
  · intro l H' ys hn ex hy py
    walk_at "gw"
    have e2 := paired_eq py
    have e3 : ys = ((rv u).map sg).map V.str := by
      rw [e2, rv, List.map_map, List.map_map]
      rfl
    refine ⟨_, _, (rv u).map sg, rfl, rfl, .inl (sqL_of (by rw [hy, e3])), ?_, ?_⟩
    · rw [sum_sgs, show (Str.ofString "").length = 0 by decide +kernel, Nat.mul_zero, rv_len]
      omega
    · rw [join_sgs]
      exact q _ _ ex rfl
section
variable {H0 H : Hp} {Q : VK} {E : XK} {u : List Nat} {l : Addr} {ns : List Int}
theorem c_cell (k : Nat) (e : Ex H0 H) (hS : SqL K H0 l (ns.map V.int)) (q : ∀ H', Ex H0 H' → Q (.int (ns.getD k 0)) H') : sp__law_cell K [.ref l, .int (k : Nat)] H Q E0 := ⟨(l, ns, k), rfl, e.seq hS, fun _ H' e' z => by subst z; exact q H' (e.trans e')⟩
theorem c_mixed {c : Int} (k : Nat) (e : Ex H0 H) (hk : k ≤ 16000000) (q : ∀ H', Ex H0 H' → Q (.int (mixed c k)) H') : sp__law_mixed [.int c, .int (k : Nat)] H Q E0 := ⟨(c, k), rfl, hk, fun _ H' e' z => by subst z; exact q H' (e.trans e')⟩
theorem c_letters {c : Int} (e : Ex H0 H) (q : ∀ H' l ls, Ex H0 H' → Lets ls → H' l = some (.lst (sgs ls)) → Q (.ref l) H') : sp__law_letters [.int c] H Q E0 := ⟨c, rfl, fun _ H' e' ⟨ls, h, l, z, _, y⟩ => by subst z; exact q H' l ls (e.trans e') h y⟩
theorem c_word {c : Int} {ls : List Nat} (n : Nat) (e : Ex H0 H) (hS : SqL K H l (sgs ls)) (hL : Lets ls) (hn : n ≤ 1000) (q : ∀ H' u, Ex H0 H' → u.length = n → OfL ls u → Q (.str (tx u)) H') : sp__law_word K [.int c, .ref l, .int (n : Nat)] H Q E0 :=
  ⟨(c, l, ls, n), rfl, hS, hL.pos, hL.sm, hn, fun _ H' e' ⟨u, z, h1, h2⟩ => by subst z; exact q H' u (e.trans e') h1 h2⟩
theorem c_lturned (e : Ex H0 H) (hu : AL u) (hl : u.length ≤ 100000) (q : ∀ H', Ex H0 H' → Q (.str (tx (rv u))) H') : sp__law_turned [.str (tx u)] H Q E0 := ⟨u, rfl, hu, hl, fun _ H' e' z => by subst z; exact q H' (e.trans e')⟩
theorem c_lback {c : Nat} (e : Ex H0 H) (hc : isL c = true) (q : ∀ H', Ex H0 H' → Q (.str (sg (bk c))) H') : sp__law_back [.str (sg c)] H Q E0 := ⟨c, rfl, hc, fun _ H' e' z => by subst z; exact q H' (e.trans e')⟩
theorem mod_nat {c : Int} {m : Nat} (h : 0 < m) : ∃ n : Nat, c % (m : Int) = (n : Nat) ∧ n < m := by
  have h0 := Int.emod_nonneg c (show (m : Int) ≠ 0 by omega)
  have h1 := Int.emod_lt_of_pos c (show (0 : Int) < m by omega)
  exact ⟨(c % (m : Int)).toNat, by omega, by omega⟩
end
end
end Gw

/-! ### webs: rows of numbers, ties -/
namespace Gw
open PySem PySem.Spec PyProof.Rows L2 RT
abbrev iN (n : Nat) : V := .int ((n : Nat) : Int)
abbrev vInts (ns : List Int) : List V := ns.map V.int
theorem Seqs.of_map {α β : Type} {J : It} {Ok : Hp → Prop} {f : α → β} {bs : List α} {Y : β → V → Hp → Prop} (S : Seqs J Ok (bs.map f) Y) : Seqs J Ok bs (fun b => Y (f b)) where
  go := fun i H h hi => S.go i H h (by rw [List.length_map]; exact hi)
  yld := fun i H x H' b h hb y => S.yld i H x H' (f b) h (by rw [List.getElem?_map, hb]; rfl) y
  stop := fun i H h hi => S.stop i H h (by rw [List.length_map]; exact hi)
/-- a list whose items stand for ts -/
theorem seqs_listP {β : Type} {K : PySem.W.Frag} {a : Addr} {ts : List β} {R : β → V → Hp → Prop} : Seqs (Itl K a) (fun H => ∃ vs, SqL K H a vs ∧ Paired (fun t v => R t v H) ts vs) ts (fun t x H => R t x H) where
  go := fun i H h hi => by
    obtain ⟨vs, h1, h2⟩ := h
    have hl := Paired.length h2
    exact ⟨vs, vs[i]'(by omega), h1, List.getElem?_eq_getElem (by omega)⟩
  yld := fun i H x H' b h hb y => by
    obtain ⟨vs, h1, h2⟩ := h
    obtain ⟨e, y⟩ := y
    subst e
    obtain ⟨v, hv, r⟩ := paired_get h2 i b hb
    have e2 := (y vs h1).symm.trans hv
    cases e2
    exact ⟨L2.Same.refl _, r⟩
  stop := fun i H h hi => by
    obtain ⟨vs, h1, h2⟩ := h
    exact ⟨vs, h1, by have := Paired.length h2; omega⟩
theorem w_iRevA {K : PySem.W.Frag} {te : TE} {σ : L2.St} {H : Hp} {R : It → Hp → Prop} (q : te σ H fun v H1 => ∃ (a : Addr) (xs : List V), v = .ref a ∧ ((SqL K H1 a xs ∧ R (Itv K a xs.length) H1) ∨ (SqT K H1 a xs ∧ R (ItvT K a xs.length) H1))) : iRevA K te σ H R := q
section
variable {P : Program} {w : World} {K : PySem.W.Frag} {mg : Str → Option Value} {base : Heap}
/-- a tuple of whole numbers -/
def NsR (K : PySem.W.Frag) (H : Hp) (v : V) (ns : List Int) : Prop := ∃ q, v = .ref q ∧ SqT K H q (vInts ns)
abbrev N_joined : List Str := ["one", "other", "found", "number"]
theorem sc_joined : FnScope ["one", "other", "found", "number"] ["one", "other"] (defScope s_joined) := ⟨rfl, rfl, rfl, by decide +kernel, rfl, by decide +kernel, by decide +kernel⟩
theorem b_joined : BindsT "joined" s_joined ["one", "other"] := fun _ _ _ _ _ _ us hl => match us, hl with | [_, _], _ => rfl
def sp_joined (K : PySem.W.Frag) : Sp := fun vs H Q _ => ∃ p : V × List Int × V × List Int, vs = [p.1, p.2.2.1] ∧ NsR K H p.1 p.2.1 ∧ NsR K H p.2.2.1 p.2.2.2 ∧ p.2.1.length + p.2.2.2.length ≤ 16000000 ∧ Ret H Q fun v H' => NsR K H' v (joined p.2.1 p.2.2.2)
theorem joined_snoc (u pre : List Int) (n : Int) : joined u (pre ++ [n]) = joinStep (joined u pre) n := by
  unfold joined
  rw [List.foldl_append]
  rfl
theorem ok_joined (T : Tx K mg) : Ok P w K mg base 1 "joined" ["one", "other"] (sp_joined K) := by
  refine Ok.of T.f_joined sc_joined b_joined (fun vs H Q E h => by obtain ⟨a, rfl, _⟩ := h; rfl) (fun cdv A outer s H vs Q E hr h => ?_)
  obtain ⟨⟨v1, u, v2, v⟩, rfl, ⟨p1, rfl, h1⟩, ⟨p2, rfl, h2⟩, hl, q⟩ := h
  have hl : u.length + v.length ≤ 16000000 := hl
  refine ⟨_, (pss_cons (ps_set (i := 2) sc_joined.nd rfl (.inl rfl) (pe_callTy call_listN (by rfl) T.n_list (by decide +kernel) (pa_cons (pv 0) pa_nil)))
      (pss_cons (ps_for PassesOwn.never rfl (pi_tup (pv 1)) (pg_name (i := 3) sc_joined.nd rfl (.inl rfl)) (pss_one (ps_if (PW.pt (pw_and (pt_cmpR op_gt (pe_callB (call_len_seqK K) (by rfl) T.n_len (by decide +kernel) (pa_cons (pv 2) pa_nil)) pe_int (nomark _)) (pw_and1 (pt_cmpR op_eq (pe_ix (ix_listK K) (pv 2) (pe_un un_neg pe_int) (fun _ _ => rfl)) (pe_un un_neg (pv 3)) (nomark _))))) (pss_one (ps_expr (pe_bm0 PySem.F.plainAttrs_list PySem.F.slot_list_pop PySem.F.type_list_pop mt_popN (pv 2)))) (pss_one (ps_expr (pe_bm PySem.F.plainAttrs_list PySem.F.slot_list_append PySem.F.type_list_append mt_appN (pv 2) (pa_cons (pv 3) pa_nil)))))))
      (pss_one (ps_ret (pe_callTy call_tupN (by rfl) T.n_tuple (by decide +kernel) (pa_cons (pv 2) pa_nil)))))), ?_⟩
  walk_at "gw"
  refine ⟨p1, vInts u, rfl, .inr h1, fun l H1 n1 => ?_⟩
  walk_at "gw"
  refine ⟨p2, rfl, ⟨_, n1.ex.sqT h2⟩, ?_⟩
  refine forS (bs := v) (Seqs.of_map (f := V.int) seqs_tup) (fun pre σ' H' => ∃ y, σ' = [some (.ref p1), some (.ref p2), some (.ref l), y] ∧ Ex H H' ∧ H' l = some (.lst (vInts (joined u pre)))) ⟨_, rfl, n1.ex, n1.at_⟩ (fun pre σ' H' ⟨_, _, ex, _⟩ => ex.sqT h2) ?_ ?_
  · rintro pre n post x σ' H2 H3 e ⟨y, rfl, ex, hp⟩ e3 rfl
    have hp3 := e3 _ _ hp
    have hlen : (joined u pre).length ≤ 16000000 := by
      have h1 := joined_len pre u
      have h2 := congrArg List.length e
      rw [List.length_append] at h2
      omega
    have hlen2 : (joined u pre).length < 16000000 := by
      have h1 := joined_len pre u
      have h2 := congrArg List.length e
      rw [List.length_append, List.length_cons] at h2
      omega
    rw [joined_snoc]
    walk_at "gw"
    refine ex_lenL (sqL_of hp3) ?_
    walk_at "gw"
    rcases list_end (joined u pre) with ek | ⟨k, d, ek⟩
    · rw [ek] at hp3 ⊢
      rw [if_neg (by decide), if_neg (by decide)]
      walk_at "gw"
      refine w_app hp3 (by decide) fun H4 c4 => ?_
      walk_at "gw"
      refine ⟨_, rfl, c4.ex (ex.trans e3) n1.no, ?_⟩
      rw [c4.at_]
      rfl
    · rw [ek] at hp3 hlen hlen2 ⊢
      rw [if_pos (by simp)]
      walk_at "gw"
      refine w_ixL (sqL_of hp3) (v := .int d) (by simp only [vInts, List.map_append]; exact atI_last _ _) ?_
      walk_at "gw"
      by_cases hcd : d = -n
      · rw [if_pos (by rw [hcd]; exact decide_eq_true rfl)]
        walk_at "gw"
        simp only [vInts, List.map_append] at hp3
        refine w_pop hp3 fun H5 c5 => ?_
        walk_at "gw"
        refine ⟨_, rfl, c5.ex (ex.trans e3) n1.no, ?_⟩
        rw [c5.at_, joinStep, if_pos (by rw [hcd]; simp), List.dropLast_concat]
      · rw [if_neg (fun z => hcd (by
          have z1 := of_decide_eq_true z
          cases z1
          rfl))]
        walk_at "gw"
        refine w_app hp3 (by simp only [List.length_map]; exact hlen2) fun H5 c5 => ?_
        walk_at "gw"
        refine ⟨_, rfl, c5.ex (ex.trans e3) n1.no, ?_⟩
        rw [c5.at_, joinStep, if_neg (by simpa using hcd)]
        simp only [vInts, List.map_append]
        rfl
  · rintro σ' H2 ⟨y, rfl, ex, hp⟩
    walk_at "gw"
    refine ⟨l, _, rfl, sqL_of hp, fun l2 H3 n3 => ?_⟩
    walk_at "gw"
    exact q _ _ (ex.trans n3.ex) ⟨l2, rfl, sqT_of n3.at_⟩
abbrev N_behind : List Str := ["numbers", "number"]
theorem sc_behind : FnScope ["numbers", "number"] ["numbers"] (defScope s_behind) := ⟨rfl, rfl, rfl, by decide +kernel, rfl, by decide +kernel, by decide +kernel⟩
theorem b_behind : BindsT "behind" s_behind ["numbers"] := fun _ _ _ _ _ _ us hl => match us, hl with | [_], _ => rfl
def sp_behind (K : PySem.W.Frag) : Sp := fun vs H Q _ => ∃ p : V × List Int, vs = [p.1] ∧ NsR K H p.1 p.2 ∧ p.2.length < 16000000 ∧ Ret H Q fun v H' => NsR K H' v (behindN p.2)
theorem ok_behind (T : Tx K mg) : Ok P w K mg base 1 "behind" ["numbers"] (sp_behind K) := by
  refine Ok.of T.f_behind sc_behind b_behind (fun vs H Q E h => by obtain ⟨a, rfl, _⟩ := h; rfl) (fun cdv A outer s H vs Q E hr h => ?_)
  obtain ⟨⟨v1, u⟩, rfl, ⟨p1, rfl, h1⟩, hl, q⟩ := h
  have hl : u.length < 16000000 := hl
  refine ⟨_, (pss_one (ps_ret (pe_callTy call_tupN (by rfl) T.n_tuple (by decide +kernel) (pa_cons (pe_lc (own := [("number", 1)]) (g := gName 1) (tt := tYes) rfl sc_behind.nd (pi_revA (by rfl) T.n_reversed (pv 0)) (blkOk_by (N := N_behind) (sc := defScope s_behind) (by decide +kernel)) (fun _ _ _ _ _ => (pg_name (i := 1) sc_behind.nd rfl (.inl rfl))) (fun _ _ _ _ _ => pts_nil) (fun _ _ _ _ _ => (pe_un un_neg (pv 1)))) pa_nil)))), ?_⟩
  walk_at "gw"
  refine w_iRevA ?_
  walk_at "gw"
  refine ⟨p1, vInts u, rfl, .inr ⟨h1, ?_⟩⟩
  have S := seqs_revT (K := K) (a := p1) (xs := vInts u)
  rw [show (vInts u).reverse = u.reverse.map V.int from (List.map_reverse ..).symm] at S
  refine lcN (bs := u.reverse) (Seqs.of_map S) (fun n y _ => y = .int (-n)) (fun _ _ _ _ _ h => h) (fun H' e => e.sqT h1) (by rw [List.length_reverse]; exact hl) (fun _ => rfl) ?_ (fun _ _ _ _ _ h => h) ?_
  · rintro n x H' hn e rfl Q' q'
    walk_at "gw"
    exact q' _ _ (L2.Same.refl _) rfl
  · intro l H' ys hn ex hy py
    walk_at "gw"
    have e2 := paired_eq py
    refine ⟨l, _, rfl, sqL_of hy, fun l2 H3 n3 => ?_⟩
    walk_at "gw"
    refine q _ _ (ex.trans n3.ex) ⟨l2, rfl, sqT_of ?_⟩
    rw [n3.at_, e2]
    simp only [vInts, behindN, List.map_map]
    rfl
end
end Gw

/-! ### webs: rings, pairs -/
namespace Gw
open PySem PySem.Spec PyProof.Rows L2 RT
section
variable {P : Program} {w : World} {K : PySem.W.Frag} {mg : Str → Option Value} {base : Heap}
/-- a tie with numbers; a tie whatever stands behind its rooms; a tie of a web -/
def T4R (K : PySem.W.Frag) (t : T4) (v : V) (H : Hp) : Prop := ∃ p n, v = .ref p ∧ SqT K H p [iN t.1, .str (sg t.2.1), iN t.2.2.1, n] ∧ NsR K H n t.2.2.2
def TbR (K : PySem.W.Frag) (t : T3) (v : V) (H : Hp) : Prop := ∃ p xs, v = .ref p ∧ SqT K H p (iN t.1 :: .str (sg t.2.1) :: iN t.2.2 :: xs)
def T3R (K : PySem.W.Frag) (t : T3) (v : V) (H : Hp) : Prop := ∃ p, v = .ref p ∧ SqT K H p [iN t.1, .str (sg t.2.1), iN t.2.2]
theorem NsR.mono {H H' : Hp} {v : V} {ns : List Int} (h : NsR K H v ns) (t : Tu H H') : NsR K H' v ns := let ⟨q, e, h⟩ := h; ⟨q, e, t.sq h⟩
theorem T4R.mono {H H' : Hp} {v : V} {t : T4} (h : T4R K t v H) (u : Tu H H') : T4R K t v H' := let ⟨p, n, e, h, k⟩ := h; ⟨p, n, e, u.sq h, k.mono u⟩
theorem TbR.mono {H H' : Hp} {v : V} {t : T3} (h : TbR K t v H) (u : Tu H H') : TbR K t v H' := let ⟨p, n, e, h⟩ := h; ⟨p, n, e, u.sq h⟩
theorem T3R.mono {H H' : Hp} {v : V} {t : T3} (h : T3R K t v H) (u : Tu H H') : T3R K t v H' := let ⟨p, e, h⟩ := h; ⟨p, e, u.sq h⟩
theorem T4R.tb {H : Hp} {v : V} {t : T4} (h : T4R K t v H) : TbR K t.t3 v H := let ⟨p, n, e, h, _⟩ := h; ⟨p, [n], e, h⟩
theorem T3R.tb {H : Hp} {v : V} {t : T3} (h : T3R K t v H) : TbR K t v H := let ⟨p, e, h⟩ := h; ⟨p, [], e, h⟩
/-- a list of things -/
def LstR {β : Type} (K : PySem.W.Frag) (R : β → V → Hp → Prop) (ts : List β) (v : V) (H : Hp) : Prop := ∃ l vs, v = .ref l ∧ SqL K H l vs ∧ Paired (fun t x => R t x H) ts vs
theorem paired_imp {α β : Type} {R S : α → β → Prop} (h : ∀ a b, R a b → S a b) {xs : List α} {ys : List β} (p : Paired R xs ys) : Paired S xs ys := Paired.mapP p fun a b r => h a b r
abbrev N_rings_of : List Str := ["words", "ties", "fresh", "k", "word", "room", "place", "letter", "goal", "numbers"]
theorem sc_rings_of : FnScope ["words", "ties", "fresh", "k", "word", "room", "place", "letter", "goal", "numbers"] ["words"] (defScope s_rings_of) := ⟨rfl, rfl, rfl, by decide +kernel, rfl, by decide +kernel, by decide +kernel⟩
theorem b_rings_of : BindsT "rings_of" s_rings_of ["words"] := fun _ _ _ _ _ _ us hl => match us, hl with | [_], _ => rfl
def sp_rings_of (K : PySem.W.Frag) : Sp := fun vs H Q _ => ∃ p : Addr × List (List Nat), vs = [.ref p.1] ∧ SqL K H p.1 (p.2.map fun u => V.str (tx u)) ∧ (∀ u ∈ p.2, AL u ∧ u.length ≤ 1000) ∧ p.2.length ≤ 1000 ∧ Ret H Q fun v H' => ∃ l vs, v = .ref l ∧ H l = none ∧ H' l = some (.lst vs) ∧ Paired (fun t x => T4R K t x H') (rings p.2) vs
theorem smallL_iff {c : Nat} : smallL c = decide (c ∈ (Str.ofString "abcdefghijklmnopqrstuvwxyz").cps.toList) := by
  unfold smallL
  rw [Bool.eq_iff_iff, decide_eq_true_eq, decide_eq_true_eq, mem_small]
theorem ringFold_len (k n : Nat) : ∀ (l : List (Nat × Nat)) (st : List T4 × Nat × Nat), (l.foldl (ringStep k n) st).1.length = st.1.length + l.length
  | [], _ => rfl
  | p :: l, st => by
    rw [List.foldl_cons, ringFold_len k n l, List.length_cons]
    unfold ringStep
    rw [List.length_append]
    show st.1.length + 1 + l.length = _
    omega
theorem ringWords_len (m : Nat) : ∀ (l : List (List Nat × Nat)) (st : List T4 × Nat), (∀ p ∈ l, p.1.length ≤ m) → (l.foldl ringWord st).1.length ≤ st.1.length + l.length * m
  | [], _, _ => by simp
  | p :: l, st, h => by
    rw [List.foldl_cons]
    have h1 := ringWords_len m l (ringWord st p) fun q hq => h q (List.mem_cons_of_mem _ hq)
    have h2 : (ringWord st p).1.length = st.1.length + p.1.length := by
      unfold ringWord
      show (List.foldl (ringStep p.2 p.1.length) (st.1, st.2, 0) p.1.zipIdx).1.length = _
      rw [ringFold_len, List.length_zipIdx]
    have h3 := h p List.mem_cons_self
    rw [List.length_cons, Nat.succ_mul]
    omega
theorem zip_pre {α : Type} {u : List α} {pre post : List (α × Nat)} {b : α × Nat} (e : u.zipIdx = pre ++ b :: post) : b.2 = pre.length ∧ pre.length < u.length ∧ b.1 ∈ u := by
  have h1 : u.zipIdx[pre.length]? = some b := by
    rw [e, List.getElem?_append_right (Nat.le_refl _)]
    simp
  obtain ⟨h2, h3⟩ := List.getElem?_eq_some_iff.mp h1
  rw [List.getElem_zipIdx] at h3
  rw [List.length_zipIdx] at h2
  refine ⟨?_, h2, ?_⟩
  · rw [← h3]
    simp
  · rw [← h3]
    exact List.getElem_mem _
theorem ok_rings_of (T : Tx K mg) (G_back_of : Ok P w K mg base 1 "back_of" ["letter"] sp_back_of) (G_behind : Ok P w K mg base 1 "behind" ["numbers"] (sp_behind K)) : Ok P w K mg base 2 "rings_of" ["words"] (sp_rings_of K) := by
  refine Ok.of T.f_rings_of sc_rings_of b_rings_of (fun vs H Q E h => by obtain ⟨a, rfl, _⟩ := h; rfl) (fun cdv A outer s H vs Q E hr h => ?_)
  obtain ⟨⟨lw, ws⟩, rfl, hS, hws, hwl, q⟩ := h
  have hS : SqL K H lw (ws.map fun u => V.str (tx u)) := hS
  have hws : ∀ u ∈ ws, AL u ∧ u.length ≤ 1000 := hws
  have hwl : ws.length ≤ 1000 := hwl
  refine ⟨_, (pss_cons (ps_set (i := 1) sc_rings_of.nd rfl (.inl rfl) (pe_lstN pa_nil))
      (pss_cons (ps_set (i := 2) sc_rings_of.nd rfl (.inl rfl) pe_int)
      (pss_cons (ps_for PassesOwn.never rfl (pi_enum (by rfl) T.n_enumerate (pa_cons (pv 0) pa_nil)) (pg_tup rfl (pgs_cons (pg_name (i := 3) sc_rings_of.nd rfl (.inl rfl)) (pgs_cons (pg_name (i := 4) sc_rings_of.nd rfl (.inl rfl)) pgs_nil))) (pss_cons (ps_set (i := 5) sc_rings_of.nd rfl (.inl rfl) pe_int)
      (pss_one (ps_for PassesOwn.never rfl (pi_enumS (by rfl) T.n_enumerate (pv 4)) (pg_tup rfl (pgs_cons (pg_name (i := 6) sc_rings_of.nd rfl (.inl rfl)) (pgs_cons (pg_name (i := 7) sc_rings_of.nd rfl (.inl rfl)) pgs_nil))) (pss_cons (ps_set (i := 8) sc_rings_of.nd rfl (.inl rfl) (pv 2))
      (pss_cons (ps_if (pt_cmpR op_eq (pv 6) (pe_op op_sub (pe_callB call_len_str (by rfl) T.n_len (by decide +kernel) (pa_cons (pv 4) pa_nil)) pe_int) (nomark _)) (pss_one (ps_set (i := 8) sc_rings_of.nd rfl (.inl rfl) pe_int)) (pss_one (ps_set (i := 2) sc_rings_of.nd rfl (.inl rfl) (pe_op op_add (pv 2) pe_int))))
      (pss_cons (ps_set (i := 9) sc_rings_of.nd rfl (.inl rfl) (pe_tupN pa_nil))
      (pss_cons (ps_if (pt_cmpR op_eq (pv 6) pe_int (nomark _)) (pss_one (ps_set (i := 9) sc_rings_of.nd rfl (.inl rfl) (pe_tupN (pa_cons (pe_op op_add (pv 3) pe_int) pa_nil)))) pss_nil)
      (pss_cons (ps_if (pt_cmpR op_in_sign (pv 7) (pe_txt (by rfl) T.v_SMALL) (by rfl)) (pss_one (ps_expr (pe_bm PySem.F.plainAttrs_list PySem.F.slot_list_append PySem.F.type_list_append mt_appN (pv 1) (pa_cons (pe_tupN (pa_cons (pv 5) (pa_cons (pv 7) (pa_cons (pv 8) (pa_cons (pv 9) pa_nil))))) pa_nil)))) (pss_one (ps_expr (pe_bm PySem.F.plainAttrs_list PySem.F.slot_list_append PySem.F.type_list_append mt_appN (pv 1) (pa_cons (pe_tupN (pa_cons (pv 8) (pa_cons (pe_g G_back_of (hr.mono (by decide)) (by rfl) (pa_cons (pv 7) pa_nil)) (pa_cons (pv 5) (pa_cons (pe_g G_behind (hr.mono (by decide)) (by rfl) (pa_cons (pv 9) pa_nil)) pa_nil))))) pa_nil)))))
      (pss_one (ps_set (i := 5) sc_rings_of.nd rfl (.inl rfl) (pv 8))))))))))))
      (pss_one (ps_ret (pv 1)))))), ?_⟩
  walk_at "gw"
  refine sz_and (Nat.zero_le _) fun l H1 n1 => ?_
  walk_at "gw"
  refine ⟨lw, _, rfl, n1.ex.seq hS, ?_⟩
  refine forS (bs := ws.zipIdx) (Ok := fun H' => SqL K H' lw (ws.map fun u => V.str (tx u))) (Y := fun b x H' => ∃ T, x = .ref T ∧ H' T = some (.tup [iN b.2, .str (tx b.1)])) ?_
    (fun pre σ' H' => ∃ y3 y4 y5 y6 y7 y8 y9 vs, σ' = [some (.ref lw), some (.ref l), some (iN (pre.foldl ringWord ([], 1)).2), y3, y4, y5, y6, y7, y8, y9] ∧ Ex H H' ∧ H' l = some (.lst vs) ∧ Paired (fun t x => T4R K t x H') (pre.foldl ringWord ([], 1)).1 vs)
    ⟨_, _, _, _, _, _, _, [], rfl, n1.ex, n1.at_, .nil⟩ (fun _ _ H' ⟨_, _, _, _, _, _, _, _, _, ex, _⟩ => ex.seq hS) ?_ ?_
  · have Z := seqs_enum (K := K) (a := lw) (xs := ws.map fun u => V.str (tx u))
    rw [show (ws.map fun u => V.str (tx u)).zipIdx = ws.zipIdx.map fun p => (V.str (tx p.1), p.2) from List.zipIdx_map ..] at Z
    exact Seqs.of_map Z
  · rintro pre ⟨u, k⟩ post x σ' H2 H3 e ⟨y3, y4, y5, y6, y7, y8, y9, vs, rfl, ex, hl, pv⟩ e3 ⟨T1, rfl, hT⟩
    obtain ⟨hk, hk2, hu⟩ := zip_pre e
    have hk : k = pre.length := hk
    obtain ⟨hu, hul⟩ := hws u hu
    refine w_gtup2 (sqT_of hT) ?_
    walk_at "gw"
    have tlen : (pre.foldl ringWord ([], 1)).1.length ≤ 1000000 := by
      have h1 := ringWords_len 1000 pre ([], 1) fun p hp => by
        have : p ∈ ws.zipIdx := by rw [e]; exact List.mem_append_left _ hp
        exact (hws p.1 (List.fst_mem_of_mem_zipIdx this)).2
      simp only [List.length_nil, Nat.zero_add] at h1
      have h2 : pre.length ≤ 1000 := by omega
      have h3 : pre.length * 1000 ≤ 1000 * 1000 := Nat.mul_le_mul_right _ h2
      omega
    generalize e0 : pre.foldl ringWord ([], 1) = st0 at pv tlen ⊢
    obtain ⟨ts0, f0⟩ := st0
    have pv : Paired (fun t x => T4R K t x H2) ts0 vs := pv
    have tlen : ts0.length ≤ 1000000 := tlen
    refine forS (bs := u.zipIdx) (seqs_enumS (z := tx u)) (fun pr σ' H' => ∃ y6 y7 y8 y9 vs, σ' = [some (.ref lw), some (.ref l), some (iN (pr.foldl (ringStep k u.length) (ts0, f0, 0)).2.1), some (iN k), some (.str (tx u)), some (iN (pr.foldl (ringStep k u.length) (ts0, f0, 0)).2.2), y6, y7, y8, y9] ∧ Ex H H' ∧ H' l = some (.lst vs) ∧ Paired (fun t x => T4R K t x H') (pr.foldl (ringStep k u.length) (ts0, f0, 0)).1 vs)
      ⟨_, _, _, _, vs, rfl, ex.trans e3, e3 _ _ hl, paired_imp (fun t x r => r.mono e3.tu) pv⟩ (fun _ _ _ _ => trivial) ?_ ?_
    · rintro pr ⟨c, i⟩ po x σ2 H4 H5 ei ⟨z6, z7, z8, z9, vs2, rfl, ex2, hl2, pv2⟩ e5 ⟨T2, rfl, hT2⟩
      obtain ⟨hi, hi2, hc⟩ := zip_pre ei
      have hi : i = pr.length := hi
      have hcL : isL c = true := hu c hc
      have fl := ringFold_len k u.length pr (ts0, f0, 0)
      refine w_gtup2 (sqT_of hT2) ?_
      rw [List.foldl_append]
      generalize e1 : pr.foldl (ringStep k u.length) (ts0, f0, 0) = st1 at pv2 fl ⊢
      obtain ⟨ts1, f1, r1⟩ := st1
      have fl : ts1.length = ts0.length + pr.length := fl
      have pv2 : Paired (fun t x => T4R K t x H4) ts1 vs2 := pv2
      have lv2 : vs2.length ≤ 2000000 := by
        have := Paired.length pv2
        omega
      show _
      walk_at "gw"
      refine ex_lenS (by show u.length ≤ _; omega) ?_
      walk_at "gw"
      have hu1 : (V.int ((i : Nat) : Int) = V.int (((tx u).length : Nat) - 1 : Int)) ↔ i + 1 = u.length := by
        constructor
        · intro z
          injection z with z
          have z : (i : Int) = (u.length : Int) - 1 := z
          omega
        · intro z
          have : ((tx u).length : Int) = (u.length : Int) := rfl
          rw [this]
          congr 1
          omega
      obtain ⟨gl, fr, hgl, hfr⟩ : ∃ gl fr, gl = (if i + 1 = u.length then 0 else f1) ∧ fr = (if i + 1 = u.length then f1 else f1 + 1) := ⟨_, _, rfl, rfl⟩
      have hstep : List.foldl (ringStep k u.length) (ts1, f1, r1) [(c, i)] = (ts1 ++ [if smallL c then (r1, c, gl, if i = 0 then [(k : Int) + 1] else []) else (gl, bk c, r1, behindN (if i = 0 then [(k : Int) + 1] else []))], fr, gl) := by
        rw [hgl, hfr]
        rfl
      rw [hstep]
      obtain ⟨ns, hns⟩ : ∃ ns : List Int, ns = if i = 0 then [(k : Int) + 1] else [] := ⟨_, rfl⟩
      rw [← hns]
      have ex4 : Ex H H4 := ex2
      have ex5 : Ex H H5 := ex4.trans e5
      have hl5 := e5 _ _ hl2
      have pv5 : Paired (fun t x => T4R K t x H5) ts1 vs2 := paired_imp (fun t x r => r.mono e5.tu) pv2
      -- a new tie, told
      have last : ∀ (H6 H7 : Hp) (p6 : Addr) (nv : V) (t : T4), Ex H5 H6 → New H6 p6 (.tup [iN t.1, .str (sg t.2.1), iN t.2.2.1, nv]) H7 → NsR K H6 nv t.2.2.2 → ∀ H8, Chg H7 l (.lst (vs2 ++ [.ref p6])) H8 → Ex H H8 ∧ H8 l = some (.lst (vs2 ++ [.ref p6])) ∧ Paired (fun t x => T4R K t x H8) (ts1 ++ [t]) (vs2 ++ [.ref p6]) := by
        intro H6 H7 p6 nv t e6 n7 hn H8 c8
        have hl7 : H7 l = some (.lst vs2) := n7.ex _ _ (e6 _ _ hl5)
        have tu8 : Tu H7 H8 := But.tu c8.but hl7 trivial
        refine ⟨c8.ex ((ex5.trans e6).trans n7.ex) n1.no, c8.at_, Paired.snoc ?_ ?_⟩
        · exact paired_imp (fun t x r => r.mono ((Ex.tu (e6.trans n7.ex)).trans tu8)) pv5
        · exact ⟨p6, nv, rfl, tu8.sq (sqT_of n7.at_), hn.mono ((Ex.tu n7.ex).trans tu8)⟩
      by_cases h2 : i = 0
      · by_cases h3 : smallL c = true
        · by_cases h1 : i + 1 = u.length
          all_goals (first
            | rw [if_pos (decide_eq_true (hu1.mpr h1))]
            | rw [if_neg (fun z => h1 (hu1.mp (of_decide_eq_true z)))])
          all_goals (first | rw [if_pos h1] at hgl hfr | rw [if_neg h1] at hgl hfr)
          all_goals subst hgl hfr
          all_goals walk_at "gw"
          all_goals refine sz_and (Nat.zero_le _) fun p5 H6 n6 => ?_
          all_goals walk_at "gw"
          all_goals rw [if_pos (by rw [h2]; exact decide_eq_true rfl)]
          all_goals walk_at "gw"
          all_goals refine sz_and (by show 1 ≤ 16000000; decide) fun pn Hn nn => ?_
          all_goals walk_at "gw"
          all_goals have en : Ex H5 Hn := n6.ex.trans nn.ex
          all_goals have hnv : NsR K Hn (.ref pn) ns := ⟨pn, rfl, by rw [hns, if_pos h2]; exact sqT_of nn.at_⟩
          all_goals rw [if_pos (by rw [← smallL_iff]; exact h3), if_pos h3]
          all_goals have hlc := en _ _ hl5
          all_goals walk_at "gw"
          all_goals refine sz_and (by show 4 ≤ 16000000; decide) fun p7 H7 n7 => ?_
          all_goals have hl7 := n7.ex _ _ hlc
          all_goals walk_at "gw"
          all_goals refine w_app hl7 (by omega) fun H8 c8 => ?_
          all_goals obtain ⟨f1', f2', f3'⟩ := last _ _ _ _ (r1, c, _, ns) en n7 hnv H8 c8
          all_goals walk_at "gw"
          all_goals exact ⟨_, _, _, _, _, rfl, f1', f2', f3'⟩
        · by_cases h1 : i + 1 = u.length
          all_goals (first
            | rw [if_pos (decide_eq_true (hu1.mpr h1))]
            | rw [if_neg (fun z => h1 (hu1.mp (of_decide_eq_true z)))])
          all_goals (first | rw [if_pos h1] at hgl hfr | rw [if_neg h1] at hgl hfr)
          all_goals subst hgl hfr
          all_goals walk_at "gw"
          all_goals refine sz_and (Nat.zero_le _) fun p5 H6 n6 => ?_
          all_goals walk_at "gw"
          all_goals rw [if_pos (by rw [h2]; exact decide_eq_true rfl)]
          all_goals walk_at "gw"
          all_goals refine sz_and (by show 1 ≤ 16000000; decide) fun pn Hn nn => ?_
          all_goals walk_at "gw"
          all_goals have en : Ex H5 Hn := n6.ex.trans nn.ex
          all_goals have hnv : NsR K Hn (.ref pn) ns := ⟨pn, rfl, by rw [hns, if_pos h2]; exact sqT_of nn.at_⟩
          all_goals rw [if_neg (by rw [← smallL_iff]; exact h3), if_neg h3]
          all_goals have hlc := en _ _ hl5
          all_goals walk_at "gw"
          all_goals refine c_back_of (L2.Same.refl _) hcL fun Hb eb => ?_
          all_goals walk_at "gw"
          all_goals refine ⟨(_, ns), rfl, hnv.mono (Ex.tu eb), (by rw [hns]; split <;> simp), ?_⟩
          all_goals rintro nv2 Hc ec hnv2
          all_goals have ebc := eb.trans ec
          all_goals have hlb := ebc _ _ hlc
          all_goals refine sz_and (by show 4 ≤ 16000000; decide) fun p7 H7 n7 => ?_
          all_goals have hl7 := n7.ex _ _ hlb
          all_goals walk_at "gw"
          all_goals refine w_app hl7 (by omega) fun H8 c8 => ?_
          all_goals obtain ⟨f1', f2', f3'⟩ := last _ _ _ _ (_, bk c, r1, behindN ns) (en.trans ebc) n7 hnv2 H8 c8
          all_goals walk_at "gw"
          all_goals exact ⟨_, _, _, _, _, rfl, f1', f2', f3'⟩
      · by_cases h3 : smallL c = true
        · by_cases h1 : i + 1 = u.length
          all_goals (first
            | rw [if_pos (decide_eq_true (hu1.mpr h1))]
            | rw [if_neg (fun z => h1 (hu1.mp (of_decide_eq_true z)))])
          all_goals (first | rw [if_pos h1] at hgl hfr | rw [if_neg h1] at hgl hfr)
          all_goals subst hgl hfr
          all_goals walk_at "gw"
          all_goals refine sz_and (Nat.zero_le _) fun p5 H6 n6 => ?_
          all_goals walk_at "gw"
          all_goals rw [if_neg (fun z => h2 (by
            have z := of_decide_eq_true z
            injection z with z
            have z : (i : Int) = 0 := z
            omega))]
          all_goals walk_at "gw"
          all_goals have en : Ex H5 H6 := n6.ex
          all_goals have hnv : NsR K H6 (.ref p5) ns := ⟨p5, rfl, by rw [hns, if_neg h2]; exact sqT_of n6.at_⟩
          all_goals rw [if_pos (by rw [← smallL_iff]; exact h3), if_pos h3]
          all_goals have hlc := en _ _ hl5
          all_goals walk_at "gw"
          all_goals refine sz_and (by show 4 ≤ 16000000; decide) fun p7 H7 n7 => ?_
          all_goals have hl7 := n7.ex _ _ hlc
          all_goals walk_at "gw"
          all_goals refine w_app hl7 (by omega) fun H8 c8 => ?_
          all_goals obtain ⟨f1', f2', f3'⟩ := last _ _ _ _ (r1, c, _, ns) en n7 hnv H8 c8
          all_goals walk_at "gw"
          all_goals exact ⟨_, _, _, _, _, rfl, f1', f2', f3'⟩
        · by_cases h1 : i + 1 = u.length
          all_goals (first
            | rw [if_pos (decide_eq_true (hu1.mpr h1))]
            | rw [if_neg (fun z => h1 (hu1.mp (of_decide_eq_true z)))])
          all_goals (first | rw [if_pos h1] at hgl hfr | rw [if_neg h1] at hgl hfr)
          all_goals subst hgl hfr
          all_goals walk_at "gw"
          all_goals refine sz_and (Nat.zero_le _) fun p5 H6 n6 => ?_
          all_goals walk_at "gw"
          all_goals rw [if_neg (fun z => h2 (by
            have z := of_decide_eq_true z
            injection z with z
            have z : (i : Int) = 0 := z
            omega))]
          all_goals walk_at "gw"
          all_goals have en : Ex H5 H6 := n6.ex
          all_goals have hnv : NsR K H6 (.ref p5) ns := ⟨p5, rfl, by rw [hns, if_neg h2]; exact sqT_of n6.at_⟩
          all_goals rw [if_neg (by rw [← smallL_iff]; exact h3), if_neg h3]
          all_goals have hlc := en _ _ hl5
          all_goals walk_at "gw"
          all_goals refine c_back_of (L2.Same.refl _) hcL fun Hb eb => ?_
          all_goals walk_at "gw"
          all_goals refine ⟨(_, ns), rfl, hnv.mono (Ex.tu eb), (by rw [hns]; split <;> simp), ?_⟩
          all_goals rintro nv2 Hc ec hnv2
          all_goals have ebc := eb.trans ec
          all_goals have hlb := ebc _ _ hlc
          all_goals refine sz_and (by show 4 ≤ 16000000; decide) fun p7 H7 n7 => ?_
          all_goals have hl7 := n7.ex _ _ hlb
          all_goals walk_at "gw"
          all_goals refine w_app hl7 (by omega) fun H8 c8 => ?_
          all_goals obtain ⟨f1', f2', f3'⟩ := last _ _ _ _ (_, bk c, r1, behindN ns) (en.trans ebc) n7 hnv2 H8 c8
          all_goals walk_at "gw"
          all_goals exact ⟨_, _, _, _, _, rfl, f1', f2', f3'⟩
    · rintro σ2 H4 ⟨z6, z7, z8, z9, vs2, rfl, ex2, hl2, pv2⟩
      walk_at "gw"
      rw [List.foldl_append, e0]
      exact ⟨_, _, _, _, _, _, _, vs2, rfl, ex2, hl2, pv2⟩
  · rintro σ' H2 ⟨y3, y4, y5, y6, y7, y8, y9, vs, rfl, ex, hl, pv⟩
    walk_at "gw"
    exact q _ _ ex ⟨l, vs, rfl, n1.no, hl, pv⟩
end
end Gw

/-! ### webs: gluing -/
namespace Gw
open PySem PySem.Spec PyProof.Rows L2 RT
/-! dicts by a room and a letter -/
def kk (k : Nat × Nat) : List Key := [.inl (k.1 : Int), .inr (sg k.2)]
theorem kk_inj {a b : Nat × Nat} (h : kk a = kk b) : a = b := by
  obtain ⟨a1, a2⟩ := a
  obtain ⟨b1, b2⟩ := b
  simp only [kk, List.cons.injEq, Sum.inl.injEq, Sum.inr.injEq, and_true] at h
  obtain ⟨h1, h2⟩ := h
  have h1 : a1 = b1 := by omega
  have h2 : a2 = b2 := by
    injection h2 with h2
    have := congrArg Array.toList h2
    injection this
  rw [h1, h2]
section
variable {β : Type} {R : β → V → Prop}
theorem dict_get {kvs : List ((Nat × Nat) × β)} {ws : List (List Key × V)} (p : Paired (fun a b => b.1 = kk a.1 ∧ R a.2 b.2) kvs ws) (k : Nat × Nat) :
    (aget kvs k = none ∧ valV ws (kk k) = none) ∨ ∃ b v, aget kvs k = some b ∧ valV ws (kk k) = some v ∧ R b v := by
  induction p with
  | nil => exact .inl ⟨rfl, rfl⟩
  | @cons a b as bs h t ih =>
    by_cases e : a.1 = k
    · refine .inr ⟨a.2, b.2, ?_, valV_pos (by rw [h.1, e]), h.2⟩
      unfold aget
      rw [if_pos e]
    · have e2 : ¬ b.1 = kk k := fun z => e (kk_inj (h.1.symm.trans z))
      rw [valV_neg e2]
      unfold aget
      rw [if_neg e]
      exact ih
theorem dict_has {kvs : List ((Nat × Nat) × β)} {ws : List (List Key × V)} (p : Paired (fun a b => b.1 = kk a.1 ∧ R a.2 b.2) kvs ws) (k : Nat × Nat) : (ws.any fun kv => decide (kv.1 = kk k)) = ahas kvs k := by
  rw [valV_any, ahas_get]
  rcases dict_get p k with ⟨h1, h2⟩ | ⟨b, v, h1, h2, _⟩
  · rw [h1, h2]
    rfl
  · rw [h1, h2]
    rfl
theorem dict_put {kvs : List ((Nat × Nat) × β)} {ws : List (List Key × V)} (p : Paired (fun a b => b.1 = kk a.1 ∧ R a.2 b.2) kvs ws) (k : Nat × Nat) {b : β} {v : V} (r : R b v) : Paired (fun a b => b.1 = kk a.1 ∧ R a.2 b.2) (aput kvs k b) (putK ws (kk k) v) := by
  have hh := dict_has p k
  unfold aput putK
  rw [hh]
  split
  · rename_i hk
    clear hh hk
    induction p with
    | nil => exact .nil
    | @cons x y xs ys h t ih =>
      rw [List.map_cons, List.map_cons]
      refine .cons ?_ ?_
      · by_cases e : x.1 = k
        · rw [if_pos e, if_pos (by rw [h.1, e])]
          exact ⟨h.1, r⟩
        · rw [if_neg e, if_neg (fun z => e (kk_inj (h.1.symm.trans z)))]
          exact h
      · exact ih
  · exact Paired.snoc p ⟨rfl, r⟩
end
/-- a dict by a room and a letter -/
def DctR {β : Type} (R : β → V → Hp → Prop) (kvs : List ((Nat × Nat) × β)) (d : Addr) (H : Hp) : Prop := ∃ ws : List (List Key × V), H d = some (.dT ws) ∧ Paired (fun a b => b.1 = kk a.1 ∧ R a.2 b.2 H) kvs ws
theorem paired_impH {α β : Type} {R S : α → β → Prop} {xs : List α} {ys : List β} (p : Paired R xs ys) (h : ∀ a b, R a b → S a b) : Paired S xs ys := Paired.mapP p fun a b r => h a b r
theorem DctR.ex {β : Type} {R : β → V → Hp → Prop} (mono : ∀ b v H1 H2, Tu H1 H2 → R b v H1 → R b v H2) {kvs : List ((Nat × Nat) × β)} {d : Addr} {H H' : Hp} (D : DctR R kvs d H) (e : Ex H H') : DctR R kvs d H' := by
  obtain ⟨ws, h, p⟩ := D
  exact ⟨ws, e _ _ h, paired_impH p fun a b r => ⟨r.1, mono _ _ _ _ (Ex.tu e) r.2⟩⟩
theorem DctR.but {β : Type} {R : β → V → Hp → Prop} (mono : ∀ b v H1 H2, Tu H1 H2 → R b v H1 → R b v H2) {kvs : List ((Nat × Nat) × β)} {d p : Addr} {H H' : Hp} (D : DctR R kvs d H) (c : But p H H') (t : Tu H H') (ne : d ≠ p) : DctR R kvs d H' := by
  obtain ⟨ws, h, q⟩ := D
  exact ⟨ws, c _ _ ne h, paired_impH q fun a b r => ⟨r.1, mono _ _ _ _ t r.2⟩⟩
theorem DctR.len {β : Type} {R : β → V → Hp → Prop} {kvs : List ((Nat × Nat) × β)} {d : Addr} {H : Hp} (D : DctR R kvs d H) : ∃ ws : List (List Key × V), H d = some (.dT ws) ∧ ws.length = kvs.length := by
  obtain ⟨ws, h, q⟩ := D
  exact ⟨ws, h, (Paired.length q).symm⟩
/-- asking it -/
theorem DctR.get {β : Type} {R : β → V → Hp → Prop} {kvs : List ((Nat × Nat) × β)} {d b : Addr} {H : Hp} {k : Nat × Nat} (D : DctR R kvs d H) (hb : H b = some (.tup [iN k.1, .str (sg k.2)])) :
    (aget kvs k = none ∧ DGet H d (.ref b) none) ∨ ∃ x v, aget kvs k = some x ∧ DGet H d (.ref b) (some v) ∧ R x v H := by
  obtain ⟨ws, h, p⟩ := D
  have g : DGet H d (.ref b) (valV ws (kk k)) := DGet.t h hb
  rcases dict_get (R := fun b v => R b v H) p k with ⟨h1, h2⟩ | ⟨x, v, h1, h2, h3⟩
  · rw [h2] at g
    exact .inl ⟨h1, g⟩
  · rw [h2] at g
    exact .inr ⟨x, v, h1, g, h3⟩
/-- putting -/
theorem DctR.put {β : Type} {R : β → V → Hp → Prop} (mono : ∀ b v H1 H2, Tu H1 H2 → R b v H1 → R b v H2) {kvs : List ((Nat × Nat) × β)} {d b : Addr} {H : Hp} {k : Nat × Nat} {x : β} {v : V} (D : DctR R kvs d H) (hb : H b = some (.tup [iN k.1, .str (sg k.2)])) (r : R x v H) (hl : kvs.length < 16000000) :
    ∃ H', DPut H d (.ref b) v H' ∧ But d H H' ∧ Tu H H' ∧ DctR R (aput kvs k x) d H' := by
  obtain ⟨ws, h, p⟩ := D
  have lw := Paired.length p
  have tu : Tu H (upd H d (.dT (putK ws (kk k) v))) := But.tu But.upd h trivial
  refine ⟨_, DPut.t (k := kk k) h hb (line_lt (by omega)), But.upd, tu, _, upd_same, ?_⟩
  exact paired_impH (dict_put (R := fun b v => R b v H) p k r) fun a b r => ⟨r.1, mono _ _ _ _ tu r.2⟩
section
variable {P : Program} {w : World} {K : PySem.W.Frag} {mg : Str → Option Value} {base : Heap}
/-- two ties and which end -/
def PrR (K : PySem.W.Frag) (r : T4 × T4 × Nat) (v : V) (H : Hp) : Prop := ∃ q x y, v = .ref q ∧ SqT K H q [x, y, iN r.2.2] ∧ T4R K r.1 x H ∧ T4R K r.2.1 y H
theorem at_end {t : T4} {n : V} {e : Nat} (h : e = 0 ∨ e = 2) : atI [iN t.1, .str (sg t.2.1), iN t.2.2.1, n] ((e : Nat) : Int) = some (iN (endAt t e)) := by
  rcases h with rfl | rfl
  · rfl
  · rfl
abbrev N_in_order : List Str := ["one", "other", "end"]
theorem sc_in_order : FnScope ["one", "other", "end"] ["one", "other", "end"] (defScope s_in_order) := ⟨rfl, rfl, rfl, by decide +kernel, rfl, by decide +kernel, by decide +kernel⟩
theorem b_in_order : BindsT "in_order" s_in_order ["one", "other", "end"] := fun _ _ _ _ _ _ us hl => match us, hl with | [_, _, _], _ => rfl
def sp_in_order (K : PySem.W.Frag) : Sp := fun vs H Q _ => ∃ p : V × T4 × V × T4 × Nat, vs = [p.1, p.2.2.1, iN p.2.2.2.2] ∧ T4R K p.2.1 p.1 H ∧ T4R K p.2.2.2.1 p.2.2.1 H ∧ (p.2.2.2.2 = 0 ∨ p.2.2.2.2 = 2) ∧ Ret H Q fun v H' => PrR K (inOrder p.2.1 p.2.2.2.1 p.2.2.2.2) v H'
theorem ok_in_order (T : Tx K mg) : Ok P w K mg base 1 "in_order" ["one", "other", "end"] (sp_in_order K) := by
  refine Ok.of T.f_in_order sc_in_order b_in_order (fun vs H Q E h => by obtain ⟨a, rfl, _⟩ := h; rfl) (fun cdv A outer s H vs Q E hr h => ?_)
  obtain ⟨⟨v1, o, v2, t, e⟩, rfl, h1, h2, he, q⟩ := h
  have h1 : T4R K o v1 H := h1
  have h2 : T4R K t v2 H := h2
  have he : e = 0 ∨ e = 2 := he
  have q : Ret H Q fun v H' => PrR K (inOrder o t e) v H' := q
  refine ⟨_, (pss_cons (ps_if (pt_cmpR op_eq (pe_ix (ix_tupK K) (pv 1) (pv 2) (fun _ _ => rfl)) pe_int (nomark _)) (pss_one (ps_ret (pe_tupN (pa_cons (pv 1) (pa_cons (pv 0) (pa_cons (pv 2) pa_nil)))))) pss_nil)
      (pss_one (ps_ret (pe_tupN (pa_cons (pv 0) (pa_cons (pv 1) (pa_cons (pv 2) pa_nil))))))), ?_⟩
  have h2' := h2
  obtain ⟨p, n, rfl, hp, hn⟩ := h2'
  walk_at "gw"
  refine w_ixT hp (at_end he) ?_
  walk_at "gw"
  by_cases hz : endAt t e = 0
  · rw [if_pos (by rw [hz]; exact decide_eq_true rfl)]
    walk_at "gw"
    refine sz_and (by show 3 ≤ 16000000; decide) fun p3 H3 n3 => ?_
    walk_at "gw"
    refine q _ _ n3.ex ?_
    unfold inOrder
    rw [if_pos hz]
    exact ⟨p3, _, _, rfl, sqT_of n3.at_, h2.mono (Ex.tu n3.ex), h1.mono (Ex.tu n3.ex)⟩
  · rw [if_neg (fun z => hz (by
      have z := of_decide_eq_true z
      injection z with z
      have z : ((endAt t e : Nat) : Int) = 0 := z
      omega))]
    walk_at "gw"
    refine sz_and (by show 3 ≤ 16000000; decide) fun p3 H3 n3 => ?_
    walk_at "gw"
    refine q _ _ n3.ex ?_
    unfold inOrder
    rw [if_neg hz]
    exact ⟨p3, _, _, rfl, sqT_of n3.at_, h1.mono (Ex.tu n3.ex), h2.mono (Ex.tu n3.ex)⟩
abbrev N_pair_of : List Str := ["ties", "begun", "ended", "tie", "start", "goal"]
theorem sc_pair_of : FnScope ["ties", "begun", "ended", "tie", "start", "goal"] ["ties"] (defScope s_pair_of) := ⟨rfl, rfl, rfl, by decide +kernel, rfl, by decide +kernel, by decide +kernel⟩
theorem b_pair_of : BindsT "pair_of" s_pair_of ["ties"] := fun _ _ _ _ _ _ us hl => match us, hl with | [_], _ => rfl
def sp_pair_of (K : PySem.W.Frag) : Sp := fun vs H Q _ => ∃ p : V × List T4, vs = [p.1] ∧ LstR K (T4R K) p.2 p.1 H ∧ p.2.length ≤ 1000000 ∧ Ret H Q fun v H' => (pairOf p.2 = none ∧ v = .non) ∨ ∃ r, pairOf p.2 = some r ∧ PrR K r v H'
theorem ok_pair_of (T : Tx K mg) (G_in_order : Ok P w K mg base 1 "in_order" ["one", "other", "end"] (sp_in_order K)) : Ok P w K mg base 2 "pair_of" ["ties"] (sp_pair_of K) := by
  refine Ok.of T.f_pair_of sc_pair_of b_pair_of (fun vs H Q E h => by obtain ⟨a, rfl, _⟩ := h; rfl) (fun cdv A outer s H vs Q E hr h => ?_)
  obtain ⟨⟨v1, ts⟩, rfl, ⟨l, vs, rfl, hS, hvs⟩, hlen, q⟩ := h
  have hvs : Paired (fun t x => T4R K t x H) ts vs := hvs
  have hlen : ts.length ≤ 1000000 := hlen
  refine ⟨_, (pss_cons (ps_set (i := 1) sc_pair_of.nd rfl (.inl rfl) pe_dnewTN)
      (pss_cons (ps_set (i := 2) sc_pair_of.nd rfl (.inl rfl) pe_dnewTN)
      (pss_cons (ps_for PassesOwn.never rfl (pi_list (pv 0)) (pg_name (i := 3) sc_pair_of.nd rfl (.inl rfl)) (pss_cons (ps_set (i := 4) sc_pair_of.nd rfl (.inl rfl) (pe_tupN (pa_cons (pe_ix (ix_tupK K) (pv 3) pe_int (fun _ _ => rfl)) (pa_cons (pe_ix (ix_tupK K) (pv 3) pe_int (fun _ _ => rfl)) pa_nil))))
      (pss_cons (ps_set (i := 5) sc_pair_of.nd rfl (.inl rfl) (pe_tupN (pa_cons (pe_ix (ix_tupK K) (pv 3) pe_int (fun _ _ => rfl)) (pa_cons (pe_ix (ix_tupK K) (pv 3) pe_int (fun _ _ => rfl)) pa_nil))))
      (pss_cons (ps_if (pt_cmp (pc_din (hu_of hr) (pv 4) (pv 1))) (pss_one (ps_ret (pe_g G_in_order (hr.mono (by decide)) (by rfl) (pa_cons (pe_dget (hu_of hr) (pv 1) (pv 4) (fun _ _ => rfl)) (pa_cons (pv 3) (pa_cons pe_int pa_nil)))))) pss_nil)
      (pss_cons (ps_if (pt_cmp (pc_din (hu_of hr) (pv 5) (pv 2))) (pss_one (ps_ret (pe_g G_in_order (hr.mono (by decide)) (by rfl) (pa_cons (pe_dget (hu_of hr) (pv 2) (pv 5) (fun _ _ => rfl)) (pa_cons (pv 3) (pa_cons pe_int pa_nil)))))) pss_nil)
      (pss_cons (ps_dput (hu_of hr) (pv 1) (pv 4) (pv 3) rfl)
      (pss_one (ps_dput (hu_of hr) (pv 2) (pv 5) (pv 3) rfl))))))))
      (pss_one (ps_ret pe_non))))), ?_⟩
  walk_at "gw"
  intro dB H1 nB
  walk_at "gw"
  intro dE H2 nE
  walk_at "gw"
  have e02 : Ex H H2 := nB.ex.trans nE.ex
  have neBE : dB ≠ dE := fun z => by
    have := nE.no
    rw [← z, nB.at_] at this
    cases this
  have fE : H dE = none := nB.ex.free nE.no
  refine ⟨l, rfl, ⟨_, e02.seq hS⟩, ?_⟩
  refine forS (bs := ts) (seqs_listP (R := T4R K)) (fun pre σ' H' => ∃ y3 y4 y5 B E, σ' = [some (.ref l), some (.ref dB), some (.ref dE), y3, y4, y5] ∧ Ex H H' ∧ DctR (T4R K) B dB H' ∧ DctR (T4R K) E dE H' ∧ B.length ≤ pre.length ∧ E.length ≤ pre.length ∧ pairOf ts = pairGo (ts.drop pre.length) B E)
    ⟨_, _, _, [], [], rfl, e02, ⟨[], nE.ex _ _ nB.at_, .nil⟩, ⟨[], nE.at_, .nil⟩, Nat.le_refl _, Nat.le_refl _, by rw [List.length_nil, List.drop_zero]; rfl⟩ (fun pre σ' H' ⟨_, _, _, _, _, _, ex, _⟩ => ⟨vs, ex.seq hS, paired_impH hvs fun t x r => r.mono (Ex.tu ex)⟩) ?_ ?_
  · rintro pre t post x σ' H3 H4 e ⟨y3, y4, y5, B, E, rfl, ex, hB, hE, lB, lE, hgo⟩ e4 ht
    have ht0 := ht
    obtain ⟨p, n, rfl, hp, hn⟩ := ht0
    have tmono : ∀ (b : T4) v (H1 H2 : Hp), Tu H1 H2 → T4R K b v H1 → T4R K b v H2 := fun b v H1 H2 u r => r.mono u
    have ex4 := ex.trans e4
    have hdrop : ts.drop pre.length = t :: post := by
      rw [e, List.drop_left]
    rw [hdrop] at hgo
    walk_at "gw"
    refine w_ixT hp rfl ?_
    walk_at "gw"
    refine w_ixT hp rfl ?_
    walk_at "gw"
    refine sz_and (by show 2 ≤ 16000000; decide) fun p5 H5 n5 => ?_
    walk_at "gw"
    have hp5 := n5.ex.sqT hp
    refine w_ixT hp5 rfl ?_
    walk_at "gw"
    refine w_ixT hp5 rfl ?_
    walk_at "gw"
    refine sz_and (by show 2 ≤ 16000000; decide) fun p6 H6 n6 => ?_
    walk_at "gw"
    have e36 : Ex H3 H6 := (e4.trans n5.ex).trans n6.ex
    have ex6 : Ex H H6 := ex.trans e36
    have k5 : H6 p5 = some (.tup [iN t.1, .str (sg t.2.1)]) := n6.ex _ _ n5.at_
    have k6 : H6 p6 = some (.tup [iN t.2.2.1, .str (sg t.2.1)]) := n6.at_
    have hB6 := hB.ex tmono e36
    have hE6 := hE.ex tmono e36
    have ht6 : T4R K t (.ref p) H6 := ht.mono (Ex.tu (n5.ex.trans n6.ex))
    rcases hB6.get (k := (t.1, t.2.1)) k5 with ⟨g1, g2⟩ | ⟨o, v, g1, g2, g3⟩
    · refine ⟨dB, none, rfl, g2, ?_⟩
      walk_at "gw"
      rw [Option.isSome_none]
      walk_at "gw"
      rcases hE6.get (k := (t.2.2.1, t.2.1)) k6 with ⟨g4, g5⟩ | ⟨o, v, g4, g5, g6⟩
      · refine ⟨dE, none, rfl, g5, ?_⟩
        walk_at "gw"
        rw [Option.isSome_none]
        walk_at "gw"
        have lpre : pre.length < 1000000 := by
          have h2 := congrArg List.length e
          rw [List.length_append, List.length_cons] at h2
          omega
        obtain ⟨H7, d7, b7, t7, hB7⟩ := hB6.put tmono (k := (t.1, t.2.1)) k5 ht6 (by omega)
        refine ⟨dB, H7, rfl, d7, ?_⟩
        walk_at "gw"
        have hE7 := hE6.but tmono b7 t7 (Ne.symm neBE)
        have k7 : H7 p6 = some (.tup [iN t.2.2.1, .str (sg t.2.1)]) := b7 _ _ (fun z => by
          obtain ⟨ws, hw, _⟩ := hB6
          rw [z, hw] at k6
          cases k6) k6
        obtain ⟨H8, d8, b8, t8, hE8⟩ := hE7.put tmono (k := (t.2.2.1, t.2.1)) k7 (ht6.mono t7) (by omega)
        refine ⟨dE, H8, rfl, d8, ?_⟩
        walk_at "gw"
        have hB8 := hB7.but tmono b8 t8 neBE
        have l1 := aput_len B (t.1, t.2.1) t
        have l2 := aput_len E (t.2.2.1, t.2.1) t
        refine ⟨_, _, _, _, _, rfl, Ex.but (Ex.but ex6 b7 nB.no) b8 fE, hB8, hE8, by rw [List.length_append]; show _ ≤ pre.length + 1; omega, by rw [List.length_append]; show _ ≤ pre.length + 1; omega, ?_⟩
        rw [hgo, e, show (pre ++ t :: post).drop (pre ++ [t]).length = post by
          rw [List.length_append, ← List.drop_drop, List.drop_left]
          rfl]
        conv => lhs; unfold pairGo
        rw [g1]
        simp only [g4]
      · refine ⟨dE, some v, rfl, g5, ?_⟩
        walk_at "gw"
        rw [Option.isSome_some]
        walk_at "gw"
        refine ⟨dE, v, rfl, g5, ?_⟩
        walk_at "gw"
        refine ⟨(v, o, .ref p, t, 0), rfl, g6, ht6, .inl rfl, ?_⟩
        rintro v9 H9 e9 h9
        refine q _ _ (ex6.trans e9) (.inr ⟨_, ?_, h9⟩)
        rw [hgo]
        unfold pairGo
        rw [g1]
        simp only [g4]
    · refine ⟨dB, some v, rfl, g2, ?_⟩
      walk_at "gw"
      rw [Option.isSome_some]
      walk_at "gw"
      refine ⟨dB, v, rfl, g2, ?_⟩
      walk_at "gw"
      refine ⟨(v, o, .ref p, t, 2), rfl, g3, ht6, .inr rfl, ?_⟩
      rintro v9 H9 e9 h9
      refine q _ _ (ex6.trans e9) (.inr ⟨_, ?_, h9⟩)
      rw [hgo]
      unfold pairGo
      rw [g1]
  · rintro σ' H3 ⟨y3, y4, y5, B, E, rfl, ex, hB, hE, lB, lE, hgo⟩
    walk_at "gw"
    refine q _ _ ex (.inl ⟨?_, rfl⟩)
    show pairOf ts = none
    rw [hgo, List.drop_length]
    rfl
end
end Gw

/-! ### webs: moved, glued -/
namespace Gw
open PySem PySem.Spec PyProof.Rows L2 RT
theorem iN_eq {a b : Nat} : iN a = iN b ↔ a = b := by
  constructor
  · intro z
    injection z with z
    omega
  · intro z
    rw [z]
section
variable {P : Program} {w : World} {K : PySem.W.Frag} {mg : Str → Option Value} {base : Heap}
abbrev N_moved : List Str := ["tie", "away", "stay", "numbers", "told"]
theorem sc_moved : FnScope ["tie", "away", "stay", "numbers", "told"] ["tie", "away", "stay", "numbers"] (defScope s_moved) := ⟨rfl, rfl, rfl, by decide +kernel, rfl, by decide +kernel, by decide +kernel⟩
theorem b_moved : BindsT "moved" s_moved ["tie", "away", "stay", "numbers"] := fun _ _ _ _ _ _ us hl => match us, hl with | [_, _, _, _], _ => rfl
def sp_moved (K : PySem.W.Frag) : Sp := fun vs H Q _ => ∃ p : V × T4 × Nat × Nat × V × List Int, vs = [p.1, iN p.2.2.1, iN p.2.2.2.1, p.2.2.2.2.1] ∧ T4R K p.2.1 p.1 H ∧ NsR K H p.2.2.2.2.1 p.2.2.2.2.2 ∧ p.2.2.2.2.2.length < 16000000 ∧
  (p.2.1.1 = p.2.2.1 ∨ p.2.1.2.2.1 = p.2.2.1 → p.2.1.2.2.2.length + 2 * p.2.2.2.2.2.length ≤ 16000000) ∧ Ret H Q fun v H' => T4R K (movedT p.2.2.1 p.2.2.2.1 p.2.2.2.2.2 p.2.1) v H'
theorem ok_moved (T : Tx K mg) (G_joined : Ok P w K mg base 1 "joined" ["one", "other"] (sp_joined K)) (G_behind : Ok P w K mg base 1 "behind" ["numbers"] (sp_behind K)) : Ok P w K mg base 2 "moved" ["tie", "away", "stay", "numbers"] (sp_moved K) := by
  refine Ok.of T.f_moved sc_moved b_moved (fun vs H Q E h => by obtain ⟨a, rfl, _⟩ := h; rfl) (fun cdv A outer s H vs Q E hr h => ?_)
  obtain ⟨⟨v, t, away, stay, nv, ns⟩, rfl, ht, hnv, hns, hb, q⟩ := h
  have ht : T4R K t v H := ht
  have hnv : NsR K H nv ns := hnv
  have hns : ns.length < 16000000 := hns
  have hb : t.1 = away ∨ t.2.2.1 = away → t.2.2.2.length + 2 * ns.length ≤ 16000000 := hb
  have q : Ret H Q fun v H' => T4R K (movedT away stay ns t) v H' := q
  refine ⟨_, (pss_cons (ps_set (i := 4) sc_moved.nd rfl (.inl rfl) (pe_ix (ix_tupK K) (pv 0) pe_int (fun _ _ => rfl)))
      (pss_cons (ps_if (pt_cmpR op_eq (pe_ix (ix_tupK K) (pv 0) pe_int (fun _ _ => rfl)) (pv 1) (nomark _)) (pss_one (ps_set (i := 4) sc_moved.nd rfl (.inl rfl) (pe_g G_joined (hr.mono (by decide)) (by rfl) (pa_cons (pv 3) (pa_cons (pv 4) pa_nil))))) pss_nil)
      (pss_cons (ps_if (pt_cmpR op_eq (pe_ix (ix_tupK K) (pv 0) pe_int (fun _ _ => rfl)) (pv 1) (nomark _)) (pss_one (ps_set (i := 4) sc_moved.nd rfl (.inl rfl) (pe_g G_joined (hr.mono (by decide)) (by rfl) (pa_cons (pv 4) (pa_cons (pe_g G_behind (hr.mono (by decide)) (by rfl) (pa_cons (pv 3) pa_nil)) pa_nil))))) pss_nil)
      (pss_one (ps_ret (pe_tupN (pa_cons (pe_ifExp (pt_cmpR op_eq (pe_ix (ix_tupK K) (pv 0) pe_int (fun _ _ => rfl)) (pv 1) (nomark _)) (pv 2) (pe_ix (ix_tupK K) (pv 0) pe_int (fun _ _ => rfl))) (pa_cons (pe_ix (ix_tupK K) (pv 0) pe_int (fun _ _ => rfl)) (pa_cons (pe_ifExp (pt_cmpR op_eq (pe_ix (ix_tupK K) (pv 0) pe_int (fun _ _ => rfl)) (pv 1) (nomark _)) (pv 2) (pe_ix (ix_tupK K) (pv 0) pe_int (fun _ _ => rfl))) (pa_cons (pv 4) pa_nil)))))))))), ?_⟩
  obtain ⟨p, n, rfl, hp, hn⟩ := ht
  obtain ⟨a, c, b, told⟩ := t
  have hp : SqT K H p [iN a, .str (sg c), iN b, n] := hp
  have hn : NsR K H n told := hn
  have hb : a = away ∨ b = away → told.length + 2 * ns.length ≤ 16000000 := hb
  walk_at "gw"
  refine w_ixT hp rfl ?_
  walk_at "gw"
  refine w_ixT hp rfl ?_
  walk_at "gw"
  by_cases h1 : a = away
  · rw [if_pos (decide_eq_true (iN_eq.mpr h1))]
    have hb := hb (.inl h1)
    walk_at "gw"
    refine ⟨(nv, ns, n, told), rfl, hnv, hn, by show ns.length + told.length ≤ _; omega, ?_⟩
    rintro n1 H1 e1 hn1
    have hn1 : NsR K H1 n1 (joined ns told) := hn1
    have hj := joined_len told ns
    have hp1 := e1.sqT hp
    walk_at "gw"
    refine w_ixT hp1 rfl ?_
    walk_at "gw"
    by_cases h2 : b = away
    · rw [if_pos (decide_eq_true (iN_eq.mpr h2))]
      walk_at "gw"
      refine ⟨(nv, ns), rfl, hnv.mono (Ex.tu e1), hns, ?_⟩
      rintro n2 H2 e2 hn2
      walk_at "gw"
      refine ⟨(n1, joined ns told, n2, behindN ns), rfl, hn1.mono (Ex.tu e2), hn2, by show (joined ns told).length + (behindN ns).length ≤ _; rw [behindN_len]; omega, ?_⟩
      rintro n3 H3 e3 hn3
      have hp3 := Ex.sqT (e2.trans e3) hp1
      walk_at "gw"
      refine w_ixT hp3 rfl ?_
      walk_at "gw"
      rw [if_pos (decide_eq_true (iN_eq.mpr h1))]
      walk_at "gw"
      refine w_ixT hp3 rfl ?_
      walk_at "gw"
      refine w_ixT hp3 rfl ?_
      walk_at "gw"
      rw [if_pos (decide_eq_true (iN_eq.mpr h2))]
      walk_at "gw"
      refine sz_and (by show 4 ≤ 16000000; decide) fun p7 H7 n7 => ?_
      walk_at "gw"
      refine q _ _ (((e1.trans e2).trans e3).trans n7.ex) ?_
      show T4R K (movedT away stay ns (a, c, b, told)) _ _
      rw [show movedT away stay ns (a, c, b, told) = (stay, c, stay, joined (joined ns told) (behindN ns)) by simp [movedT, h1, h2]]
      exact ⟨p7, n3, rfl, sqT_of n7.at_, NsR.mono hn3 (Ex.tu n7.ex)⟩
    · rw [if_neg (fun z => h2 (iN_eq.mp (of_decide_eq_true z)))]
      walk_at "gw"
      refine w_ixT hp1 rfl ?_
      walk_at "gw"
      rw [if_pos (decide_eq_true (iN_eq.mpr h1))]
      walk_at "gw"
      refine w_ixT hp1 rfl ?_
      walk_at "gw"
      refine w_ixT hp1 rfl ?_
      walk_at "gw"
      rw [if_neg (fun z => h2 (iN_eq.mp (of_decide_eq_true z)))]
      walk_at "gw"
      refine w_ixT hp1 rfl ?_
      walk_at "gw"
      refine sz_and (by show 4 ≤ 16000000; decide) fun p7 H7 n7 => ?_
      walk_at "gw"
      refine q _ _ (e1.trans n7.ex) ?_
      show T4R K (movedT away stay ns (a, c, b, told)) _ _
      rw [show movedT away stay ns (a, c, b, told) = (stay, c, b, joined ns told) by simp [movedT, h1, h2]]
      exact ⟨p7, n1, rfl, sqT_of n7.at_, NsR.mono hn1 (Ex.tu n7.ex)⟩
  · rw [if_neg (fun z => h1 (iN_eq.mp (of_decide_eq_true z)))]
    walk_at "gw"
    refine w_ixT hp rfl ?_
    walk_at "gw"
    by_cases h2 : b = away
    · rw [if_pos (decide_eq_true (iN_eq.mpr h2))]
      have hb := hb (.inr h2)
      walk_at "gw"
      refine ⟨(nv, ns), rfl, hnv, hns, ?_⟩
      rintro n2 H2 e2 hn2
      walk_at "gw"
      refine ⟨(n, told, n2, behindN ns), rfl, hn.mono (Ex.tu e2), hn2, by show told.length + (behindN ns).length ≤ _; rw [behindN_len]; omega, ?_⟩
      rintro n3 H3 e3 hn3
      have hp3 := Ex.sqT (e2.trans e3) hp
      walk_at "gw"
      refine w_ixT hp3 rfl ?_
      walk_at "gw"
      rw [if_neg (fun z => h1 (iN_eq.mp (of_decide_eq_true z)))]
      walk_at "gw"
      refine w_ixT hp3 rfl ?_
      walk_at "gw"
      refine w_ixT hp3 rfl ?_
      walk_at "gw"
      refine w_ixT hp3 rfl ?_
      walk_at "gw"
      rw [if_pos (decide_eq_true (iN_eq.mpr h2))]
      walk_at "gw"
      refine sz_and (by show 4 ≤ 16000000; decide) fun p7 H7 n7 => ?_
      walk_at "gw"
      refine q _ _ ((e2.trans e3).trans n7.ex) ?_
      show T4R K (movedT away stay ns (a, c, b, told)) _ _
      rw [show movedT away stay ns (a, c, b, told) = (a, c, stay, joined (told) (behindN ns)) by simp [movedT, h1, h2]]
      exact ⟨p7, n3, rfl, sqT_of n7.at_, NsR.mono hn3 (Ex.tu n7.ex)⟩
    · rw [if_neg (fun z => h2 (iN_eq.mp (of_decide_eq_true z)))]
      walk_at "gw"
      refine w_ixT hp rfl ?_
      walk_at "gw"
      rw [if_neg (fun z => h1 (iN_eq.mp (of_decide_eq_true z)))]
      walk_at "gw"
      refine w_ixT hp rfl ?_
      walk_at "gw"
      refine w_ixT hp rfl ?_
      walk_at "gw"
      refine w_ixT hp rfl ?_
      walk_at "gw"
      rw [if_neg (fun z => h2 (iN_eq.mp (of_decide_eq_true z)))]
      walk_at "gw"
      refine w_ixT hp rfl ?_
      walk_at "gw"
      refine sz_and (by show 4 ≤ 16000000; decide) fun p7 H7 n7 => ?_
      walk_at "gw"
      refine q _ _ n7.ex ?_
      show T4R K (movedT away stay ns (a, c, b, told)) _ _
      rw [show movedT away stay ns (a, c, b, told) = (a, c, b, told) by simp [movedT, h1, h2]]
      exact ⟨p7, n, rfl, sqT_of n7.at_, NsR.mono hn (Ex.tu n7.ex)⟩
end
end Gw

/-! ### webs: glued -/
namespace Gw
open PySem PySem.Spec PyProof.Rows L2 RT
/-! ties as data -/
def encT4 (t : T4) : PyData := .tuple [.int (t.1 : Int), .str (sg t.2.1), .int (t.2.2.1 : Int), .tuple (t.2.2.2.map .int)]
def encT3 (t : T3) : PyData := .tuple [.int (t.1 : Int), .str (sg t.2.1), .int (t.2.2 : Int)]
theorem sg_eq {a b : Nat} : sg a = sg b ↔ a = b := by
  constructor
  · intro h
    injection h with h
    have := congrArg Array.toList h
    injection this
  · intro h
    rw [h]
theorem eqv_T4 (s t : T4) : PyData.eqv (encT4 s) (encT4 t) = decide (s = t) := by
  obtain ⟨a, c, b, n⟩ := s
  obtain ⟨a', c', b', n'⟩ := t
  have e : PyData.eqv (encT4 (a, c, b, n)) (encT4 (a', c', b', n')) = (PyData.eqv (.int (a : Int)) (.int (a' : Int)) && (PyData.eqv (.str (sg c)) (.str (sg c')) && (PyData.eqv (.int (b : Int)) (.int (b' : Int)) && (PyData.eqv (.tuple (n.map .int)) (.tuple (n'.map .int)) && true)))) := by
    simp only [encT4, PyData.eqv, PyData.eqvAll]
  rw [e, eqv_int, eqv_str, eqv_int, eqv_tup eqv_int, Bool.eq_iff_iff]
  simp only [Bool.and_eq_true, decide_eq_true_eq, Prod.mk.injEq, sg_eq, and_true]
  constructor
  · rintro ⟨h1, h2, h3, h4⟩
    exact ⟨by omega, h2, by omega, h4⟩
  · rintro ⟨h1, h2, h3, h4⟩
    exact ⟨by omega, h2, by omega, h4⟩
theorem eqv_T3 (s t : T3) : PyData.eqv (encT3 s) (encT3 t) = decide (s = t) := by
  obtain ⟨a, c, b⟩ := s
  obtain ⟨a', c', b'⟩ := t
  have e : PyData.eqv (encT3 (a, c, b)) (encT3 (a', c', b')) = (PyData.eqv (.int (a : Int)) (.int (a' : Int)) && (PyData.eqv (.str (sg c)) (.str (sg c')) && (PyData.eqv (.int (b : Int)) (.int (b' : Int)) && true))) := by
    simp only [encT3, PyData.eqv, PyData.eqvAll]
  rw [e, eqv_int, eqv_str, eqv_int, Bool.eq_iff_iff]
  simp only [Bool.and_eq_true, decide_eq_true_eq, Prod.mk.injEq, sg_eq, and_true]
  omega
theorem ok_sg {c : Nat} (h : c < 1114112) : PyData.strOk (sg c) = true := by
  unfold PyData.strOk
  simpa using h
theorem shd_T4 {t : T4} (h : t.2.1 < 1114112) : Shd 2 (encT4 t) := by
  refine Shd.tup (n := 1) fun d hd => ?_
  simp only [List.mem_cons, List.not_mem_nil, or_false] at hd
  rcases hd with rfl | rfl | rfl | rfl
  · exact Shd.int
  · exact Shd.str (ok_sg h)
  · exact Shd.int
  · refine Shd.tup (n := 0) fun d hd => ?_
    obtain ⟨i, _, rfl⟩ := List.mem_map.mp hd
    exact Shd.int
theorem shd_T3 {t : T3} (h : t.2.1 < 1114112) : Shd 1 (encT3 t) := by
  refine Shd.tup (n := 0) fun d hd => ?_
  simp only [List.mem_cons, List.not_mem_nil, or_false] at hd
  rcases hd with rfl | rfl | rfl
  · exact Shd.int
  · exact Shd.str (ok_sg h)
  · exact Shd.int
theorem dp_ints {K : PySem.W.Frag} {H : Hp} (ns : List Int) : DpAll K H (vInts ns) (ns.map .int) := dpAll_map fun a _ => .int a
theorem dp_T4 {K : PySem.W.Frag} {H : Hp} {t : T4} {v : V} (h : T4R K t v H) : Dp K H v (encT4 t) := by
  obtain ⟨p, n, rfl, hp, q, rfl, hq⟩ := h
  exact .tup hp (.cons (.int _) (.cons (.str _) (.cons (.int _) (.cons (.tup hq (dp_ints _)) .nil))))
theorem dp_T3 {K : PySem.W.Frag} {H : Hp} {t : T3} {v : V} (h : T3R K t v H) : Dp K H v (encT3 t) := by
  obtain ⟨p, rfl, hp⟩ := h
  exact .tup hp (.cons (.int _) (.cons (.str _) (.cons (.int _) .nil)))
theorem place_T4 {ts : List T4} {t : T4} (h : t ∈ ts) : SeqAt.dataPlace (ts.map encT4) (encT4 t) = some (ts.idxOf t) := by
  unfold SeqAt.dataPlace
  induction ts with
  | nil => cases h
  | cons s ts ih =>
    rw [List.map_cons, List.findIdx?_cons, eqv_T4, List.idxOf_cons]
    by_cases e : s = t
    · subst e
      simp
    · have e2 : (s == t) = false := by simpa using e
      rw [decide_eq_false e, e2, if_neg Bool.false_ne_true]
      rcases List.mem_cons.mp h with z | z
      · exact absurd z.symm e
      · rw [ih z]
        rfl
section
variable {P : Program} {w : World} {K : PySem.W.Frag} {mg : Str → Option Value} {base : Heap}
abbrev N_glued : List Str := ["ties", "pair", "one", "other", "end", "numbers", "left", "tie"]
theorem sc_glued : FnScope ["ties", "pair", "one", "other", "end", "numbers", "left", "tie"] ["ties"] (defScope s_glued) := ⟨rfl, rfl, rfl, by decide +kernel, rfl, by decide +kernel, by decide +kernel⟩
theorem b_glued : BindsT "glued" s_glued ["ties"] := fun _ _ _ _ _ _ us hl => match us, hl with | [_], _ => rfl
/-- small letters -/
def SmC (ts : List T4) : Prop := ∀ t ∈ ts, 97 ≤ t.2.1 ∧ t.2.1 ≤ 122
theorem SmC.step {ts : List T4} {o t : T4} {e : Nat} (h : SmC ts) : SmC (glueStep ts o t e) := fun x hx => by
  obtain ⟨y, hy, e2⟩ := glueStep_mem hx
  rw [e2]
  exact h y hy
def sp_glued (K : PySem.W.Frag) : Sp := fun vs H Q _ => ∃ p : V × List T4, vs = [p.1] ∧ LstR K (T4R K) p.2 p.1 H ∧ p.2.length ≤ 1000000 ∧ SmC p.2 ∧ Fine p.2.length p.2 ∧ Ret H Q fun v H' => LstR K (T4R K) (glue p.2) v H'
theorem LstR.mono {ts : List T4} {v : V} {H H' : Hp} (h : LstR K (T4R K) ts v H) (e : Ex H H') : LstR K (T4R K) ts v H' := by
  obtain ⟨l, vs, e1, h1, h2⟩ := h
  exact ⟨l, vs, e1, e.seq h1, paired_impH h2 fun t x r => r.mono (Ex.tu e)⟩
theorem ok_glued (T : Tx K mg) (G_pair_of : Ok P w K mg base 2 "pair_of" ["ties"] (sp_pair_of K)) (G_joined : Ok P w K mg base 1 "joined" ["one", "other"] (sp_joined K)) (G_behind : Ok P w K mg base 1 "behind" ["numbers"] (sp_behind K))
    (G_moved : Ok P w K mg base 2 "moved" ["tie", "away", "stay", "numbers"] (sp_moved K)) : Ok P w K mg base 3 "glued" ["ties"] (sp_glued K) := by
  refine Ok.of T.f_glued sc_glued b_glued (fun vs H Q E h => by obtain ⟨a, rfl, _⟩ := h; rfl) (fun cdv A outer s H vs Q E hr h => ?_)
  obtain ⟨⟨v1, ts⟩, rfl, hts, hlen, hsm, hfine, q⟩ := h
  have hts : LstR K (T4R K) ts v1 H := hts
  have hlen : ts.length ≤ 1000000 := hlen
  have hsm : SmC ts := hsm
  have hfine : Fine ts.length ts := hfine
  have q : Ret H Q fun v H' => LstR K (T4R K) (glue ts) v H' := q
  refine ⟨_, (pss_cons (ps_set (i := 1) sc_glued.nd rfl (.inl rfl) (pe_g G_pair_of (hr.mono (by decide)) (by rfl) (pa_cons (pv 0) pa_nil)))
      (pss_cons (ps_while PassesOwn.never (pt_cmp (pc_notN (pv 1))) (pss_cons (ps_asg (pv 1) (pg_tup rfl (pgs_cons (pg_name (i := 2) sc_glued.nd rfl (.inr rfl)) (pgs_cons (pg_name (i := 3) sc_glued.nd rfl (.inr rfl)) (pgs_cons (pg_name (i := 4) sc_glued.nd rfl (.inr rfl)) pgs_nil)))))
      (pss_cons (ps_set (i := 5) sc_glued.nd rfl (.inr rfl) (pe_g G_joined (hr.mono (by decide)) (by rfl) (pa_cons (pe_g G_behind (hr.mono (by decide)) (by rfl) (pa_cons (pe_ix (ix_tupK K) (pv 2) pe_int (fun _ _ => rfl)) pa_nil)) (pa_cons (pe_ix (ix_tupK K) (pv 3) pe_int (fun _ _ => rfl)) pa_nil))))
      (pss_cons (ps_if (pt_cmpR op_eq (pv 4) pe_int (nomark _)) (pss_one (ps_set (i := 5) sc_glued.nd rfl (.inr rfl) (pe_g G_joined (hr.mono (by decide)) (by rfl) (pa_cons (pe_ix (ix_tupK K) (pv 2) pe_int (fun _ _ => rfl)) (pa_cons (pe_g G_behind (hr.mono (by decide)) (by rfl) (pa_cons (pe_ix (ix_tupK K) (pv 3) pe_int (fun _ _ => rfl)) pa_nil)) pa_nil))))) pss_nil)
      (pss_cons (ps_set (i := 6) sc_glued.nd rfl (.inl rfl) (pe_callTy call_listN (by rfl) T.n_list (by decide +kernel) (pa_cons (pv 0) pa_nil)))
      (pss_cons (ps_expr (pe_bm PySem.F.plainAttrs_list PySem.F.slot_list_remove PySem.F.type_list_remove (mt_removeW (hu65 hr)) (pv 6) (pa_cons (pv 3) pa_nil)))
      (pss_cons (ps_if (pt_cmpR op_ne (pe_ix (ix_tupK K) (pv 2) (pv 4) (fun _ _ => rfl)) (pe_ix (ix_tupK K) (pv 3) (pv 4) (fun _ _ => rfl)) (nomark _)) (pss_one (ps_setLc (i := 6) (own := [("tie", 7)]) (g := gName 7) (tt := tYes) rfl sc_glued.nd rfl rfl (sw_true rfl rfl rfl (by decide +kernel)) (pi_list (pv 6)) (blkOk_by (N := N_glued) (sc := defScope s_glued) (by decide +kernel)) (fun _ _ _ _ _ => (pg_name (i := 7) sc_glued.nd rfl (.inl rfl))) (fun _ _ _ _ _ => pts_nil) (fun _ _ _ _ _ => (pe_g G_moved (hr.mono (by decide)) (by rfl) (pa_cons (pv 7) (pa_cons (pe_ix (ix_tupK K) (pv 3) (pv 4) (fun _ _ => rfl)) (pa_cons (pe_ix (ix_tupK K) (pv 2) (pv 4) (fun _ _ => rfl)) (pa_cons (pv 5) pa_nil)))))))) pss_nil)
      (pss_cons (ps_set (i := 0) sc_glued.nd rfl (.inl rfl) (pv 6))
      (pss_one (ps_set (i := 1) sc_glued.nd rfl (.inl rfl) (pe_g G_pair_of (hr.mono (by decide)) (by rfl) (pa_cons (pv 0) pa_nil))))))))))))
      (pss_one (ps_ret (pv 0))))), ?_⟩
  walk_at "gw"
  refine ⟨(v1, ts), rfl, hts, hlen, ?_⟩
  intro v0 H0 e0 h0
  walk_at "gw"
  obtain ⟨W, hW⟩ : ∃ W : Nat → L2.St → Hp → Prop, W = fun m σ' H' => ∃ us vl vp y2 y3 y4 y5 y6 y7, σ' = [some vl, some vp, y2, y3, y4, y5, y6, y7] ∧ Ex H H' ∧ LstR K (T4R K) us vl H' ∧ us.length = m ∧ us.length ≤ 1000000 ∧ SmC us ∧ Fine us.length us ∧ glue ts = glue us ∧ ((pairOf us = none ∧ vp = .non) ∨ ∃ r, pairOf us = some r ∧ PrR K r vp H') := ⟨_, rfl⟩
  refine ⟨W, ⟨ts.length, ?_⟩, ?_⟩
  · rw [hW]
    exact ⟨ts, v1, v0, _, _, _, _, _, _, rfl, e0, hts.mono e0, rfl, hlen, hsm, hfine, rfl, h0⟩
  intro m σ' H1 hw
  have hw2 := hw
  rw [hW] at hw2
  obtain ⟨us, vl, vp, y2, y3, y4, y5, y6, y7, rfl, ex, hus, rfl, hul, hsu, hfu, hg, hp⟩ := hw2
  walk_at "gw"
  rcases hp with ⟨hp, rfl⟩ | ⟨⟨o, t, e⟩, hp, q0, vo, vt, rfl, hq0, ho, ht⟩
  · rw [decide_eq_true rfl, Bool.not_true]
    walk_at "gw"
    refine q _ _ ex ?_
    rw [hg, glue_none hp]
    exact hus
  · rw [decide_eq_false (fun z => by cases z), Bool.not_false]
    have hok := pairOf_ok hp
    have he : e = 0 ∨ e = 2 := hok.end_
    have ho : T4R K o vo H1 := ho
    have ht : T4R K t vt H1 := ht
    have hti : t ∈ us := hok.t_in
    obtain ⟨hlo, hfo⟩ : StepFine us o t e ∧ Fine (us.length - 1) (glueStep us o t e) := by
      have hl := glueStep_len (o := o) (e := e) hti
      obtain ⟨n, hn⟩ : ∃ n, us.length = n + 1 := ⟨us.length - 1, by omega⟩
      rw [hn] at hfu
      rw [hn]
      exact hfu o t e hp
    rw [if_pos rfl]
    refine ⟨fun σ2 H2 => ∃ m', m' < us.length ∧ W m' σ2 H2, fun _ _ h => h, ?_⟩
    walk_at "gw"
    refine w_gtup3 hq0 ?_
    walk_at "gw"
    obtain ⟨po, no, rfl, hpo, hno⟩ := ho
    obtain ⟨pt, nt, rfl, hpt, hnt⟩ := ht
    have ho0 : T4R K o (.ref po) H1 := ⟨po, no, rfl, hpo, hno⟩
    have ht0 : T4R K t (.ref pt) H1 := ⟨pt, nt, rfl, hpt, hnt⟩
    obtain ⟨hl1, hl2⟩ := hlo
    refine w_ixT hpo rfl ?_
    walk_at "gw"
    refine ⟨(no, o.2.2.2), rfl, hno, by show o.2.2.2.length < _; omega, ?_⟩
    rintro nb H2 e2 hnb
    walk_at "gw"
    refine w_ixT (e2.sqT hpt) rfl ?_
    walk_at "gw"
    refine ⟨(nb, behindN o.2.2.2, nt, t.2.2.2), rfl, hnb, hnt.mono (Ex.tu e2), by show (behindN o.2.2.2).length + t.2.2.2.length ≤ _; rw [behindN_len]; omega, ?_⟩
    rintro nn H3 e3 hnn
    have e13 := e2.trans e3
    -- the numbers, whichever the end
    walk_at "gw"
    obtain ⟨ee, hee⟩ : ∃ ee, ee = e := ⟨_, rfl⟩
    rcases he with rfl | rfl
    rw [if_pos (by exact decide_eq_true rfl)]
    walk_at "gw"
    refine w_ixT (Ex.sqT e13 hpo) rfl ?_
    walk_at "gw"
    refine w_ixT (Ex.sqT e13 hpt) rfl ?_
    walk_at "gw"
    refine ⟨(nt, t.2.2.2), rfl, hnt.mono (Ex.tu e13), by show t.2.2.2.length < _; omega, ?_⟩
    rintro nb2 H4 e4 hnb2
    have e14 : Ex H1 H4 := e13.trans e4
    walk_at "gw"
    refine ⟨(no, o.2.2.2, nb2, behindN t.2.2.2), rfl, hno.mono (Ex.tu e14), hnb2, by show o.2.2.2.length + (behindN t.2.2.2).length ≤ _; rw [behindN_len]; omega, ?_⟩
    rintro nn5 H5 e5 hnn5
    have e15 : Ex H1 H5 := e14.trans e5
    have hnn5 : NsR K H5 nn5 (glueNs o t 0) := hnn5
    walk_at "gw"
    rotate_left
    rw [if_neg (fun z => by
      have z := of_decide_eq_true z
      injection z with z
      cases z)]
    walk_at "gw"
    obtain ⟨H5, rfl⟩ : ∃ H5, H5 = H3 := ⟨_, rfl⟩
    obtain ⟨nn5, rfl⟩ : ∃ n5, n5 = nn := ⟨_, rfl⟩
    have hnn5 : NsR K H5 nn5 (glueNs o t 2) := hnn
    have e15 : Ex H1 H5 := e13
    rotate_left
    all_goals
      -- the list without the one
      obtain ⟨ll, vs, rfl, hS, hvs⟩ := hus
      have hS5 : SqL K H5 ll vs := e15.seq hS
      refine ⟨ll, vs, rfl, .inl hS5, fun l6 H6 n6 => ?_⟩
      walk_at "gw"
      have e16 := e15.trans n6.ex
      have hvs6 : Paired (fun t x => T4R K t x H6) us vs := paired_impH hvs fun t x r => r.mono (Ex.tu e16)
      have ht6 : T4R K t (.ref pt) H6 := ht0.mono (Ex.tu e16)
      have sml : ∀ x ∈ us, x.2.1 < 1114112 := fun x hx => by have := hsu x hx; omega
      refine ⟨ty_lst n6.at_, ?_⟩
      walk_at "gw"
      refine ⟨l6, vs, .ref pt, encT4 t, us.map encT4, us.idxOf t, rfl, rfl, n6.at_, dpAll_of (fun b x r => dp_T4 r) hvs6, dp_T4 ht6, (Shd.list (n := 2) fun d hd => ?_).shaped, (shd_T4 (sml t hti)).shaped, place_T4 hti, fun H7 c7 => ?_⟩
      · obtain ⟨x, hx, rfl⟩ := List.mem_map.mp hd
        exact shd_T4 (sml x hx)
      have tu7 : Tu H6 H7 := But.tu c7.but n6.at_ trivial
      have ex7 : Ex H1 H7 := c7.ex e16 (e15.free n6.no)
      have hl7 : Paired (fun t x => T4R K t x H7) (us.erase t) (vs.eraseIdx (us.idxOf t)) := by
        rw [erase_idx]
        exact paired_eraseIdx (paired_impH hvs6 fun t x r => r.mono tu7) _
      have lenE : (us.erase t).length + 1 = us.length := by
        have h1 := List.length_erase_of_mem hti
        have h2 := List.length_pos_of_mem hti
        omega
      have hpo7 := Ex.sqT ex7 hpo
      have hpt7 := Ex.sqT ex7 hpt
      walk_at "gw"
      refine w_ixT hpo7 (at_end (by first | exact .inl rfl | exact .inr rfl)) ?_
      walk_at "gw"
      refine w_ixT hpt7 (at_end (by first | exact .inl rfl | exact .inr rfl)) ?_
      walk_at "gw"
      -- the next list
      have fin : ∀ (us2 : List T4) (vl : V) (H8 : Hp), us2 = glueStep us o t ee → Ex H H8 → LstR K (T4R K) us2 vl H8 → ∀ (v9 : V) (H9 : Hp), Ex H8 H9 → ((pairOf us2 = none ∧ v9 = .non) ∨ ∃ r, pairOf us2 = some r ∧ PrR K r v9 H9) → ∀ z2 z3 z4 z5 z6 z7, ∃ m', m' < us.length ∧ W m' [some vl, some v9, z2, z3, z4, z5, z6, z7] H9 := by
        intro us2 vl H8 e2 ex8 h8 v9 H9 e9 hp9 z2 z3 z4 z5 z6 z7
        have hl2 : us2.length + 1 = us.length := by rw [e2]; exact glueStep_len hti
        refine ⟨us2.length, by omega, ?_⟩
        rw [hW]
        refine ⟨us2, vl, v9, _, _, _, _, _, _, rfl, ex8.trans e9, h8.mono e9, rfl, by omega, by rw [e2]; exact hsu.step, ?_, ?_, hp9⟩
        · rw [show us2.length = us.length - 1 by omega, e2, hee]
          exact hfo
        · rw [hg, e2, hee]
          exact glue_some hp
      by_cases hne : endAt o ee = endAt t ee
      · have hst : us.erase t = glueStep us o t ee := by
          unfold glueStep
          rw [if_neg (fun z => z hne)]
        rw [hee] at hne
        rw [if_neg (by simp [hne])]
        walk_at "gw"
        refine ⟨(.ref l6, us.erase t), rfl, ⟨l6, _, rfl, sqL_of c7.at_, hl7⟩, by show (us.erase t).length ≤ _; omega, ?_⟩
        rintro v9 H9 e9 h9
        walk_at "gw"
        exact fin (us.erase t) (.ref l6) H7 hst (ex.trans ex7) ⟨l6, _, rfl, sqL_of c7.at_, hl7⟩ v9 H9 e9 h9 _ _ _ _ _ _
      · have hst : (us.erase t).map (movedT (endAt t ee) (endAt o ee) (glueNs o t ee)) = glueStep us o t ee := by
          unfold glueStep
          rw [if_pos hne]
        rw [hee] at hne
        rw [if_pos (by rw [Bool.not_eq_true', decide_eq_false_iff_not]; exact fun z => hne (iN_eq.mp z))]
        have hl2 := hl2 hne
        have hnn7 : NsR K H7 nn5 _ := hnn5.mono ((Ex.tu n6.ex).trans tu7)
        have hgl := glueNs_len o t ee
        rw [hee] at hgl
        walk_at "gw"
        refine ⟨l6, rfl, ⟨_, sqL_of c7.at_⟩, ?_⟩
        refine lcN (bs := us.erase t) (seqs_listP (R := T4R K)) (fun x y H' => T4R K (movedT (endAt t ee) (endAt o ee) (glueNs o t ee) x) y H') (fun _ _ _ _ u r => r.mono u) (fun H' e' => ⟨_, sqL_of (e' _ _ c7.at_), paired_impH hl7 fun t x r => r.mono (Ex.tu e')⟩) (by omega) (fun _ => rfl) ?_ (fun _ _ _ _ e' r => r.mono (Ex.tu e')) ?_
        · rintro x vx H' hx e' rx Q' q'
          walk_at "gw"
          refine w_ixT (Ex.sqT e' hpt7) (at_end (by first | exact .inl rfl | exact .inr rfl)) ?_
          walk_at "gw"
          refine w_ixT (Ex.sqT e' hpo7) (at_end (by first | exact .inl rfl | exact .inr rfl)) ?_
          walk_at "gw"
          rw [hee] at q'
          refine ⟨(vx, x, _, _, nn5, _), rfl, rx, hnn7.mono (Ex.tu e'), Nat.lt_of_le_of_lt hgl hl1, fun z => hl2 x (List.mem_of_mem_erase hx) z, ?_⟩
          rintro v8 H8 e8 h8
          exact q' _ _ e8 h8
        · intro l8 H8 ys n8 e8 hy py
          walk_at "gw"
          have hmap : LstR K (T4R K) ((us.erase t).map (movedT (endAt t ee) (endAt o ee) (glueNs o t ee))) (.ref l8) H8 := ⟨l8, ys, rfl, sqL_of hy, paired_map py⟩
          refine ⟨(.ref l8, _), rfl, hmap, by rw [List.length_map]; omega, ?_⟩
          rintro v9 H9 e9 h9
          walk_at "gw"
          exact fin _ (.ref l8) H8 hst ((ex.trans ex7).trans e8) hmap v9 H9 e9 h9 _ _ _ _ _ _
end
end Gw

/-! ### webs: steps, rooms as they are found -/
namespace Gw
open PySem PySem.Spec PyProof.Rows L2 RT
section
variable {P : Program} {w : World} {K : PySem.W.Frag} {mg : Str → Option Value} {base : Heap}
def natR (n : Nat) (v : V) (_ : Hp) : Prop := v = iN n
theorem natR_mono : ∀ (b : Nat) v (H1 H2 : Hp), Tu H1 H2 → natR b v H1 → natR b v H2 := fun _ _ _ _ _ h => h
def SmC3 (ts : List T3) : Prop := ∀ t ∈ ts, 97 ≤ t.2.1 ∧ t.2.1 ≤ 122
theorem isL_small {c : Nat} (h : 97 ≤ c ∧ c ≤ 122) : isL c = true := isL_iff.mpr (.inl h)
abbrev N_steps_of : List Str := ["ties", "steps", "tie"]
theorem sc_steps_of : FnScope ["ties", "steps", "tie"] ["ties"] (defScope s_steps_of) := ⟨rfl, rfl, rfl, by decide +kernel, rfl, by decide +kernel, by decide +kernel⟩
theorem b_steps_of : BindsT "steps_of" s_steps_of ["ties"] := fun _ _ _ _ _ _ us hl => match us, hl with | [_], _ => rfl
def sp_steps_of (K : PySem.W.Frag) : Sp := fun vs H Q _ => ∃ p : V × List T3, vs = [p.1] ∧ LstR K (TbR K) p.2 p.1 H ∧ p.2.length ≤ 1000000 ∧ SmC3 p.2 ∧ Ret H Q fun v H' => ∃ d, v = .ref d ∧ H d = none ∧ DctR natR (stepsOf p.2) d H'
theorem ok_steps_of (T : Tx K mg) (G_back_of : Ok P w K mg base 1 "back_of" ["letter"] sp_back_of) : Ok P w K mg base 2 "steps_of" ["ties"] (sp_steps_of K) := by
  refine Ok.of T.f_steps_of sc_steps_of b_steps_of (fun vs H Q E h => by obtain ⟨a, rfl, _⟩ := h; rfl) (fun cdv A outer s H vs Q E hr h => ?_)
  obtain ⟨⟨v1, ts⟩, rfl, ⟨l, vs, rfl, hS, hvs⟩, hlen, hsm, q⟩ := h
  have hvs : Paired (fun t x => TbR K t x H) ts vs := hvs
  have hlen : ts.length ≤ 1000000 := hlen
  have hsm : SmC3 ts := hsm
  refine ⟨_, (pss_cons (ps_set (i := 1) sc_steps_of.nd rfl (.inl rfl) pe_dnewTN)
      (pss_cons (ps_for PassesOwn.never rfl (pi_list (pv 0)) (pg_name (i := 2) sc_steps_of.nd rfl (.inl rfl)) (pss_cons (ps_dput (hu_of hr) (pv 1) (pe_tupN (pa_cons (pe_ix (ix_tupK K) (pv 2) pe_int (fun _ _ => rfl)) (pa_cons (pe_ix (ix_tupK K) (pv 2) pe_int (fun _ _ => rfl)) pa_nil))) (pe_ix (ix_tupK K) (pv 2) pe_int (fun _ _ => rfl)) rfl)
      (pss_one (ps_dput (hu_of hr) (pv 1) (pe_tupN (pa_cons (pe_ix (ix_tupK K) (pv 2) pe_int (fun _ _ => rfl)) (pa_cons (pe_g G_back_of (hr.mono (by decide)) (by rfl) (pa_cons (pe_ix (ix_tupK K) (pv 2) pe_int (fun _ _ => rfl)) pa_nil)) pa_nil))) (pe_ix (ix_tupK K) (pv 2) pe_int (fun _ _ => rfl)) rfl))))
      (pss_one (ps_ret (pv 1))))), ?_⟩
  walk_at "gw"
  intro d H1 n1
  walk_at "gw"
  refine ⟨l, rfl, ⟨_, n1.ex.seq hS⟩, ?_⟩
  refine forS (bs := ts) (seqs_listP (R := TbR K)) (fun pre σ' H' => ∃ y, σ' = [some (.ref l), some (.ref d), y] ∧ Ex H H' ∧ DctR natR (pre.foldl stepPut []) d H')
    ⟨_, rfl, n1.ex, [], n1.at_, .nil⟩ (fun pre σ' H' ⟨_, _, ex, _⟩ => ⟨vs, ex.seq hS, paired_impH hvs fun t x r => r.mono (Ex.tu ex)⟩) ?_ ?_
  · rintro pre t post x σ' H2 H3 e ⟨y, rfl, ex, hd⟩ e3 ⟨p, xs, rfl, hp⟩
    have hc : isL t.2.1 = true := isL_small (hsm t (by rw [e]; simp))
    have hk := steps_len pre []
    rw [List.length_nil] at hk
    have hk2 : pre.length < 1000000 := by
      have h2 := congrArg List.length e
      rw [List.length_append, List.length_cons] at h2
      omega
    rw [List.foldl_append]
    walk_at "gw"
    refine w_ixT hp (atI_nat (j := 2) rfl) ?_
    walk_at "gw"
    refine w_ixT hp (atI_nat (j := 0) rfl) ?_
    walk_at "gw"
    refine w_ixT hp (atI_nat (j := 1) rfl) ?_
    walk_at "gw"
    refine sz_and (by show 2 ≤ 16000000; decide) fun p4 H4 n4 => ?_
    have hd4 := hd.ex natR_mono (e3.trans n4.ex)
    obtain ⟨H5, d5, b5, t5, hd5⟩ := hd4.put natR_mono (k := (t.1, t.2.1)) (x := t.2.2) (v := iN t.2.2) n4.at_ rfl (by omega)
    refine ⟨d, H5, rfl, d5, ?_⟩
    have hp5 := t5.sq (Ex.sqT n4.ex hp)
    walk_at "gw"
    refine w_ixT hp5 (atI_nat (j := 0) rfl) ?_
    walk_at "gw"
    refine w_ixT hp5 (atI_nat (j := 2) rfl) ?_
    walk_at "gw"
    refine w_ixT hp5 (atI_nat (j := 1) rfl) ?_
    walk_at "gw"
    refine c_back_of (L2.Same.refl _) hc fun H6 e6 => ?_
    walk_at "gw"
    refine sz_and (by show 2 ≤ 16000000; decide) fun p7 H7 n7 => ?_
    have hd7 := hd5.ex natR_mono (e6.trans n7.ex)
    have hl5 := aput_len (pre.foldl stepPut []) (t.1, t.2.1) t.2.2
    obtain ⟨H8, d8, b8, t8, hd8⟩ := hd7.put natR_mono (k := (t.2.2, bk t.2.1)) (x := t.1) (v := iN t.1) n7.at_ rfl (by omega)
    refine ⟨d, H8, rfl, d8, ?_⟩
    walk_at "gw"
    exact ⟨_, rfl, Ex.but ((Ex.but ((ex.trans e3).trans n4.ex) b5 n1.no).trans (e6.trans n7.ex)) b8 n1.no, hd8⟩
  · rintro σ' H2 ⟨y, rfl, ex, hd⟩
    walk_at "gw"
    exact q _ _ ex ⟨d, rfl, n1.no, hd⟩
/-! rooms found -/
abbrev encF (f : Found) : List (Key × V) := f.map fun p => (.inl (p.1 : Int), .str (tx p.2))
theorem encF_get (f : Found) (g : Nat) : valV (encF f) (.inl (g : Int)) = (aget f g).map fun u => V.str (tx u) := by
  induction f with
  | nil => rfl
  | cons p f ih =>
    unfold aget
    by_cases e : p.1 = g
    · rw [if_pos e]
      exact valV_pos (show (Sum.inl (p.1 : Int) : Key) = .inl (g : Int) by rw [e])
    · rw [if_neg e, ← ih]
      exact valV_neg (fun z => e (by
        have z : (Sum.inl (p.1 : Int) : Key) = .inl (g : Int) := z
        injection z with z
        omega))
theorem encF_new {f : Found} {g : Nat} {u : List Nat} (h : ¬ ahas f g = true) : putK (encF f) (.inl (g : Int)) (.str (tx u)) = encF (f ++ [(g, u)]) := by
  rw [putK_new _ (by
    rw [encF_get]
    rw [ahas_get] at h
    cases q : aget f g with
    | none => rfl
    | some x =>
      rw [q] at h
      exact absurd rfl h)]
  simp [encF]
theorem aget_at {f : Found} (nd : (f.map (·.1)).Nodup) {i : Nat} {p : Nat × List Nat} (h : f[i]? = some p) : aget f p.1 = some p.2 := by
  induction f generalizing i with
  | nil => simp at h
  | cons x f ih =>
    rw [List.map_cons] at nd
    obtain ⟨n1, n2⟩ := List.nodup_cons.mp nd
    unfold aget
    cases i with
    | zero =>
      rw [List.getElem?_cons_zero] at h
      cases h
      rw [if_pos rfl]
    | succ i =>
      rw [List.getElem?_cons_succ] at h
      rw [if_neg (fun e => n1 (by
        rw [e]
        exact List.mem_map.mpr ⟨p, List.mem_of_getElem? h, rfl⟩))]
      exact ih n2 h
abbrev N_found_rooms : List Str := ["ties", "steps", "letters", "found", "waiting", "at", "room", "small", "letter", "goal", "tie"]
theorem sc_found_rooms : FnScope ["ties", "steps", "letters", "found", "waiting", "at", "room", "small", "letter", "goal", "tie"] ["ties"] (defScope s_found_rooms) := ⟨rfl, rfl, rfl, by decide +kernel, rfl, by decide +kernel, by decide +kernel⟩
theorem b_found_rooms : BindsT "found_rooms" s_found_rooms ["ties"] := fun _ _ _ _ _ _ us hl => match us, hl with | [_], _ => rfl
def sp_found_rooms (K : PySem.W.Frag) : Sp := fun vs H Q _ => ∃ p : V × List T3, vs = [p.1] ∧ LstR K (TbR K) p.2 p.1 H ∧ p.2.length ≤ 3000 ∧ SmC3 p.2 ∧ Ret H Q fun v H' => ∃ d, v = .ref d ∧ H d = none ∧ H' d = some (.dK (encF (foundRooms p.2)))
theorem letters_are {ts : List T3} (hsm : SmC3 ts) {zs : List Str} (nd : zs.Nodup) (hm : ∀ z, z ∈ zs ↔ z ∈ ts.map fun t => sg t.2.1) (pw : zs.Pairwise fun x y => x.cps.toList ≤ y.cps.toList) : zs = (lettersOf ts).map sg := by
  obtain ⟨cs, hcs⟩ : ∃ cs : List Nat, zs = cs.map sg := by
    have : ∀ l : List Str, (∀ z ∈ l, ∃ c, z = sg c) → ∃ cs : List Nat, l = cs.map sg := by
      intro l
      induction l with
      | nil => exact fun _ => ⟨[], rfl⟩
      | cons z l ih =>
        intro h
        obtain ⟨c, rfl⟩ := h z List.mem_cons_self
        obtain ⟨cs, rfl⟩ := ih fun y hy => h y (List.mem_cons_of_mem _ hy)
        exact ⟨c :: cs, rfl⟩
    refine this zs fun z hz => ?_
    obtain ⟨t, _, rfl⟩ := List.mem_map.mp ((hm z).mp hz)
    exact ⟨_, rfl⟩
  subst hcs
  congr 1
  refine rise_ext ?_ (lettersOf_rise ts) fun c => ?_
  · have h1 : cs.Pairwise (fun x y => x ≤ y) := by
      rw [List.pairwise_map] at pw
      refine pw.imp fun {a b} h => ?_
      have h : ([a] : List Nat) ≤ [b] := h
      have h2 : ¬ ([b] : List Nat) < [a] := List.not_lt.mpr h
      by_cases hab : a ≤ b
      · exact hab
      · exact absurd (List.cons_lt_cons_iff.mpr (.inl (by omega))) h2
    have h2 : cs.Nodup := by
      rw [List.Nodup, List.pairwise_map] at nd
      exact nd.imp fun {a b} h e => h (by rw [e])
    exact (List.pairwise_and_iff.mpr ⟨h1, h2⟩).imp fun {a b} ⟨h3, h4⟩ => by omega
  · rw [lettersOf_mem hsm]
    have := hm (sg c)
    constructor
    · intro h
      obtain ⟨t, ht, e⟩ := List.mem_map.mp (this.mp (List.mem_map.mpr ⟨c, h, rfl⟩))
      exact List.mem_map.mpr ⟨t, ht, sg_eq.mp e⟩
    · intro h
      obtain ⟨t, ht, e⟩ := List.mem_map.mp h
      obtain ⟨c', h', e'⟩ := List.mem_map.mp (this.mpr (List.mem_map.mpr ⟨t, ht, by rw [← e]⟩))
      rw [← sg_eq.mp e']
      exact h'
theorem ok_found_rooms (T : Tx K mg) (G_back_of : Ok P w K mg base 1 "back_of" ["letter"] sp_back_of) (G_steps_of : Ok P w K mg base 2 "steps_of" ["ties"] (sp_steps_of K)) : Ok P w K mg base 3 "found_rooms" ["ties"] (sp_found_rooms K) := by
  refine Ok.of T.f_found_rooms sc_found_rooms b_found_rooms (fun vs H Q E h => by obtain ⟨a, rfl, _⟩ := h; rfl) (fun cdv A outer s H vs Q E hr h => ?_)
  obtain ⟨⟨v1, ts⟩, rfl, ⟨l, vs, rfl, hS, hvs⟩, hlen, hsm, q⟩ := h
  have hvs : Paired (fun t x => TbR K t x H) ts vs := hvs
  have hlen : ts.length ≤ 3000 := hlen
  have hsm : SmC3 ts := hsm
  refine ⟨_, (pss_cons (ps_set (i := 1) sc_found_rooms.nd rfl (.inl rfl) (pe_g G_steps_of (hr.mono (by decide)) (by rfl) (pa_cons (pv 0) pa_nil)))
      (pss_cons (ps_set (i := 2) sc_found_rooms.nd rfl (.inl rfl) (pe_sortedSet rfl hr.units (by rfl) T.n_sorted (by rfl) T.n_set (pe_lc (own := [("tie", 10)]) (g := gName 10) (tt := tYes) rfl sc_found_rooms.nd (pi_list (pv 0)) (blkOk_by (N := N_found_rooms) (sc := defScope s_found_rooms) (by decide +kernel)) (fun _ _ _ _ _ => (pg_name (i := 10) sc_found_rooms.nd rfl (.inl rfl))) (fun _ _ _ _ _ => pts_nil) (fun _ _ _ _ _ => (pe_ix (ix_tupK K) (pv 10) pe_int (fun _ _ => rfl))))))
      (pss_cons (ps_set (i := 3) sc_found_rooms.nd rfl (.inl rfl) (pe_disp (pps_cons pe_int pe_str pps_nil) (by rfl) (by rfl) (fun z => by cases z) (by decide)))
      (pss_cons (ps_set (i := 4) sc_found_rooms.nd rfl (.inl rfl) (pe_lstN (pa_cons pe_int pa_nil)))
      (pss_cons (ps_set (i := 5) sc_found_rooms.nd rfl (.inl rfl) pe_int)
      (pss_cons (ps_while PassesOwn.never (pt_cmpR op_lt (pv 5) (pe_callB (call_len_seqK K) (by rfl) T.n_len (by decide +kernel) (pa_cons (pv 4) pa_nil)) (nomark _)) (pss_cons (ps_set (i := 6) sc_found_rooms.nd rfl (.inl rfl) (pe_ix (ix_listK K) (pv 4) (pv 5) (fun _ _ => rfl)))
      (pss_cons (ps_set (i := 5) sc_found_rooms.nd rfl (.inl rfl) (pe_op op_add (pv 5) pe_int))
      (pss_one (ps_for PassesOwn.never rfl (pi_list (pv 2)) (pg_name (i := 7) sc_found_rooms.nd rfl (.inl rfl)) (pss_one (ps_for PassesOwn.never rfl (pi_tup (pe_tupN (pa_cons (pv 7) (pa_cons (pe_g G_back_of (hr.mono (by decide)) (by rfl) (pa_cons (pv 7) pa_nil)) pa_nil)))) (pg_name (i := 8) sc_found_rooms.nd rfl (.inl rfl)) (pss_cons (ps_set (i := 9) sc_found_rooms.nd rfl (.inl rfl) (pe_dget2 (hu_of hr) (pv 1) (pe_tupN (pa_cons (pv 6) (pa_cons (pv 8) pa_nil))) pe_int ⟨rfl, rfl, rfl, rfl⟩))
      (pss_one (ps_if (pt_cmp (pc_dnotin (hu_of hr) (pv 9) (pv 3))) (pss_cons (ps_dput (hu_of hr) (pv 3) (pv 9) (pe_op op_add_str (pe_dget (hu_of hr) (pv 3) (pv 6) (fun _ _ => rfl)) (pv 8)) rfl)
      (pss_one (ps_expr (pe_bm PySem.F.plainAttrs_list PySem.F.slot_list_append PySem.F.type_list_append mt_appN (pv 4) (pa_cons (pv 9) pa_nil))))) pss_nil))))))))))
      (pss_one (ps_ret (pv 3))))))))), ?_⟩
  walk_at "gw"
  refine ⟨(.ref l, ts), rfl, ⟨l, vs, rfl, hS, hvs⟩, by show ts.length ≤ _; omega, hsm, ?_⟩
  rintro _ H1 e1 ⟨dS, rfl, nS, hdS⟩
  have hdS : DctR natR (stepsOf ts) dS H1 := hdS
  walk_at "gw"
  -- the letters
  refine ⟨l, rfl, ⟨_, e1.seq hS⟩, ?_⟩
  refine lcN (bs := ts) (seqs_listP (R := TbR K)) (fun t y _ => y = .str (sg t.2.1)) (fun _ _ _ _ _ h => h) (fun H' e => ⟨vs, (e1.trans e).seq hS, paired_impH hvs fun t x r => r.mono (Ex.tu (e1.trans e))⟩) (by omega) (fun _ => rfl) ?_ (fun _ _ _ _ e r => r.mono (Ex.tu e)) ?_
  · rintro t x H' ht e ⟨p, xs, rfl, hp⟩ Q' q'
    walk_at "gw"
    refine w_ixT hp (atI_nat (j := 1) rfl) ?_
    exact q' _ _ (L2.Same.refl _) rfl
  intro l2 H2 ys n2 e2 hy py
  have ey := paired_eq py
  refine ⟨l2, ts.map fun t => sg t.2.1, rfl, sqL_of ?_, by rw [List.length_map]; omega, ?_⟩
  · rw [hy, ey, List.map_map]
    rfl
  intro lL zs H3 nd hm pw n3
  have ez := letters_are hsm nd hm pw
  subst ez
  walk_at "gw"
  refine w_dispC (k := .inl 0) rfl fun dF H4 n4 => ?_
  walk_at "gw"
  refine sz_and (by show 1 ≤ 16000000; decide) fun lW H5 n5 => ?_
  walk_at "gw"
  have e03 : Ex H H3 := (e1.trans e2).trans n3.ex
  have e35 : Ex H3 H5 := n4.ex.trans n5.ex
  have hdS3 : DctR natR (stepsOf ts) dS H3 := hdS.ex natR_mono (e2.trans n3.ex)
  have hlL3 : SqL K H3 lL ((lettersOf ts).map fun c => V.str (sg c)) := by
    have := n3.at_
    rw [List.map_map] at this
    exact sqL_of this
  have nF3 : H3 dF = none := n4.no
  have nW3 : H3 lW = none := n4.ex.free n5.no
  have neFW : dF ≠ lW := fun z => by
    have := n5.no
    rw [← z, n4.at_] at this
    cases this
  obtain ⟨W, hW⟩ : ∃ W : Nat → L2.St → Hp → Prop, W = fun n σ' H' => ∃ i f y6 y7 y8 y9 y10, σ' = [some (.ref l), some (.ref dS), some (.ref lL), some (.ref dF), some (.ref lW), some (iN i), y6, y7, y8, y9, y10] ∧ Ex H3 H' ∧ H' dF = some (.dK (encF f)) ∧ H' lW = some (.lst (f.map fun p => iN p.1)) ∧ FOk (goalsOf ts) f ∧ i ≤ f.length ∧ n + i = 2 * ts.length + 2 ∧ foundRooms ts = bfs (stepF ts) (lettersOf ts) n i f := ⟨_, rfl⟩
  refine ⟨W, ⟨2 * ts.length + 2, ?_⟩, ?_⟩
  · rw [hW]
    exact ⟨0, [(0, [])], _, _, _, _, _, rfl, e35, n5.ex _ _ n4.at_, n5.at_, FOk.init (by exact List.mem_cons_self), by simp, rfl, rfl⟩
  intro n σ' H6 hw
  rw [hW] at hw
  obtain ⟨i, f, y6, y7, y8, y9, y10, rfl, e6, hF, hWt, fok, hi, hn, hbfs⟩ := hw
  have flen := fok.len
  have glen := goalsOf_len ts
  walk_at "gw"
  refine ex_lenL (sqL_of hWt) ?_
  walk_at "gw"
  by_cases hlt : i < f.length
  · rw [if_pos (by simp only [List.length_map]; exact decide_eq_true (by omega))]
    obtain ⟨n, rfl⟩ : ∃ m, n = m + 1 := ⟨n - 1, by omega⟩
    have hp := List.getElem?_eq_getElem hlt
    generalize f[i] = p at hp
    obtain ⟨r, way⟩ := p
    have hway := fok.way i _ hp
    have hway : way.length ≤ i := hway
    refine ⟨fun σ2 H2 => ∃ m', m' < n + 1 ∧ W m' σ2 H2, fun _ _ h => h, ?_⟩
    walk_at "gw"
    refine w_ixL (sqL_of hWt) (v := iN r) (atI_nat (by rw [List.getElem?_map, hp]; rfl)) ?_
    walk_at "gw"
    refine ⟨lL, rfl, ⟨_, e6.seq hlL3⟩, ?_⟩
    have stD : ∀ c g, stepF ts r c = some g → g ∈ goalsOf ts := fun c g h => stepF_goal h
    refine forS (bs := lettersOf ts) (Seqs.of_map (f := fun c => V.str (sg c)) seqs_list) (fun pre σ' H' => ∃ y7 y8 y9 y10, σ' = [some (.ref l), some (.ref dS), some (.ref lL), some (.ref dF), some (.ref lW), some (iN (i + 1)), some (iN r), y7, y8, y9, y10] ∧ Ex H3 H' ∧ H' dF = some (.dK (encF (pre.foldl (tryBoth (stepF ts) r way) f))) ∧ H' lW = some (.lst ((pre.foldl (tryBoth (stepF ts) r way) f).map fun p => iN p.1)))
      ⟨_, _, _, _, rfl, e6, hF, hWt⟩ (fun _ _ H' ⟨_, _, _, _, _, ex, _⟩ => ex.seq hlL3) ?_ ?_
    · rintro pre c post x σ2 H7 H8 e ⟨y7, y8, y9, y10, rfl, e7, hF7, hW7⟩ e8 rfl
      have hcm : c ∈ lettersOf ts := by rw [e]; simp
      have hcL : isL c = true := by
        rw [lettersOf_mem hsm] at hcm
        obtain ⟨t, ht, rfl⟩ := List.mem_map.mp hcm
        exact isL_small (hsm t ht)
      rw [List.foldl_append]
      have fok1 := FOk.foldBoth (i := i) stD hway pre f fok hlt
      have pre1 := foldBoth_pre (st := stepF ts) (r := r) (way := way) pre f
      generalize pre.foldl (tryBoth (stepF ts) r way) f = f1 at fok1 pre1 hF7 hW7 ⊢
      obtain ⟨x1, hx1⟩ := pre1
      have hp1 : f1[i]? = some (r, way) := by
        rw [hx1, List.getElem?_append_left hlt]
        exact hp
      have hlt1 : i < f1.length := (List.getElem?_eq_some_iff.mp hp1).1
      have hF8 := e8 _ _ hF7
      have hW8 := e8 _ _ hW7
      walk_at "gw"
      refine c_back_of (L2.Same.refl _) hcL fun H9 e9 => ?_
      walk_at "gw"
      refine sz_and (by show 2 ≤ 16000000; decide) fun pT H10 n10 => ?_
      refine ⟨pT, rfl, ⟨_, sqT_of n10.at_⟩, ?_⟩
      have e810 : Ex H8 H10 := e9.trans n10.ex
      refine forS (bs := [c, bk c]) (Seqs.of_map (f := fun c => V.str (sg c)) seqs_tup) (fun pr σ' H' => ∃ y8 y9 y10, σ' = [some (.ref l), some (.ref dS), some (.ref lL), some (.ref dF), some (.ref lW), some (iN (i + 1)), some (iN r), some (.str (sg c)), y8, y9, y10] ∧ Ex H3 H' ∧ Tu H10 H' ∧ H' dF = some (.dK (encF (pr.foldl (tryL (stepF ts) r way) f1))) ∧ H' lW = some (.lst ((pr.foldl (tryL (stepF ts) r way) f1).map fun p => iN p.1)) ∧ FOk (goalsOf ts) (pr.foldl (tryL (stepF ts) r way) f1) ∧ (pr.foldl (tryL (stepF ts) r way) f1)[i]? = some (r, way))
        ⟨_, _, _, rfl, (e7.trans e8).trans e810, Tu.refl _, e810 _ _ hF8, e810 _ _ hW8, fok1, hp1⟩ (fun _ _ H' ⟨_, _, _, _, _, tu, _⟩ => tu.sq (sqT_of n10.at_)) ?_ ?_
      · rintro pr d po x σ3 H11 H12 ed ⟨z8, z9, z10, rfl, e11, tu11, hF11, hW11, fok11, hp11⟩ e12 rfl
        rw [List.foldl_append]
        generalize pr.foldl (tryL (stepF ts) r way) f1 = f2 at hF11 hW11 fok11 hp11 ⊢
        have hlt2 : i < f2.length := (List.getElem?_eq_some_iff.mp hp11).1
        have f2len := fok11.len
        have hd12 : DctR natR (stepsOf ts) dS H12 := hdS3.ex natR_mono (e11.trans e12)
        have hF12 := e12 _ _ hF11
        have hW12 := e12 _ _ hW11
        walk_at "gw"
        refine ⟨dS, rfl, .inr (let ⟨ws, h, _⟩ := hd12; ⟨ws, .inl h⟩), ?_⟩
        walk_at "gw"
        refine sz_and (by show 2 ≤ 16000000; decide) fun pK H13 n13 => ?_
        walk_at "gw"
        have hd13 := hd12.ex natR_mono n13.ex
        have hF13 := n13.ex _ _ hF12
        have hW13 := n13.ex _ _ hW12
        have e313 : Ex H3 H13 := (e11.trans e12).trans n13.ex
        have tu13 : Tu H10 H13 := (tu11.trans (Ex.tu e12)).trans (Ex.tu n13.ex)
        obtain ⟨g, hg⟩ : ∃ g, g = (stepF ts r d).getD 0 := ⟨_, rfl⟩
        obtain ⟨o, ho1, ho2⟩ : ∃ o : Option V, DGet H13 dS (.ref pK) o ∧ o.getD (.int 0) = iN g := by
          rcases hd13.get (k := (r, d)) n13.at_ with ⟨g1, g2⟩ | ⟨b, v, g1, g2, g3⟩
          · refine ⟨none, g2, ?_⟩
            have : stepF ts r d = none := g1
            rw [hg, this]
            rfl
          · refine ⟨some v, g2, ?_⟩
            have : stepF ts r d = some b := g1
            rw [hg, this]
            exact g3
        refine ⟨o, ho1, ?_⟩
        rw [ho2]
        walk_at "gw"
        have get13 := DGet.k (k := .inl (g : Int)) hF13
        refine ⟨dF, _, rfl, get13, ?_⟩
        walk_at "gw"
        have hhas : (valV (encF f2) (.inl (g : Int))).isSome = ahas f2 g := by
          rw [encF_get, Option.isSome_map, ahas_get]
        rw [hhas]
        have ht : [d].foldl (tryL (stepF ts) r way) f2 = if ahas f2 g = true then f2 else f2 ++ [(g, way ++ [d])] := by
          rw [hg]
          rfl
        rw [ht]
        cases hb : ahas f2 g with
        | true =>
          rw [Bool.not_true, if_pos rfl]
          walk_at "gw"
          exact ⟨_, _, _, rfl, e313, tu13, hF13, hW13, fok11, hp11⟩
        | false =>
          rw [Bool.not_false, if_neg Bool.false_ne_true]
          have hnb : ¬ ahas f2 g = true := by rw [hb]; exact Bool.false_ne_true
          walk_at "gw"
          have hway2 : aget f2 r = some way := aget_at fok11.nd hp11
          have get14 := DGet.k (k := .inl (r : Int)) hF13
          rw [encF_get, hway2] at get14
          refine ⟨dF, _, rfl, get14, ?_⟩
          walk_at "gw"
          refine ⟨line_le (by show way.length + 1 ≤ _; omega), ?_⟩
          rw [show tx way ++ sg d = tx (way ++ [d]) from tx_app way [d]]
          walk_at "gw"
          refine ⟨dF, _, rfl, DPut.k (k := .inl (g : Int)) hF13 (line_lt (by simp only [List.length_map]; omega)), ?_⟩
          rw [encF_new hnb]
          generalize hH14 : upd H13 dF (.dK (encF (f2 ++ [(g, way ++ [d])]))) = H14
          have c14 : Chg H13 dF (.dK (encF (f2 ++ [(g, way ++ [d])]))) H14 := by rw [← hH14]; exact .of
          have tu14 : Tu H13 H14 := But.tu c14.but hF13 trivial
          have hW14 := c14.but _ _ (Ne.symm neFW) hW13
          walk_at "gw"
          refine w_app hW14 (by simp only [List.length_map]; omega) fun H15 c15 => ?_
          have tu15 : Tu H14 H15 := But.tu c15.but hW14 trivial
          walk_at "gw"
          have fok15 : FOk (goalsOf ts) (f2 ++ [(g, way ++ [d])]) := by
            have := fok11.tryL (c := d) (stD d) hway hlt2
            have e2 : tryL (stepF ts) r way f2 d = f2 ++ [(g, way ++ [d])] := by
              rw [show tryL (stepF ts) r way f2 d = [d].foldl (tryL (stepF ts) r way) f2 from rfl, ht, if_neg hnb]
            rw [e2] at this
            exact this
          refine ⟨_, _, _, rfl, c15.ex (c14.ex e313 nF3) nW3, (tu13.trans tu14).trans tu15, c15.but _ _ neFW c14.at_, ?_, fok15, ?_⟩
          · rw [c15.at_, List.map_append]
            rfl
          · rw [List.getElem?_append_left hlt2]
            exact hp11
      · rintro σ3 H11 ⟨z8, z9, z10, rfl, e11, tu11, hF11, hW11, fok11, hp11⟩
        walk_at "gw"
        exact ⟨_, _, _, _, rfl, e11, hF11, hW11⟩
    · rintro σ2 H7 ⟨y7, y8, y9, y10, rfl, e7, hF7, hW7⟩
      walk_at "gw"
      refine ⟨n, by omega, ?_⟩
      rw [hW]
      have fok1 := FOk.foldBoth (i := i) stD hway (lettersOf ts) f fok hlt
      have pre1 := foldBoth_pre (st := stepF ts) (r := r) (way := way) (lettersOf ts) f
      obtain ⟨x1, hx1⟩ := pre1
      refine ⟨i + 1, _, _, _, _, _, _, rfl, e7, hF7, hW7, fok1, by rw [hx1, List.length_append]; omega, by omega, ?_⟩
      rw [hbfs]
      conv => lhs; unfold bfs
      rw [hp]
      rfl
  · rw [if_neg (fun z => hlt (by have := of_decide_eq_true z; simp only [List.length_map] at this; omega))]
    walk_at "gw"
    refine q _ _ (e03.trans e6) ⟨dF, rfl, e03.free nF3, ?_⟩
    have hi2 : i = f.length := by omega
    rw [hF]
    congr 3
    show f = foundRooms ts
    rw [hbfs]
    cases n with
    | zero => rfl
    | succ n =>
      unfold bfs
      rw [List.getElem?_eq_none (by omega)]
end
end Gw

/-! ### webs: numbered -/
namespace Gw
open PySem PySem.Spec PyProof.Rows L2 RT PySem.W
theorem alike_T3 (s t : T3) : alike (encT3 s) (encT3 t) = true := by simp [encT3, alike, alikeAll]
theorem lt_sg {a b : Nat} : (sg a).cps.toList < (sg b).cps.toList ↔ a < b := by
  show ([a] : List Nat) < [b] ↔ a < b
  constructor
  · intro h
    rcases List.cons_lt_cons_iff.mp h with h | ⟨_, h⟩
    · exact h
    · exact absurd h (List.not_lt_nil _)
  · intro h
    exact List.cons_lt_cons_iff.mpr (.inl h)
theorem dataLt_T3 (s t : T3) : dataLt (encT3 s) (encT3 t) = decide (s.1 < t.1 ∨ (s.1 = t.1 ∧ (s.2.1 < t.2.1 ∨ (s.2.1 = t.2.1 ∧ s.2.2 < t.2.2)))) := by
  unfold encT3
  rw [dataLt_tuple, dataLt_cons (by simp [alike]), dataLt_cons (by simp [alike]), dataLt_cons (by simp [alike]), dataLt_int, dataLt_str, dataLt_int, eqv_int, eqv_str, eqv_int]
  have e : PyProof.Rows.lexLt itemOrd (keyToksAll []) (keyToksAll []) = false := lex_irrefl _
  rw [e, Bool.eq_iff_iff]
  by_cases h1 : s.1 = t.1
  · have g1 : ((s.1 : Int) = (t.1 : Int)) := by omega
    rw [if_pos (decide_eq_true g1)]
    by_cases h2 : s.2.1 = t.2.1
    · rw [if_pos (decide_eq_true (sg_eq.mpr h2))]
      by_cases h3 : s.2.2 = t.2.2
      · have g3 : ((s.2.2 : Int) = (t.2.2 : Int)) := by omega
        rw [if_pos (decide_eq_true g3), decide_eq_true_eq]
        constructor
        · intro z
          cases z
        · intro z
          omega
      · have g3 : ¬ ((s.2.2 : Int) = (t.2.2 : Int)) := by omega
        rw [if_neg (by rw [decide_eq_true_eq]; exact g3), decide_eq_true_eq, decide_eq_true_eq]
        omega
    · rw [if_neg (by rw [decide_eq_true_eq]; exact fun z => h2 (sg_eq.mp z)), decide_eq_true_eq, decide_eq_true_eq, lt_sg]
      omega
  · have g1 : ¬ ((s.1 : Int) = (t.1 : Int)) := by omega
    rw [if_neg (by rw [decide_eq_true_eq]; exact g1), decide_eq_true_eq, decide_eq_true_eq]
    omega
theorem dataLe_T3 : dataLe false encT3 = leT3 := by
  funext s t
  show (!dataLt (encT3 t) (encT3 s)) = leT3 s t
  rw [dataLt_T3]
  unfold leT3
  rw [Bool.eq_iff_iff, Bool.not_eq_true', decide_eq_false_iff_not, decide_eq_true_eq]
  omega
section
variable {P : Program} {w : World} {K : PySem.W.Frag} {mg : Str → Option Value} {base : Heap}
/-- rooms and their numbers -/
abbrev encN (f : Found) : List (Key × V) := f.zipIdx.map fun p => (.inl (p.1.1 : Int), iN p.2)
theorem encN_snoc (f : Found) (p : Nat × List Nat) : encN (f ++ [p]) = encN f ++ [(.inl (p.1 : Int), iN f.length)] := by
  simp [encN, List.zipIdx_append]
theorem encN_get : ∀ (f : Found) (g : Nat), (f.map (·.1)).Nodup → valV (encN f) (.inl (g : Int)) = if g ∈ f.map (·.1) then some (iN (numOf f g)) else none := by
  refine snoc_ind (P := fun f => ∀ (g : Nat), (f.map (·.1)).Nodup → valV (encN f) (.inl (g : Int)) = if g ∈ f.map (·.1) then some (iN (numOf f g)) else none) (fun g _ => by simp [encN, valV]) ?_
  intro f p ih g nd
  rw [List.map_append, List.map_cons, List.map_nil] at nd ⊢
  obtain ⟨n1, _, n3⟩ := List.nodup_append.mp nd
  have hp : p.1 ∉ f.map (·.1) := fun z => n3 _ z p.1 (by simp) rfl
  have hnone : valV (encN f) (.inl (p.1 : Int)) = none := by
    rw [ih p.1 n1, if_neg hp]
  rw [encN_snoc, valV_snoc _ _ _ _ hnone]
  by_cases e : g = p.1
  · subst e
    rw [if_pos rfl, if_pos (by simp)]
    unfold numOf
    rw [List.map_append, List.idxOf_append, if_neg hp]
    simp
  · rw [if_neg (fun z => e (by
      have z : (Sum.inl (g : Int) : Key) = .inl (p.1 : Int) := z
      injection z with z
      omega)), ih g n1]
    by_cases hg : g ∈ f.map (·.1)
    · rw [if_pos hg, if_pos (List.mem_append_left _ hg)]
      unfold numOf
      rw [List.map_append, List.idxOf_append, if_pos hg]
    · rw [if_neg hg, if_neg (fun z => by
        rcases List.mem_append.mp z with z | z
        · exact hg z
        · exact e (List.mem_singleton.mp z))]
theorem encN_put {f : Found} {p : Nat × List Nat} (nd : (f.map (·.1)).Nodup) (h : p.1 ∉ f.map (·.1)) : putK (encN f) (.inl (p.1 : Int)) (iN f.length) = encN (f ++ [p]) := by
  rw [putK_new _ (by rw [encN_get f p.1 nd, if_neg h]), encN_snoc]
theorem foundRooms_ok (ts : List T3) : FOk (goalsOf ts) (foundRooms ts) := by
  unfold foundRooms
  have h0 : FOk (goalsOf ts) [(0, [])] := FOk.init (by exact List.mem_cons_self)
  revert h0
  generalize [((0 : Nat), ([] : List Nat))] = f
  generalize (0 : Nat) = i
  generalize 2 * ts.length + 2 = n
  revert f i
  induction n with
  | zero => intro i f h; exact h
  | succ n ih =>
    intro f i h
    unfold bfs
    cases q : f[i]? with
    | none => exact h
    | some p =>
      have hi := (List.getElem?_eq_some_iff.mp q).1
      exact ih _ (i + 1) (FOk.foldBoth (i := i) (fun c g e => stepF_goal e) (h.way i p q) (lettersOf ts) f h hi)
/-- all rooms are found -/
def AllIn (ts : List T3) : Prop := ∀ t ∈ ts, t.1 ∈ (foundRooms ts).map (·.1) ∧ t.2.2 ∈ (foundRooms ts).map (·.1)
abbrev N_numbered : List Str := ["ties", "numbers", "room", "tie"]
theorem sc_numbered : FnScope ["ties", "numbers", "room", "tie"] ["ties"] (defScope s_numbered) := ⟨rfl, rfl, rfl, by decide +kernel, rfl, by decide +kernel, by decide +kernel⟩
theorem b_numbered : BindsT "numbered" s_numbered ["ties"] := fun _ _ _ _ _ _ us hl => match us, hl with | [_], _ => rfl
def sp_numbered (K : PySem.W.Frag) : Sp := fun vs H Q _ => ∃ p : V × List T3, vs = [p.1] ∧ LstR K (TbR K) p.2 p.1 H ∧ p.2.length ≤ 3000 ∧ SmC3 p.2 ∧ AllIn p.2 ∧ Ret H Q fun v H' => ∃ l vs, v = .ref l ∧ H l = none ∧ H' l = some (.lst vs) ∧ Paired (fun t x => T3R K t x H') (numberedT p.2) vs
theorem ok_numbered (T : Tx K mg) (G_found_rooms : Ok P w K mg base 3 "found_rooms" ["ties"] (sp_found_rooms K)) : Ok P w K mg base 4 "numbered" ["ties"] (sp_numbered K) := by
  refine Ok.of T.f_numbered sc_numbered b_numbered (fun vs H Q E h => by obtain ⟨a, rfl, _⟩ := h; rfl) (fun cdv A outer s H vs Q E hr h => ?_)
  obtain ⟨⟨v1, ts⟩, rfl, ⟨l, vs, rfl, hS, hvs⟩, hlen, hsm, hall, q⟩ := h
  have hvs : Paired (fun t x => TbR K t x H) ts vs := hvs
  have hlen : ts.length ≤ 3000 := hlen
  have hsm : SmC3 ts := hsm
  have hall : AllIn ts := hall
  have fok := foundRooms_ok ts
  have flen := fok.len
  have glen := goalsOf_len ts
  refine ⟨_, (pss_cons (ps_set (i := 1) sc_numbered.nd rfl (.inr rfl) pe_dnewKN)
      (pss_cons (ps_for PassesOwn.never rfl (pi_keysN (pe_g G_found_rooms (hr.mono (by decide)) (by rfl) (pa_cons (pv 0) pa_nil))) (pg_name (i := 2) sc_numbered.nd rfl (.inl rfl)) (pss_one (ps_dput (hu_of hr) (pv 1) (pv 2) (pe_callB call_lenD (by rfl) T.n_len (by decide +kernel) (pa_cons (pv 1) pa_nil)) rfl)))
      (pss_one (ps_ret (pe_callB (cr_sortedW hr.units) (by rfl) T.n_sorted (by decide +kernel) (pa_cons (pe_lc (own := [("tie", 3)]) (g := gName 3) (tt := tYes) rfl sc_numbered.nd (pi_list (pv 0)) (blkOk_by (N := N_numbered) (sc := defScope s_numbered) (by decide +kernel)) (fun _ _ _ _ _ => (pg_name (i := 3) sc_numbered.nd rfl (.inl rfl))) (fun _ _ _ _ _ => pts_nil) (fun _ _ _ _ _ => (pe_tupN (pa_cons (pe_dget (hu_of hr) (pv 1) (pe_ix (ix_tupK K) (pv 3) pe_int (fun _ _ => rfl)) (fun _ _ => rfl)) (pa_cons (pe_ix (ix_tupK K) (pv 3) pe_int (fun _ _ => rfl)) (pa_cons (pe_dget (hu_of hr) (pv 1) (pe_ix (ix_tupK K) (pv 3) pe_int (fun _ _ => rfl)) (fun _ _ => rfl)) pa_nil)))))) pa_nil)))))), ?_⟩
  walk_at "gw"
  intro dN H1 n1
  walk_at "gw"
  refine ⟨(.ref l, ts), rfl, ⟨l, vs, rfl, n1.ex.seq hS, paired_impH hvs fun t x r => r.mono (Ex.tu n1.ex)⟩, hlen, hsm, ?_⟩
  rintro _ H2 e2 ⟨dF, rfl, nF, hF⟩
  have hF : H2 dF = some (.dK (encF (foundRooms ts))) := hF
  refine ⟨dF, rfl, .inl ⟨_, hF, fun o H3 c3 => ?_⟩⟩
  have nF0 : H dF = none := n1.ex.free nF
  have e02 := n1.ex.trans e2
  have e03 : Ex H H3 := c3.ex e02 nF0
  have neNF : dN ≠ dF := fun z => by
    rw [← z, n1.at_] at nF
    cases nF
  have hN3 : H3 dN = some (.dK []) := c3.but _ _ neNF (e2 _ _ n1.at_)
  refine forS (bs := foundRooms ts) (Seqs.of_map (f := fun p => ((.inl (p.1 : Int) : Key), V.str (tx p.2))) seqs_keys) (fun pre σ' H' => ∃ y2 y3, σ' = [some (.ref l), some (.ref dN), y2, y3] ∧ Ex H H' ∧ H' dF = some (.frz o (.dK (encF (foundRooms ts)))) ∧ H' dN = some (.dK (encN pre)))
    ⟨_, _, rfl, e03, c3.at_, hN3⟩ (fun _ _ H' ⟨_, _, _, _, h, _⟩ => h) ?_ ?_
  · rintro pre p post x σ' H4 H5 e ⟨y2, y3, rfl, ex, hf, hn⟩ e5 rfl
    have nd := fok.nd
    rw [e, List.map_append, List.map_cons] at nd
    obtain ⟨nd1, nd2, nd3⟩ := List.nodup_append.mp nd
    have hnew : p.1 ∉ pre.map (·.1) := fun z => nd3 _ z p.1 List.mem_cons_self rfl
    have lpre : pre.length ≤ 7000 := by
      have h2 := congrArg List.length e
      rw [List.length_append] at h2
      omega
    walk_at "gw"
    refine ⟨dN, _, rfl, e5 _ _ hn, ?_⟩
    walk_at "gw"
    refine ⟨dN, _, rfl, DPut.k (k := .inl (p.1 : Int)) (e5 _ _ hn) (line_lt (by simp only [List.length_map, List.length_zipIdx]; omega)), ?_⟩
    rw [show (encN pre).length = pre.length by simp only [List.length_map, List.length_zipIdx], encN_put nd1 hnew]
    generalize hH6 : upd H5 dN (.dK (encN (pre ++ [p]))) = H6
    have c6 : Chg H5 dN (.dK (encN (pre ++ [p]))) H6 := by rw [← hH6]; exact .of
    walk_at "gw"
    exact ⟨_, _, rfl, c6.ex (ex.trans e5) n1.no, c6.but _ _ (Ne.symm neNF) (e5 _ _ hf), c6.at_⟩
  · rintro σ' H4 ⟨y2, y3, rfl, ex, hf, hn⟩
    walk_at "gw"
    refine ⟨l, rfl, ⟨_, ex.seq hS⟩, ?_⟩
    refine lcN (bs := ts) (seqs_listP (R := TbR K)) (fun t y H' => T3R K (numOf (foundRooms ts) t.1, t.2.1, numOf (foundRooms ts) t.2.2) y H') (fun _ _ _ _ u r => r.mono u) (fun H' e => ⟨vs, (ex.trans e).seq hS, paired_impH hvs fun t x r => r.mono (Ex.tu (ex.trans e))⟩) (by omega) (fun _ => rfl) ?_ (fun _ _ _ _ e r => r.mono (Ex.tu e)) ?_
    · rintro t x H5 ht e5 ⟨p, xs, rfl, hp⟩ Q' q'
      obtain ⟨ha, hb⟩ := hall t ht
      have g1 := DGet.k (k := .inl (t.1 : Int)) (e5 _ _ hn)
      have g2 := DGet.k (k := .inl (t.2.2 : Int)) (e5 _ _ hn)
      rw [encN_get _ _ fok.nd, if_pos ha] at g1
      rw [encN_get _ _ fok.nd, if_pos hb] at g2
      walk_at "gw"
      refine w_ixT hp (atI_nat (j := 0) rfl) ?_
      refine ⟨dN, _, rfl, g1, ?_⟩
      walk_at "gw"
      refine w_ixT hp (atI_nat (j := 1) rfl) ?_
      walk_at "gw"
      refine w_ixT hp (atI_nat (j := 2) rfl) ?_
      refine ⟨dN, _, rfl, g2, ?_⟩
      walk_at "gw"
      refine sz_and (by show 3 ≤ 16000000; decide) fun p7 H7 n7 => ?_
      exact q' _ _ n7.ex ⟨p7, rfl, sqT_of n7.at_⟩
    · intro l5 H5 ys n5 e5 hy py
      walk_at "gw"
      refine ⟨T3, l5, ys, ts.map fun t => (numOf (foundRooms ts) t.1, t.2.1, numOf (foundRooms ts) t.2.2), encT3, fun t x => T3R K t x H5, rfl, sqL_of hy, paired_map py, fun b x r => dp_T3 r, AllAlike.of fun b b' => alike_T3 b b', Sortable.tuples (enc := encT3) fun b => ⟨_, _, rfl⟩, fun b hb => ?_, ?_⟩
      · have : (encT3 b).depth ≤ 1 := by
          simp [encT3, PyData.depth, PyData.depthAll]
        omega
      · intro p6 zs H6 hz n6
        walk_at "gw"
        rw [dataLe_T3] at hz
        refine q _ _ ((ex.trans e5).trans n6.ex) ⟨p6, zs, rfl, (ex.trans e5).free n6.no, n6.at_, paired_impH hz fun t x r => r.mono (Ex.tu n6.ex)⟩
end
end Gw

/-! ### webs: glued_of, web_of -/
namespace Gw
open PySem PySem.Spec PyProof.Rows L2 RT
theorem bk_small {c : Nat} (h : isL c = true) (hs : ¬ smallL c = true) : 97 ≤ bk c ∧ bk c ≤ 122 := by
  unfold smallL at hs
  rw [decide_eq_true_eq] at hs
  rw [isL_iff] at h
  unfold bk
  rw [if_neg (by omega)]
  omega
theorem ringStep_sm {k n : Nat} {st : List T4 × Nat × Nat} {p : Nat × Nat} (h : SmC st.1) (hp : isL p.1 = true) : SmC (ringStep k n st p).1 := fun t ht => by
  unfold ringStep at ht
  rcases List.mem_append.mp ht with ht | ht
  · exact h t ht
  · rw [List.mem_singleton] at ht
    subst ht
    by_cases hs : smallL p.1 = true
    · rw [if_pos hs]
      unfold smallL at hs
      exact of_decide_eq_true hs
    · rw [if_neg hs]
      exact bk_small hp hs
theorem ringFold_sm {k n : Nat} : ∀ (l : List (Nat × Nat)) (st : List T4 × Nat × Nat), SmC st.1 → (∀ p ∈ l, isL p.1 = true) → SmC (l.foldl (ringStep k n) st).1
  | [], _, h, _ => h
  | p :: l, st, h, hl => ringFold_sm l _ (ringStep_sm h (hl p List.mem_cons_self)) fun q hq => hl q (List.mem_cons_of_mem _ hq)
theorem ringWords_sm : ∀ (l : List (List Nat × Nat)) (st : List T4 × Nat), SmC st.1 → (∀ p ∈ l, AL p.1) → SmC (l.foldl ringWord st).1
  | [], _, h, _ => h
  | p :: l, st, h, hl => by
    rw [List.foldl_cons]
    refine ringWords_sm l _ ?_ fun q hq => hl q (List.mem_cons_of_mem _ hq)
    unfold ringWord
    exact ringFold_sm _ _ h fun q hq => hl p List.mem_cons_self q.1 (List.fst_mem_of_mem_zipIdx hq)
theorem rings_sm {ws : List (List Nat)} (h : ∀ u ∈ ws, AL u) : SmC (rings ws) := ringWords_sm _ _ (fun t ht => by cases ht) fun p hp => h p.1 (List.fst_mem_of_mem_zipIdx hp)
theorem rings_len {ws : List (List Nat)} {m : Nat} (h : ∀ u ∈ ws, u.length ≤ m) : (rings ws).length ≤ ws.length * m := by
  have := ringWords_len m ws.zipIdx ([], 1) fun p hp => h p.1 (List.fst_mem_of_mem_zipIdx hp)
  simp only [List.length_nil, Nat.zero_add, List.length_zipIdx] at this
  exact this
theorem glueN_sm : ∀ (n : Nat) (ts : List T4), SmC ts → SmC (glueN n ts)
  | 0, _, h => h
  | n + 1, ts, h => by
    unfold glueN
    cases pairOf ts with
    | none => exact h
    | some r => exact glueN_sm n _ (SmC.step h)
theorem glueN_len : ∀ (n : Nat) (ts : List T4), (glueN n ts).length ≤ ts.length
  | 0, _ => Nat.le_refl _
  | n + 1, ts => by
    unfold glueN
    cases g : pairOf ts with
    | none => exact Nat.le_refl _
    | some r =>
      obtain ⟨o, t, e⟩ := r
      have h1 : (glueStep ts o t e).length + 1 = ts.length := glueStep_len (pairOf_ok g).t_in
      have h2 := glueN_len n (glueStep ts o t e)
      dsimp only
      omega
section
variable {P : Program} {w : World} {K : PySem.W.Frag} {mg : Str → Option Value} {base : Heap}
theorem somes_of {α β : Type} : ∀ {ps : List (α × Option β)}, (∀ p ∈ ps, p.2.isSome = true) → ∃ us : List β, ps.map (·.2) = us.map some
  | [], _ => ⟨[], rfl⟩
  | p :: ps, h => by
    obtain ⟨us, hu⟩ := somes_of (ps := ps) fun q hq => h q (List.mem_cons_of_mem _ hq)
    obtain ⟨u, hu2⟩ := Option.isSome_iff_exists.mp (h p List.mem_cons_self)
    exact ⟨u :: us, by rw [List.map_cons, List.map_cons, hu, hu2]⟩
/-- a row that is glued within the sizes -/
structure RowFine (us : List (List Nat)) : Prop where
  al : ∀ u ∈ us, AL u
  short : ∀ u ∈ us, u.length ≤ 1000
  few : us.length ≤ 1000
  fine : Fine (rings (us.map sh)).length (rings (us.map sh))
abbrev N_glued_of : List Str := ["words", "word"]
theorem sc_glued_of : FnScope ["words", "word"] ["words"] (defScope s_glued_of) := ⟨rfl, rfl, rfl, by decide +kernel, rfl, by decide +kernel, by decide +kernel⟩
theorem b_glued_of : BindsT "glued_of" s_glued_of ["words"] := fun _ _ _ _ _ _ us hl => match us, hl with | [_], _ => rfl
def sp_glued_of (K : PySem.W.Frag) : Sp := fun vs H Q E => ∃ p : Addr × List (V × Option (List Nat)), vs = [.ref p.1] ∧ SqL K H p.1 (p.2.map (·.1)) ∧ (∀ x ∈ p.2, IsW K H x.1 x.2) ∧ p.2.length ≤ 1000 ∧
  (∀ us : List (List Nat), p.2.map (·.2) = us.map some → RowFine us ∧ Ret H Q fun v H' => LstR K (T4R K) (gluedOf us) v H') ∧ ((∃ x ∈ p.2, x.2 = none) → NoWord K H E)
theorem ok_glued_of (T : Tx K mg) (G_need_word : Ok P w K mg base 2 "need_word" ["thing"] (sp_need_word K)) (G_shortened : Ok P w K mg base 2 "shortened" ["word"] sp_shortened)
    (G_rings_of : Ok P w K mg base 2 "rings_of" ["words"] (sp_rings_of K)) (G_glued : Ok P w K mg base 3 "glued" ["ties"] (sp_glued K)) : Ok P w K mg base 4 "glued_of" ["words"] (sp_glued_of K) := by
  refine Ok.ofX T.f_glued_of sc_glued_of b_glued_of (fun vs H Q E h => by obtain ⟨a, rfl, _⟩ := h; rfl) (fun cdv A outer s H vs Q E hr h => ?_)
  obtain ⟨⟨l, ps⟩, rfl, hS, hW, hlen, hgo, hno⟩ := h
  have hS : SqL K H l (ps.map (·.1)) := hS
  have hW : ∀ x ∈ ps, IsW K H x.1 x.2 := hW
  have hlen : ps.length ≤ 1000 := hlen
  refine ⟨_, (pss_cons (ps_for (passes_of rfl) rfl (pi_list (pv 0)) (pg_name (i := 1) sc_glued_of.nd rfl (.inl rfl)) (pss_one (ps_expr (pe_gx G_need_word (hr.mono (by decide)) (by rfl) (L2N.takes_of rfl rfl rfl rfl) (pa_cons (pv 1) pa_nil)))))
      (pss_one (ps_ret (pe_g G_glued (hr.mono (by decide)) (by rfl) (pa_cons (pe_g G_rings_of (hr.mono (by decide)) (by rfl) (pa_cons (pe_lc (own := [("word", 1)]) (g := gName 1) (tt := tYes) rfl sc_glued_of.nd (pi_list (pv 0)) (blkOk_by (N := N_glued_of) (sc := defScope s_glued_of) (by decide +kernel)) (fun _ _ _ _ _ => (pg_name (i := 1) sc_glued_of.nd rfl (.inl rfl))) (fun _ _ _ _ _ => pts_nil) (fun _ _ _ _ _ => (pe_g G_shortened (hr.mono (by decide)) (by rfl) (pa_cons (pv 1) pa_nil)))) pa_nil)) pa_nil))))), ?_⟩
  walk_at "gw"
  refine ⟨l, rfl, ⟨_, hS⟩, ?_⟩
  refine forS (bs := ps) (Seqs.of_map (f := fun p : V × Option (List Nat) => p.1) seqs_list) (fun pre σ' H' => ∃ y, σ' = [some (.ref l), y] ∧ Ex H H' ∧ ∀ p ∈ pre, p.2.isSome = true) ⟨_, rfl, L2.Same.refl _, fun p hp => by cases hp⟩ (fun _ _ _ ⟨_, _, ex, _⟩ => ex.seq hS) ?_ ?_
  · rintro pre p post x σ' H2 H3 e ⟨y, rfl, ex, hpre⟩ e3 rfl
    have hp : p ∈ ps := by rw [e]; simp
    walk_at "gw"
    refine ⟨p, rfl, (hW p hp).mono (ex.trans e3), ?_, ?_⟩
    · rintro u hu v H4 e4 -
      walk_at "gw"
      refine ⟨_, rfl, (ex.trans e3).trans e4, fun q hq => ?_⟩
      rcases List.mem_append.mp hq with hq | hq
      · exact hpre q hq
      · rw [List.mem_singleton.mp hq, hu]
        rfl
    · intro hn H4 e4
      exact hno ⟨p, hp, hn⟩ H4 ((ex.trans e3).trans e4)
  · rintro σ' H2 ⟨y, rfl, ex, hpre⟩
    obtain ⟨us, hus⟩ := somes_of hpre
    obtain ⟨fine, q⟩ := hgo us hus
    have hword : ∀ p ∈ ps, ∃ u ∈ us, p.2 = some u := fun p hp => by
      have : p.2 ∈ ps.map (·.2) := List.mem_map.mpr ⟨p, hp, rfl⟩
      rw [hus] at this
      obtain ⟨u, hu, e⟩ := List.mem_map.mp this
      exact ⟨u, hu, e.symm⟩
    walk_at "gw"
    refine ⟨l, rfl, ⟨_, ex.seq hS⟩, ?_⟩
    refine lcN (bs := ps) (Seqs.of_map (f := fun p : V × Option (List Nat) => p.1) seqs_list) (fun p v _ => v = .str (tx (sh (p.2.getD [])))) (fun _ _ _ _ _ h => h) (fun H' e => (ex.trans e).seq hS) (by omega) (fun _ => rfl) ?_ (fun _ _ _ _ _ h => h) ?_
    · rintro p x H3 hp e3 rfl Q' q'
      obtain ⟨u, hu, hpu⟩ := hword p hp
      have hw := hW p hp
      rw [hpu] at hw
      obtain ⟨ev, hal, hul⟩ := IsW.some_of hw
      walk_at "gw"
      rw [ev]
      refine c_shortened (L2.Same.refl _) hal hul fun H4 e4 => ?_
      exact q' _ _ e4 (by rw [hpu]; rfl)
    · intro l3 H3 ys n3 e3 hy py
      have ey := paired_eq py
      have em : ys = (us.map sh).map fun u => V.str (tx u) := by
        rw [ey, List.map_map, show us.map ((fun u => V.str (tx u)) ∘ sh) = (us.map some).map (fun o => V.str (tx (sh (o.getD [])))) by rw [List.map_map]; rfl, ← hus, List.map_map]
        rfl
      walk_at "gw"
      have hlu : us.length = ps.length := by
        have := congrArg List.length hus
        rw [List.length_map, List.length_map] at this
        exact this.symm
      have shal : ∀ u ∈ us.map sh, AL u ∧ u.length ≤ 1000 := fun u hu => by
        obtain ⟨x, hx, rfl⟩ := List.mem_map.mp hu
        have := sh_len x
        have := fine.short x hx
        exact ⟨sh_AL (fine.al x hx), by omega⟩
      refine ⟨(l3, us.map sh), rfl, sqL_of (by rw [hy, em]), shal, by rw [List.length_map]; omega, ?_⟩
      rintro v4 H4 e4 ⟨l4, vs4, rfl, _, h4, p4⟩
      walk_at "gw"
      have rl := rings_len (ws := us.map sh) (m := 1000) fun u hu => (shal u hu).2
      rw [List.length_map] at rl
      refine ⟨(.ref l4, rings (us.map sh)), rfl, ⟨l4, vs4, rfl, sqL_of h4, p4⟩, by show (rings (us.map sh)).length ≤ _; omega, rings_sm fun u hu => (shal u hu).1, fine.fine, ?_⟩
      rintro v5 H5 e5 h5
      exact q _ _ (((ex.trans e3).trans e4).trans e5) h5
abbrev N_web_of : List Str := ["words"]
theorem sc_web_of : FnScope ["words"] ["words"] (defScope s_web_of) := ⟨rfl, rfl, rfl, by decide +kernel, rfl, by decide +kernel, by decide +kernel⟩
theorem b_web_of : BindsT "web_of" s_web_of ["words"] := fun _ _ _ _ _ _ us hl => match us, hl with | [_], _ => rfl
/-- .. and numbered -/
structure WebFine (us : List (List Nat)) : Prop where
  row : RowFine us
  len : (rings (us.map sh)).length ≤ 3000
  all_ : AllIn ((gluedOf us).map T4.t3)
def sp_web_of (K : PySem.W.Frag) : Sp := fun vs H Q E => ∃ p : Addr × List (V × Option (List Nat)), vs = [.ref p.1] ∧ SqL K H p.1 (p.2.map (·.1)) ∧ (∀ x ∈ p.2, IsW K H x.1 x.2) ∧ p.2.length ≤ 1000 ∧
  (∀ us : List (List Nat), p.2.map (·.2) = us.map some → WebFine us ∧ Ret H Q fun v H' => ∃ l vs, v = .ref l ∧ H l = none ∧ H' l = some (.lst vs) ∧ Paired (fun t x => T3R K t x H') (webOf us) vs) ∧ ((∃ x ∈ p.2, x.2 = none) → NoWord K H E)
theorem glued_sm {us : List (List Nat)} (h : ∀ u ∈ us, AL u) : SmC3 ((gluedOf us).map T4.t3) := fun t ht => by
  obtain ⟨x, hx, rfl⟩ := List.mem_map.mp ht
  exact glueN_sm _ _ (rings_sm fun u hu => by
    obtain ⟨y, hy, rfl⟩ := List.mem_map.mp hu
    exact sh_AL (h y hy)) x hx
theorem ok_web_of (T : Tx K mg) (G_glued_of : Ok P w K mg base 4 "glued_of" ["words"] (sp_glued_of K)) (G_numbered : Ok P w K mg base 4 "numbered" ["ties"] (sp_numbered K)) : Ok P w K mg base 5 "web_of" ["words"] (sp_web_of K) := by
  refine Ok.ofX T.f_web_of sc_web_of b_web_of (fun vs H Q E h => by obtain ⟨a, rfl, _⟩ := h; rfl) (fun cdv A outer s H vs Q E hr h => ?_)
  obtain ⟨⟨l, ps⟩, rfl, hS, hW, hlen, hgo, hno⟩ := h
  refine ⟨_, (pss_one (ps_ret (pe_g G_numbered (hr.mono (by decide)) (by rfl) (pa_cons (pe_gx G_glued_of (hr.mono (by decide)) (by rfl) (L2N.takes_of rfl rfl rfl rfl) (pa_cons (pv 0) pa_nil)) pa_nil)))), ?_⟩
  walk_at "gw"
  refine ⟨(l, ps), rfl, hS, hW, hlen, ?_, hno⟩
  intro us hus
  obtain ⟨fine, q⟩ := hgo us hus
  refine ⟨fine.row, ?_⟩
  rintro v H1 e1 ⟨l1, vs1, rfl, h1, p1⟩
  walk_at "gw"
  refine ⟨(.ref l1, (gluedOf us).map T4.t3), rfl, ⟨l1, vs1, rfl, h1, paired_map (paired_impH p1 fun t x r => r.tb)⟩, ?_, glued_sm fine.row.al, fine.all_, ?_⟩
  · show ((gluedOf us).map T4.t3).length ≤ 3000
    rw [List.length_map]
    have := glueN_len (rings (us.map sh)).length (rings (us.map sh))
    have := fine.len
    unfold gluedOf glue
    omega
  · rintro v2 H2 e2 ⟨l2, vs2, rfl, n2, h2, p2⟩
    refine q _ _ (e1.trans e2) ⟨l2, vs2, rfl, ?_, h2, p2⟩
    exact e1.free n2
end
end Gw

/-! ### webs: led, ends -/
namespace Gw
open PySem PySem.Spec PyProof.Rows L2 RT
/-- the room to which a word leads -/
def ledT (ts : List T3) (u : List Nat) : Option Nat := u.foldl (fun o c => o.bind fun r => stepF ts r c) (some 0)
def roomV : Option Nat → V
  | none => .non
  | some r => iN r
theorem w_dget1T {td ty : TE} {σ : L2.St} {H : Hp} {Q : VK} (q : td σ H fun x H1 => ∃ a, x = .ref a ∧ IsD H1 a ∧ ty σ H1 fun y H2 => ∃ o, DGet H2 a y o ∧ Q (o.getD .non) H2) : tDGet1 td ty σ H Q := q
section
variable {P : Program} {w : World} {K : PySem.W.Frag} {mg : Str → Option Value} {base : Heap}
abbrev N_led : List Str := ["ties", "word", "steps", "room", "letter"]
theorem sc_led : FnScope ["ties", "word", "steps", "room", "letter"] ["ties", "word"] (defScope s_led) := ⟨rfl, rfl, rfl, by decide +kernel, rfl, by decide +kernel, by decide +kernel⟩
theorem b_led : BindsT "led" s_led ["ties", "word"] := fun _ _ _ _ _ _ us hl => match us, hl with | [_, _], _ => rfl
def sp_led (K : PySem.W.Frag) : Sp := fun vs H Q _ => ∃ p : V × List T3 × List Nat, vs = [p.1, .str (tx p.2.2)] ∧ LstR K (TbR K) p.2.1 p.1 H ∧ p.2.1.length ≤ 1000000 ∧ SmC3 p.2.1 ∧ Ret H Q fun v _ => v = roomV (ledT p.2.1 p.2.2)
theorem ok_led (T : Tx K mg) (G_steps_of : Ok P w K mg base 2 "steps_of" ["ties"] (sp_steps_of K)) : Ok P w K mg base 3 "led" ["ties", "word"] (sp_led K) := by
  refine Ok.of T.f_led sc_led b_led (fun vs H Q E h => by obtain ⟨a, rfl, _⟩ := h; rfl) (fun cdv A outer s H vs Q E hr h => ?_)
  obtain ⟨⟨v1, ts, u⟩, rfl, hts, hlen, hsm, q⟩ := h
  refine ⟨_, (pss_cons (ps_set (i := 2) sc_led.nd rfl (.inl rfl) (pe_g G_steps_of (hr.mono (by decide)) (by rfl) (pa_cons (pv 0) pa_nil)))
      (pss_cons (ps_set (i := 3) sc_led.nd rfl (.inl rfl) pe_int)
      (pss_cons (ps_for PassesOwn.never rfl (pi_str (pv 1)) (pg_name (i := 4) sc_led.nd rfl (.inl rfl)) (pss_one (ps_if (pt_cmp (pc_notN (pv 3))) (pss_one (ps_set (i := 3) sc_led.nd rfl (.inl rfl) (pe_dget1 (hu_of hr) (pv 2) (pe_tupN (pa_cons (pv 3) (pa_cons (pv 4) pa_nil))) ⟨rfl, rfl, rfl, rfl⟩))) pss_nil)))
      (pss_one (ps_ret (pv 3)))))), ?_⟩
  walk_at "gw"
  refine ⟨(v1, ts), rfl, hts, hlen, hsm, ?_⟩
  rintro _ H1 e1 ⟨d, rfl, nd, hd⟩
  have hd : DctR natR (stepsOf ts) d H1 := hd
  walk_at "gw"
  refine forS (bs := u) seqs_tx (fun pre σ' H' => ∃ y, σ' = [some v1, some (.str (tx u)), some (.ref d), some (roomV (pre.foldl (fun o c => o.bind fun r => stepF ts r c) (some 0))), y] ∧ Ex H1 H') ⟨_, rfl, L2.Same.refl _⟩ (fun _ _ _ _ => trivial) ?_ ?_
  · rintro pre c post x σ' H2 H3 e ⟨y, rfl, ex⟩ e3 rfl
    rw [List.foldl_append]
    generalize pre.foldl (fun o c => o.bind fun r => stepF ts r c) (some 0) = o
    have hd3 := hd.ex natR_mono (ex.trans e3)
    walk_at "gw"
    cases o with
    | none =>
      rw [show (!decide (roomV none = V.non)) = false from by rw [show decide (roomV none = V.non) = true from decide_eq_true rfl]; rfl]
      walk_at "gw"
      exact ⟨_, rfl, ex.trans e3⟩
    | some r =>
      rw [show (!decide (roomV (some r) = V.non)) = true from by rw [show decide (roomV (some r) = V.non) = false from decide_eq_false (fun z => by cases z)]; rfl]
      walk_at "gw"
      refine w_dget1T ?_
      walk_at "gw"
      refine ⟨d, rfl, .inr (let ⟨ws, h, _⟩ := hd3; ⟨ws, .inl h⟩), ?_⟩
      walk_at "gw"
      refine sz_and (by show 2 ≤ 16000000; decide) fun p4 H4 n4 => ?_
      have hd4 := hd3.ex natR_mono n4.ex
      rcases hd4.get (k := (r, c)) n4.at_ with ⟨g1, g2⟩ | ⟨b, v, g1, g2, g3⟩
      · refine ⟨none, g2, ?_⟩
        walk_at "gw"
        refine ⟨some (.str (sg c)), ?_, (ex.trans e3).trans n4.ex⟩
        show _ = [some v1, some (.str (tx u)), some (.ref d), some (roomV (stepF ts r c)), some (.str (sg c))]
        rw [show stepF ts r c = none from g1]
        rfl
      · refine ⟨some v, g2, ?_⟩
        walk_at "gw"
        refine ⟨some (.str (sg c)), ?_, (ex.trans e3).trans n4.ex⟩
        show _ = [some v1, some (.str (tx u)), some (.ref d), some (roomV (stepF ts r c)), some (.str (sg c))]
        rw [show stepF ts r c = some b from g1]
        rw [show v = iN b from g3]
        rfl
  · rintro σ' H2 ⟨y, rfl, ex⟩
    walk_at "gw"
    exact q _ _ (e1.trans ex) rfl
abbrev N_ends_at : List Str := ["ties", "room", "tie"]
theorem sc_ends_at : FnScope ["ties", "room", "tie"] ["ties", "room"] (defScope s_ends_at) := ⟨rfl, rfl, rfl, by decide +kernel, rfl, by decide +kernel, by decide +kernel⟩
theorem b_ends_at : BindsT "ends_at" s_ends_at ["ties", "room"] := fun _ _ _ _ _ _ us hl => match us, hl with | [_, _], _ => rfl
def sp_ends_at (K : PySem.W.Frag) : Sp := fun vs H Q _ => ∃ p : V × List T3 × Nat, vs = [p.1, iN p.2.2] ∧ LstR K (TbR K) p.2.1 p.1 H ∧ p.2.1.length ≤ 1000000 ∧ Ret H Q fun v _ => v = iN (endsAt p.2.1 p.2.2)
theorem ok_ends_at (T : Tx K mg) : Ok P w K mg base 1 "ends_at" ["ties", "room"] (sp_ends_at K) := by
  refine Ok.of T.f_ends_at sc_ends_at b_ends_at (fun vs H Q E h => by obtain ⟨a, rfl, _⟩ := h; rfl) (fun cdv A outer s H vs Q E hr h => ?_)
  obtain ⟨⟨v1, ts, r⟩, rfl, ⟨l, vs, rfl, hS, hvs⟩, hlen, q⟩ := h
  have hvs : Paired (fun t x => TbR K t x H) ts vs := hvs
  have hlen : ts.length ≤ 1000000 := hlen
  refine ⟨_, (pss_one (ps_ret (pe_op op_add (pe_callB (call_len_seqK K) (by rfl) T.n_len (by decide +kernel) (pa_cons (pe_lc (own := [("tie", 2)]) (g := gName 2) rfl sc_ends_at.nd (pi_list (pv 0)) (blkOk_by (N := N_ends_at) (sc := defScope s_ends_at) (by decide +kernel)) (fun _ _ _ _ _ => (pg_name (i := 2) sc_ends_at.nd rfl (.inl rfl))) (fun _ _ _ _ _ => (pts_one (pt_cmpR op_eq (pe_ix (ix_tupK K) (pv 2) pe_int (fun _ _ => rfl)) (pv 1) (nomark _)))) (fun _ _ _ _ _ => (pv 2))) pa_nil)) (pe_callB (call_len_seqK K) (by rfl) T.n_len (by decide +kernel) (pa_cons (pe_lc (own := [("tie", 2)]) (g := gName 2) rfl sc_ends_at.nd (pi_list (pv 0)) (blkOk_by (N := N_ends_at) (sc := defScope s_ends_at) (by decide +kernel)) (fun _ _ _ _ _ => (pg_name (i := 2) sc_ends_at.nd rfl (.inl rfl))) (fun _ _ _ _ _ => (pts_one (pt_cmpR op_eq (pe_ix (ix_tupK K) (pv 2) pe_int (fun _ _ => rfl)) (pv 1) (nomark _)))) (fun _ _ _ _ _ => (pv 2))) pa_nil))))), ?_⟩
  walk_at "gw"
  refine ⟨l, rfl, ⟨_, hS⟩, ?_⟩
  refine lcT (bs := ts) (seqs_listP (R := TbR K)) (fun t => decide (t.1 = r)) (fun _ _ _ => True) (fun _ _ _ _ _ _ => trivial) (fun H' e => ⟨vs, e.seq hS, paired_impH hvs fun t x r => r.mono (Ex.tu e)⟩) (by omega) (fun _ => rfl) ?_ ?_ (fun _ _ _ _ e r => r.mono (Ex.tu e)) ?_
  · rintro t x H' ht e ⟨p, xs, rfl, hp⟩ Q' q'
    walk_at "gw"
    refine w_ixT hp (atI_nat (j := 0) rfl) ?_
    walk_at "gw"
    refine q' _ _ (L2.Same.refl _) ?_
    show decide _ = decide _
    rw [Bool.eq_iff_iff, decide_eq_true_eq, decide_eq_true_eq]
    exact iN_eq
  · rintro t x H' ht e hx _ Q' q'
    walk_at "gw"
    exact q' _ _ (L2.Same.refl _) trivial
  intro l1 H1 ys n1 e1 hy py
  have l1' := Paired.length py
  walk_at "gw"
  refine ex_lenL (sqL_of hy) ?_
  walk_at "gw"
  refine ⟨l, rfl, ⟨_, e1.seq hS⟩, ?_⟩
  refine lcT (bs := ts) (seqs_listP (R := TbR K)) (fun t => decide (t.2.2 = r)) (fun _ _ _ => True) (fun _ _ _ _ _ _ => trivial) (fun H' e => ⟨vs, (e1.trans e).seq hS, paired_impH hvs fun t x r => r.mono (Ex.tu (e1.trans e))⟩) (by omega) (fun _ => rfl) ?_ ?_ (fun _ _ _ _ e r => r.mono (Ex.tu e)) ?_
  · rintro t x H' ht e ⟨p, xs, rfl, hp⟩ Q' q'
    walk_at "gw"
    refine w_ixT hp (atI_nat (j := 2) rfl) ?_
    walk_at "gw"
    refine q' _ _ (L2.Same.refl _) ?_
    show decide _ = decide _
    rw [Bool.eq_iff_iff, decide_eq_true_eq, decide_eq_true_eq]
    exact iN_eq
  · rintro t x H' ht e hx _ Q' q'
    walk_at "gw"
    exact q' _ _ (L2.Same.refl _) trivial
  intro l2 H2 zs n2 e2 hz pz
  have l2' := Paired.length pz
  walk_at "gw"
  refine ex_lenL (sqL_of hz) ?_
  walk_at "gw"
  refine q _ _ (e1.trans e2) ?_
  show V.int ((ys.length : Int) + (zs.length : Int)) = iN (endsAt ts r)
  unfold endsAt
  rw [l1', l2']
  rfl
end
end Gw

/-! ### webs: what is a tie, a web -/
namespace Gw
open PySem PySem.Spec PyProof.Rows L2 RT
theorem ty_sqT {K : PySem.W.Frag} {H : Hp} {p : Addr} {xs : List V} (h : SqT K H p xs) : TyX K H (.ref p) (.type "tuple") := by
  rcases h with (h | ⟨o, h⟩) | ⟨o, its, n, hk, hc, hd, hl, hr⟩
  · exact .base (.tup h)
  · exact .fTuple h
  · exact .kTuple hk hc
section
variable {P : Program} {w : World} {K : PySem.W.Frag} {mg : Str → Option Value} {base : Heap}
theorem isi {H : Hp} {Q : VK} {x : V} {a b : String} {r : Bool} (t : TyX K H x (.type a)) (k : kitB a b = some r) (q : Q (.bl r) H) : rIsi K [x, .ty b] H Q := ⟨_, _, _, _, r, rfl, .ty b, t, kit_ty k, q⟩
/-- a whole number from nought on, or none -/
def NumR (K : PySem.W.Frag) (H : Hp) (x : V) : Option Nat → Prop
  | some n => x = iN n
  | none => (∃ i : Int, x = .int i ∧ i < 0) ∨ (∃ b, x = .bl b) ∨ ∃ a, TyX K H x (.type a) ∧ kitB a "int" = some false
abbrev N_is_number : List Str := ["thing"]
theorem sc_is_number : FnScope ["thing"] ["thing"] (defScope s_is_number) := ⟨rfl, rfl, rfl, by decide +kernel, rfl, by decide +kernel, by decide +kernel⟩
theorem b_is_number : BindsT "is_number" s_is_number ["thing"] := fun _ _ _ _ _ _ us hl => match us, hl with | [_], _ => rfl
def sp_is_number (K : PySem.W.Frag) : Sp := fun vs H Q _ => ∃ p : V × Option Nat, vs = [p.1] ∧ NumR K H p.1 p.2 ∧ Ret H Q fun v _ => v = .bl p.2.isSome
theorem ok_is_number (T : Tx K mg) : Ok P w K mg base 1 "is_number" ["thing"] (sp_is_number K) := by
  refine Ok.of T.f_is_number sc_is_number b_is_number (fun vs H Q E h => by obtain ⟨a, rfl, _⟩ := h; rfl) (fun cdv A outer s H vs Q E hr h => ?_)
  obtain ⟨⟨x, r⟩, rfl, hx, q⟩ := h
  refine ⟨_, (pss_one (ps_ret (pe_and (pe_callB call_isi (by rfl) T.n_isinstance (by decide +kernel) (pa_cons (pv 0) (pa_cons (pe_bltn (v := .ty "int") (by rfl) T.n_int (by decide +kernel) rfl) pa_nil))) (pe_and (pe_not (pe_callB call_isi (by rfl) T.n_isinstance (by decide +kernel) (pa_cons (pv 0) (pa_cons (pe_bltn (v := .ty "bool") (by rfl) T.n_bool (by decide +kernel) rfl) pa_nil)))) (pe_one (pe_cmpR op_ge (pv 0) pe_int (nomark _))))))), ?_⟩
  walk_at "gw"
  cases r with
  | some n =>
    have hx : x = iN n := hx
    subst hx
    refine isi (.base (.int _)) (r := true) (by decide +kernel) ?_
    walk_at "gw"
    refine isi (.base (.int _)) (r := false) (by decide +kernel) ?_
    walk_at "gw"
    refine q _ _ (L2.Same.refl _) ?_
    show V.bl (decide ((0 : Int) ≤ (n : Int))) = .bl true
    rw [decide_eq_true (by omega)]
  | none =>
    rcases hx with ⟨i, rfl, hi⟩ | ⟨b, rfl⟩ | ⟨a, ht, hk⟩
    · refine isi (.base (.int _)) (r := true) (by decide +kernel) ?_
      walk_at "gw"
      refine isi (.base (.int _)) (r := false) (by decide +kernel) ?_
      walk_at "gw"
      refine q _ _ (L2.Same.refl _) ?_
      show V.bl (decide ((0 : Int) ≤ i)) = .bl false
      rw [decide_eq_false (by omega)]
    · refine isi (.base (.bl _)) (r := true) (by decide +kernel) ?_
      walk_at "gw"
      refine isi (.base (.bl _)) (r := true) (by decide +kernel) ?_
      walk_at "gw"
      exact q _ _ (L2.Same.refl _) rfl
    · refine isi ht hk ?_
      walk_at "gw"
      exact q _ _ (L2.Same.refl _) rfl
/-- a small letter, or none -/
def LetR (K : PySem.W.Frag) (H : Hp) (y : V) : Option Nat → Prop
  | some c => y = .str (sg c) ∧ 97 ≤ c ∧ c ≤ 122
  | none => (∃ z : Str, y = .str z ∧ z.length ≤ 1000 ∧ (z.length ≠ 1 ∨ ∃ c, z = sg c ∧ ¬ (97 ≤ c ∧ c ≤ 122))) ∨ ∃ a, TyX K H y (.type a) ∧ kitB a "str" = some false
/-- a tie, or none -/
def TieR (K : PySem.W.Frag) (H : Hp) (v : V) : Option T3 → Prop
  | some t => T3R K t v H ∧ 97 ≤ t.2.1 ∧ t.2.1 ≤ 122
  | none => (∃ a, TyX K H v (.type a) ∧ kitB a "tuple" = some false) ∨ (∃ p xs, v = .ref p ∧ SqT K H p xs ∧ xs.length ≠ 3) ∨
    ∃ p x y z rx ry rz, v = .ref p ∧ SqT K H p [x, y, z] ∧ NumR K H x rx ∧ LetR K H y ry ∧ NumR K H z rz ∧ (rx = none ∨ ry = none ∨ rz = none)
theorem NumR.mono {H H' : Hp} {x : V} {r : Option Nat} (h : NumR K H x r) (e : Ex H H') : NumR K H' x r := by
  cases r with
  | some n => exact h
  | none =>
    rcases h with h | h | ⟨a, h, k⟩
    · exact .inl h
    · exact .inr (.inl h)
    · exact .inr (.inr ⟨a, TyX.mono e h, k⟩)
theorem LetR.mono {H H' : Hp} {x : V} {r : Option Nat} (h : LetR K H x r) (e : Ex H H') : LetR K H' x r := by
  cases r with
  | some n => exact h
  | none =>
    rcases h with h | ⟨a, h, k⟩
    · exact .inl h
    · exact .inr ⟨a, TyX.mono e h, k⟩
theorem TieR.mono {H H' : Hp} {v : V} {r : Option T3} (h : TieR K H v r) (e : Ex H H') : TieR K H' v r := by
  cases r with
  | some t => exact ⟨h.1.mono (Ex.tu e), h.2⟩
  | none =>
    rcases h with ⟨a, h, k⟩ | ⟨p, xs, h1, h2, h3⟩ | ⟨p, x, y, z, rx, ry, rz, h1, h2, h3, h4, h5, h6⟩
    · exact .inl ⟨a, TyX.mono e h, k⟩
    · exact .inr (.inl ⟨p, xs, h1, e.sqT h2, h3⟩)
    · exact .inr (.inr ⟨p, x, y, z, rx, ry, rz, h1, e.sqT h2, h3.mono e, h4.mono e, h5.mono e, h6⟩)
abbrev N_is_tie : List Str := ["thing"]
theorem sc_is_tie : FnScope ["thing"] ["thing"] (defScope s_is_tie) := ⟨rfl, rfl, rfl, by decide +kernel, rfl, by decide +kernel, by decide +kernel⟩
theorem b_is_tie : BindsT "is_tie" s_is_tie ["thing"] := fun _ _ _ _ _ _ us hl => match us, hl with | [_], _ => rfl
def sp_is_tie (K : PySem.W.Frag) : Sp := fun vs H Q _ => ∃ p : V × Option T3, vs = [p.1] ∧ TieR K H p.1 p.2 ∧ Ret H Q fun v _ => v = .bl p.2.isSome
theorem ok_is_tie (T : Tx K mg) (G_is_number : Ok P w K mg base 1 "is_number" ["thing"] (sp_is_number K)) : Ok P w K mg base 2 "is_tie" ["thing"] (sp_is_tie K) := by
  refine Ok.of T.f_is_tie sc_is_tie b_is_tie (fun vs H Q E h => by obtain ⟨a, rfl, _⟩ := h; rfl) (fun cdv A outer s H vs Q E hr h => ?_)
  obtain ⟨⟨v, r⟩, rfl, hv, q⟩ := h
  have hv : TieR K H v r := hv
  refine ⟨_, (pss_cons (ps_if (PW.pt (pw_or (pt_not (pt_val (pe_callB call_isi (by rfl) T.n_isinstance (by decide +kernel) (pa_cons (pv 0) (pa_cons (pe_bltn (v := .ty "tuple") (by rfl) T.n_tuple (by decide +kernel) rfl) pa_nil))))) (pw_or (pt_cmpR op_ne (pe_callB (call_len_seqK K) (by rfl) T.n_len (by decide +kernel) (pa_cons (pv 0) pa_nil)) pe_int (nomark _)) (pw_or (pt_not (pt_val (pe_g G_is_number (hr.mono (by decide)) (by rfl) (pa_cons (pe_ix (ix_tupK K) (pv 0) pe_int (fun _ _ => rfl)) pa_nil)))) (pw_or1 (pt_not (pt_val (pe_g G_is_number (hr.mono (by decide)) (by rfl) (pa_cons (pe_ix (ix_tupK K) (pv 0) pe_int (fun _ _ => rfl)) pa_nil))))))))) (pss_one (ps_ret pe_bl)) pss_nil)
      (pss_one (ps_ret (pe_and (pe_callB call_isi (by rfl) T.n_isinstance (by decide +kernel) (pa_cons (pe_ix (ix_tupK K) (pv 0) pe_int (fun _ _ => rfl)) (pa_cons (pe_bltn (v := .ty "str") (by rfl) T.n_str (by decide +kernel) rfl) pa_nil))) (pe_and (pe_cmpR op_eq (pe_callB call_len_str (by rfl) T.n_len (by decide +kernel) (pa_cons (pe_ix (ix_tupK K) (pv 0) pe_int (fun _ _ => rfl)) pa_nil)) pe_int (nomark _)) (pe_one (pe_cmpR op_in_sign (pe_ix (ix_tupK K) (pv 0) pe_int (fun _ _ => rfl)) (pe_txt (by rfl) T.v_SMALL) (by rfl)))))))), ?_⟩
  have hc : (r = none ∧ ∃ a, TyX K H v (.type a) ∧ kitB a "tuple" = some false) ∨ (r = none ∧ ∃ p xs, v = .ref p ∧ SqT K H p xs ∧ xs.length ≠ 3) ∨
      ∃ p x y z rx ry rz, v = .ref p ∧ SqT K H p [x, y, z] ∧ NumR K H x rx ∧ LetR K H y ry ∧ NumR K H z rz ∧ r.isSome = (rx.isSome && ry.isSome && rz.isSome) := by
    cases r with
    | some t =>
      obtain ⟨⟨p, e, hp⟩, h1, h2⟩ := hv
      exact .inr (.inr ⟨p, _, _, _, some _, some _, some _, e, hp, rfl, ⟨rfl, h1, h2⟩, rfl, rfl⟩)
    | none =>
      rcases hv with h | h | ⟨p, x, y, z, rx, ry, rz, h1, h2, h3, h4, h5, h6⟩
      · exact .inl ⟨rfl, h⟩
      · exact .inr (.inl ⟨rfl, h⟩)
      · refine .inr (.inr ⟨p, x, y, z, rx, ry, rz, h1, h2, h3, h4, h5, ?_⟩)
        show false = _
        rcases h6 with h | h | h <;> rw [h] <;> simp
  walk_at "gw"
  rcases hc with ⟨rfl, a, ht, hk⟩ | ⟨rfl, p, xs, rfl, hp, hl⟩ | ⟨p, x, y, z, rx, ry, rz, rfl, hp, hx, hy, hz, hr⟩
  · refine isi ht hk ?_
    walk_at "gw"
    exact q _ _ (L2.Same.refl _) rfl
  · refine isi (ty_sqT hp) (r := true) (by decide +kernel) ?_
    walk_at "gw"
    refine ex_lenT hp ?_
    walk_at "gw"
    rw [show (!decide (V.int (xs.length : Int) = V.int 3)) = true from by rw [show decide (V.int (xs.length : Int) = V.int 3) = false from decide_eq_false (fun z => by injection z with z; omega)]; rfl]
    walk_at "gw"
    exact q _ _ (L2.Same.refl _) rfl
  · refine isi (ty_sqT hp) (r := true) (by decide +kernel) ?_
    walk_at "gw"
    refine ex_lenT hp ?_
    walk_at "gw"
    rw [show (!decide (V.int (([x, y, z] : List V).length : Int) = V.int 3)) = false from by rw [show decide (V.int (([x, y, z] : List V).length : Int) = V.int 3) = true from decide_eq_true rfl]; rfl]
    walk_at "gw"
    refine w_ixT hp (atI_nat (j := 0) rfl) ?_
    walk_at "gw"
    refine ⟨(x, rx), rfl, hx, ?_⟩
    rintro _ H1 e1 rfl
    cases rx with
    | none =>
      refine ⟨false, rfl, ?_⟩
      walk_at "gw"
      exact q _ _ e1 (by show _ = V.bl r.isSome; rw [hr]; rfl)
    | some a =>
    refine ⟨true, rfl, ?_⟩
    walk_at "gw"
    refine w_ixT (e1.sqT hp) (atI_nat (j := 2) rfl) ?_
    walk_at "gw"
    refine ⟨(z, rz), rfl, hz.mono e1, ?_⟩
    rintro _ H2 e2 rfl
    have e2 : Ex H H2 := e1.trans e2
    cases rz with
    | none =>
      refine ⟨false, rfl, ?_⟩
      walk_at "gw"
      exact q _ _ e2 (by show _ = V.bl r.isSome; rw [hr]; simp)
    | some b =>
    refine ⟨true, rfl, ?_⟩
    walk_at "gw"
    refine w_ixT (e2.sqT hp) (atI_nat (j := 1) rfl) ?_
    walk_at "gw"
    have hy : LetR K H2 y ry := hy.mono e2
    have hr' : r.isSome = ry.isSome := by rw [hr]; simp
    have fin : ∀ k : Bool, k = ry.isSome → Q (.bl k) H2 := fun k h => q _ _ e2 (by show _ = V.bl r.isSome; rw [h, hr'])
    cases ry with
    | some c =>
      obtain ⟨rfl, h1, h2⟩ : y = .str (sg c) ∧ 97 ≤ c ∧ c ≤ 122 := hy
      refine isi (.base (.str _)) (r := true) (by decide +kernel) ?_
      walk_at "gw"
      refine w_ixT (e2.sqT hp) (atI_nat (j := 1) rfl) ?_
      walk_at "gw"
      refine ex_lenS (by show 1 ≤ 16000000; decide) ?_
      walk_at "gw"
      rw [show decide (V.int ((sg c).length : Int) = V.int 1) = true from decide_eq_true rfl]
      walk_at "gw"
      refine w_ixT (e2.sqT hp) (atI_nat (j := 1) rfl) ?_
      walk_at "gw"
      rw [decide_eq_true (mem_small.mpr ⟨h1, h2⟩)]
      exact fin true rfl
    | none =>
      rcases hy with ⟨u, rfl, hl, hu⟩ | ⟨a, ht, hk⟩
      · refine isi (.base (.str _)) (r := true) (by decide +kernel) ?_
        walk_at "gw"
        refine w_ixT (e2.sqT hp) (atI_nat (j := 1) rfl) ?_
        walk_at "gw"
        refine ex_lenS (by omega) ?_
        walk_at "gw"
        rcases hu with hu | ⟨c, rfl, hc⟩
        · rw [show decide (V.int (u.length : Int) = V.int 1) = false from decide_eq_false (fun z => by injection z with z; omega)]
          exact fin _ rfl
        · rw [show decide (V.int ((sg c).length : Int) = V.int 1) = true from decide_eq_true rfl]
          walk_at "gw"
          refine w_ixT (e2.sqT hp) (atI_nat (j := 1) rfl) ?_
          walk_at "gw"
          rw [decide_eq_false (fun z => hc (mem_small.mp z))]
          exact fin _ rfl
      · refine isi ht hk ?_
        walk_at "gw"
        exact fin _ rfl
end
end Gw

/-! ### webs: what is a web -/
namespace Gw
open PySem PySem.Spec PyProof.Rows L2 RT
def isWebT (ts : List T3) : Bool :=
  decide ((stepsOf ts).length = 2 * ts.length) && ts.all (fun t => ahas (foundRooms ts) t.1 && ahas (foundRooms ts) t.2.2) &&
    (foundRooms ts).all (fun p => decide (p.1 = 0) || decide (2 ≤ endsAt ts p.1)) && decide (numberedT ts = ts)
/-- what is_web answers: a thing is no list, or a list of ties and others -/
def isWebA : Option (List (Option T3)) → Bool
  | none => false
  | some rs => rs.all Option.isSome && isWebT (rs.filterMap id)
def ThingR (K : PySem.W.Frag) (H : Hp) (v : V) : Option (List (Option T3)) → Prop
  | none => ∃ a, TyX K H v (.type a) ∧ kitB a "list" = some false
  | some rs => TyX K H v (.type "list") ∧ ∃ l vs, v = .ref l ∧ SqL K H l vs ∧ Paired (fun r x => TieR K H x r) rs vs
theorem paired_bl {β : Type} {f : β → Bool} : ∀ {rs : List β} {ys : List V}, Paired (fun r y => y = V.bl (f r)) rs ys → ys = (rs.map f).map V.bl
  | [], _, .nil => rfl
  | _ :: _, _, .cons a p => by rw [List.map_cons, List.map_cons, ← paired_bl p, a]
theorem tie_T3 {K : PySem.W.Frag} {H : Hp} : ∀ {rs : List (Option T3)} {vs : List V}, rs.all Option.isSome = true → Paired (fun r x => TieR K H x r) rs vs →
    Paired (fun t x => T3R K t x H) (rs.filterMap id) vs ∧ SmC3 (rs.filterMap id) ∧ (rs.filterMap id).length = rs.length
  | [], _, _, .nil => ⟨.nil, fun t h => by simp at h, rfl⟩
  | some t :: rs, _, h, .cons a p => by
    obtain ⟨h1, h2, h3⟩ := tie_T3 (rs := rs) (by rw [List.all_cons, Bool.and_eq_true] at h; exact h.2) p
    refine ⟨.cons a.1 h1, ?_, by show (t :: rs.filterMap id).length = _; rw [List.length_cons, List.length_cons, h3]⟩
    intro s hs
    rcases List.mem_cons.mp hs with rfl | hs
    · exact a.2
    · exact h2 s hs
  | none :: _, _, h, _ => by simp at h
section
variable {P : Program} {w : World} {K : PySem.W.Frag} {mg : Str → Option Value} {base : Heap}
abbrev N_is_web : List Str := ["thing", "rooms", "tie", "room"]
theorem sc_is_web : FnScope ["thing", "rooms", "tie", "room"] ["thing"] (defScope s_is_web) := ⟨rfl, rfl, rfl, by decide +kernel, rfl, by decide +kernel, by decide +kernel⟩
theorem b_is_web : BindsT "is_web" s_is_web ["thing"] := fun _ _ _ _ _ _ us hl => match us, hl with | [_], _ => rfl
def sp_is_web (K : PySem.W.Frag) : Sp := fun vs H Q _ => ∃ p : V × Option (List (Option T3)), vs = [p.1] ∧ ThingR K H p.1 p.2 ∧ (∀ rs, p.2 = some rs → rs.length ≤ 3000) ∧ Ret H Q fun v _ => v = .bl (isWebA p.2)
theorem ok_is_web (T : Tx K mg) (G_is_tie : Ok P w K mg base 2 "is_tie" ["thing"] (sp_is_tie K)) (G_steps_of : Ok P w K mg base 2 "steps_of" ["ties"] (sp_steps_of K)) (G_found_rooms : Ok P w K mg base 3 "found_rooms" ["ties"] (sp_found_rooms K)) (G_ends_at : Ok P w K mg base 1 "ends_at" ["ties", "room"] (sp_ends_at K)) (G_numbered : Ok P w K mg base 4 "numbered" ["ties"] (sp_numbered K)) : Ok P w K mg base 5 "is_web" ["thing"] (sp_is_web K) := by
  refine Ok.of T.f_is_web sc_is_web b_is_web (fun vs H Q E h => by obtain ⟨a, rfl, _⟩ := h; rfl) (fun cdv A outer s H vs Q E hr h => ?_)
  obtain ⟨⟨v, r⟩, rfl, hv, hlen, q⟩ := h
  have hv : ThingR K H v r := hv
  refine ⟨_, (pss_cons (ps_if (PW.pt (pw_or (pt_not (pt_val (pe_callB call_isi (by rfl) T.n_isinstance (by decide +kernel) (pa_cons (pv 0) (pa_cons (pe_bltn (v := .ty "list") (by rfl) T.n_list (by decide +kernel) rfl) pa_nil))))) (pw_or1 (pt_not (pt_val (pe_callB (cr_all rfl) (by rfl) T.n_all (by decide +kernel) (pa_cons (pe_lc (own := [("tie", 2)]) (g := gName 2) (tt := tYes) rfl sc_is_web.nd (pi_list (pv 0)) (blkOk_by (N := N_is_web) (sc := defScope s_is_web) (by decide +kernel)) (fun _ _ _ _ _ => (pg_name (i := 2) sc_is_web.nd rfl (.inl rfl))) (fun _ _ _ _ _ => pts_nil) (fun _ _ _ _ _ => (pe_g G_is_tie (hr.mono (by decide)) (by rfl) (pa_cons (pv 2) pa_nil)))) pa_nil))))))) (pss_one (ps_ret pe_bl)) pss_nil)
      (pss_cons (ps_if (pt_cmpR op_ne (pe_callB call_len_dT (by rfl) T.n_len (by decide +kernel) (pa_cons (pe_g G_steps_of (hr.mono (by decide)) (by rfl) (pa_cons (pv 0) pa_nil)) pa_nil)) (pe_op op_mul pe_int (pe_callB (call_len_seqK K) (by rfl) T.n_len (by decide +kernel) (pa_cons (pv 0) pa_nil))) (nomark _)) (pss_one (ps_ret pe_bl)) pss_nil)
      (pss_cons (ps_set (i := 1) sc_is_web.nd rfl (.inl rfl) (pe_g G_found_rooms (hr.mono (by decide)) (by rfl) (pa_cons (pv 0) pa_nil)))
      (pss_cons (ps_for PassesOwn.never rfl (pi_list (pv 0)) (pg_name (i := 2) sc_is_web.nd rfl (.inl rfl)) (pss_one (ps_if (PW.pt (pw_or (pt_cmp (pc_dnotin (hu_of hr) (pe_ix (ix_tupK K) (pv 2) pe_int (fun _ _ => rfl)) (pv 1))) (pw_or1 (pt_cmp (pc_dnotin (hu_of hr) (pe_ix (ix_tupK K) (pv 2) pe_int (fun _ _ => rfl)) (pv 1)))))) (pss_one (ps_ret pe_bl)) pss_nil)))
      (pss_cons (ps_for PassesOwn.never rfl (pi_keysN (pv 1)) (pg_name (i := 3) sc_is_web.nd rfl (.inl rfl)) (pss_one (ps_if (PW.pt (pw_and (pt_cmpR op_ne (pv 3) pe_int (nomark _)) (pw_and1 (pt_cmpR op_lt (pe_g G_ends_at (hr.mono (by decide)) (by rfl) (pa_cons (pv 0) (pa_cons (pv 3) pa_nil))) pe_int (nomark _))))) (pss_one (ps_ret pe_bl)) pss_nil)))
      (pss_one (ps_ret (pe_cmpR (op_eqDK K hr.units) (pe_g G_numbered (hr.mono (by decide)) (by rfl) (pa_cons (pv 0) pa_nil)) (pv 0) (nomark _))))))))), ?_⟩
  walk_at "gw"
  cases r with
  | none =>
    obtain ⟨a, ht, hk⟩ := hv
    refine isi ht hk ?_
    walk_at "gw"
    exact q _ _ (L2.Same.refl _) rfl
  | some rs =>
  obtain ⟨hty, l, vs, rfl, hS, hvs⟩ := hv
  have hlen : rs.length ≤ 3000 := hlen rs rfl
  refine isi hty (r := true) (by decide +kernel) ?_
  walk_at "gw"
  refine ⟨l, rfl, ⟨_, hS⟩, ?_⟩
  refine lcN (bs := rs) (seqs_listP (R := fun r x H => TieR K H x r)) (fun r y _ => y = .bl r.isSome) (fun _ _ _ _ _ r => r) (fun H' e => ⟨vs, e.seq hS, paired_impH hvs fun t x r => r.mono e⟩) (by omega) (fun _ => rfl) ?_ (fun _ _ _ _ e r => r.mono e) ?_
  · rintro t x H5 ht e5 hx Q' q'
    walk_at "gw"
    refine ⟨(x, t), rfl, hx, ?_⟩
    rintro _ H6 e6 rfl
    exact q' _ _ e6 rfl
  · intro l1 H1 ys n1 e1 hy py
    walk_at "gw"
    have ey : ys = (rs.map Option.isSome).map V.bl := paired_bl py
    subst ey
    refine ⟨l1, rs.map Option.isSome, rfl, sqL_of hy, ?_⟩
    walk_at "gw"
    rw [show (rs.map Option.isSome).all id = rs.all Option.isSome from by rw [List.all_map]; rfl]
    cases hal : rs.all Option.isSome with
    | false =>
      exact q _ _ e1 (by show _ = V.bl (rs.all Option.isSome && _); rw [hal]; rfl)
    | true =>
    walk_at "gw"
    obtain ⟨hT, hsm, hlT⟩ := tie_T3 hal hvs
    have hans : isWebA (some rs) = isWebT (rs.filterMap id) := by show (rs.all Option.isSome && _) = _; rw [hal]; rfl
    generalize htd : rs.filterMap id = ts at hT hsm hlT hans
    have lts : ts.length ≤ 3000 := by omega
    have fin : ∀ b v' H', Ex H H' → v' = V.bl b → b = isWebT ts → Q v' H' := fun b v' H' e h h' => q _ _ e (by show _ = V.bl (isWebA (some rs)); rw [hans, h, h'])
    have hTb : ∀ H', Ex H H' → LstR K (TbR K) ts (.ref l) H' := fun H' e => ⟨l, vs, rfl, e.seq hS, paired_impH hT fun t x r => (r.mono (Ex.tu e)).tb⟩
    refine ⟨(.ref l, ts), rfl, hTb _ e1, (by show ts.length ≤ _; omega), hsm, ?_⟩
    rintro _ H2 e2 ⟨d, rfl, nd, hd⟩
    have e2 : Ex H H2 := e1.trans e2
    obtain ⟨ws, hd1, hd2⟩ : DctR natR (stepsOf ts) d H2 := hd
    have hd3 := Paired.length hd2
    refine ⟨d, ws, rfl, hd1, ?_⟩
    walk_at "gw"
    refine ex_lenL (e2.seq hS) ?_
    walk_at "gw"
    have lvs : vs.length = ts.length := (Paired.length hT).symm
    by_cases hst : (stepsOf ts).length = 2 * ts.length
    case neg =>
      rw [show decide (V.int (ws.length : Int) = V.int (2 * (vs.length : Int))) = false from decide_eq_false fun z => by injection z with z; omega]
      walk_at "gw"
      exact fin false _ _ e2 rfl (by unfold isWebT; rw [decide_eq_false hst]; rfl)
    rw [show decide (V.int (ws.length : Int) = V.int (2 * (vs.length : Int))) = true from decide_eq_true (by congr 1; omega)]
    walk_at "gw"
    refine ⟨(.ref l, ts), rfl, hTb _ e2, lts, hsm, ?_⟩
    rintro _ H3 e3 ⟨dF, rfl, nF, hF⟩
    have e3 : Ex H H3 := e2.trans e3
    have hF : H3 dF = some (.dK (encF (foundRooms ts))) := hF
    have fok := foundRooms_ok ts
    walk_at "gw"
    refine ⟨l, rfl, ⟨_, e3.seq hS⟩, ?_⟩
    refine forS (bs := ts) (seqs_listP (R := TbR K)) (fun pre σ' H' => ∃ y2 y3, σ' = [some (.ref l), some (.ref dF), y2, y3] ∧ Ex H3 H' ∧ ∀ t ∈ pre, (ahas (foundRooms ts) t.1 && ahas (foundRooms ts) t.2.2) = true)
      ⟨_, _, rfl, L2.Same.refl _, fun t h => by cases h⟩ (fun _ _ H' ⟨_, _, _, e, _⟩ => ⟨vs, (e3.trans e).seq hS, paired_impH hT fun t x r => (r.mono (Ex.tu (e3.trans e))).tb⟩) ?_ ?_
    · rintro pre t post x σ' H4 H5 e ⟨y2, y3, rfl, ex, hp⟩ e5 ⟨p, xs, rfl, hx⟩
      have hti : t ∈ ts := by rw [e]; simp
      walk_at "gw"
      have get : ∀ g : Nat, ∀ H6, Ex H5 H6 → DGet H6 dF (iN g) ((aget (foundRooms ts) g).map fun u => V.str (tx u)) := fun g H6 e6 => by
        have z := DGet.k (k := .inl (g : Int)) (e6 _ _ (e5 _ _ (ex _ _ hF)))
        rw [encF_get] at z
        exact z
      have eh : Ex H H5 := (e3.trans ex).trans e5
      have bad : (ahas (foundRooms ts) t.1 && ahas (foundRooms ts) t.2.2) = false → false = isWebT ts := fun z => by
        have : ts.all (fun t => ahas (foundRooms ts) t.1 && ahas (foundRooms ts) t.2.2) = false := by
          rw [List.all_eq_false]
          exact ⟨t, hti, by rw [z]; decide⟩
        unfold isWebT
        rw [this]
        simp
      refine w_ixT hx (atI_nat (j := 0) rfl) ?_
      walk_at "gw"
      refine ⟨dF, _, rfl, get _ _ (L2.Same.refl _), _, rfl, ?_⟩
      rw [Option.isSome_map, ← ahas_get]
      cases h1 : ahas (foundRooms ts) t.1 with
      | false =>
        walk_at "gw"
        exact fin false _ _ eh rfl (bad (by rw [h1]; rfl))
      | true =>
      walk_at "gw"
      refine w_ixT hx (atI_nat (j := 2) rfl) ?_
      walk_at "gw"
      refine ⟨dF, _, rfl, get _ _ (L2.Same.refl _), _, rfl, ?_⟩
      rw [Option.isSome_map, ← ahas_get]
      cases h2 : ahas (foundRooms ts) t.2.2 with
      | false =>
        walk_at "gw"
        exact fin false _ _ eh rfl (bad (by rw [h2]; simp))
      | true =>
      walk_at "gw"
      refine ⟨_, _, rfl, ex.trans e5, fun s hs => ?_⟩
      rcases List.mem_append.mp hs with hs | hs
      · exact hp s hs
      · rw [List.mem_singleton.mp hs, h1, h2]
        rfl
    rintro σ' H4 ⟨y2, y3, rfl, e4, hin⟩
    have hF4 : H4 dF = some (.dK (encF (foundRooms ts))) := e4 _ _ hF
    have e4 : Ex H H4 := e3.trans e4
    have hall : AllIn ts := fun t ht => by
      have := hin t ht
      rw [Bool.and_eq_true, ahas_mem, ahas_mem] at this
      exact this
    walk_at "gw"
    refine ⟨dF, rfl, .inl ⟨_, hF4, fun o H5 c5 => ?_⟩⟩
    have nF0 : H dF = none := by
      cases hh : H dF with
      | none => rfl
      | some o => have := e2 _ _ hh; rw [nF] at this; cases this
    have e5 : Ex H H5 := c5.ex e4 nF0
    refine forS (bs := foundRooms ts) (Seqs.of_map (f := fun p => ((.inl (p.1 : Int) : Key), V.str (tx p.2))) seqs_keys) (fun pre σ' H' => ∃ y2 y3, σ' = [some (.ref l), some (.ref dF), y2, y3] ∧ Ex H H' ∧ H' dF = some (.frz o (.dK (encF (foundRooms ts)))) ∧ ∀ p ∈ pre, (decide (p.1 = 0) || decide (2 ≤ endsAt ts p.1)) = true)
      ⟨_, _, rfl, e5, c5.at_, fun t h => by cases h⟩ (fun _ _ H' ⟨_, _, _, _, h, _⟩ => h) ?_ ?_
    · rintro pre p post x σ' H6 H7 e ⟨y2, y3, rfl, ex, hf, hp⟩ e7' rfl
      have hpi : p ∈ foundRooms ts := by rw [e]; simp
      walk_at "gw"
      have e7 : Ex H H7 := ex.trans e7'
      have nx : (decide (p.1 = 0) || decide (2 ≤ endsAt ts p.1)) = true → ∀ q ∈ pre ++ [p], (decide (q.1 = 0) || decide (2 ≤ endsAt ts q.1)) = true := fun h q hq => by
        rcases List.mem_append.mp hq with hq | hq
        · exact hp q hq
        · rw [List.mem_singleton.mp hq]
          exact h
      have hf7 : H7 dF = some (.frz o (.dK (encF (foundRooms ts)))) := e7' _ _ hf
      show if (!decide (V.int (p.1 : Int) = V.int 0)) = true then _ else _
      by_cases hz : p.1 = 0
      · rw [show decide (V.int (p.1 : Int) = V.int 0) = true from decide_eq_true (by rw [hz]; rfl)]
        walk_at "gw"
        exact ⟨_, _, rfl, e7, hf7, nx (by rw [decide_eq_true hz]; rfl)⟩
      · rw [show decide (V.int (p.1 : Int) = V.int 0) = false from decide_eq_false (fun z => by injection z with z; omega)]
        walk_at "gw"
        refine ⟨(.ref l, ts, p.1), rfl, hTb _ e7, (by show ts.length ≤ _; omega), ?_⟩
        rintro _ H8 e8 rfl
        have e8h : Ex H H8 := e7.trans e8
        walk_at "gw"
        by_cases h2 : 2 ≤ endsAt ts p.1
        · rw [show decide (((endsAt ts p.1 : Nat) : Int) < 2) = false from decide_eq_false (by omega)]
          walk_at "gw"
          exact ⟨_, _, rfl, e8h, e8 _ _ hf7, nx (by rw [decide_eq_true h2]; simp)⟩
        · rw [show decide (((endsAt ts p.1 : Nat) : Int) < 2) = true from decide_eq_true (by omega)]
          walk_at "gw"
          refine fin false _ _ e8h rfl ?_
          have : (foundRooms ts).all (fun p => decide (p.1 = 0) || decide (2 ≤ endsAt ts p.1)) = false := by
            rw [List.all_eq_false]
            exact ⟨p, hpi, by rw [decide_eq_false hz, decide_eq_false h2]; decide⟩
          unfold isWebT
          rw [this]
          simp
    rintro σ' H6 ⟨y2, y3, rfl, ex, hf, hp⟩
    walk_at "gw"
    refine ⟨(.ref l, ts), rfl, hTb _ ex, lts, hsm, hall, ?_⟩
    rintro _ H7 e7 ⟨l7, vs7, rfl, n7, h7, p7⟩
    have e7 : Ex H H7 := ex.trans e7
    walk_at "gw"
    refine ⟨.list ((numberedT ts).map encT3), .list (ts.map encT3), .lst (sqL_of h7) (dpAll_of (fun b x r => dp_T3 r) p7), .lst (e7.seq hS) (dpAll_of (fun b x r => dp_T3 (r.mono (Ex.tu e7))) hT), (Shd.list (n := 1) fun d hd => ?_).shaped, (Shd.list (n := 1) fun d hd => ?_).shaped, ?_⟩
    · obtain ⟨t, ht, rfl⟩ := List.mem_map.mp hd
      refine shd_T3 ?_
      unfold numberedT at ht
      rw [List.mem_mergeSort] at ht
      obtain ⟨u, hu, rfl⟩ := List.mem_map.mp ht
      have := (hsm u hu).2
      show u.2.1 < _
      omega
    · obtain ⟨t, ht, rfl⟩ := List.mem_map.mp hd
      refine shd_T3 ?_
      have := (hsm t ht).2
      omega
    rw [eqv_list eqv_T3]
    refine fin _ _ _ e7 rfl ?_
    unfold isWebT
    rw [decide_eq_true hst, List.all_eq_true.mpr (fun t ht => hin t ht), List.all_eq_true.mpr (fun p h => hp p h)]
    rfl
end
end Gw

/-! ### webs: need_web, reads -/
namespace Gw
open PySem PySem.Spec PyProof.Rows L2 RT
theorem isWebA_true {r : Option (List (Option T3))} (h : isWebA r = true) : ∃ ts : List T3, r = some (ts.map some) ∧ isWebT ts = true := by
  cases r with
  | none => cases h
  | some rs =>
    replace h : (rs.all Option.isSome && isWebT (rs.filterMap id)) = true := h
    rw [Bool.and_eq_true] at h
    refine ⟨rs.filterMap id, ?_, h.2⟩
    have h1 := h.1
    congr 1
    clear h
    revert h1
    induction rs with
    | nil => exact fun _ => rfl
    | cons x rs ih =>
      intro h1
      rw [List.all_cons, Bool.and_eq_true] at h1
      cases x with
      | none => cases h1.1
      | some t =>
        show _ = some t :: (rs.filterMap id).map some
        rw [← ih h1.2]
theorem ThingR.some_of {K : PySem.W.Frag} {H : Hp} {v : V} {ts : List T3} (h : ThingR K H v (some (ts.map some))) : LstR K (T3R K) ts v H ∧ SmC3 ts := by
  obtain ⟨_, l, vs, rfl, hS, hvs⟩ := h
  obtain ⟨h1, h2, _⟩ := tie_T3 (by rw [List.all_map, List.all_eq_true]; intro x _; rfl) hvs
  have e : (ts.map some).filterMap id = ts := by rw [List.filterMap_map]; exact List.filterMap_some ..
  rw [e] at h1 h2
  exact ⟨⟨l, vs, rfl, hS, h1⟩, h2⟩
theorem ThingR.mono {K : PySem.W.Frag} {H H' : Hp} {v : V} {r : Option (List (Option T3))} (h : ThingR K H v r) (e : Ex H H') : ThingR K H' v r := by
  cases r with
  | none =>
    obtain ⟨a, h, k⟩ := h
    exact ⟨a, TyX.mono e h, k⟩
  | some rs =>
    obtain ⟨t, l, vs, e1, h1, h2⟩ := h
    exact ⟨TyX.mono e t, l, vs, e1, e.seq h1, paired_impH h2 fun _ _ r => r.mono e⟩
theorem LstR.tb3 {K : PySem.W.Frag} {H : Hp} {v : V} {ts : List T3} (h : LstR K (T3R K) ts v H) : LstR K (TbR K) ts v H := by
  obtain ⟨l, vs, e1, h1, h2⟩ := h
  exact ⟨l, vs, e1, h1, paired_impH h2 fun _ _ r => r.tb⟩
theorem LstR.mono3 {K : PySem.W.Frag} {ts : List T3} {v : V} {H H' : Hp} (h : LstR K (T3R K) ts v H) (e : Ex H H') : LstR K (T3R K) ts v H' := by
  obtain ⟨l, vs, e1, h1, h2⟩ := h
  exact ⟨l, vs, e1, e.seq h1, paired_impH h2 fun t x r => r.mono (Ex.tu e)⟩
section
variable {P : Program} {w : World} {K : PySem.W.Frag} {mg : Str → Option Value} {base : Heap}
/-- a web is refused -/
abbrev NoWeb (K : PySem.W.Frag) (H : Hp) (E : XK) : Prop := ∀ H', Ex H H' → E (.ref (He.ga K "BadWeb")) none H'
abbrev N_need_web : List Str := ["thing"]
theorem sc_need_web : FnScope ["thing"] ["thing"] (defScope s_need_web) := ⟨rfl, rfl, rfl, by decide +kernel, rfl, by decide +kernel, by decide +kernel⟩
theorem b_need_web : BindsT "need_web" s_need_web ["thing"] := fun _ _ _ _ _ _ us hl => match us, hl with | [_], _ => rfl
def sp_need_web (K : PySem.W.Frag) : Sp := fun vs H Q E => ∃ p : V × Option (List (Option T3)), vs = [p.1] ∧ ThingR K H p.1 p.2 ∧ (∀ rs, p.2 = some rs → rs.length ≤ 3000) ∧ (isWebA p.2 = true → Ret H Q fun v _ => v = .non) ∧ (isWebA p.2 = false → NoWeb K H E)
theorem ok_need_web (T : Tx K mg) (G_is_web : Ok P w K mg base 5 "is_web" ["thing"] (sp_is_web K)) : Ok P w K mg base 6 "need_web" ["thing"] (sp_need_web K) := by
  refine Ok.ofX T.f_need_web sc_need_web b_need_web (fun vs H Q E h => by obtain ⟨a, rfl, _⟩ := h; rfl) (fun cdv A outer s H vs Q E hr h => ?_)
  obtain ⟨⟨v, r⟩, rfl, hv, hl, q, qe⟩ := h
  refine ⟨_, (pss_one (ps_if (pt_not (pt_val (pe_g G_is_web (hr.mono (by decide)) (by rfl) (pa_cons (pv 0) pa_nil)))) (pss_one (L2N.ps_raise rfl (L2N.takes_of rfl rfl rfl rfl) (L2N.pmk_own PySem.F.excBase_ValueError T.x_BadWeb.1 T.g_BadWeb T.x_BadWeb.2.1 (raises_own T.x_BadWeb.2.2.1 T.x_BadWeb.2.2.2) rfl))) pss_nil)), ?_⟩
  walk_at "gw"
  refine ⟨(v, r), rfl, hv, hl, ?_⟩
  rintro _ H1 e1 rfl
  cases hr : isWebA r with
  | false =>
    walk_at "gw"
    exact qe hr H1 e1
  | true =>
    walk_at "gw"
    exact q hr _ _ e1 rfl
abbrev N_reads : List Str := ["web", "word"]
theorem sc_reads : FnScope ["web", "word"] ["web", "word"] (defScope s_reads) := ⟨rfl, rfl, rfl, by decide +kernel, rfl, by decide +kernel, by decide +kernel⟩
theorem b_reads : BindsT "reads" s_reads ["web", "word"] := fun _ _ _ _ _ _ us hl => match us, hl with | [_, _], _ => rfl
def sp_reads (K : PySem.W.Frag) : Sp := fun vs H Q E => ∃ p : (V × Option (List (Option T3))) × (V × Option (List Nat)), vs = [p.1.1, p.2.1] ∧ ThingR K H p.1.1 p.1.2 ∧ (∀ rs, p.1.2 = some rs → rs.length ≤ 3000) ∧ IsW K H p.2.1 p.2.2 ∧
  (∀ ts u, p.1.2 = some (ts.map some) → isWebT ts = true → p.2.2 = some u → Ret H Q fun v _ => v = .bl (decide (ledT ts (sh u) = some 0))) ∧ (isWebA p.1.2 = false → NoWeb K H E) ∧ (isWebA p.1.2 = true → p.2.2 = none → NoWord K H E)
theorem ok_reads (T : Tx K mg) (G_need_web : Ok P w K mg base 6 "need_web" ["thing"] (sp_need_web K)) (G_need_word : Ok P w K mg base 2 "need_word" ["thing"] (sp_need_word K)) (G_shortened : Ok P w K mg base 2 "shortened" ["word"] sp_shortened) (G_led : Ok P w K mg base 3 "led" ["ties", "word"] (sp_led K)) : Ok P w K mg base 7 "reads" ["web", "word"] (sp_reads K) := by
  refine Ok.ofX T.f_reads sc_reads b_reads (fun vs H Q E h => by obtain ⟨a, rfl, _⟩ := h; rfl) (fun cdv A outer s H vs Q E hr h => ?_)
  obtain ⟨⟨⟨v, r⟩, x, u⟩, rfl, hv, hl, hx, q, qe, qw⟩ := h
  refine ⟨_, (pss_cons (ps_expr (pe_gx G_need_web (hr.mono (by decide)) (by rfl) (L2N.takes_of rfl rfl rfl rfl) (pa_cons (pv 0) pa_nil)))
      (pss_cons (ps_expr (pe_gx G_need_word (hr.mono (by decide)) (by rfl) (L2N.takes_of rfl rfl rfl rfl) (pa_cons (pv 1) pa_nil)))
      (pss_one (ps_ret (pe_cmpR (op_eqDK K hr.units) (pe_g G_led (hr.mono (by decide)) (by rfl) (pa_cons (pv 0) (pa_cons (pe_g G_shortened (hr.mono (by decide)) (by rfl) (pa_cons (pv 1) pa_nil)) pa_nil))) pe_int (nomark _)))))), ?_⟩
  walk_at "gw"
  refine ⟨(v, r), rfl, hv, hl, fun hr => ?_, qe⟩
  rintro _ H1 e1 rfl
  obtain ⟨ts, rfl, hw⟩ := isWebA_true hr
  have hl : ts.length ≤ 3000 := by simpa using hl _ rfl
  walk_at "gw"
  refine ⟨(x, u), rfl, hx.mono e1, ?_, fun hu H' e' => qw hr hu H' (e1.trans e')⟩
  rintro u hu _ H2 e2 rfl
  have hu := hu
  subst hu
  obtain ⟨rfl, hal, hlu⟩ := IsW.some_of hx
  have e2 : Ex H H2 := e1.trans e2
  obtain ⟨hT, hs⟩ := hv.some_of
  walk_at "gw"
  refine ⟨u, rfl, hal, hlu, ?_⟩
  rintro _ H3 e3 rfl
  have e3 : Ex H H3 := e2.trans e3
  walk_at "gw"
  refine ⟨(v, ts, sh u), rfl, (hT.mono3 e3).tb3, by show ts.length ≤ _; omega, hs, ?_⟩
  rintro _ H4 e4 rfl
  have e4 : Ex H H4 := e3.trans e4
  walk_at "gw"
  show rEqD K (roomV (ledT ts (sh u))) (V.int 0) H4 _
  cases hr2 : ledT ts (sh u) with
  | none =>
    refine ⟨.none, .int 0, .non, .int 0, (Shd.non (n := 0)).shaped, (Shd.int (n := 0)).shaped, ?_⟩
    refine q ts u rfl hw rfl _ _ e4 ?_
    show _ = V.bl (decide (ledT ts (sh u) = some 0))
    rw [hr2]
    rfl
  | some g =>
    refine ⟨.int (g : Int), .int 0, .int _, .int 0, (Shd.int (n := 0)).shaped, (Shd.int (n := 0)).shaped, ?_⟩
    refine q ts u rfl hw rfl _ _ e4 ?_
    show _ = V.bl (decide (ledT ts (sh u) = some 0))
    rw [hr2, eqv_int]
    congr 1
    rw [Bool.eq_iff_iff, decide_eq_true_eq, decide_eq_true_eq]
    exact ⟨fun z => by congr 1; omega, fun z => by injection z with z; omega⟩
end
end Gw

/-! ### webs: few -/
namespace Gw
open PySem PySem.Spec PyProof.Rows L2 RT
theorem tx_inj' {a b : List Nat} (h : tx a = tx b) : a = b := by
  have := congrArg (fun s : Str => s.cps.toList) h
  simpa [tx] using this
theorem lettersOf_small {ts : List T3} {c : Nat} (h : c ∈ lettersOf ts) : 97 ≤ c ∧ c ≤ 122 := by
  unfold lettersOf at h
  obtain ⟨i, hi, rfl⟩ := List.mem_map.mp (List.mem_filter.mp h).1
  have := List.mem_range.mp hi
  omega
def WaysAL (f : Found) : Prop := ∀ p ∈ f, AL p.2
theorem tryL_AL {st : Nat → Nat → Option Nat} {r c : Nat} {way : List Nat} {f : Found} (h : WaysAL f) (hw : AL way) (hc : isL c = true) : WaysAL (tryL st r way f c) := by
  unfold tryL
  dsimp only
  split
  · exact h
  · intro p hp
    rcases List.mem_append.mp hp with hp | hp
    · exact h p hp
    · rw [List.mem_singleton.mp hp]
      exact hw.app (AL.cons hc AL.nil)
theorem tryRoom_AL {st : Nat → Nat → Option Nat} {r : Nat} {way : List Nat} : ∀ {ls : List Nat} {f : Found}, (∀ c ∈ ls, isL c = true) → WaysAL f → AL way → WaysAL (tryRoom st ls f r way)
  | [], _, _, h, _ => h
  | c :: ls, f, hl, h, hw => by
    have hc := hl c List.mem_cons_self
    exact tryRoom_AL (ls := ls) (f := tryBoth st r way f c) (fun d hd => hl d (List.mem_cons_of_mem _ hd)) (tryL_AL (tryL_AL h hw hc) hw (bk_L hc)) hw
theorem bfs_AL {st : Nat → Nat → Option Nat} {ls : List Nat} (hl : ∀ c ∈ ls, isL c = true) : ∀ (n i : Nat) (f : Found), WaysAL f → WaysAL (bfs st ls n i f)
  | 0, _, _, h => h
  | n + 1, i, f, h => by
    unfold bfs
    cases q : f[i]? with
    | none => exact h
    | some p => exact bfs_AL hl n (i + 1) _ (tryRoom_AL hl h (h p (List.mem_of_getElem? q)))
theorem foundRooms_AL (ts : List T3) : WaysAL (foundRooms ts) := bfs_AL (fun c h => isL_iff.mpr (.inl (lettersOf_small h))) _ _ _ (fun p hp => by rw [List.mem_singleton.mp hp]; exact AL.nil)
theorem aget_memF {f : Found} {g : Nat} {u : List Nat} (h : aget f g = some u) : (g, u) ∈ f := by
  induction f with
  | nil => cases h
  | cons p f ih =>
    unfold aget at h
    by_cases e : p.1 = g
    · simp [e] at h
      rw [← h, ← e]
      exact List.mem_cons_self
    · simp [e] at h
      exact List.mem_cons_of_mem _ (ih (by simpa using h))
theorem wayT_ok (ts : List T3) (r : Nat) : AL (wayT ts r) ∧ (wayT ts r).length ≤ 2 * ts.length + 1 := by
  unfold wayT
  cases h : aget (foundRooms ts) r with
  | none => exact ⟨AL.nil, Nat.zero_le _⟩
  | some u =>
    have hm := aget_memF h
    refine ⟨foundRooms_AL ts _ hm, ?_⟩
    obtain ⟨i, hi⟩ := List.getElem?_of_mem hm
    have fok := foundRooms_ok ts
    have h1 := fok.way i _ hi
    have h2 := fok.len
    have h3 := goalsOf_len ts
    have h4 := (List.getElem?_eq_some_iff.mp hi).1
    show u.length ≤ _
    have h1 : u.length ≤ i := h1
    omega
section
variable {P : Program} {w : World} {K : PySem.W.Frag} {mg : Str → Option Value} {base : Heap}
end
end Gw

/-! ### a web's ties are folded. Plain. -/
namespace Gw
theorem small_L {c : Nat} (h : 97 ≤ c ∧ c ≤ 122) : isL c = true ∧ smallL c = true := ⟨isL_iff.mpr (.inl h), decide_eq_true h⟩
theorem nodup_lenG {α : Type} [DecidableEq α] : ∀ (l D : List α), l.Nodup → (∀ x ∈ l, x ∈ D) → l.length ≤ D.length
  | [], _, _, _ => Nat.zero_le _
  | x :: l, D, h, hs => by
    have hx := hs x List.mem_cons_self
    have h1 := List.length_erase_of_mem hx
    have h2 := List.nodup_cons.mp h
    have h3 := nodup_lenG l (D.erase x) h2.2 fun y hy => (List.mem_erase_of_ne (fun z => h2.1 (by rw [← z]; exact hy))).mpr (hs y (List.mem_cons_of_mem _ hy))
    have h4 := List.length_pos_of_mem hx
    rw [List.length_cons]
    omega
theorem len_nodup {α : Type} [DecidableEq α] : ∀ (L ks : List α), ks.Nodup → (∀ x, x ∈ ks ↔ x ∈ L) → (ks.length = L.length ↔ L.Nodup)
  | [], ks, _, h => by
    refine ⟨fun _ => List.nodup_nil, fun _ => ?_⟩
    cases ks with
    | nil => rfl
    | cons a _ => exact absurd ((h a).mp List.mem_cons_self) (List.not_mem_nil)
  | a :: L, ks, hk, h => by
    have ha : a ∈ ks := (h a).mpr List.mem_cons_self
    by_cases hL : a ∈ L
    · have h1 := nodup_lenG ks L hk fun x hx => by
        rcases List.mem_cons.mp ((h x).mp hx) with rfl | hx
        · exact hL
        · exact hx
      rw [List.length_cons]
      exact ⟨fun z => by omega, fun z => absurd hL (List.nodup_cons.mp z).1⟩
    · have ih := len_nodup L (ks.erase a) (hk.erase a) fun x => by
        rw [hk.mem_erase_iff, h, List.mem_cons]
        exact ⟨fun ⟨z, y⟩ => y.resolve_left z, fun z => ⟨fun y => hL (by rw [← y]; exact z), .inr z⟩⟩
      have h1 := List.length_erase_of_mem ha
      have h2 := List.length_pos_of_mem ha
      rw [List.nodup_cons, ← ih, List.length_cons]
      exact ⟨fun z => ⟨hL, by omega⟩, fun z => by omega⟩
def keysOf (ts : List T3) : List (Nat × Nat) := ts.flatMap fun t => [(t.1, t.2.1), (t.2.2, bk t.2.1)]
theorem aput_keys {κ β : Type} [DecidableEq κ] (l : List (κ × β)) (k : κ) (b : β) : (aput l k b).map (·.1) = if k ∈ l.map (·.1) then l.map (·.1) else l.map (·.1) ++ [k] := by
  unfold aput
  by_cases h : ahas l k = true
  · rw [if_pos h, if_pos (ahas_mem.mp h), List.map_map]
    refine List.map_congr_left fun p _ => ?_
    show (if p.1 = k then (p.1, b) else p).1 = p.1
    split <;> rfl
  · rw [if_neg h, if_neg (fun z => h (ahas_mem.mpr z)), List.map_append]
    rfl
theorem aput_nodup {κ β : Type} [DecidableEq κ] {l : List (κ × β)} {k : κ} {b : β} (h : (l.map (·.1)).Nodup) : ((aput l k b).map (·.1)).Nodup ∧ ∀ x, x ∈ (aput l k b).map (·.1) ↔ x = k ∨ x ∈ l.map (·.1) := by
  rw [aput_keys]
  by_cases hk : k ∈ l.map (·.1)
  · rw [if_pos hk]
    exact ⟨h, fun x => ⟨.inr, fun z => z.elim (fun e => by rw [e]; exact hk) id⟩⟩
  · rw [if_neg hk]
    refine ⟨List.nodup_append.mpr ⟨h, by simp, fun a ha c hc e => hk ?_⟩, fun x => ?_⟩
    · rw [List.mem_singleton] at hc
      rw [← hc, ← e]
      exact ha
    · rw [List.mem_append, List.mem_singleton]
      exact Or.comm
theorem steps_keys : ∀ (ts : List T3) (m : List ((Nat × Nat) × Nat)), (m.map (·.1)).Nodup → ((ts.foldl stepPut m).map (·.1)).Nodup ∧ ∀ x, x ∈ (ts.foldl stepPut m).map (·.1) ↔ x ∈ keysOf ts ∨ x ∈ m.map (·.1)
  | [], m, h => ⟨h, fun x => ⟨.inr, fun z => z.elim (fun z => by cases z) id⟩⟩
  | t :: ts, m, h => by
    obtain ⟨h1, h2⟩ := aput_nodup (k := (t.1, t.2.1)) (b := t.2.2) h
    obtain ⟨h3, h4⟩ := aput_nodup (k := (t.2.2, bk t.2.1)) (b := t.1) h1
    obtain ⟨h5, h6⟩ := steps_keys ts (stepPut m t) h3
    refine ⟨h5, fun x => (h6 x).trans ?_⟩
    have e : keysOf (t :: ts) = (t.1, t.2.1) :: (t.2.2, bk t.2.1) :: keysOf ts := rfl
    rw [e, List.mem_cons, List.mem_cons]
    show x ∈ keysOf ts ∨ x ∈ (aput (aput m (t.1, t.2.1) t.2.2) (t.2.2, bk t.2.1) t.1).map (·.1) ↔ _
    rw [h4, h2]
    constructor
    · rintro (h | h | h | h)
      · exact .inl (.inr (.inr h))
      · exact .inl (.inr (.inl h))
      · exact .inl (.inl h)
      · exact .inr h
    · rintro ((h | h | h) | h)
      · exact .inr (.inr (.inl h))
      · exact .inr (.inl h)
      · exact .inl h
      · exact .inr (.inr (.inr h))
theorem keysOf_len (ts : List T3) : (keysOf ts).length = 2 * ts.length := by
  induction ts with
  | nil => rfl
  | cons t ts ih =>
    show (keysOf ts).length + 1 + 1 = 2 * (ts.length + 1)
    omega
theorem steps_nodup (ts : List T3) : (stepsOf ts).length = 2 * ts.length ↔ (keysOf ts).Nodup := by
  obtain ⟨h1, h2⟩ := steps_keys ts [] List.nodup_nil
  have h := len_nodup (keysOf ts) ((stepsOf ts).map (·.1)) h1 fun x => (h2 x).trans ⟨fun z => z.elim id (fun z => by cases z), .inl⟩
  rw [List.length_map, keysOf_len] at h
  exact h
theorem keys_folded {ts : List T3} (hs : SmC3 ts) : (keysOf ts).Nodup ↔ Folded ts := by
  unfold keysOf Folded List.Nodup
  rw [List.pairwise_flatMap]
  have cap : ∀ t ∈ ts, ∀ s ∈ ts, t.2.1 ≠ bk s.2.1 := fun t ht s hs' e => by
    have h1 := hs t ht
    have h2 := hs s hs'
    unfold bk at e
    split at e <;> omega
  have inj : ∀ t ∈ ts, ∀ s ∈ ts, bk t.2.1 = bk s.2.1 → t.2.1 = s.2.1 := fun t ht s hs' e => bk_inj (small_L (hs t ht)).1 (small_L (hs s hs')).1 e
  constructor
  · rintro ⟨_, h⟩
    refine h.imp_of_mem fun {a b} ha hb h => ⟨fun z => h (a.1, a.2.1) (by simp) (b.1, b.2.1) (by simp) (by rw [z.1, z.2]), fun z => h (a.2.2, bk a.2.1) (by simp) (b.2.2, bk b.2.1) (by simp) (by rw [z.1, z.2])⟩
  · intro h
    refine ⟨fun t ht => ?_, h.imp_of_mem fun {a b} ha hb h x hx y hy e => ?_⟩
    · refine List.pairwise_cons.mpr ⟨fun y hy e => ?_, List.pairwise_singleton _ _⟩
      rw [List.mem_singleton] at hy
      rw [hy, Prod.mk.injEq] at e
      exact cap t ht t ht e.2
    · simp only [List.mem_cons, List.not_mem_nil, or_false] at hx hy
      rcases hx with hx | hx <;> rcases hy with hy | hy <;> rw [hx, hy, Prod.mk.injEq] at e
      · exact h.1 e
      · exact cap a ha b hb e.2
      · exact cap b hb a ha e.2.symm
      · exact h.2 ⟨e.1, inj a ha b hb e.2⟩
theorem isWebT_folded {ts : List T3} (hs : SmC3 ts) (h : isWebT ts = true) : Folded ts := by
  unfold isWebT at h
  simp only [Bool.and_eq_true] at h
  exact (keys_folded hs).mp ((steps_nodup ts).mp (of_decide_eq_true h.1.1.1))
/-- what is told as a web is one -/
theorem IsWeb.isT {ts : List T3} (W : IsWeb ts) : isWebT ts = true := by
  unfold isWebT
  simp only [Bool.and_eq_true]
  have T := W.tree
  refine ⟨⟨⟨decide_eq_true ((steps_nodup ts).mpr ((keys_folded W.ok.sm).mpr W.ok.fold)), List.all_eq_true.mpr fun t ht => ?_⟩, List.all_eq_true.mpr fun p hp => ?_⟩, decide_eq_true W.same⟩
  · rw [Bool.and_eq_true, ahas_mem, ahas_mem]
    exact W.ok.all_ t ht
  · rw [Bool.or_eq_true, decide_eq_true_eq, decide_eq_true_eq]
    obtain ⟨r, w⟩ := p
    rcases T.par _ _ hp with ⟨e, _⟩ | ⟨q, wq, d, _, _, h3, _, h0⟩
    · exact .inl e
    · right
      rcases h3 with ⟨_, z⟩ | ⟨_, z⟩
      · exact (W.ends _ z).2 h0
      · exact (W.ends _ z).1 h0
end Gw

/-! ### laws: the law's own finding -/
namespace Gw
open PySem PySem.Spec PyProof.Rows L2 RT PySem.W
theorem led_walk {ts : List T3} (hs : SmC3 ts) (F : Folded ts) : ∀ {u : List Nat} {o : Option Nat} {b : Nat}, AL u → (u.foldl (fun o c => o.bind fun r => stepF ts r c) o = some b ↔ ∃ a, o = some a ∧ Walk ts a u b)
  | [], o, b, _ => ⟨fun h => ⟨b, h, rfl⟩, fun ⟨a, h, e⟩ => by rw [h]; exact congrArg some e⟩
  | c :: u, o, b, hu => by
    rw [List.foldl_cons, led_walk hs F hu.tail]
    constructor
    · rintro ⟨a, h, w⟩
      cases o with
      | none => cases h
      | some x =>
        exact ⟨x, rfl, a, (stepF_iff hs F hu.head).mp h, w⟩
    · rintro ⟨x, rfl, a, s, w⟩
      exact ⟨a, (stepF_iff hs F hu.head).mpr s, w⟩
theorem ledT_walk {ts : List T3} (hs : SmC3 ts) (F : Folded ts) {u : List Nat} {b : Nat} (hu : AL u) : ledT ts u = some b ↔ Walk ts 0 u b := by
  unfold ledT
  rw [led_walk hs F hu]
  exact ⟨fun ⟨a, h, w⟩ => by cases h; exact w, fun w => ⟨0, rfl, w⟩⟩
theorem FTree.wl {st : Nat → Nat → Option Nat} {f : Found} (h : FTree st f) : ∀ p ∈ f, p.2.length < f.length := by
  induction h with
  | base =>
    intro p hp
    rw [List.mem_singleton.mp hp]
    decide
  | @snoc f q wq c g _ hp _ _ _ ih =>
    intro p hq
    rw [List.length_append, List.length_singleton]
    rcases List.mem_append.mp hq with hq | hq
    · have := ih p hq
      omega
    · rw [List.mem_singleton.mp hq]
      have := ih _ hp
      have this : wq.length < f.length := this
      show (wq ++ [c]).length < _
      rw [List.length_append, List.length_singleton]
      omega
theorem UsedOk.small {ts : List T3} {s : FU} (U : UsedOk ts s) : s.1.length ≤ ts.length + 1 := by
  have := nodup_leA s.2 ts U.nd U.sub
  have := U.len
  omega
theorem paired_end {α β : Type} {R : α → β → Prop} : ∀ {as : List α} {bs : List β} {a : α} {b : β}, Paired R as bs → R a b → Paired R (as ++ [a]) (bs ++ [b])
  | _, _, _, _, .nil, h => .cons h .nil
  | _, _, _, _, .cons r t, h => .cons r (paired_end t h)
/-- what holds halfway -/
structure Wk (r : Nat) (way : List Nat) (s : FU) : Prop where
  nd : (keysF s.1).Nodup
  mem : (r, way) ∈ s.1
  len : s.2.length ≤ s.1.length
theorem Wk.get {r : Nat} {way : List Nat} {s : FU} (h : Wk r way s) : aget s.1 r = some way := by
  obtain ⟨i, hi⟩ := List.getElem?_of_mem h.mem
  exact aget_at h.nd hi
theorem iN_inj {a b : Nat} (h : (iN a : V) = iN b) : a = b := by
  injection h with h
  omega
section
variable {P : Program} {w : World} {K : PySem.W.Frag} {mg : Str → Option Value} {base : Heap}
end
end Gw

/-! ### laws: lists compared -/
namespace Gw
open PySem PySem.Spec PyProof.Rows L2 RT PySem.W
theorem isL_lt {c : Nat} (h : isL c = true) : c < 1114112 := by
  unfold isL at h
  simp only [Bool.or_eq_true, Bool.and_eq_true, decide_eq_true_eq] at h
  omega
theorem ok_tx {u : List Nat} (h : AL u) : PyData.strOk (tx u) = true := by
  unfold PyData.strOk
  have : ∀ c ∈ u, c < 1114112 := fun c hc => isL_lt (h c hc)
  simpa [tx] using this
theorem eqv_tx (u v : List Nat) : PyData.eqv (.str (tx u)) (.str (tx v)) = decide (u = v) := by
  rw [eqv_str, Bool.eq_iff_iff, decide_eq_true_eq, decide_eq_true_eq]
  exact ⟨tx_inj', fun z => by rw [z]⟩
theorem shd_T3s {ts : List T3} (h : SmC3 ts) : Shd 2 (.list (ts.map encT3)) := Shd.list (n := 1) fun d hd => by
  obtain ⟨t, ht, rfl⟩ := List.mem_map.mp hd
  have := (h t ht).2
  exact shd_T3 (by omega)
theorem shd_txs {us : List (List Nat)} (h : ∀ u ∈ us, AL u) : Shd 1 (.list (us.map fun u => PyData.str (tx u))) := Shd.list (n := 0) fun d hd => by
  obtain ⟨t, ht, rfl⟩ := List.mem_map.mp hd
  exact Shd.str (ok_tx (h t ht))
section
variable {K : PySem.W.Frag} {H : Hp} {Q : VK} {a b : Addr}
theorem dp_T3s {ts : List T3} {xs : List V} (ha : SqL K H a xs) (pa : Paired (fun t x => T3R K t x H) ts xs) : Dp K H (.ref a) (.list (ts.map encT3)) := .lst ha (dpAll_of (fun _ _ r => dp_T3 r) pa)
theorem dp_txs {us : List (List Nat)} (ha : SqL K H a (us.map fun u => V.str (tx u))) : Dp K H (.ref a) (.list (us.map fun u => PyData.str (tx u))) := .lst ha (dpAll_map fun _ _ => .str _)
theorem w_eqT {xs ys : List V} {ts us : List T3} (ha : SqL K H a xs) (pa : Paired (fun t x => T3R K t x H) ts xs) (hb : SqL K H b ys) (pb : Paired (fun t x => T3R K t x H) us ys) (sa : SmC3 ts) (sb : SmC3 us) (q : Q (.bl (decide (ts = us))) H) : rEqD K (.ref a) (.ref b) H Q :=
  ⟨_, _, dp_T3s ha pa, dp_T3s hb pb, (shd_T3s sa).shaped, (shd_T3s sb).shaped, by rw [eqv_list eqv_T3]; exact q⟩
theorem w_neT {xs ys : List V} {ts us : List T3} (ha : SqL K H a xs) (pa : Paired (fun t x => T3R K t x H) ts xs) (hb : SqL K H b ys) (pb : Paired (fun t x => T3R K t x H) us ys) (sa : SmC3 ts) (sb : SmC3 us) (q : Q (.bl (!decide (ts = us))) H) : rNeD K (.ref a) (.ref b) H Q :=
  ⟨_, _, dp_T3s ha pa, dp_T3s hb pb, (shd_T3s sa).shaped, (shd_T3s sb).shaped, by rw [eqv_list eqv_T3]; exact q⟩
theorem w_eqW {us vs : List (List Nat)} (ha : SqL K H a (us.map fun u => V.str (tx u))) (hb : SqL K H b (vs.map fun u => V.str (tx u))) (sa : ∀ u ∈ us, AL u) (sb : ∀ u ∈ vs, AL u) (q : Q (.bl (decide (us = vs))) H) : rEqD K (.ref a) (.ref b) H Q :=
  ⟨_, _, dp_txs ha, dp_txs hb, (shd_txs sa).shaped, (shd_txs sb).shaped, by rw [eqv_list eqv_tx]; exact q⟩
theorem w_neW {us vs : List (List Nat)} (ha : SqL K H a (us.map fun u => V.str (tx u))) (hb : SqL K H b (vs.map fun u => V.str (tx u))) (sa : ∀ u ∈ us, AL u) (sb : ∀ u ∈ vs, AL u) (q : Q (.bl (!decide (us = vs))) H) : rNeD K (.ref a) (.ref b) H Q :=
  ⟨_, _, dp_txs ha, dp_txs hb, (shd_txs sa).shaped, (shd_txs sb).shaped, by rw [eqv_list eqv_tx]; exact q⟩
theorem w_notinT {x : V} {ys : List V} {t : T3} {us : List T3} (hx : T3R K t x H) (hb : SqL K H b ys) (pb : Paired (fun t x => T3R K t x H) us ys) (st : 97 ≤ t.2.1 ∧ t.2.1 ≤ 122) (sb : SmC3 us) (q : Q (.bl (!decide (t ∈ us))) H) : rNotInD K x (.ref b) H Q := by
  refine ⟨_, _, dp_T3 hx, dp_T3s hb pb, (shd_T3 (t := t) (by omega)).shaped, (shd_T3s sb).shaped, ?_⟩
  have : ((us.map encT3).any fun z => PyData.eqv z (encT3 t)) = decide (t ∈ us) := by
    rw [Bool.eq_iff_iff, decide_eq_true_eq, List.any_eq_true]
    constructor
    · rintro ⟨z, hz, h⟩
      obtain ⟨s, hs, rfl⟩ := List.mem_map.mp hz
      rw [eqv_T3, decide_eq_true_eq] at h
      exact h ▸ hs
    · intro h
      exact ⟨_, List.mem_map.mpr ⟨t, h, rfl⟩, by rw [eqv_T3]; exact decide_eq_true rfl⟩
  rw [this]
  exact q
/-! parts of lists -/
theorem cutV_to (xs : List V) {a : Nat} (h : a ≤ xs.length) : cutV xs none (some (a : Int)) = xs.take a := by
  unfold cutV
  rw [HT.sIx_nat, HT.sIx_none, Nat.min_eq_left h, List.drop_zero, Nat.sub_zero]
theorem cutV_from (xs : List V) {a : Nat} (h : a ≤ xs.length) : cutV xs (some (a : Int)) none = xs.drop a := by
  unfold cutV
  rw [HT.sIx_nat, HT.sIx_none, Nat.min_eq_left h]
  exact List.take_of_length_le (by rw [List.length_drop]; omega)
theorem w_to {l : Addr} {xs : List V} {a : Nat} (h : H l = some (.lst xs)) (ha : a ≤ xs.length) (q : ∀ p H2, New H p (.lst (xs.take a)) H2 → Q (.ref p) H2) : rSlLN K (.ref l) none (some (a : Int)) H Q := ⟨l, xs, rfl, sqL_of h, fun p H2 n => q p H2 (by rw [cutV_to xs ha] at n; exact n)⟩
theorem w_from {l : Addr} {xs : List V} {a : Nat} (h : H l = some (.lst xs)) (ha : a ≤ xs.length) (q : ∀ p H2, New H p (.lst (xs.drop a)) H2 → Q (.ref p) H2) : rSlLN K (.ref l) (some (a : Int)) none H Q := ⟨l, xs, rfl, sqL_of h, fun p H2 n => q p H2 (by rw [cutV_from xs ha] at n; exact n)⟩
theorem w_cat2 {l b : Addr} {xs zs : List V} (h1 : H l = some (.lst xs)) (h2 : H b = some (.lst zs)) (z : xs.length + zs.length ≤ 16000000) (q : ∀ p H2, New H p (.lst (xs ++ zs)) H2 → Q (.ref p) H2) : rCatN (.ref l) (.ref b) H Q := ⟨l, b, xs, zs, rfl, rfl, h1, h2, line_le z, q⟩
end
end Gw

/-! ### laws: calls of webs -/
namespace Gw
open PySem PySem.Spec PyProof.Rows L2 RT PySem.W
section
variable {P : Program} {w : World} {K : PySem.W.Frag} {mg : Str → Option Value} {base : Heap}
theorem LawRow.lens {us : List (List Nat)} (L : LawRow us) : us.length ≤ 5 ∧ ∀ u ∈ us, u.length ≤ 15 := by
  obtain ⟨_, vs, h4, h5, rfl | ⟨p, rfl, hp, _⟩⟩ := L
  · exact ⟨by omega, fun u hu => by have := h5 u hu; omega⟩
  · refine ⟨by rw [List.length_append, List.length_singleton]; omega, fun u hu => ?_⟩
    rcases List.mem_append.mp hu with hu | hu
    · have := h5 u hu
      omega
    · rw [List.mem_singleton.mp hu]
      exact hp
theorem LawRow.webFine {us : List (List Nat)} (L : LawRow us) : WebFine us := by
  obtain ⟨n, m⟩ := L.lens
  refine ⟨⟨L.al, fun u hu => by have := m u hu; omega, by omega, L.fine.1 _⟩, ?_, (gluedOf_ok L.al (glued_sm L.al)).1.all_⟩
  have := rings_le (n := 15) (us.map sh) fun w hw => by
    obtain ⟨u, hu, rfl⟩ := List.mem_map.mp hw
    have := sh_len u
    have := m u hu
    omega
  rw [List.length_map] at this
  have : us.length * 15 ≤ 5 * 15 := Nat.mul_le_mul_right _ n
  omega
theorem FewRow.webFine {ts Δ es : List T3} (R : FewRow ts Δ es) : WebFine (es.map (fewW ts)) :=
  ⟨⟨R.al, fun u hu => by have := R.short u hu; omega, by rw [List.length_map]; have := R.few; omega, R.fine _⟩, by have := R.len; omega, R.ok.all_⟩
theorem tie_some' {H : Hp} {ts : List T3} {vs : List V} (hs : SmC3 ts) (h : Paired (fun t x => T3R K t x H) ts vs) : Paired (fun r x => TieR K H x r) (ts.map some) vs := by
  induction h with
  | nil => exact .nil
  | cons r t ih => exact .cons ⟨r, hs _ List.mem_cons_self⟩ (ih fun t ht => hs t (List.mem_cons_of_mem _ ht))
theorem call_isiK {X : Cx} (K : PySem.W.Frag) (h : X.K = K := by rfl) : CallR X (.builtin "isinstance") (rIsi K) := h ▸ call_isi
theorem some_map_inj' {α : Type} : ∀ {xs ys : List α}, xs.map some = ys.map some → xs = ys
  | [], [], _ => rfl
  | x :: xs, y :: ys, h => by
    rw [List.map_cons, List.map_cons] at h
    injection h with h1 h2
    injection h1 with h1
    rw [h1, some_map_inj' h2]
theorem thing_T3 {H : Hp} {l : Addr} {ws : List V} {ts : List T3} (hl : H l = some (.lst ws)) (p : Paired (fun t x => T3R K t x H) ts ws) (s : SmC3 ts) : ThingR K H (.ref l) (some (ts.map some)) := ⟨.base (.lst hl), l, ws, rfl, sqL_of hl, tie_some' s p⟩
theorem isWebA_T {ts : List T3} (ht : isWebT ts = true) : isWebA (some (ts.map some)) = true := by
  show ((ts.map some).all Option.isSome && isWebT ((ts.map some).filterMap id)) = true
  rw [show (ts.map some).filterMap id = ts by induction ts with | nil => rfl | cons a l ih => simp, ht, Bool.and_true, List.all_map]
  exact List.all_eq_true.mpr fun _ _ => rfl
theorem aget_way {ts : List T3} {r : Nat} (h : r ∈ keysF (foundRooms ts)) : aget (foundRooms ts) r = some (wayT ts r) := by
  have h := ahas_mem.mpr h
  rw [ahas_get] at h
  unfold wayT
  cases e : aget (foundRooms ts) r with
  | none => rw [e] at h; cases h
  | some w => rfl
theorem find_len {ts : List T3} (W : WebOk ts) : (foundRooms ts).length ≤ ts.length + 1 := by
  have := (foundU_ok W).2.2
  omega
theorem way_len {ts : List T3} (W : WebOk ts) {r : Nat} (h : r ∈ keysF (foundRooms ts)) : (wayT ts r).length ≤ ts.length := by
  have h1 := (found_tree W.sm).wl _ (way_mem h)
  have h2 := find_len W
  have h1 : (wayT ts r).length < (foundRooms ts).length := h1
  omega
theorem used_sub {ts : List T3} (W : WebOk ts) : ∀ t ∈ (foundU ts).2, t ∈ ts := (bfsU_ok W.sm W.fold (ls := lettersOf ts) (fun c hc => by
    obtain ⟨t, ht, e⟩ := List.mem_map.mp ((lettersOf_mem W.sm c).mp hc)
    rw [← e]
    exact W.sm t ht) (2 * ts.length + 2) 0 _ (usedOk_init ts)).1.sub
theorem c_web_of {H : Hp} {Q : VK} {E : XK} {us : List (List Nat)} {l : Addr} (h : H l = some (.lst (us.map fun u => V.str (tx u)))) (al : ∀ u ∈ us, AL u) (sh : ∀ u ∈ us, u.length ≤ 1000) (few : us.length ≤ 1000) (F : WebFine us) (q : ∀ H' lr ws, Ex H H' → H lr = none → H' lr = some (.lst ws) → Paired (fun t x => T3R K t x H') (webOf us) ws → Q (.ref lr) H') : sp_web_of K [.ref l] H Q E := by
  refine ⟨(l, us.map fun u => (V.str (tx u), some u)), rfl, sqL_of (by rw [List.map_map]; exact h), fun x hx => ?_, by rw [List.length_map]; exact few, fun us' hus' => ?_, fun ⟨x, hx, e⟩ => ?_⟩
  · obtain ⟨u, hu, rfl⟩ := List.mem_map.mp hx
    exact IsW.word (al u hu) (by have := sh u hu; omega)
  · rw [List.map_map] at hus'
    obtain rfl : us = us' := some_map_inj' hus'
    refine ⟨F, ?_⟩
    rintro _ H2 e2 ⟨lr, ws, rfl, n, h2, p⟩
    exact q H2 lr ws e2 n h2 p
  · obtain ⟨u, hu, rfl⟩ := List.mem_map.mp hx
    cases e
theorem some_T {ts ts' : List T3} (h : some (ts.map some) = some (ts'.map some)) : ts = ts' := some_map_inj' (Option.some.inj h)
theorem c_reads {H : Hp} {Q : VK} {E : XK} {ts : List T3} {l : Addr} {ws : List V} {u : List Nat} (h : H l = some (.lst ws)) (p : Paired (fun t x => T3R K t x H) ts ws) (sm : SmC3 ts) (W : isWebT ts = true) (len : ts.length ≤ 3000) (al : AL u) (hu : u.length ≤ 100000) (q : ∀ H', Ex H H' → Q (.bl (decide (ledT ts (sh u) = some 0))) H') : sp_reads K [.ref l, .str (tx u)] H Q E := by
  refine ⟨((.ref l, some (ts.map some)), (.str (tx u), some u)), rfl, thing_T3 h p sm, (fun rs h => by cases h; rw [List.length_map]; exact len), IsW.word al hu, fun ts' u' h _ hu => ?_, (fun h => ?_), (fun _ h => by cases h)⟩
  · obtain rfl : ts = ts' := some_T h
    obtain rfl : u = u' := Option.some.inj hu
    rintro _ H' e rfl
    exact q H' e
  · have h : isWebA (some (ts.map some)) = false := h
    rw [isWebA_T W] at h
    cases h
theorem c_is_web {H : Hp} {Q : VK} {E : XK} {ts : List T3} {l : Addr} {ws : List V} (h : H l = some (.lst ws)) (p : Paired (fun t x => T3R K t x H) ts ws) (sm : SmC3 ts) (len : ts.length ≤ 3000) (q : ∀ H', Ex H H' → Q (.bl (isWebT ts)) H') : sp_is_web K [.ref l] H Q E := by
  refine ⟨(.ref l, some (ts.map some)), rfl, thing_T3 h p sm, (fun rs h => by cases h; rw [List.length_map]; exact len), ?_⟩
  rintro _ H' e rfl
  have : isWebA (some (ts.map some)) = isWebT ts := by
    show ((ts.map some).all Option.isSome && isWebT ((ts.map some).filterMap id)) = _
    rw [show (ts.map some).filterMap id = ts by induction ts with | nil => rfl | cons a l ih => simp, List.all_map]
    rw [show ts.all (Option.isSome ∘ some) = true from List.all_eq_true.mpr fun _ _ => rfl, Bool.true_and]
  show Q (.bl (isWebA (some (ts.map some)))) H'
  rw [this]
  exact q H' e
theorem w_neN {H : Hp} {Q : VK} {a b : Int} (q : Q (.bl (!decide (a = b))) H) : rNeD K (.int a) (.int b) H Q := ⟨.int a, .int b, .int _, .int _, Shd.int (n := 0) |>.shaped, Shd.int (n := 0) |>.shaped, by rw [eqv_int]; exact q⟩
theorem w_eqN {H : Hp} {Q : VK} {a b : Int} (q : Q (.bl (decide (a = b))) H) : rEqD K (.int a) (.int b) H Q := ⟨.int a, .int b, .int _, .int _, Shd.int (n := 0) |>.shaped, Shd.int (n := 0) |>.shaped, by rw [eqv_int]; exact q⟩
end
end Gw

/-! ### dicts of lists of pairs, by a room -/
namespace Gw
open PySem PySem.Spec PyProof.Rows L2 RT
/-- a letter and a goal -/
def QR (p : Nat × Nat) (v : V) (H : Hp) : Prop := ∃ q, v = .ref q ∧ H q = some (.tup [.str (sg p.1), iN p.2])
theorem QR.mono {p : Nat × Nat} {v : V} {H H' : Hp} (h : QR p v H) (t : Ts H H') : QR p v H' := let ⟨q, e, h⟩ := h; ⟨q, e, t _ _ h⟩
theorem inl_inj {a b : Nat} (h : (Sum.inl (a : Int) : Key) = .inl (b : Int)) : a = b := by
  injection h with h
  omega
theorem dictK_get {β : Type} {R : β → V → Prop} {kvs : List (Nat × β)} {ws : List (Key × V)} (p : Paired (fun a b => b.1 = (.inl (a.1 : Int) : Key) ∧ R a.2 b.2) kvs ws) (k : Nat) :
    (aget kvs k = none ∧ valV ws (.inl (k : Int) : Key) = none) ∨ ∃ b v, aget kvs k = some b ∧ valV ws (.inl (k : Int) : Key) = some v ∧ R b v := by
  induction p with
  | nil => exact .inl ⟨rfl, rfl⟩
  | @cons a b as bs h t ih =>
    by_cases e : a.1 = k
    · refine .inr ⟨a.2, b.2, ?_, valV_pos (by rw [h.1, e]), h.2⟩
      unfold aget
      rw [if_pos e]
    · have e2 : ¬ b.1 = (.inl (k : Int) : Key) := fun z => e (inl_inj (h.1.symm.trans z))
      rw [valV_neg e2]
      unfold aget
      rw [if_neg e]
      exact ih
/-! on the heap -/
def LkR (zs : List (Nat × Nat)) (v : V) (H : Hp) : Prop := ∃ l vs, v = .ref l ∧ H l = some (.lst vs) ∧ Paired (fun z x => QR z x H) zs vs
abbrev SkP (H : Hp) : SK → List (Key × V) → Prop := Paired fun a b => b.1 = (.inl (a.1 : Int) : Key) ∧ LkR a.2 b.2 H
structure SkR (H0 : Hp) (B : SK) (d : Addr) (ws : List (Key × V)) (H : Hp) : Prop where
  at_ : H d = some (.dK ws)
  rel : SkP H B ws
  keys : (B.map (·.1)).Nodup
  nd : (ws.map (·.2)).Nodup
  new : ∀ v ∈ ws.map (·.2), ∃ l, v = .ref l ∧ H0 l = none
theorem LkR.ex {zs : List (Nat × Nat)} {v : V} {H H' : Hp} (h : LkR zs v H) (e : Ex H H') : LkR zs v H' := let ⟨l, vs, z1, z2, z3⟩ := h; ⟨l, vs, z1, e _ _ z2, paired_impH z3 fun _ _ r => r.mono (Ex.ts e)⟩
theorem SkR.ex {H0 : Hp} {B : SK} {d : Addr} {ws : List (Key × V)} {H H' : Hp} (b : SkR H0 B d ws H) (e : Ex H H') : SkR H0 B d ws H' :=
  ⟨e _ _ b.at_, paired_impH b.rel fun _ _ r => ⟨r.1, r.2.ex e⟩, b.keys, b.nd, b.new⟩
theorem LkR.but {zs : List (Nat × Nat)} {v : V} {H H' : Hp} {p : Addr} {o : HO} (h : LkR zs v H) (c : But p H H') (hp : H p = some o) (n : NoTup o) (ne : v ≠ .ref p) : LkR zs v H' := by
  obtain ⟨l, vs, rfl, z2, z3⟩ := h
  exact ⟨l, vs, rfl, c _ _ (fun z => ne (by rw [z])) z2, paired_impH z3 fun _ _ r => r.mono (c.ts hp n)⟩
theorem skP_but {H H' : Hp} {p : Addr} {o : HO} (c : But p H H') (hp : H p = some o) (n : NoTup o) : ∀ {B : SK} {ws : List (Key × V)}, SkP H B ws → (∀ v ∈ ws.map (·.2), v ≠ .ref p) → SkP H' B ws
  | _, _, .nil, _ => .nil
  | _, _, .cons a t, h => .cons ⟨a.1, a.2.but c hp n (h _ (by simp))⟩ (skP_but c hp n t fun v hv => h v (List.mem_cons_of_mem _ hv))
theorem valV_memK {ws : List (Key × V)} {k : Key} {v : V} (h : valV ws k = some v) : v ∈ ws.map (·.2) := by
  induction ws with
  | nil => cases h
  | cons a ws ih =>
    by_cases e : a.1 = k
    · rw [valV_pos e] at h
      cases h
      exact List.mem_cons_self
    · rw [valV_neg e] at h
      exact List.mem_cons_of_mem _ (ih h)
theorem map_sameK {x : Nat} {zs : List (Nat × Nat)} : ∀ {B : SK}, x ∉ B.map (·.1) → (B.map fun p => if p.1 = x then (p.1, zs) else p) = B
  | [], _ => rfl
  | a :: B, h => by
    rw [List.map_cons, List.mem_cons] at h
    rw [List.map_cons, if_neg (fun z => h (.inl z.symm)), map_sameK fun z => h (.inr z)]
theorem skP_app {H H' : Hp} {l : Addr} {vs : List V} {yv : V} {x : Nat} {y : Nat × Nat} {zs : List (Nat × Nat)} (c : Chg H l (.lst (vs ++ [yv])) H') (hl : H l = some (.lst vs)) (py : QR y yv H) (pz : Paired (fun z x => QR z x H) zs vs) : ∀ {B : SK} {ws : List (Key × V)}, SkP H B ws → (B.map (·.1)).Nodup → (ws.map (·.2)).Nodup →
    valV ws (.inl (x : Int) : Key) = some (.ref l) → SkP H' (B.map fun p => if p.1 = x then (p.1, zs ++ [y]) else p) ws
  | _, _, .nil, _, _, h => by cases h
  | _, _, .cons (a := a) (b := b) (l₁ := B) (l₂ := ws) r t, nk, nv, h => by
    rw [List.map_cons] at nk nv
    obtain ⟨nk1, nk2⟩ := List.nodup_cons.mp nk
    obtain ⟨nv1, nv2⟩ := List.nodup_cons.mp nv
    have ts := c.but.ts hl trivial
    rw [List.map_cons]
    by_cases e : a.1 = x
    · rw [valV_pos (by rw [r.1, e])] at h
      injection h with h
      rw [if_pos e, map_sameK (by rw [← e]; exact nk1)]
      refine .cons ⟨r.1, l, _, h, c.at_, paired_app (paired_impH pz fun _ _ r => r.mono ts) (.cons (py.mono ts) .nil)⟩ (skP_but c.but hl trivial t fun v hv z => nv1 ?_)
      rw [h, ← z]
      exact hv
    · rw [valV_neg (fun z => e (inl_inj (r.1.symm.trans z)))] at h
      rw [if_neg e]
      refine .cons ⟨r.1, r.2.but c.but hl trivial fun z => nv1 ?_⟩ (skP_app c hl py pz t nk2 nv2 h)
      rw [z]
      exact valV_memK h
section
variable {H0 H : Hp} {B : SK} {d : Addr} {ws : List (Key × V)}
theorem SkR.hit (b : SkR H0 B d ws H) {x : Nat} {zs : List (Nat × Nat)} (h : aget B x = some zs) : ∃ l vs, valV ws (.inl (x : Int) : Key) = some (.ref l) ∧ H l = some (.lst vs) ∧ Paired (fun z x => QR z x H) zs vs ∧ H0 l = none ∧
    ∀ y yv H', Chg H l (.lst (vs ++ [yv])) H' → QR y yv H → SkR H0 (addK B x y) d ws H' := by
  rcases dictK_get (R := fun a b => LkR a b H) b.rel x with ⟨h1, _⟩ | ⟨zs', v, h1, h2, l, vs, rfl, h3, h4⟩
  · rw [h1] at h
    cases h
  · rw [h1] at h
    cases h
    obtain ⟨l', e, h5⟩ := b.new _ (valV_memK h2)
    cases e
    refine ⟨l, vs, h2, h3, h4, h5, fun y yv H' c py => ?_⟩
    have hk : (aput B x (zs ++ [y])).map (·.1) = B.map (·.1) := by
      unfold aput
      rw [if_pos (by rw [ahas_get, h1]; rfl), List.map_map]
      refine List.map_congr_left fun p _ => ?_
      show (if p.1 = x then (p.1, zs ++ [y]) else p).1 = p.1
      split <;> rfl
    have ne : d ≠ l := fun z => by
      have := b.at_
      rw [z, h3] at this
      cases this
    refine ⟨c.but _ _ ne b.at_, ?_, ?_, b.nd, b.new⟩
    · unfold addK nbrK
      rw [h1]
      have := skP_app c h3 py h4 b.rel b.keys b.nd h2
      unfold aput
      rw [if_pos (by rw [ahas_get, h1]; rfl)]
      exact this
    · unfold addK nbrK
      rw [h1]
      show ((aput B x (zs ++ [y])).map (·.1)).Nodup
      rw [hk]
      exact b.keys
theorem SkR.miss (b : SkR H0 B d ws H) {x : Nat} (h : aget B x = none) : valV ws (.inl (x : Int) : Key) = none ∧
    ∀ l0 H1 H2 H2' H3 y yv, New H l0 (.lst []) H1 → H0 l0 = none → Chg H1 d (.dK (putK ws (.inl (x : Int) : Key) (.ref l0))) H2 → Ex H2 H2' → Chg H2' l0 (.lst ([] ++ [yv])) H3 → QR y yv H2' → SkR H0 (addK B x y) d (putK ws (.inl (x : Int) : Key) (.ref l0)) H3 := by
  rcases dictK_get (R := fun a b => LkR a b H) b.rel x with ⟨_, h2⟩ | ⟨zs', v, h1, _⟩
  · refine ⟨h2, fun l0 H1 H2 H2' H3 y yv n1 n0 c2 e22 c3 py => ?_⟩
    have hput : putK ws (.inl (x : Int) : Key) (.ref l0) = ws ++ [((.inl (x : Int) : Key), .ref l0)] := by rw [putK_new _ h2]
    have hadd : addK B x y = B ++ [(x, [y])] := by
      unfold addK nbrK aput
      rw [h, if_neg (by rw [ahas_get, h]; decide)]
      rfl
    have old : ∀ v ∈ ws.map (·.2), ∃ l o, v = .ref l ∧ H l = some (.lst o) := fun v hv => by
      have : ∀ {B : SK} {ws : List (Key × V)}, SkP H B ws → v ∈ ws.map (·.2) → ∃ l o, v = .ref l ∧ H l = some (.lst o) := by
        intro B ws p
        induction p with
        | nil => intro h; cases h
        | cons r t ih =>
          intro h
          rcases List.mem_cons.mp h with h | h
          · obtain ⟨l, vs, e1, e2, _⟩ := r.2
            exact ⟨l, vs, h.trans e1, e2⟩
          · exact ih h
      exact this b.rel hv
    have ne0 : ∀ v ∈ ws.map (·.2), v ≠ .ref l0 := fun v hv z => by
      obtain ⟨l, o, e1, e2⟩ := old v hv
      rw [z] at e1
      cases e1
      rw [n1.no] at e2
      cases e2
    have ned : ∀ v ∈ ws.map (·.2), v ≠ .ref d := fun v hv z => by
      obtain ⟨l, o, e1, e2⟩ := old v hv
      rw [z] at e1
      cases e1
      rw [b.at_] at e2
      cases e2
    have hd1 := n1.ex _ _ b.at_
    have dl : d ≠ l0 := fun z => by
      have := n1.no
      rw [← z, b.at_] at this
      cases this
    have hl2 : H2 l0 = some (.lst []) := c2.but _ _ (Ne.symm dl) n1.at_
    have b1 : SkP H1 B ws := paired_impH b.rel fun _ _ r => ⟨r.1, r.2.ex n1.ex⟩
    have b2 : SkP H2 B ws := skP_but c2.but hd1 trivial b1 ned
    have b2' : SkP H2' B ws := paired_impH b2 fun _ _ r => ⟨r.1, r.2.ex e22⟩
    have hl2 : H2' l0 = some (.lst []) := e22 _ _ hl2
    have b3 : SkP H3 B ws := skP_but c3.but hl2 trivial b2' ne0
    rw [hput] at c2 ⊢
    rw [hadd]
    refine ⟨c3.but _ _ dl (e22 _ _ c2.at_), Paired.snoc b3 ⟨rfl, l0, _, rfl, c3.at_, .cons (py.mono (c3.but.ts hl2 trivial)) .nil⟩, ?_, ?_, ?_⟩
    · rw [List.map_append]
      refine List.nodup_append.mpr ⟨b.keys, by simp, fun a ha c hc e => ?_⟩
      rw [List.map_cons, List.map_nil, List.mem_singleton] at hc
      have hx : ahas B x = true := ahas_mem.mpr (by rw [show x = a from (e.trans hc).symm]; exact ha)
      rw [ahas_get, h] at hx
      cases hx
    · rw [List.map_append]
      refine List.nodup_append.mpr ⟨b.nd, by simp, fun a ha c hc e => ?_⟩
      rw [List.map_cons, List.map_nil, List.mem_singleton] at hc
      exact ne0 a ha (by rw [e, hc])
    · intro v hv
      rw [List.map_append] at hv
      rcases List.mem_append.mp hv with hv | hv
      · exact b.new v hv
      · rw [List.map_cons, List.map_nil, List.mem_singleton] at hv
        exact ⟨l0, hv, n0⟩
  · rw [h] at h1
    cases h1
theorem sk_key {K : PySem.W.Frag} {σ : L2.St} {H1 : Hp} {D : Ends} {l0 : Addr} {x : Nat} {y : Nat × Nat} {ta : TA} (ev : ∀ (H' : Hp) (Q' : List V → Hp → Prop), (∀ a5 H5, New H' a5 (.tup [.str (sg y.1), iN y.2]) H5 → Q' [.ref a5] H5) → ta σ H' Q') (b : SkR H0 B d ws H) (n1 : New H l0 (.lst []) H1) (hlen : ws.length < 16000000) (hz : (nbrK B x).length < 16000000) (e : Ex H0 H) (nB : H0 d = none)
    (q : ∀ H' ws', Ex H0 H' → Tz H H' → ws'.length ≤ ws.length + 1 → SkR H0 (addK B x y) d ws' H' → D.nx σ H') :
    ∃ (kvs : List (Key × V)) (k : Key), H1 d = some (.dK kvs) ∧ iN x = kV k ∧ kvs.length < sizeLine ∧
      (∀ v, valV kvs k = some v → tyV K "list" v H1 ∧ ta σ H1 fun xs H2 => rAppN v xs H2 fun _ H3 => D.nx σ H3) ∧
      (valV kvs k = none → ∀ H4, Chg H1 d (.dK (putK kvs k (.ref l0))) H4 → tyV K "list" (.ref l0) H4 ∧ ta σ H4 fun xs H2 => rAppN (.ref l0) xs H2 fun _ H3 => D.nx σ H3) := by
  have b1 := b.ex n1.ex
  have nl0 : H0 l0 = none := e.free n1.no
  refine ⟨ws, .inl (x : Int), b1.at_, rfl, line_lt hlen, fun v hv => ?_, fun hv H4 c4 => ?_⟩
  · cases ha : aget B x with
    | none =>
      obtain ⟨h3, _⟩ := b1.miss ha
      rw [h3] at hv
      cases hv
    | some zs =>
      obtain ⟨l, vs, h3, h4, h5, h6, h7⟩ := b1.hit ha
      rw [h3] at hv
      cases hv
      refine ⟨ty_lst h4, ev _ _ fun a5 H5 n5 => ?_⟩
      have lv := Paired.length h5
      have b5 := b1.ex n5.ex
      obtain ⟨l', vs', h3', h4', h5', h6', h7'⟩ := b5.hit ha
      rw [h3] at h3'
      cases h3'
      have := n5.ex _ _ h4
      rw [h4'] at this
      cases this
      refine ⟨l, vs, _, rfl, rfl, h4', ?_, fun H6 c6 => ?_⟩
      · rw [← lv]
        unfold nbrK at hz
        rw [ha] at hz
        exact line_lt hz
      · exact q H6 ws (c6.ex ((e.trans n1.ex).trans n5.ex) h6) ((Ex.tz (n1.ex.trans n5.ex)).trans (c6.but.tz h4' trivial)) (by omega) (h7' y _ H6 c6 ⟨a5, rfl, n5.at_⟩)
  · cases ha : aget B x with
    | some zs =>
      obtain ⟨l, vs, h3, _⟩ := b1.hit ha
      rw [h3] at hv
      cases hv
    | none =>
      obtain ⟨_, h3⟩ := b.miss ha
      have dl : l0 ≠ d := fun z => by
        have := n1.no
        rw [z, b.at_] at this
        cases this
      have hl4 : H4 l0 = some (.lst []) := c4.but _ _ dl n1.at_
      have t4 : Tz H1 H4 := c4.but.tz b1.at_ trivial
      refine ⟨ty_lst hl4, ev _ _ fun a5 H5 n5 => ?_⟩
      have hl5 := n5.ex _ _ hl4
      refine ⟨l0, [], _, rfl, rfl, hl5, by decide, fun H6 c6 => ?_⟩
      have t6 : Tz H5 H6 := c6.but.tz hl5 trivial
      refine q H6 _ (c6.ex ((c4.ex (e.trans n1.ex) nB).trans n5.ex) nl0) (((Ex.tz n1.ex).trans (t4.trans (Ex.tz n5.ex))).trans t6) ?_ (h3 l0 H1 H4 H5 H6 y _ n1 nl0 c4 n5.ex c6 ⟨a5, rfl, n5.at_⟩)
      exact length_putK _ _ _
end
end Gw

/-! ### law k05: steps by room, ways, a way round -/
namespace Gw
open PySem PySem.Spec PyProof.Rows L2 RT PySem.W
theorem lawK_keys (B : SK) (r : Nat) (p : Nat × Nat) : (addK B r p).length ≤ B.length + 1 := aput_len _ _ _
section
variable {P : Program} {w : World} {K : PySem.W.Frag} {mg : Str → Option Value} {base : Heap}
abbrev N__law_steps : List Str := ["_law_web", "_law_steps_here", "_law_room", "_law_letter", "_law_goal"]
theorem sc__law_steps : FnScope ["_law_web", "_law_steps_here", "_law_room", "_law_letter", "_law_goal"] ["_law_web"] (defScope s__law_steps) := ⟨rfl, rfl, rfl, by decide +kernel, rfl, by decide +kernel, by decide +kernel⟩
theorem b__law_steps : BindsT "_law_steps" s__law_steps ["_law_web"] := fun _ _ _ _ _ _ us hl => match us, hl with | [_], _ => rfl
def sp__law_stepsK (K : PySem.W.Frag) : Sp := fun vs H Q _ => ∃ p : V × List T3, vs = [p.1] ∧ LstR K (T3R K) p.2 p.1 H ∧ p.2.length ≤ 3000 ∧ SmC3 p.2 ∧ Ret H Q fun v H' => ∃ d ws, v = .ref d ∧ H d = none ∧ SkR H (lawK p.2) d ws H'
theorem ok__law_stepsK (T : Tx K mg) : Ok P w K mg base 1 "_law_steps" ["_law_web"] (sp__law_stepsK K) := by
  refine Ok.of T.f__law_steps sc__law_steps b__law_steps (fun vs H Q E h => by obtain ⟨a, rfl, _⟩ := h; rfl) (fun cdv A outer s H vs Q E hr h => ?_)
  obtain ⟨⟨v1, ts⟩, rfl, ⟨l, vs, rfl, hS, hvs⟩, hlen, hsm, q⟩ := h
  have hvs : Paired (fun t x => T3R K t x H) ts vs := hvs
  have hlen : ts.length ≤ 3000 := hlen
  have hsm : SmC3 ts := hsm
  have q : Ret H Q fun v H' => ∃ d ws, v = .ref d ∧ H d = none ∧ SkR H (lawK ts) d ws H' := q
  refine ⟨_, (pss_cons (ps_set (i := 1) sc__law_steps.nd rfl (.inl rfl) pe_dnewKN)
      (pss_cons (ps_for PassesOwn.never rfl (pi_list (pv 0)) (pg_tup rfl (pgs_cons (pg_name (i := 2) sc__law_steps.nd rfl (.inl rfl)) (pgs_cons (pg_name (i := 3) sc__law_steps.nd rfl (.inl rfl)) (pgs_cons (pg_name (i := 4) sc__law_steps.nd rfl (.inl rfl)) pgs_nil)))) (pss_cons (ps_expr (pe_bm PySem.F.plainAttrs_list PySem.F.slot_list_append PySem.F.type_list_append mt_appN (pe_dsetdK (hu_of hr) (pv 1) (pv 2) (pe_lstN pa_nil) ⟨rfl, rfl, rfl, rfl⟩) (pa_cons (pe_tupN (pa_cons (pv 3) (pa_cons (pv 4) pa_nil))) pa_nil)))
      (pss_one (ps_expr (pe_bm PySem.F.plainAttrs_list PySem.F.slot_list_append PySem.F.type_list_append mt_appN (pe_dsetdK (hu_of hr) (pv 1) (pv 4) (pe_lstN pa_nil) ⟨rfl, rfl, rfl, rfl⟩) (pa_cons (pe_tupN (pa_cons (pe_upper (pv 3)) (pa_cons (pv 2) pa_nil))) pa_nil))))))
      (pss_one (ps_ret (pv 1))))), ?_⟩
  walk_at "gw"
  intro dB H1 n1
  walk_at "gw"
  refine ⟨l, rfl, ⟨_, n1.ex.seq hS⟩, ?_⟩
  refine forS (bs := ts) (seqs_listP (R := T3R K)) (fun pre σ' H' => ∃ ws y2 y3 y4, σ' = [some (.ref l), some (.ref dB), y2, y3, y4] ∧ Ex H H' ∧ ws.length ≤ 2 * pre.length ∧ SkR H (pre.foldl stK []) dB ws H')
    ⟨[], _, _, _, rfl, n1.ex, Nat.zero_le _, n1.at_, .nil, List.nodup_nil, List.nodup_nil, fun v hv => by cases hv⟩ (fun _ _ H' ⟨_, _, _, _, _, e, _⟩ => ⟨vs, e.seq hS, paired_impH hvs fun t x r => r.mono (Ex.tu e)⟩) ?_ ?_
  · rintro pre t post x σ' H2 H3 e ⟨ws, y2, y3, y4, rfl, ex, hlw, bes⟩ e3 ⟨p, rfl, hp⟩
    have lpre : pre.length ≤ 2999 := by
      have h2 := congrArg List.length e
      rw [List.length_append, List.length_cons] at h2
      omega
    have hti : t ∈ ts := by rw [e]; simp
    have h97 := hsm t hti
    have ln : ∀ k, (nbrK (pre.foldl stK []) k).length ≤ 6000 := fun k => by
      have h1 := lawK_len pre [] k
      have h0 : (nbrK [] k).length = 0 := rfl
      omega
    have ex3 : Ex H H3 := ex.trans e3
    have bes3 := bes.ex e3
    walk_at "gw"
    refine w_gtup3 hp ?_
    refine w_dsetdK ?_
    walk_at "gw"
    refine ⟨dB, rfl, .inl ⟨ws, .inl bes3.at_⟩, ?_⟩
    walk_at "gw"
    refine sz_and (Nat.zero_le _) fun l5 H5 n5 => ?_
    refine sk_key (x := t.1) (y := (t.2.1, t.2.2)) (fun H' Q' k => ?_) bes3 n5 (by omega) (by have := ln t.1; omega) ex3 n1.no fun H6 ws6 ex6 tz6 l6 bes6 => ?_
    · walk_at "gw"
      refine sz_and (by show 2 ≤ 16000000; decide) fun a7 H7 n7 => ?_
      walk_at "gw"
      exact k _ _ n7
    walk_at "gw"
    refine w_dsetdK ?_
    walk_at "gw"
    refine ⟨dB, rfl, .inl ⟨ws6, .inl bes6.at_⟩, ?_⟩
    walk_at "gw"
    refine sz_and (Nat.zero_le _) fun l8 H8 n8 => ?_
    refine sk_key (x := t.2.2) (y := (bk t.2.1, t.1)) (fun H' Q' k => ?_) bes6 n8 (by omega) (by have := ln t.2.2; have h1 : (nbrK (addK (pre.foldl stK []) t.1 (t.2.1, t.2.2)) t.2.2).length ≤ (nbrK (pre.foldl stK []) t.2.2).length + 1 := (by rw [nbrK_add]; split <;> simp); omega) ex6 n1.no fun H9 ws9 ex9 tz9 l9 bes9 => ?_
    · walk_at "gw"
      refine ⟨rfl, (by show 1 ≤ 5592405; decide), ?_⟩
      have e5 : Txt.upper (sg t.2.1) = sg (bk t.2.1) := by
        have := upper_a (t.2.1 - 97) (by omega)
        rw [show 97 + (t.2.1 - 97) = t.2.1 by omega] at this
        rw [show bk t.2.1 = 65 + (t.2.1 - 97) by unfold bk; rw [if_pos h97.1]; omega]
        exact this
      rw [e5]
      walk_at "gw"
      refine sz_and (by show 2 ≤ 16000000; decide) fun a7 H7 n7 => ?_
      walk_at "gw"
      exact k _ _ n7
    refine ⟨ws9, _, _, _, rfl, ex9, by rw [List.length_append, List.length_singleton]; omega, ?_⟩
    rw [List.foldl_append, List.foldl_cons, List.foldl_nil]
    exact bes9
  rintro σ' H2 ⟨ws, y2, y3, y4, rfl, ex2, hlw, bes⟩
  walk_at "gw"
  exact q _ _ ex2 ⟨dB, ws, rfl, n1.no, bes⟩
abbrev N__law_ways : List Str := ["_law_steps_here", "_law_ways_here", "_law_rooms", "_law_at", "_law_letter", "_law_goal"]
theorem sc__law_ways : FnScope ["_law_steps_here", "_law_ways_here", "_law_rooms", "_law_at", "_law_letter", "_law_goal"] ["_law_steps_here"] (defScope s__law_ways) := ⟨rfl, rfl, rfl, by decide +kernel, rfl, by decide +kernel, by decide +kernel⟩
theorem b__law_ways : BindsT "_law_ways" s__law_ways ["_law_steps_here"] := fun _ _ _ _ _ _ us hl => match us, hl with | [_], _ => rfl
def sp__law_ways (K : PySem.W.Frag) : Sp := fun vs H Q _ => ∃ p : Addr × List T3 × List (Key × V) × Hp, vs = [.ref p.1] ∧ SkR p.2.2.2 (lawK p.2.1) p.1 p.2.2.1 H ∧ p.2.1.length ≤ 3000 ∧ Ret H Q fun v H' => ∃ dW, v = .ref dW ∧ H dW = none ∧ H' dW = some (.dK (encF (waysK p.2.1)))
theorem ok__law_ways (T : Tx K mg) : Ok P w K mg base 1 "_law_ways" ["_law_steps_here"] (sp__law_ways K) := by
  refine Ok.of T.f__law_ways sc__law_ways b__law_ways (fun vs H Q E h => by obtain ⟨a, rfl, _⟩ := h; rfl) (fun cdv A outer s H vs Q E hr h => ?_)
  obtain ⟨⟨d, ts, ws, H0⟩, rfl, b, hlen, q⟩ := h
  have b : SkR H0 (lawK ts) d ws H := b
  have hlen : ts.length ≤ 3000 := hlen
  refine ⟨_, (pss_cons (ps_set (i := 1) sc__law_ways.nd rfl (.inl rfl) (pe_disp (pps_cons pe_int pe_str pps_nil) (by rfl) (by rfl) (fun z => by cases z) (by decide)))
      (pss_cons (ps_set (i := 2) sc__law_ways.nd rfl (.inl rfl) (pe_lstN (pa_cons pe_int pa_nil)))
      (pss_cons (ps_set (i := 3) sc__law_ways.nd rfl (.inl rfl) pe_int)
      (pss_cons (ps_while PassesOwn.never (pt_cmpR op_lt (pv 3) (pe_callB (call_len_seqK K) (by rfl) T.n_len (by decide +kernel) (pa_cons (pv 2) pa_nil)) (nomark _)) (pss_cons (ps_for PassesOwn.never rfl (pi_list (pe_dget2 (hu_of hr) (pv 0) (pe_ix (ix_listK K) (pv 2) (pv 3) (fun _ _ => rfl)) (pe_lstN pa_nil) ⟨rfl, rfl, rfl, rfl⟩)) (pg_tup rfl (pgs_cons (pg_name (i := 4) sc__law_ways.nd rfl (.inl rfl)) (pgs_cons (pg_name (i := 5) sc__law_ways.nd rfl (.inl rfl)) pgs_nil))) (pss_one (ps_if (pt_cmp (pc_dnotin (hu_of hr) (pv 5) (pv 1))) (pss_cons (ps_dput (hu_of hr) (pv 1) (pv 5) (pe_op op_add_str (pe_dget (hu_of hr) (pv 1) (pe_ix (ix_listK K) (pv 2) (pv 3) (fun _ _ => rfl)) (fun _ _ => rfl)) (pv 4)) rfl)
      (pss_one (ps_expr (pe_bm PySem.F.plainAttrs_list PySem.F.slot_list_append PySem.F.type_list_append mt_appN (pv 2) (pa_cons (pv 5) pa_nil))))) pss_nil)))
      (pss_one (ps_set (i := 3) sc__law_ways.nd rfl (.inl rfl) (pe_op op_add (pv 3) pe_int)))))
      (pss_one (ps_ret (pv 1))))))), ?_⟩
  show tSeq _ _ _ (L2.start _ [V.ref d]) H
  walk_at "gw"
  refine w_dispC (k := .inl 0) rfl fun dW H1 n1 => ?_
  walk_at "gw"
  refine sz_and (by show 1 ≤ 16000000; decide) fun lO H2 n2 => ?_
  walk_at "gw"
  have nW : H dW = none := n1.no
  have nO : H lO = none := n1.ex.free n2.no
  have neWO : dW ≠ lO := fun z => by
    have := n2.no
    rw [← z, n1.at_] at this
    cases this
  have hD := roomsK_nbr ts
  obtain ⟨Wh, hW⟩ : ∃ Wh : Nat → L2.St → Hp → Prop, Wh = fun n σ' H' => ∃ i f y4 y5, σ' = [some (.ref d), some (.ref dW), some (.ref lO), some (iN i), y4, y5] ∧ Ex H H' ∧ H' dW = some (.dK (encF f)) ∧ H' lO = some (.lst ((keysF f).map iN)) ∧ KOk (lawK ts) (roomsK ts) f ∧ i ≤ f.length ∧ n + i = 2 * ts.length + 2 ∧ waysK ts = bfsK (lawK ts) n i f := ⟨_, rfl⟩
  refine ⟨Wh, ⟨2 * ts.length + 2, ?_⟩, ?_⟩
  · rw [hW]
    exact ⟨0, [(0, [])], _, _, rfl, n1.ex.trans n2.ex, n2.ex _ _ n1.at_, n2.at_, kOk_init List.mem_cons_self, by simp, rfl, rfl⟩
  intro n σ' H4 hw
  rw [hW] at hw
  obtain ⟨i, f, y4, y5, rfl, e4, hW4, hO4, U, hi, hn, hbfs⟩ := hw
  have sml := U.len
  rw [roomsK_len] at sml
  have kl : (keysF f).length = f.length := List.length_map _
  walk_at "gw"
  refine ex_lenL (sqL_of hO4) ?_
  walk_at "gw"
  by_cases hlt : i < f.length
  · rw [if_pos (by simp only [List.length_map]; exact decide_eq_true (by omega))]
    obtain ⟨n, rfl⟩ : ∃ m, n = m + 1 := ⟨n - 1, by omega⟩
    have hp := List.getElem?_eq_getElem hlt
    generalize f[i] = p at hp
    obtain ⟨r, way⟩ := p
    have hmr : (r, way) ∈ f := List.mem_of_getElem? hp
    have wayl := (U.way _ hmr).2
    have wayl : way.length < f.length := wayl
    refine ⟨fun σ2 H2 => ∃ m', m' < n + 1 ∧ Wh m' σ2 H2, fun _ _ h => h, ?_⟩
    have b4 := b.ex e4
    walk_at "gw"
    refine ⟨d, rfl, .inl ⟨ws, .inl b4.at_⟩, ?_⟩
    walk_at "gw"
    refine w_ixL (sqL_of hO4) (v := iN r) (atI_nat (by rw [List.getElem?_map, keysF, List.getElem?_map, hp]; rfl)) ?_
    walk_at "gw"
    refine sz_and (Nat.zero_le _) fun l5 H5 n5 => ?_
    have b5 := b4.ex n5.ex
    have e5 := e4.trans n5.ex
    have hW5 := n5.ex _ _ hW4
    have hO5 := n5.ex _ _ hO4
    have fin : ∀ σ6 H6, (∃ y4 y5, σ6 = [some (.ref d), some (.ref dW), some (.ref lO), some (iN i), y4, y5] ∧ Ex H H6 ∧ H6 dW = some (.dK (encF ((nbrK (lawK ts) r).foldl (tryK way) f))) ∧ H6 lO = some (.lst ((keysF ((nbrK (lawK ts) r).foldl (tryK way) f)).map iN))) → ∃ m', m' < n + 1 ∧ Wh m' (σ6.set 3 (some (iN (i + 1)))) H6 := fun σ6 H6 ⟨y4, y5, e6, ex6, hW6, hO6⟩ => by
      obtain ⟨x, hx⟩ := foldK_pre way (nbrK (lawK ts) r) f
      obtain ⟨U6, _⟩ := KOk.foldK (r := r) (way := way) (nbrK (lawK ts) r) f (fun p hp => ⟨hp, hD _ p hp⟩) U hmr
      rw [hW, e6]
      refine ⟨n, by omega, i + 1, _, y4, y5, rfl, ex6, hW6, hO6, U6, ?_, by omega, ?_⟩
      · rw [hx, List.length_append]
        omega
      · rw [hbfs]
        conv => lhs; unfold bfsK
        rw [hp]
    cases ha : aget (lawK ts) r with
    | none =>
      obtain ⟨h3, _⟩ := b5.miss ha
      have hz : nbrK (lawK ts) r = [] := by unfold nbrK; rw [ha]; rfl
      refine ⟨none, by have := DGet.k (k := .inl (r : Int)) b5.at_; rw [h3] at this; exact this, ?_⟩
      show ∃ a, V.ref l5 = V.ref a ∧ _
      refine ⟨l5, rfl, ⟨_, sqL_of n5.at_⟩, ?_⟩
      refine forS (bs := ([] : List (Nat × Nat))) (seqs_listP (R := QR)) (fun pre σ' H' => H' = H5 ∧ ∃ y4 y5, σ' = [some (.ref d), some (.ref dW), some (.ref lO), some (iN i), y4, y5]) ⟨rfl, _, _, rfl⟩ (fun pre σ' H' ⟨h, _⟩ => by rw [h]; exact ⟨[], sqL_of n5.at_, .nil⟩) ?_ ?_
      · rintro pre p post x σ' H6 H7 e
        cases pre <;> cases e
      · rintro σ6 H6 ⟨rfl, y4', y5', rfl⟩
        walk_at "gw"
        exact fin _ _ ⟨_, _, rfl, e5, by rw [hz]; exact hW5, by rw [hz]; exact hO5⟩
    | some zs =>
      obtain ⟨l, vs, h3, h4, h5, h6, _⟩ := b.hit ha
      have hz : nbrK (lawK ts) r = zs := by unfold nbrK; rw [ha]; rfl
      refine ⟨some (.ref l), by have := DGet.k (k := .inl (r : Int)) b5.at_; rw [h3] at this; exact this, ?_⟩
      show ∃ a, V.ref l = V.ref a ∧ _
      refine ⟨l, rfl, ⟨_, sqL_of (e5 _ _ h4)⟩, ?_⟩
      refine forS (bs := zs) (seqs_listP (R := QR)) (fun pre σ' H' => ∃ y4 y5, σ' = [some (.ref d), some (.ref dW), some (.ref lO), some (iN i), y4, y5] ∧ Ex H H' ∧ H' dW = some (.dK (encF (pre.foldl (tryK way) f))) ∧ H' lO = some (.lst ((keysF (pre.foldl (tryK way) f)).map iN)))
        ⟨_, _, rfl, e5, hW5, hO5⟩ (fun _ _ H' ⟨_, _, _, ex, _⟩ => ⟨vs, sqL_of (ex _ _ h4), paired_impH h5 fun _ _ r => r.mono (Ex.ts ex)⟩) ?_ ?_
      · rintro pre p post x σ' H6 H7 e ⟨y4', y5', rfl, ex6, hW6, hO6⟩ e7 ⟨a, rfl, ha7⟩
        have ex7 := ex6.trans e7
        have hW7 := e7 _ _ hW6
        have hO7 := e7 _ _ hO6
        have hpre : ∀ q ∈ pre, q ∈ nbrK (lawK ts) r ∧ q.2 ∈ roomsK ts := fun q hq => by
          have : q ∈ nbrK (lawK ts) r := by rw [hz, e]; simp [hq]
          exact ⟨this, hD _ q this⟩
        obtain ⟨U7, _⟩ := KOk.foldK (r := r) (way := way) pre f hpre U hmr
        obtain ⟨x7, hx7⟩ := foldK_pre way pre f
        have hat : (pre.foldl (tryK way) f)[i]? = some (r, way) := by
          rw [hx7, List.getElem?_append_left hlt]
          exact hp
        have len7 := U7.len
        rw [roomsK_len] at len7
        rw [List.foldl_append, List.foldl_cons, List.foldl_nil]
        generalize pre.foldl (tryK way) f = f7 at hW7 hO7 U7 hat len7 ⊢
        walk_at "gw"
        refine w_gtup2 (K := K) (sqT_of ha7) ?_
        walk_at "gw"
        refine ⟨dW, _, rfl, DGet.k (k := .inl (p.2 : Int)) hW7, ?_⟩
        walk_at "gw"
        have hhas : (valV (encF f7) (.inl (p.2 : Int))).isSome = ahas f7 p.2 := by
          rw [encF_get, Option.isSome_map, ahas_get]
        rw [hhas]
        cases hb : ahas f7 p.2 with
        | true =>
          rw [Bool.not_true, if_neg Bool.false_ne_true]
          walk_at "gw"
          have hin : p.2 ∈ keysF f7 := ahas_mem.mp hb
          rw [show tryK way f7 p = f7 from if_pos hin]
          exact ⟨_, _, rfl, ex7, hW7, hO7⟩
        | false =>
        rw [Bool.not_false, if_pos rfl]
        have hnb : ¬ ahas f7 p.2 = true := by rw [hb]; exact Bool.false_ne_true
        have hnk : p.2 ∉ keysF f7 := fun z => hnb (ahas_mem.mpr z)
        walk_at "gw"
        refine w_ixL (sqL_of hO7) (v := iN r) (atI_nat (by rw [List.getElem?_map, keysF, List.getElem?_map, hat]; rfl)) ?_
        have get7 := DGet.k (k := .inl (r : Int)) hW7
        rw [encF_get, aget_at U7.nd hat] at get7
        refine ⟨dW, _, rfl, get7, ?_⟩
        walk_at "gw"
        refine ⟨line_le (by show way.length + 1 ≤ _; omega), ?_⟩
        rw [show tx way ++ sg p.1 = tx (way ++ [p.1]) from tx_app way [p.1]]
        walk_at "gw"
        refine ⟨dW, _, rfl, DPut.k (k := .inl (p.2 : Int)) hW7 (line_lt (by simp only [List.length_map]; omega)), ?_⟩
        rw [encF_new hnb]
        generalize hH8 : upd H7 dW (.dK (encF (f7 ++ [(p.2, way ++ [p.1])]))) = H8
        have c8 : Chg H7 dW (.dK (encF (f7 ++ [(p.2, way ++ [p.1])]))) H8 := by rw [← hH8]; exact .of
        have hO8 := c8.but _ _ (Ne.symm neWO) hO7
        walk_at "gw"
        refine w_app hO8 (by rw [List.length_map, List.length_map]; omega) fun H9 c9 => ?_
        walk_at "gw"
        rw [show tryK way f7 p = f7 ++ [(p.2, way ++ [p.1])] from if_neg hnk]
        refine ⟨_, _, rfl, c9.ex (c8.ex ex7 nW) nO, c9.but _ _ neWO c8.at_, ?_⟩
        rw [c9.at_, keysF, keysF, List.map_append, List.map_append]
        rfl
      · rintro σ6 H6 ⟨y4', y5', rfl, ex6, hW6, hO6⟩
        walk_at "gw"
        exact fin _ _ ⟨_, _, rfl, ex6, by rw [hz]; exact hW6, by rw [hz]; exact hO6⟩
  · rw [if_neg (by simp only [List.length_map]; rw [decide_eq_false (by omega)]; exact Bool.false_ne_true)]
    walk_at "gw"
    have hi2 : f[i]? = none := List.getElem?_eq_none (by omega)
    have hs : waysK ts = f := by
      rw [hbfs]
      cases n with
      | zero => rfl
      | succ n =>
        unfold bfsK
        rw [hi2]
    refine q _ _ e4 ⟨dW, rfl, nW, ?_⟩
    show H4 dW = some (.dK (encF (waysK ts)))
    rw [hs]
    exact hW4
end
end Gw

/-! ### law k05: a word that goes round -/
namespace Gw
open PySem PySem.Spec PyProof.Rows L2 RT PySem.W
theorem pd_atK {α β : Type} {R : α → β → Prop} : ∀ {as : List α} {bs : List β}, Paired R as bs → ∀ {n : Nat} {a : α}, as[n]? = some a → ∃ b, bs[n]? = some b ∧ R a b
  | _, _, .cons r t, 0, _, h => by cases h; exact ⟨_, rfl, r⟩
  | _, _, .cons r t, n + 1, _, h => pd_atK t h
section
variable {P : Program} {w : World} {K : PySem.W.Frag} {mg : Str → Option Value} {base : Heap}
abbrev N__law_round : List Str := ["_law_web", "_law_cell_here", "_law_many", "_law_steps_here", "_law_word_here", "_law_room", "_law_k", "_law_some", "_law_letter"]
theorem sc__law_round : FnScope ["_law_web", "_law_cell_here", "_law_many", "_law_steps_here", "_law_word_here", "_law_room", "_law_k", "_law_some", "_law_letter"] ["_law_web", "_law_cell_here", "_law_many"] (defScope s__law_round) := ⟨rfl, rfl, rfl, by decide +kernel, rfl, by decide +kernel, by decide +kernel⟩
theorem b__law_round : BindsT "_law_round" s__law_round ["_law_web", "_law_cell_here", "_law_many"] := fun _ _ _ _ _ _ us hl => match us, hl with | [_, _, _], _ => rfl
def sp__law_round (K : PySem.W.Frag) : Sp := fun vs H Q _ => ∃ p : V × List T3 × Int × Nat, vs = [p.1, .int p.2.2.1, iN p.2.2.2] ∧ LstR K (T3R K) p.2.1 p.1 H ∧ p.2.1.length ≤ 3000 ∧ SmC3 p.2.1 ∧ p.2.2.2 ≤ 100 ∧ Ret H Q fun v _ => ∃ u, v = .str (tx u) ∧ AL u ∧ Walk p.2.1 0 u 0 ∧ u.length + 1 ≤ p.2.2.2 + (waysK p.2.1).length
theorem ok__law_round (T : Tx K mg) (G__law_mixed : Ok P w K mg base 1 "_law_mixed" ["_law_cell_here", "_law_k"] sp__law_mixed) (G__law_turned : Ok P w K mg base 2 "_law_turned" ["_law_word_here"] sp__law_turned) (G__law_steps : Ok P w K mg base 1 "_law_steps" ["_law_web"] (sp__law_stepsK K)) (G__law_ways : Ok P w K mg base 1 "_law_ways" ["_law_steps_here"] (sp__law_ways K)) : Ok P w K mg base 3 "_law_round" ["_law_web", "_law_cell_here", "_law_many"] (sp__law_round K) := by
  refine Ok.of T.f__law_round sc__law_round b__law_round (fun vs H Q E h => by obtain ⟨a, rfl, _⟩ := h; rfl) (fun cdv A outer s H vs Q E hr h => ?_)
  obtain ⟨⟨v1, ts, c, n⟩, rfl, hT, hlen, hsm, hn, q⟩ := h
  have hT : LstR K (T3R K) ts v1 H := hT
  have hlen : ts.length ≤ 3000 := hlen
  have hsm : SmC3 ts := hsm
  have hn : n ≤ 100 := hn
  refine ⟨_, (pss_cons (ps_set (i := 3) sc__law_round.nd rfl (.inl rfl) (pe_g G__law_steps (hr.mono (by decide)) (by rfl) (pa_cons (pv 0) pa_nil)))
      (pss_cons (ps_set (i := 4) sc__law_round.nd rfl (.inl rfl) pe_str)
      (pss_cons (ps_set (i := 5) sc__law_round.nd rfl (.inl rfl) pe_int)
      (pss_cons (ps_for PassesOwn.never rfl (pi_range1 (by rfl) T.n_range (pa_cons (pv 2) pa_nil)) (pg_name (i := 6) sc__law_round.nd rfl (.inl rfl)) (pss_cons (ps_set (i := 7) sc__law_round.nd rfl (.inl rfl) (pe_dget2 (hu_of hr) (pv 3) (pv 5) (pe_lstN pa_nil) ⟨rfl, rfl, rfl, rfl⟩))
      (pss_one (ps_if (pt_cmpR (op_neNil K hr.units) (pv 7) (pe_lstN pa_nil) (nomark _)) (pss_cons (ps_asg (pe_ix (ix_listK K) (pv 7) (pe_op op_mod (pe_op op_fdiv (pe_g G__law_mixed (hr.mono (by decide)) (by rfl) (pa_cons (pv 1) (pa_cons (pv 6) pa_nil))) pe_int) (pe_callB (call_len_seqK K) (by rfl) T.n_len (by decide +kernel) (pa_cons (pv 7) pa_nil))) (fun _ _ => rfl)) (pg_tup rfl (pgs_cons (pg_name (i := 8) sc__law_round.nd rfl (.inl rfl)) (pgs_cons (pg_name (i := 5) sc__law_round.nd rfl (.inl rfl)) pgs_nil))))
      (pss_one (ps_set (i := 4) sc__law_round.nd rfl (.inl rfl) (pe_op op_add_str (pv 4) (pv 8))))) pss_nil))))
      (pss_one (ps_ret (pe_op op_add_str (pv 4) (pe_g G__law_turned (hr.mono (by decide)) (by rfl) (pa_cons (pe_dget (hu_of hr) (pe_g G__law_ways (hr.mono (by decide)) (by rfl) (pa_cons (pv 3) pa_nil)) (pv 5) (fun _ _ => rfl)) pa_nil))))))))), ?_⟩
  show tSeq _ _ _ (L2.start _ [v1, V.int c, iN n]) H
  walk_at "gw"
  refine ⟨(v1, ts), rfl, hT, hlen, hsm, ?_⟩
  rintro _ H1 e1 ⟨d, ws, rfl, nd, b⟩
  have b : SkR H (lawK ts) d ws H1 := b
  walk_at "gw"
  refine ex_rng1 (n := n) (by omega) ?_
  refine forS (bs := List.range n) seqs_rng0 (fun pre σ' H' => ∃ u r y6 y7 y8, σ' = [some v1, some (.int c), some (iN n), some (.ref d), some (.str (tx u)), some (iN r), y6, y7, y8] ∧ Ex H1 H' ∧ WalkK (lawK ts) 0 u r ∧ u.length ≤ pre.length)
    ⟨[], 0, _, _, _, rfl, L2.Same.refl _, rfl, Nat.le_refl _⟩ (fun _ _ _ _ => trivial) ?_ ?_
  · rintro pre k post x σ' H2 H3 e ⟨u, r, y6, y7, y8, rfl, ex, wk, ul⟩ e3 rfl
    obtain ⟨hk, hkn⟩ := range_split e
    have e13 := ex.trans e3
    have b3 := b.ex e13
    walk_at "gw"
    refine ⟨d, rfl, .inl ⟨ws, .inl b3.at_⟩, ?_⟩
    walk_at "gw"
    refine sz_and (Nat.zero_le _) fun l4 H4 n4 => ?_
    have b4 := b3.ex n4.ex
    have e14 := e13.trans n4.ex
    cases ha : aget (lawK ts) r with
    | none =>
      obtain ⟨h3, _⟩ := b4.miss ha
      refine ⟨none, by have := DGet.k (k := .inl (r : Int)) b4.at_; rw [h3] at this; exact this, ?_⟩
      walk_at "gw"
      refine sz_and (Nat.zero_le _) fun l5 H5 n5 => ?_
      refine ⟨l4, l5, [], rfl, rfl, sqL_of (n5.ex _ _ n4.at_), sqL_of n5.at_, ?_⟩
      rw [show (!([] : List V).isEmpty) = false from rfl]
      walk_at "gw"
      exact ⟨u, r, _, _, _, rfl, e14.trans n5.ex, wk, by rw [List.length_append]; omega⟩
    | some zs =>
      obtain ⟨l, vs, h3, h4, h5, h6, _⟩ := b4.hit ha
      refine ⟨some (.ref l), by have := DGet.k (k := .inl (r : Int)) b4.at_; rw [h3] at this; exact this, ?_⟩
      walk_at "gw"
      refine sz_and (Nat.zero_le _) fun l5 H5 n5 => ?_
      have e15 := e14.trans n5.ex
      have h45 := n5.ex _ _ h4
      refine ⟨l, l5, vs, rfl, rfl, sqL_of h45, sqL_of n5.at_, ?_⟩
      have lz := Paired.length h5
      by_cases hvs : vs.isEmpty = true
      · rw [hvs, Bool.not_true]
        walk_at "gw"
        exact ⟨u, r, _, _, _, rfl, e15, wk, by rw [List.length_append]; omega⟩
      rw [Bool.eq_false_iff.mpr hvs, Bool.not_false]
      have vpos : 0 < vs.length := by
        cases vs with
        | nil => exact absurd rfl hvs
        | cons _ _ => exact Nat.succ_pos _
      walk_at "gw"
      refine c_mixed k (L2.Same.refl _) (by omega) fun H6 e6 => ?_
      have h46 := e6 _ _ h45
      walk_at "gw"
      refine ex_lenL (sqL_of h46) ?_
      refine w_rI (show (0 : Int) < (vs.length : Nat) by omega) ?_
      obtain ⟨i, ei, il⟩ := mod_nat (c := mixed c k / 7) vpos
      rw [ei]
      obtain ⟨pr, hpr⟩ : ∃ pr, zs[i]? = some pr := ⟨_, List.getElem?_eq_getElem (by omega)⟩
      have h56 : Paired (fun z x => QR z x H6) zs vs := paired_impH h5 fun _ _ r => r.mono (Ex.ts (n5.ex.trans e6))
      obtain ⟨xv, hxv, a, rfl, ha6⟩ := pd_atK h56 hpr
      refine w_ixL (sqL_of h46) (v := .ref a) (atI_nat hxv) ?_
      walk_at "gw"
      refine w_gtup2 (K := K) (sqT_of ha6) ?_
      walk_at "gw"
      have ul' : u.length ≤ 100 := by omega
      refine ⟨line_le (by show u.length + 1 ≤ _; omega), ?_⟩
      rw [show tx u ++ sg pr.1 = tx (u ++ [pr.1]) from tx_app u [pr.1]]
      walk_at "gw"
      have hin : pr ∈ nbrK (lawK ts) r := by
        unfold nbrK
        rw [ha]
        exact List.mem_of_getElem? hpr
      exact ⟨u ++ [pr.1], pr.2, _, _, _, rfl, e15.trans e6, wk.snoc hin, by rw [List.length_append, List.length_append, List.length_singleton, List.length_singleton]; omega⟩
  rintro σ' H2 ⟨u, r, y6, y7, y8, rfl, ex, wk, ul⟩
  rw [List.length_range] at ul
  walk_at "gw"
  have b2 := b.ex ex
  refine ⟨(d, ts, ws, H), rfl, b2, hlen, ?_⟩
  rintro _ H3 e3 ⟨dW, rfl, nW, hW⟩
  have hW : H3 dW = some (.dK (encF (waysK ts))) := hW
  walk_at "gw"
  have hr : r ∈ keysF (waysK ts) := waysK_has ts wk (by
    have := (waysK_ok ts).1.zero
    exact List.mem_map.mpr ⟨_, this, rfl⟩)
  obtain ⟨w2, hw2, wk2, wl2⟩ := waysK_get ts hr
  have get := DGet.k (k := .inl (r : Int)) hW
  rw [encF_get, hw2] at get
  refine ⟨dW, _, rfl, get, ?_⟩
  obtain ⟨al1, wa1⟩ := wk.walk hsm
  obtain ⟨al2, wa2⟩ := wk2.walk hsm
  have kl := (waysK_ok ts).1.len
  rw [roomsK_len] at kl
  walk_at "gw"
  refine c_lturned (L2.Same.refl _) al2 (by omega) fun H4 e4 => ?_
  walk_at "gw"
  refine ⟨line_le (by show u.length + (rv w2).length ≤ _; rw [rv_len]; omega), ?_⟩
  rw [show tx u ++ tx (rv w2) = tx (u ++ rv w2) from tx_app _ _]
  refine q _ _ (((e1.trans ex).trans e3).trans e4) ⟨u ++ rv w2, rfl, al1.app al2.rv, wa1.app (wa2.turn al2), ?_⟩
  rw [List.length_append, rv_len]
  show u.length + w2.length + 1 ≤ n + (waysK ts).length
  omega
end
end Gw

/-! ### law k05: short words, products -/
namespace Gw
open PySem PySem.Spec PyProof.Rows L2 RT PySem.W
theorem line_le2 {n : Nat} (h : n ≤ 16777216) : n ≤ sizeLine := by rw [sizeLine_eq]; exact h
theorem w_cut2 {z : Str} {lo hi : Option Int} {H : Hp} {Q : VK} (h : z.length ≤ 16777216) (q : Q (.str (cutS z lo hi)) H) : rSlS (.str z) lo hi H Q := ⟨z, rfl, line_le2 h, q⟩
theorem cut_last {k : List Nat} {d : Nat} : cutS (tx (k ++ [d])) (some (-1)) none = sg d := by
  unfold cutS
  rw [HT.sIx_none]
  show (⟨(((k ++ [d]).drop (HT.sIx (k ++ [d]).length 0 (some (-1)))).take ((k ++ [d]).length - HT.sIx (k ++ [d]).length 0 (some (-1)))).toArray⟩ : Str) = _
  have : HT.sIx (k ++ [d]).length 0 (some (-1)) = k.length := by
    unfold HT.sIx
    dsimp only
    rw [if_pos (by decide), List.length_append, List.length_singleton]
    omega
  rw [this, List.drop_left, List.length_append, List.length_singleton, Nat.add_sub_cancel_left]
  rfl
theorem cut_last_nil : cutS (tx []) (some (-1)) none = tx [] := by decide +kernel
theorem cut_init {k : List Nat} {d : Nat} : cutS (tx (k ++ [d])) none (some (-1)) = tx k := by
  unfold cutS
  rw [HT.sIx_none]
  show (⟨(((k ++ [d]).drop 0).take (HT.sIx (k ++ [d]).length (k ++ [d]).length (some (-1)) - 0)).toArray⟩ : Str) = _
  have : HT.sIx (k ++ [d]).length (k ++ [d]).length (some (-1)) = k.length := by
    unfold HT.sIx
    dsimp only
    rw [if_pos (by decide), List.length_append, List.length_singleton]
    omega
  rw [this, List.drop_zero, Nat.sub_zero, List.take_left]
section
variable {P : Program} {w : World} {K : PySem.W.Frag} {mg : Str → Option Value} {base : Heap}
abbrev N__law_short : List Str := ["_law_word_here", "_law_kept", "_law_letter"]
theorem sc__law_short : FnScope ["_law_word_here", "_law_kept", "_law_letter"] ["_law_word_here"] (defScope s__law_short) := ⟨rfl, rfl, rfl, by decide +kernel, rfl, by decide +kernel, by decide +kernel⟩
theorem b__law_short : BindsT "_law_short" s__law_short ["_law_word_here"] := fun _ _ _ _ _ _ us hl => match us, hl with | [_], _ => rfl
def sp__law_short : Sp := fun vs H Q _ => ∃ u : List Nat, vs = [.str (tx u)] ∧ AL u ∧ u.length ≤ 16777216 ∧ Ret H Q fun v _ => v = .str (tx (sh u))
theorem ok__law_short (T : Tx K mg) (G__law_back : Ok P w K mg base 1 "_law_back" ["_law_letter"] sp__law_back) : Ok P w K mg base 2 "_law_short" ["_law_word_here"] sp__law_short := by
  refine Ok.of T.f__law_short sc__law_short b__law_short (fun vs H Q E h => by obtain ⟨a, rfl, _⟩ := h; rfl) (fun cdv A outer s H vs Q E hr h => ?_)
  obtain ⟨u, rfl, hu, hl, q⟩ := h
  refine ⟨_, (pss_cons (ps_set (i := 1) sc__law_short.nd rfl (.inl rfl) pe_str)
      (pss_cons (ps_for PassesOwn.never rfl (pi_str (pv 0)) (pg_name (i := 2) sc__law_short.nd rfl (.inl rfl)) (pss_one (ps_if (pt_cmpR op_eq (pe_slice sl_str (pv 1) (po_some (pe_un un_neg pe_int)) po_none) (pe_g G__law_back (hr.mono (by decide)) (by rfl) (pa_cons (pv 2) pa_nil)) (nomark _)) (pss_one (ps_set (i := 1) sc__law_short.nd rfl (.inl rfl) (pe_slice sl_str (pv 1) po_none (po_some (pe_un un_neg pe_int))))) (pss_one (ps_set (i := 1) sc__law_short.nd rfl (.inl rfl) (pe_op op_add_str (pv 1) (pv 2)))))))
      (pss_one (ps_ret (pv 1))))), ?_⟩
  walk_at "gw"
  refine forS (bs := u) seqs_tx (fun pre σ' H' => ∃ y, σ' = [some (.str (tx u)), some (.str (tx (sh pre))), y] ∧ Ex H H') ⟨_, rfl, L2.Same.refl _⟩ (fun _ _ _ _ => trivial) ?_ ?_
  · rintro pre c post x σ' H2 H3 e ⟨y, rfl, ex⟩ e3 rfl
    have hpre : AL pre := fun d hd => hu d (by rw [e]; simp [hd])
    have hc : isL c = true := hu c (by rw [e]; simp)
    have lpre : (sh pre).length + 1 ≤ 16777216 := by
      have h1 := sh_len pre
      have h2 := congrArg List.length e
      rw [List.length_append, List.length_cons] at h2
      omega
    rw [sh_snoc]
    unfold shSt
    generalize sh pre = k at lpre
    walk_at "gw"
    refine w_cut2 (by show k.length ≤ _; omega) ?_
    walk_at "gw"
    refine c_lback (L2.Same.refl _) hc fun H4 e4 => ?_
    have ex4 := (ex.trans e3).trans e4
    rcases list_end k with rfl | ⟨k0, d, rfl⟩
    · rw [cut_last_nil]
      walk_at "gw"
      rw [if_neg (fun z => by have z := of_decide_eq_true z; injection z with z; exact absurd (congrArg (fun s : Str => s.cps.size) z) (by show ¬ (0 = 1); decide))]
      walk_at "gw"
      refine ⟨line_le2 (by show 0 + 1 ≤ _; decide), ?_⟩
      rw [show tx [] ++ sg c = tx ([] ++ [c]) from tx_app _ [c]]
      walk_at "gw"
      exact ⟨_, rfl, ex4⟩
    · rw [cut_last, List.getLast?_concat]
      walk_at "gw"
      by_cases hd : d = bk c
      · rw [if_pos (decide_eq_true (by rw [hd])), if_pos (by rw [hd]), List.dropLast_concat]
        walk_at "gw"
        refine w_cut2 (by show (k0 ++ [d]).length ≤ _; omega) ?_
        rw [cut_init]
        walk_at "gw"
        exact ⟨_, rfl, ex4⟩
      · rw [if_neg (fun z => hd (sg_inj (of_decide_eq_true z))), if_neg (fun z => hd (Option.some.inj z))]
        walk_at "gw"
        refine ⟨line_le2 (by show (k0 ++ [d]).length + 1 ≤ _; omega), ?_⟩
        rw [show tx (k0 ++ [d]) ++ sg c = tx (k0 ++ [d] ++ [c]) from tx_app _ [c]]
        walk_at "gw"
        exact ⟨_, rfl, ex4⟩
  · rintro σ' H2 ⟨y, rfl, ex⟩
    walk_at "gw"
    exact q _ _ ex rfl
abbrev N__law_product : List Str := ["_law_words", "_law_numbers_here", "_law_product_here", "_law_number", "_law_word_here"]
theorem sc__law_product : FnScope ["_law_words", "_law_numbers_here", "_law_product_here", "_law_number", "_law_word_here"] ["_law_words", "_law_numbers_here"] (defScope s__law_product) := ⟨rfl, rfl, rfl, by decide +kernel, rfl, by decide +kernel, by decide +kernel⟩
theorem b__law_product : BindsT "_law_product" s__law_product ["_law_words", "_law_numbers_here"] := fun _ _ _ _ _ _ us hl => match us, hl with | [_, _], _ => rfl
def sp__law_product (K : PySem.W.Frag) : Sp := fun vs H Q _ => ∃ p : (Addr × List (List Nat)) × (Addr × List Int), vs = [.ref p.1.1, .ref p.2.1] ∧ SqL K H p.1.1 (p.1.2.map fun u => V.str (tx u)) ∧ SqL K H p.2.1 (p.2.2.map V.int) ∧ (∀ u ∈ p.1.2, AL u ∧ u.length ≤ 100000) ∧ p.1.2.length ≤ 1000 ∧ InU p.1.2.length p.2.2 ∧ (evN p.1.2 p.2.2).length ≤ 16777216 ∧ Ret H Q fun v _ => v = .str (tx (evN p.1.2 p.2.2))
theorem ok__law_product (T : Tx K mg) (G__law_turned : Ok P w K mg base 2 "_law_turned" ["_law_word_here"] sp__law_turned) : Ok P w K mg base 3 "_law_product" ["_law_words", "_law_numbers_here"] (sp__law_product K) := by
  refine Ok.of T.f__law_product sc__law_product b__law_product (fun vs H Q E h => by obtain ⟨a, rfl, _⟩ := h; rfl) (fun cdv A outer s H vs Q E hr h => ?_)
  obtain ⟨⟨⟨l, us⟩, m, ns⟩, rfl, hS, hN, hu, hlu, hin, hlen, q⟩ := h
  have hS : SqL K H l (us.map fun u => V.str (tx u)) := hS
  have hN : SqL K H m (ns.map V.int) := hN
  have hu : ∀ u ∈ us, AL u ∧ u.length ≤ 100000 := hu
  have hlu : us.length ≤ 1000 := hlu
  have hin : InU us.length ns := hin
  have hlen : (evN us ns).length ≤ 16777216 := hlen
  refine ⟨_, (pss_cons (ps_set (i := 2) sc__law_product.nd rfl (.inl rfl) pe_str)
      (pss_cons (ps_for PassesOwn.never rfl (pi_list (pv 1)) (pg_name (i := 3) sc__law_product.nd rfl (.inl rfl)) (pss_cons (ps_set (i := 4) sc__law_product.nd rfl (.inl rfl) (pe_ix (ix_listK K) (pv 0) (pe_op op_sub (pe_callB call_abs (by rfl) T.n_abs (by decide +kernel) (pa_cons (pv 3) pa_nil)) pe_int) (fun _ _ => rfl)))
      (pss_cons (ps_if (pt_cmpR op_lt (pv 3) pe_int (nomark _)) (pss_one (ps_set (i := 4) sc__law_product.nd rfl (.inl rfl) (pe_g G__law_turned (hr.mono (by decide)) (by rfl) (pa_cons (pv 4) pa_nil)))) pss_nil)
      (pss_one (ps_set (i := 2) sc__law_product.nd rfl (.inl rfl) (pe_op op_add_str (pv 2) (pv 4)))))))
      (pss_one (ps_ret (pv 2))))), ?_⟩
  show tSeq _ _ _ (L2.start _ [V.ref l, V.ref m]) H
  walk_at "gw"
  refine ⟨m, rfl, ⟨_, hN⟩, ?_⟩
  refine forS (bs := ns) (Seqs.of_map (f := V.int) seqs_list) (fun pre σ' H' => ∃ y3 y4, σ' = [some (.ref l), some (.ref m), some (.str (tx (evN us pre))), y3, y4] ∧ Ex H H') ⟨_, _, rfl, L2.Same.refl _⟩ (fun _ _ H' ⟨_, _, _, e⟩ => e.seq hN) ?_ ?_
  · rintro pre n post x σ' H2 H3 e ⟨y3, y4, rfl, ex⟩ e3 rfl
    have hn := hin n (by rw [e]; simp)
    have e13 := ex.trans e3
    obtain ⟨u, hui⟩ : ∃ u, us[n.natAbs - 1]? = some u := ⟨_, List.getElem?_eq_getElem (by omega)⟩
    obtain ⟨alu, ulen⟩ := hu u (List.mem_of_getElem? hui)
    have hg : us.getD (n.natAbs - 1) [] = u := by rw [List.getD_eq_getElem?_getD, hui]; rfl
    have tot : (evN us pre).length + (ev1 us n).length ≤ 16777216 := by
      rw [e] at hlen
      have : evN us (pre ++ n :: post) = evN us pre ++ (ev1 us n ++ evN us post) := by rw [evN_app]; congr 1
      rw [this, List.length_append, List.length_append] at hlen
      omega
    rw [evN_app, evN_one]
    walk_at "gw"
    refine ⟨n, rfl, ?_⟩
    rw [show (if n < 0 then -n else n) = (n.natAbs : Int) by split <;> omega]
    walk_at "gw"
    rw [show (n.natAbs : Int) - 1 = ((n.natAbs - 1 : Nat) : Int) by omega]
    refine w_ixL (v := .str (tx u)) (e13.seq hS) (atI_nat (by rw [List.getElem?_map, hui]; rfl)) ?_
    walk_at "gw"
    have hev : ev1 us n = if n < 0 then rv u else u := by
      unfold ev1
      by_cases h : n < 0
      · rw [if_neg (by omega), if_pos h, show (-n).toNat - 1 = n.natAbs - 1 by omega, hg]
      · rw [if_pos (by omega), if_neg h, show n.toNat - 1 = n.natAbs - 1 by omega, hg]
    by_cases h : n < 0
    · rw [if_pos (decide_eq_true h)]
      rw [if_pos h] at hev
      walk_at "gw"
      refine c_lturned (L2.Same.refl _) alu ulen fun H4 e4 => ?_
      walk_at "gw"
      rw [hev] at tot ⊢
      refine ⟨line_le2 tot, ?_⟩
      rw [tx_app]
      walk_at "gw"
      exact ⟨_, _, rfl, e13.trans e4⟩
    · rw [if_neg (fun z => h (of_decide_eq_true z))]
      rw [if_neg h] at hev
      walk_at "gw"
      rw [hev] at tot ⊢
      refine ⟨line_le2 tot, ?_⟩
      rw [tx_app]
      walk_at "gw"
      exact ⟨_, _, rfl, e13⟩
  rintro σ' H2 ⟨y3, y4, rfl, ex⟩
  walk_at "gw"
  exact q _ _ ex rfl
end
end Gw

/-! ### making: numbers_by, made_by -/
namespace Gw
open PySem PySem.Spec PyProof.Rows L2 RT
theorem numPut_len (m : Nums) (t : T4) : (numPut m t).length ≤ m.length + 2 := by
  unfold numPut
  have h1 := aput_len m (t.1, t.2.1) (t.2.2.1, t.2.2.2)
  have h2 := aput_len (aput m (t.1, t.2.1) (t.2.2.1, t.2.2.2)) (t.2.2.1, bk t.2.1) (t.1, behindN t.2.2.2)
  omega
theorem nums_len : ∀ (ts : List T4) (m : Nums), (ts.foldl numPut m).length ≤ m.length + 2 * ts.length
  | [], m => Nat.le_refl _
  | t :: ts, m => by
    have h1 := nums_len ts (numPut m t)
    have h2 := numPut_len m t
    rw [List.foldl_cons, List.length_cons]
    omega
/-- what must hold for the sizes -/
def MadeFine (us : List (List Nat)) (u : List Nat) : Prop := ∃ kk N S X H D L ν, SizeOk kk (gluedOf us) N S X H D L ∧ Val (us.map sh) ν (gluedOf us) ∧ (Walk ((gluedOf us).map T4.t3) 0 (sh u) 0 → (sh u).length ≤ 15 + (N - 1 - D.length))
theorem SizeOk.rows {kk : Nat} {Γ : List T4} {N S X H : Nat} {D : List Nat} {L : Nat → List Nat → Prop} (Z : SizeOk kk Γ N S X H D L) {t : T4} (ht : t ∈ Γ) : t.2.2.2.length < 16000000 := by
  obtain ⟨α, q, β, hα, hβ, alq, hq, hrow⟩ := Z.exc t ht
  have n1 := Z.near _ _ hα
  have n2 := Z.near _ _ hβ
  have big := Z.big
  have alα := Z.al _ _ hα
  have alβ := Z.al _ _ hβ
  rw [hrow.len]
  have a := nz_app (K := kk) (alα.app alq) alβ.rv
  have b := nz_app (K := kk) alα alq
  have c := nz_len kk (α ++ q ++ rv β)
  rw [nz_rv Z.hK alβ] at a
  omega
section
variable {P : Program} {w : World} {K : PySem.W.Frag} {mg : Str → Option Value} {base : Heap}
/-- a goal and the numbers on the way there -/
def numR (K : PySem.W.Frag) (x : Nat × List Int) (v : V) (H : Hp) : Prop := ∃ p n, v = .ref p ∧ SqT K H p [iN x.1, n] ∧ NsR K H n x.2
theorem numR_mono : ∀ (b : Nat × List Int) v (H1 H2 : Hp), Tu H1 H2 → numR K b v H1 → numR K b v H2 := fun _ _ _ _ u ⟨p, n, e, h, k⟩ => ⟨p, n, e, u.sq h, k.mono u⟩
abbrev N_numbers_by : List Str := ["ties", "found", "tie"]
theorem sc_numbers_by : FnScope ["ties", "found", "tie"] ["ties"] (defScope s_numbers_by) := ⟨rfl, rfl, rfl, by decide +kernel, rfl, by decide +kernel, by decide +kernel⟩
theorem b_numbers_by : BindsT "numbers_by" s_numbers_by ["ties"] := fun _ _ _ _ _ _ us hl => match us, hl with | [_], _ => rfl
def sp_numbers_by (K : PySem.W.Frag) : Sp := fun vs H Q _ => ∃ p : V × List T4, vs = [p.1] ∧ LstR K (T4R K) p.2 p.1 H ∧ p.2.length ≤ 1000000 ∧ (∀ t ∈ p.2, (97 ≤ t.2.1 ∧ t.2.1 ≤ 122) ∧ t.2.2.2.length < 16000000) ∧ Ret H Q fun v H' => ∃ d, v = .ref d ∧ H d = none ∧ DctR (numR K) (numbersT p.2) d H'
theorem ok_numbers_by (T : Tx K mg) (G_back_of : Ok P w K mg base 1 "back_of" ["letter"] sp_back_of) (G_behind : Ok P w K mg base 1 "behind" ["numbers"] (sp_behind K)) : Ok P w K mg base 2 "numbers_by" ["ties"] (sp_numbers_by K) := by
  refine Ok.of T.f_numbers_by sc_numbers_by b_numbers_by (fun vs H Q E h => by obtain ⟨a, rfl, _⟩ := h; rfl) (fun cdv A outer s H vs Q E hr h => ?_)
  obtain ⟨⟨v1, ts⟩, rfl, ⟨l, vs, rfl, hS, hvs⟩, hlen, hsm, q⟩ := h
  have hvs : Paired (fun t x => T4R K t x H) ts vs := hvs
  have hlen : ts.length ≤ 1000000 := hlen
  have hsm : ∀ t ∈ ts, (97 ≤ t.2.1 ∧ t.2.1 ≤ 122) ∧ t.2.2.2.length < 16000000 := hsm
  refine ⟨_, (pss_cons (ps_set (i := 1) sc_numbers_by.nd rfl (.inl rfl) pe_dnewTN)
      (pss_cons (ps_for PassesOwn.never rfl (pi_list (pv 0)) (pg_name (i := 2) sc_numbers_by.nd rfl (.inl rfl)) (pss_cons (ps_dput (hu_of hr) (pv 1) (pe_tupN (pa_cons (pe_ix (ix_tupK K) (pv 2) pe_int (fun _ _ => rfl)) (pa_cons (pe_ix (ix_tupK K) (pv 2) pe_int (fun _ _ => rfl)) pa_nil))) (pe_tupN (pa_cons (pe_ix (ix_tupK K) (pv 2) pe_int (fun _ _ => rfl)) (pa_cons (pe_ix (ix_tupK K) (pv 2) pe_int (fun _ _ => rfl)) pa_nil))) rfl)
      (pss_one (ps_dput (hu_of hr) (pv 1) (pe_tupN (pa_cons (pe_ix (ix_tupK K) (pv 2) pe_int (fun _ _ => rfl)) (pa_cons (pe_g G_back_of (hr.mono (by decide)) (by rfl) (pa_cons (pe_ix (ix_tupK K) (pv 2) pe_int (fun _ _ => rfl)) pa_nil)) pa_nil))) (pe_tupN (pa_cons (pe_ix (ix_tupK K) (pv 2) pe_int (fun _ _ => rfl)) (pa_cons (pe_g G_behind (hr.mono (by decide)) (by rfl) (pa_cons (pe_ix (ix_tupK K) (pv 2) pe_int (fun _ _ => rfl)) pa_nil)) pa_nil))) rfl))))
      (pss_one (ps_ret (pv 1))))), ?_⟩
  walk_at "gw"
  intro d H1 n1
  walk_at "gw"
  refine ⟨l, rfl, ⟨_, n1.ex.seq hS⟩, ?_⟩
  refine forS (bs := ts) (seqs_listP (R := T4R K)) (fun pre σ' H' => ∃ y, σ' = [some (.ref l), some (.ref d), y] ∧ Ex H H' ∧ DctR (numR K) (pre.foldl numPut []) d H')
    ⟨_, rfl, n1.ex, [], n1.at_, .nil⟩ (fun pre σ' H' ⟨_, _, ex, _⟩ => ⟨vs, ex.seq hS, paired_impH hvs fun t x r => r.mono (Ex.tu ex)⟩) ?_ ?_
  · rintro pre t post x σ' H2 H3 e ⟨y, rfl, ex, hd⟩ e3 ⟨p, n, rfl, hp, hn⟩
    obtain ⟨h97, hrl⟩ := hsm t (by rw [e]; simp)
    have hc : isL t.2.1 = true := isL_small h97
    have hk := nums_len pre []
    rw [List.length_nil] at hk
    have hk2 : pre.length < 1000000 := by
      have h2 := congrArg List.length e
      rw [List.length_append, List.length_cons] at h2
      omega
    rw [List.foldl_append]
    walk_at "gw"
    refine w_ixT hp (atI_nat (j := 2) rfl) ?_
    walk_at "gw"
    refine w_ixT hp (atI_nat (j := 3) rfl) ?_
    walk_at "gw"
    refine sz_and (by show 2 ≤ 16000000; decide) fun pv Hv nv => ?_
    have hpv := Ex.sqT nv.ex hp
    walk_at "gw"
    refine w_ixT hpv (atI_nat (j := 0) rfl) ?_
    walk_at "gw"
    refine w_ixT hpv (atI_nat (j := 1) rfl) ?_
    walk_at "gw"
    refine sz_and (by show 2 ≤ 16000000; decide) fun p4 H4 n4 => ?_
    have hd4 := hd.ex numR_mono ((e3.trans nv.ex).trans n4.ex)
    have hn4 : NsR K H4 n t.2.2.2 := hn.mono (Ex.tu (nv.ex.trans n4.ex))
    obtain ⟨H5, d5, b5, t5, hd5⟩ := hd4.put numR_mono (k := (t.1, t.2.1)) (x := (t.2.2.1, t.2.2.2)) (v := .ref pv) n4.at_ ⟨pv, n, rfl, sqT_of (n4.ex _ _ nv.at_), hn4⟩ (by omega)
    refine ⟨d, H5, rfl, d5, ?_⟩
    have hp5 := t5.sq (Ex.sqT n4.ex hpv)
    have hn5 : NsR K H5 n t.2.2.2 := hn4.mono t5
    walk_at "gw"
    refine w_ixT hp5 (atI_nat (j := 0) rfl) ?_
    walk_at "gw"
    refine w_ixT hp5 (atI_nat (j := 3) rfl) ?_
    walk_at "gw"
    refine ⟨(n, t.2.2.2), rfl, hn5, hrl, ?_⟩
    rintro n6 H6 e6 hn6
    have hn6 : NsR K H6 n6 (behindN t.2.2.2) := hn6
    walk_at "gw"
    refine sz_and (by show 2 ≤ 16000000; decide) fun p6 H7 n7 => ?_
    have hp7 := Ex.sqT (e6.trans n7.ex) hp5
    walk_at "gw"
    refine w_ixT hp7 (atI_nat (j := 2) rfl) ?_
    walk_at "gw"
    refine w_ixT hp7 (atI_nat (j := 1) rfl) ?_
    walk_at "gw"
    refine c_back_of (L2.Same.refl _) hc fun H8 e8 => ?_
    walk_at "gw"
    refine sz_and (by show 2 ≤ 16000000; decide) fun p9 H9 n9 => ?_
    have hd9 := hd5.ex numR_mono (((e6.trans n7.ex).trans e8).trans n9.ex)
    have hl5 := aput_len (pre.foldl numPut []) (t.1, t.2.1) (t.2.2.1, t.2.2.2)
    have hn9 : NsR K H9 n6 (behindN t.2.2.2) := hn6.mono (Ex.tu ((n7.ex.trans e8).trans n9.ex))
    obtain ⟨H10, d10, b10, t10, hd10⟩ := hd9.put numR_mono (k := (t.2.2.1, bk t.2.1)) (x := (t.1, behindN t.2.2.2)) (v := .ref p6) n9.at_ ⟨p6, n6, rfl, sqT_of (n9.ex _ _ (e8 _ _ n7.at_)), hn9⟩ (by omega)
    refine ⟨d, H10, rfl, d10, ?_⟩
    walk_at "gw"
    exact ⟨_, rfl, Ex.but ((Ex.but (((ex.trans e3).trans nv.ex).trans n4.ex) b5 n1.no).trans (((e6.trans n7.ex).trans e8).trans n9.ex)) b10 n1.no, hd10⟩
  · rintro σ' H2 ⟨y, rfl, ex, hd⟩
    walk_at "gw"
    exact q _ _ ex ⟨d, rfl, n1.no, hd⟩
abbrev N_made_by : List Str := ["words", "word", "ties", "steps", "room", "numbers", "letter", "more"]
theorem sc_made_by : FnScope ["words", "word", "ties", "steps", "room", "numbers", "letter", "more"] ["words", "word"] (defScope s_made_by) := ⟨rfl, rfl, rfl, by decide +kernel, rfl, by decide +kernel, by decide +kernel⟩
theorem b_made_by : BindsT "made_by" s_made_by ["words", "word"] := fun _ _ _ _ _ _ us hl => match us, hl with | [_, _], _ => rfl
def sp_made_by (K : PySem.W.Frag) : Sp := fun vs H Q E => ∃ p : (Addr × List (V × Option (List Nat))) × (V × Option (List Nat)), vs = [.ref p.1.1, p.2.1] ∧ SqL K H p.1.1 (p.1.2.map (·.1)) ∧ (∀ x ∈ p.1.2, IsW K H x.1 x.2) ∧ p.1.2.length ≤ 1000 ∧ IsW K H p.2.1 p.2.2 ∧
  (∀ us : List (List Nat), p.1.2.map (·.2) = us.map some → RowFine us ∧ (rings (us.map sh)).length ≤ 3000 ∧ (∀ u, p.2.2 = some u → MadeFine us u ∧ Ret H Q fun v H' => (ledT ((gluedOf us).map T4.t3) (sh u) = some 0 → ∃ l, v = .ref l ∧ H l = none ∧ H' l = some (.lst ((madeT (gluedOf us) (sh u)).map V.int))) ∧ (ledT ((gluedOf us).map T4.t3) (sh u) ≠ some 0 → v = .non)) ∧ (p.2.2 = none → NoWord K H E)) ∧
  ((∃ x ∈ p.1.2, x.2 = none) → NoWord K H E)
theorem ok_made_by (T : Tx K mg) (G_glued_of : Ok P w K mg base 4 "glued_of" ["words"] (sp_glued_of K)) (G_need_word : Ok P w K mg base 2 "need_word" ["thing"] (sp_need_word K)) (G_shortened : Ok P w K mg base 2 "shortened" ["word"] sp_shortened) (G_led : Ok P w K mg base 3 "led" ["ties", "word"] (sp_led K)) (G_numbers_by : Ok P w K mg base 2 "numbers_by" ["ties"] (sp_numbers_by K)) (G_joined : Ok P w K mg base 1 "joined" ["one", "other"] (sp_joined K)) : Ok P w K mg base 5 "made_by" ["words", "word"] (sp_made_by K) := by
  refine Ok.ofX T.f_made_by sc_made_by b_made_by (fun vs H Q E h => by obtain ⟨a, rfl, _⟩ := h; rfl) (fun cdv A outer s H vs Q E hr h => ?_)
  obtain ⟨⟨⟨l, ps⟩, x, r⟩, rfl, hS, hW, hlen, hx, hgo, hno⟩ := h
  have hx : IsW K H x r := hx
  refine ⟨_, (pss_cons (ps_set (i := 2) sc_made_by.nd rfl (.inl rfl) (pe_gx G_glued_of (hr.mono (by decide)) (by rfl) (L2N.takes_of rfl rfl rfl rfl) (pa_cons (pv 0) pa_nil)))
      (pss_cons (ps_expr (pe_gx G_need_word (hr.mono (by decide)) (by rfl) (L2N.takes_of rfl rfl rfl rfl) (pa_cons (pv 1) pa_nil)))
      (pss_cons (ps_if (pt_cmpR (op_neDK K hr.units) (pe_g G_led (hr.mono (by decide)) (by rfl) (pa_cons (pv 2) (pa_cons (pe_g G_shortened (hr.mono (by decide)) (by rfl) (pa_cons (pv 1) pa_nil)) pa_nil))) pe_int (nomark _)) (pss_one (ps_ret pe_non)) pss_nil)
      (pss_cons (ps_set (i := 3) sc_made_by.nd rfl (.inl rfl) (pe_g G_numbers_by (hr.mono (by decide)) (by rfl) (pa_cons (pv 2) pa_nil)))
      (pss_cons (ps_set (i := 4) sc_made_by.nd rfl (.inl rfl) pe_int)
      (pss_cons (ps_set (i := 5) sc_made_by.nd rfl (.inl rfl) (pe_tupN pa_nil))
      (pss_cons (ps_for (passes_of rfl) rfl (pi_str (pe_g G_shortened (hr.mono (by decide)) (by rfl) (pa_cons (pv 1) pa_nil))) (pg_name (i := 6) sc_made_by.nd rfl (.inl rfl)) (pss_cons (ps_asg (pe_dget (hu_of hr) (pv 3) (pe_tupN (pa_cons (pv 4) (pa_cons (pv 6) pa_nil))) (fun _ _ => rfl)) (pg_tup rfl (pgs_cons (pg_name (i := 4) sc_made_by.nd rfl (.inl rfl)) (pgs_cons (pg_name (i := 7) sc_made_by.nd rfl (.inl rfl)) pgs_nil))))
      (pss_one (ps_set (i := 5) sc_made_by.nd rfl (.inl rfl) (pe_g G_joined (hr.mono (by decide)) (by rfl) (pa_cons (pv 5) (pa_cons (pv 7) pa_nil)))))))
      (pss_one (ps_ret (pe_callTy call_listN (by rfl) T.n_list (by decide +kernel) (pa_cons (pv 5) pa_nil))))))))))), ?_⟩
  walk_at "gw"
  refine ⟨(l, ps), rfl, hS, hW, hlen, fun us hus => ?_, hno⟩
  obtain ⟨fine, h3, hw, hn⟩ := hgo us hus
  refine ⟨fine, ?_⟩
  rintro vT H1 e1 hT
  have hT : LstR K (T4R K) (gluedOf us) vT H1 := hT
  walk_at "gw"
  refine ⟨(x, r), rfl, hx.mono e1, ?_, fun hr H' e' => hn hr H' (e1.trans e')⟩
  rintro u hu v2 H2 e2 -
  have hu : r = some u := hu
  subst hu
  obtain ⟨⟨kk, N, S, X, HH, D, L, ν, Z, Vl, hsz⟩, q⟩ := hw u rfl
  obtain ⟨rfl, hal, hlu⟩ := IsW.some_of hx
  have gl : (gluedOf us).length ≤ 3000 := by
    have := glueN_len (rings (us.map sh)).length (rings (us.map sh))
    unfold gluedOf glue
    omega
  have sm3 := glued_sm fine.al
  have sm : ∀ t ∈ gluedOf us, 97 ≤ t.2.1 ∧ t.2.1 ≤ 122 := fun t ht => sm3 t.t3 (List.mem_map.mpr ⟨t, ht, rfl⟩)
  have F : Folded ((gluedOf us).map T4.t3) := glue_folded _
  generalize gluedOf us = Γ at hT Z Vl hsz q gl sm sm3 F
  obtain ⟨lT, vs, rfl, hST, pT⟩ := hT
  have pT : Paired (fun t x => T4R K t x H1) Γ vs := pT
  have e02 := e1.trans e2
  walk_at "gw"
  refine c_shortened (L2.Same.refl _) hal hlu fun H3 e3 => ?_
  have e13 := e2.trans e3
  walk_at "gw"
  refine ⟨(.ref lT, Γ.map T4.t3, sh u), rfl, ⟨lT, vs, rfl, e13.seq hST, paired_map (paired_impH pT fun t x r => (r.mono (Ex.tu e13)).tb)⟩, by show (Γ.map T4.t3).length ≤ _; rw [List.length_map]; omega, sm3, ?_⟩
  rintro _ H4 e4 rfl
  have e14 := e13.trans e4
  walk_at "gw"
  show rNeD K (roomV (ledT (Γ.map T4.t3) (sh u))) (V.int 0) H4 _
  have e04 := e02.trans (e3.trans e4)
  cases hr2 : ledT (Γ.map T4.t3) (sh u) with
  | none =>
    refine ⟨.none, .int 0, .non, .int 0, (Shd.non (n := 0)).shaped, (Shd.int (n := 0)).shaped, ?_⟩
    rw [show (!PyData.eqv .none (.int 0)) = true from by decide +kernel]
    walk_at "gw"
    exact q _ _ e04 ⟨fun z => (by rw [hr2] at z; cases z), fun _ => rfl⟩
  | some g0 =>
  refine ⟨.int (g0 : Int), .int 0, .int _, .int 0, (Shd.int (n := 0)).shaped, (Shd.int (n := 0)).shaped, ?_⟩
  rw [eqv_int]
  by_cases hg0 : g0 = 0
  case neg =>
    rw [decide_eq_false (by omega), Bool.not_false]
    walk_at "gw"
    exact q _ _ e04 ⟨fun z => (by rw [hr2] at z; cases z; exact absurd rfl hg0), fun _ => rfl⟩
  subst hg0
  rw [decide_eq_true (show ((0 : Nat) : Int) = 0 from rfl), Bool.not_true]
  walk_at "gw"
  have shal := sh_AL hal
  have wk : Walk (Γ.map T4.t3) 0 (sh u) 0 := (ledT_walk sm3 F shal).mp hr2
  have hsz := hsz wk
  have us_al : ∀ v ∈ us.map sh, AL v := fun v hv => by
    obtain ⟨x, hx, rfl⟩ := List.mem_map.mp hv
    exact sh_AL (fine.al x hx)
  refine ⟨(.ref lT, Γ), rfl, ⟨lT, vs, rfl, e14.seq hST, paired_impH pT fun t x r => r.mono (Ex.tu e14)⟩, by show Γ.length ≤ _; omega, fun t ht => ⟨sm t ht, Z.rows ht⟩, ?_⟩
  rintro _ H5 e5 ⟨d, rfl, nd, hd⟩
  have hd : DctR (numR K) (numbersT Γ) d H5 := hd
  walk_at "gw"
  refine sz_and (Nat.zero_le _) fun p6 H6 n6 => ?_
  walk_at "gw"
  refine c_shortened (L2.Same.refl _) hal hlu fun H7 e7 => ?_
  have e57 := n6.ex.trans e7
  have hd7 := hd.ex numR_mono e57
  walk_at "gw"
  refine forS (bs := sh u) seqs_tx (fun pre σ' H' => ∃ r ns vN y6 y7, σ' = [some (.ref l), some (.str (tx u)), some (.ref lT), some (.ref d), some (iN r), some vN, y6, y7] ∧ Ex H7 H' ∧ NsR K H' vN ns ∧ pre.foldl (madeStep Γ) (0, []) = (r, ns))
    ⟨0, [], .ref p6, _, _, rfl, L2.Same.refl _, ⟨p6, rfl, sqT_of (e7 _ _ n6.at_)⟩, rfl⟩ (fun _ _ _ _ => trivial) ?_ ?_
  · rintro pre c post x σ' H8 H9 e ⟨r, ns, vN, y6, y7, rfl, ex, hN, hf⟩ e9 rfl
    have wk' := wk
    rw [e] at wk' shal hsz
    obtain ⟨r', w1, g, s, w2⟩ := wk'.split
    rw [List.length_append, List.length_cons] at hsz
    obtain ⟨hr', ns', hf', M⟩ := made_inv us_al sm F Z Vl pre r' shal.left (by omega) w1
    rw [hf'] at hf
    obtain ⟨rfl, rfl⟩ := Prod.mk.inj hf
    obtain ⟨m, hm, _, hlen8, _, _⟩ := made_next us_al sm F Z Vl shal.left (shal.right c List.mem_cons_self) hr' s M (by omega)
    have ex9 := ex.trans e9
    have hd9 := hd7.ex numR_mono ex9
    have hN9 := hN.mono (Ex.tu e9)
    walk_at "gw"
    refine sz_and (by show 2 ≤ 16000000; decide) fun p10 H10 n10 => ?_
    have hd10 := hd9.ex numR_mono n10.ex
    rcases hd10.get (k := (r', c)) n10.at_ with ⟨g1, _⟩ | ⟨b, v, g1, g2, g3⟩
    · rw [hm] at g1
      cases g1
    rw [hm] at g1
    cases g1
    obtain ⟨pp, nn, rfl, hpp, hnn⟩ := g3
    refine ⟨d, _, rfl, g2, ?_⟩
    walk_at "gw"
    refine w_gtup2 (K := K) hpp ?_
    walk_at "gw"
    have hN10 := hN9.mono (Ex.tu n10.ex)
    refine ⟨(vN, ns', nn, m), rfl, hN10, hnn, hlen8, ?_⟩
    rintro v11 H11 e11 hv11
    walk_at "gw"
    refine ⟨g, joined ns' m, v11, _, _, rfl, (ex9.trans n10.ex).trans e11, hv11, ?_⟩
    rw [List.foldl_append, hf']
    show madeStep Γ (r', ns') c = _
    unfold madeStep
    dsimp only
    rw [hm]
  rintro σ' H8 ⟨r, ns, vN, y6, y7, rfl, ex, hN, hf⟩
  walk_at "gw"
  obtain ⟨qn, rfl, hqn⟩ := hN
  refine ⟨qn, _, rfl, .inr hqn, fun l9 H9 n9 => ?_⟩
  walk_at "gw"
  have e08 := e04.trans (e5.trans (e57.trans ex))
  refine q _ _ (e08.trans n9.ex) ⟨fun _ => ⟨l9, rfl, e08.free n9.no, ?_⟩, fun z => absurd hr2 z⟩
  rw [n9.at_]
  unfold madeT
  rw [hf]
end
end Gw

/-! ### law k05: what is a making; what is refused -/
namespace Gw
open PySem PySem.Spec PyProof.Rows L2 RT PySem.W
section
variable {P : Program} {w : World} {K : PySem.W.Frag} {mg : Str → Option Value} {base : Heap}
abbrev N__law_whole : List Str := ["_law_found"]
theorem sc__law_whole : FnScope ["_law_found"] ["_law_found"] (defScope s__law_whole) := ⟨rfl, rfl, rfl, by decide +kernel, rfl, by decide +kernel, by decide +kernel⟩
theorem b__law_whole : BindsT "_law_whole" s__law_whole ["_law_found"] := fun _ _ _ _ _ _ us hl => match us, hl with | [_], _ => rfl
def sp__law_whole5 (K : PySem.W.Frag) : Sp := fun vs H Q _ => ∃ n : Int, vs = [.int n] ∧ Ret H Q fun v _ => v = .bl true
theorem ok__law_whole5 (T : Tx K mg) : Ok P w K mg base 1 "_law_whole" ["_law_found"] (sp__law_whole5 K) := by
  refine Ok.of T.f__law_whole sc__law_whole b__law_whole (fun vs H Q E h => by obtain ⟨a, rfl, _⟩ := h; rfl) (fun cdv A outer s H vs Q E hr h => ?_)
  obtain ⟨n, rfl, q⟩ := h
  refine ⟨_, (pss_one (ps_ret (pe_and (pe_callB call_isi (by rfl) T.n_isinstance (by decide +kernel) (pa_cons (pv 0) (pa_cons (pe_bltn (v := .ty "int") (by rfl) T.n_int (by decide +kernel) rfl) pa_nil))) (pe_one (pe_not (pe_callB call_isi (by rfl) T.n_isinstance (by decide +kernel) (pa_cons (pv 0) (pa_cons (pe_bltn (v := .ty "bool") (by rfl) T.n_bool (by decide +kernel) rfl) pa_nil)))))))), ?_⟩
  walk_at "gw"
  refine isi (.base (.int _)) (r := true) (by decide +kernel) ?_
  walk_at "gw"
  refine isi (.base (.int _)) (r := false) (by decide +kernel) ?_
  walk_at "gw"
  exact q _ _ (L2.Same.refl _) rfl
abbrev N__law_is_making : List Str := ["_law_found", "_law_words", "_law_word_here", "_law_number"]
theorem sc__law_is_making : FnScope ["_law_found", "_law_words", "_law_word_here", "_law_number"] ["_law_found", "_law_words", "_law_word_here"] (defScope s__law_is_making) := ⟨rfl, rfl, rfl, by decide +kernel, rfl, by decide +kernel, by decide +kernel⟩
theorem b__law_is_making : BindsT "_law_is_making" s__law_is_making ["_law_found", "_law_words", "_law_word_here"] := fun _ _ _ _ _ _ us hl => match us, hl with | [_, _, _], _ => rfl
def sp__law_is_making (K : PySem.W.Frag) : Sp := fun vs H Q _ => ∃ p : (Addr × List Int) × (Addr × List (List Nat)) × List Nat, vs = [.ref p.1.1, .ref p.2.1.1, .str (tx p.2.2)] ∧ H p.1.1 = some (.lst (p.1.2.map V.int)) ∧ SqL K H p.2.1.1 (p.2.1.2.map fun u => V.str (tx u)) ∧ (∀ u ∈ p.2.1.2, AL u ∧ u.length ≤ 100000) ∧ p.2.1.2.length ≤ 1000 ∧ InU p.2.1.2.length p.1.2 ∧ (evN p.2.1.2 p.1.2).length ≤ 16777216 ∧ AL p.2.2 ∧ p.2.2.length ≤ 16777216 ∧ sh (evN p.2.1.2 p.1.2) = sh p.2.2 ∧ Ret H Q fun v _ => v = .bl true
theorem ok__law_is_making (T : Tx K mg) (G__law_whole : Ok P w K mg base 1 "_law_whole" ["_law_found"] (sp__law_whole5 K)) (G__law_product : Ok P w K mg base 3 "_law_product" ["_law_words", "_law_numbers_here"] (sp__law_product K)) (G__law_short : Ok P w K mg base 2 "_law_short" ["_law_word_here"] sp__law_short) : Ok P w K mg base 4 "_law_is_making" ["_law_found", "_law_words", "_law_word_here"] (sp__law_is_making K) := by
  refine Ok.of T.f__law_is_making sc__law_is_making b__law_is_making (fun vs H Q E h => by obtain ⟨a, rfl, _⟩ := h; rfl) (fun cdv A outer s H vs Q E hr h => ?_)
  obtain ⟨⟨⟨m, ns⟩, ⟨l, us⟩, u⟩, rfl, hN, hS, hu, hlu, hin, hlen, alu, lu, hsh, q⟩ := h
  have hN : H m = some (.lst (ns.map V.int)) := hN
  have hS : SqL K H l (us.map fun u => V.str (tx u)) := hS
  have hu : ∀ u ∈ us, AL u ∧ u.length ≤ 100000 := hu
  have hlu : us.length ≤ 1000 := hlu
  have hin : InU us.length ns := hin
  have hlen : (evN us ns).length ≤ 16777216 := hlen
  have alu : AL u := alu
  have lu : u.length ≤ 16777216 := lu
  have hsh : sh (evN us ns) = sh u := hsh
  refine ⟨_, (pss_cons (ps_if (pt_not (pt_val (pe_callB call_isi (by rfl) T.n_isinstance (by decide +kernel) (pa_cons (pv 0) (pa_cons (pe_bltn (v := .ty "list") (by rfl) T.n_list (by decide +kernel) rfl) pa_nil))))) (pss_one (ps_ret pe_bl)) pss_nil)
      (pss_cons (ps_for PassesOwn.never rfl (pi_list (pv 0)) (pg_name (i := 3) sc__law_is_making.nd rfl (.inl rfl)) (pss_one (ps_if (PW.pt (pw_or (pt_not (pt_val (pe_g G__law_whole (hr.mono (by decide)) (by rfl) (pa_cons (pv 3) pa_nil)))) (pw_or (pt_cmpR op_eq (pv 3) pe_int (nomark _)) (pw_or1 (pt_cmpR op_gt (pe_callB call_abs (by rfl) T.n_abs (by decide +kernel) (pa_cons (pv 3) pa_nil)) (pe_callB (call_len_seqK K) (by rfl) T.n_len (by decide +kernel) (pa_cons (pv 1) pa_nil)) (nomark _)))))) (pss_one (ps_ret pe_bl)) pss_nil)))
      (pss_one (ps_ret (pe_cmpR op_eq (pe_g G__law_short (hr.mono (by decide)) (by rfl) (pa_cons (pe_g G__law_product (hr.mono (by decide)) (by rfl) (pa_cons (pv 1) (pa_cons (pv 0) pa_nil))) pa_nil)) (pe_g G__law_short (hr.mono (by decide)) (by rfl) (pa_cons (pv 2) pa_nil)) (nomark _)))))), ?_⟩
  show tSeq _ _ _ (L2.start _ [V.ref m, V.ref l, V.str (tx u)]) H
  walk_at "gw"
  refine isi (.base (.lst hN)) (r := true) (by decide +kernel) ?_
  walk_at "gw"
  refine ⟨m, rfl, ⟨_, sqL_of hN⟩, ?_⟩
  refine forS (bs := ns) (Seqs.of_map (f := V.int) seqs_list) (fun pre σ' H' => ∃ y3, σ' = [some (.ref m), some (.ref l), some (.str (tx u)), y3] ∧ Ex H H') ⟨_, rfl, L2.Same.refl _⟩ (fun _ _ H' ⟨_, _, e⟩ => sqL_of (e _ _ hN)) ?_ ?_
  · rintro pre n post x σ' H2 H3 e ⟨y3, rfl, ex⟩ e3 rfl
    have e13 := ex.trans e3
    obtain ⟨n0, nle⟩ := hin n (by rw [e]; simp)
    walk_at "gw"
    refine ⟨n, rfl, ?_⟩
    rintro _ H4 e4 rfl
    walk_at "gw"
    rw [show decide (V.int n = V.int 0) = false from decide_eq_false fun z => n0 (by injection z)]
    walk_at "gw"
    refine ⟨n, rfl, ?_⟩
    walk_at "gw"
    have hS4 := (e13.trans e4).seq hS
    refine ex_lenL hS4 ?_
    walk_at "gw"
    rw [List.length_map, if_neg (fun z => by
      have z := of_decide_eq_true z
      split at z <;> omega)]
    walk_at "gw"
    exact ⟨_, rfl, e13.trans e4⟩
  rintro σ' H2 ⟨y3, rfl, ex⟩
  walk_at "gw"
  refine ⟨((l, us), (m, ns)), rfl, ex.seq hS, sqL_of (ex _ _ hN), hu, hlu, hin, hlen, ?_⟩
  rintro _ H3 e3 rfl
  walk_at "gw"
  have alev : AL (evN us ns) := evN_al (fun u h => (hu u h).1) ns
  refine ⟨evN us ns, rfl, alev, hlen, ?_⟩
  rintro _ H4 e4 rfl
  walk_at "gw"
  refine ⟨u, rfl, alu, lu, ?_⟩
  rintro _ H5 e5 rfl
  walk_at "gw"
  rw [hsh, decide_eq_true rfl]
  exact q _ _ (((ex.trans e3).trans e4).trans e5) rfl
abbrev N__law_refused : List Str := ["_law_words", "_law_word_here", "error"]
theorem sc__law_refused : FnScope ["_law_words", "_law_word_here", "error"] ["_law_words", "_law_word_here"] (defScope s__law_refused) := ⟨rfl, rfl, rfl, by decide +kernel, rfl, by decide +kernel, by decide +kernel⟩
theorem b__law_refused : BindsT "_law_refused" s__law_refused ["_law_words", "_law_word_here"] := fun _ _ _ _ _ _ us hl => match us, hl with | [_, _], _ => rfl
def sp__law_refused5 (K : PySem.W.Frag) : Sp := fun vs H Q _ => ∃ p : (Addr × List (V × Option (List Nat))) × (V × Option (List Nat)), vs = [.ref p.1.1, p.2.1] ∧ SqL K H p.1.1 (p.1.2.map (·.1)) ∧ (∀ x ∈ p.1.2, IsW K H x.1 x.2) ∧ p.1.2.length ≤ 1000 ∧ IsW K H p.2.1 p.2.2 ∧
  ((∃ x ∈ p.1.2, x.2 = none) ∨ ((∀ us : List (List Nat), p.1.2.map (·.2) = us.map some → RowFine us ∧ (rings (us.map sh)).length ≤ 3000) ∧ p.2.2 = none)) ∧ Ret H Q fun v _ => v = .bl true
theorem ok__law_refused5 (T : Tx K mg) (G_made_by : Ok P w K mg base 5 "made_by" ["words", "word"] (sp_made_by K)) : Ok P w K mg base 6 "_law_refused" ["_law_words", "_law_word_here"] (sp__law_refused5 K) := by
  refine Ok.of T.f__law_refused sc__law_refused b__law_refused (fun vs H Q E h => by obtain ⟨a, rfl, _⟩ := h; rfl) (fun cdv A outer s H vs Q E hr h => ?_)
  obtain ⟨⟨⟨l, ps⟩, x, r⟩, rfl, hS, hW, hlen, hx, hgo, q⟩ := h
  refine ⟨_, (pss_cons (L2N.ps_try_as (i := 2) rfl rfl sc__law_refused.nd rfl rfl ⟨rfl, by decide, .inl T.g_GlueError⟩ takesN0 (fun W pn xe tk _ => (pss_one (ps_expr (pe_gt G_made_by (hr.mono (by decide)) (by rfl) tk (pa_cons (pv 0) (pa_cons (pv 1) pa_nil)))))) (fun a oe cls d pn hz hf => (pss_one (ps_ret (pe_and (pe_callB (call_isX hz.zc hf) (by rfl) T.n_isinstance (by decide +kernel) (pa_cons (pv 2) (pa_cons (pe_cls (by rfl) T.g_BadWord) pa_nil))) (pe_and (pe_callB (call_isX hz.zc hf) (by rfl) T.n_isinstance (by decide +kernel) (pa_cons (pv 2) (pa_cons (pe_bltn (v := .ty "ValueError") (by rfl) T.n_ValueError (by decide +kernel) rfl) pa_nil))) (pe_one (pe_not (pe_callB (call_isX hz.zc hf) (by rfl) T.n_isinstance (by decide +kernel) (pa_cons (pv 2) (pa_cons (pe_cls (by rfl) T.g_BadWeb) pa_nil)))))))))))
      (pss_one (ps_ret pe_bl))), ?_⟩
  have hS : SqL K H l (ps.map (·.1)) := hS
  have hW : ∀ x ∈ ps, IsW K H x.1 x.2 := hW
  have hx : IsW K H x r := hx
  have hgo : (∃ x ∈ ps, x.2 = none) ∨ ((∀ us : List (List Nat), ps.map (·.2) = us.map some → RowFine us ∧ (rings (us.map sh)).length ≤ 3000) ∧ r = none) := hgo
  refine ⟨_, rfl, _, rfl, ((l, ps), x, r), rfl, hS, hW, hlen, hx, fun us hus => ?_, fun _ H1 e1 => ?_⟩
  · have hus : ps.map (·.2) = us.map some := hus
    rcases hgo with ⟨y, hy, e⟩ | ⟨h1, h2⟩
    · exfalso
      have : y.2 ∈ us.map some := by rw [← hus]; exact List.mem_map.mpr ⟨y, hy, rfl⟩
      obtain ⟨_, _, z⟩ := List.mem_map.mp this
      rw [e] at z
      cases z
    · obtain ⟨f1, f2⟩ := h1 us hus
      refine ⟨f1, f2, fun u hu => ?_, fun _ H1 e1 => ?_⟩
      · rw [show r = some u from hu] at h2
        cases h2
      · refine ⟨true, T.ec.ew, fun _ a ha => ?_, fun z => nomatch z⟩
        walk_at "gw"
        refine w_isX T.ec.word ref_only T.ec.ww ?_
        walk_at "gw"
        refine w_isX T.ec.word ty_only T.ec.wv ?_
        walk_at "gw"
        refine w_isX T.ec.word ref_only T.ec.wb ?_
        walk_at "gw"
        exact q _ _ e1 rfl
  · refine ⟨true, T.ec.ew, fun _ a ha => ?_, fun z => nomatch z⟩
    walk_at "gw"
    refine w_isX T.ec.word ref_only T.ec.ww ?_
    walk_at "gw"
    refine w_isX T.ec.word ty_only T.ec.wv ?_
    walk_at "gw"
    refine w_isX T.ec.word ref_only T.ec.wb ?_
    walk_at "gw"
    exact q _ _ e1 rfl
end
end Gw

/-! ### law k05: the row -/
namespace Gw
open PySem PySem.Spec PyProof.Rows L2 RT PySem.W
theorem cutV_map5 {α : Type} {f : α → V} (xs : List α) (a b : Nat) : ∃ ys : List α, cutV (xs.map f) (some ((a : Nat) : Int)) (some ((b : Nat) : Int)) = ys.map f ∧ ys.length ≤ b - a := by
  unfold cutV
  rw [HT.sIx_nat, HT.sIx_nat]
  refine ⟨(xs.drop (min a (xs.map f).length)).take (min b (xs.map f).length - min a (xs.map f).length), ?_, ?_⟩
  · rw [List.map_take, List.map_drop]
  · rw [List.length_take]
    omega
section
variable {P : Program} {w : World} {K : PySem.W.Frag} {mg : Str → Option Value} {base : Heap}
theorem low_bk {c : Nat} (h : isL c = true) : low (bk c) = low c := by
  rw [isL_iff] at h
  unfold low bk
  split <;> split <;> (try split) <;> omega
/-- letters and their backs -/
structure LawRowL (ls : List Nat) (us : List (List Nat)) : Prop where
  row : LawRow us
  of_ : ∀ u ∈ us, OfL ls u
structure LawRowM (ls : List Nat) (us : List (List Nat)) : Prop where
  row : LawRow5 us
  of_ : ∀ u ∈ us, OfL ls u
  len : us.length ≤ 10
  short : ∀ u ∈ us, u.length ≤ 15
theorem made_mono {vs vs' : List (List Nat)} (h : ∀ u ∈ vs, u ∈ vs') {p : List Nat} (m : Made vs p) : Made vs' p := by
  induction m with
  | nil => exact .nil
  | word hu => exact .word (h _ hu)
  | back _ ih => exact .back ih
  | app _ _ i1 i2 => exact .app i1 i2
theorem made_none {p : List Nat} (m : Made [] p) : p = [] := by
  induction m with
  | nil => rfl
  | word hu => cases hu
  | back _ ih => rw [ih]; rfl
  | app _ _ i1 i2 => rw [i1, i2]; rfl
theorem filter_le4 {vs : List (List Nat)} (h : vs.length ≤ 4) : (vs.filter fun w => !w.isEmpty).length ≤ 4 := Nat.le_trans (List.length_filter_le _ _) h
theorem LawRowL.five {ls : List Nat} {us : List (List Nat)} (L : LawRowL ls us) : LawRowM ls us := by
  obtain ⟨⟨al, vs, h4, h5, hf⟩, ho⟩ := L
  refine ⟨⟨al, vs, by omega, h5, filter_le4 h4, hf⟩, ho, ?_, fun u hu => ?_⟩
  · rcases hf with rfl | ⟨p, rfl, _, _⟩
    · omega
    · rw [List.length_append, List.length_singleton]; omega
  · rcases hf with rfl | ⟨p, rfl, hp, _⟩
    · have := h5 u hu; omega
    · rcases List.mem_append.mp hu with hu | hu
      · have := h5 u hu; omega
      · rw [List.mem_singleton.mp hu]; exact hp
/-- five empty ones behind the first one -/
def put5 {α : Type} (x : α) (us : List α) : List α := us.take 1 ++ List.replicate 5 x ++ us.drop 1
theorem put5_mem {α : Type} {x y : α} {us : List α} (h : y ∈ put5 x us) : y ∈ us ∨ y = x := by
  unfold put5 at h
  rcases List.mem_append.mp h with h | h
  · rcases List.mem_append.mp h with h | h
    · exact .inl (List.mem_of_mem_take h)
    · exact .inr (List.eq_of_mem_replicate h)
  · exact .inl (List.mem_of_mem_drop h)
theorem put5_len {α : Type} (x : α) (us : List α) : (put5 x us).length = us.length + 5 := by
  unfold put5
  rw [List.length_append, List.length_append, List.length_take, List.length_replicate, List.length_drop]
  omega
theorem put5_filter : ∀ us : List (List Nat), (put5 [] us).filter (fun w => !w.isEmpty) = us.filter fun w => !w.isEmpty
  | [] => rfl
  | u :: us => by
    show ([u] ++ List.replicate 5 [] ++ us).filter _ = _
    rw [List.filter_append, List.filter_append]
    show [u].filter _ ++ [] ++ _ = _
    rw [List.append_nil, ← List.filter_append]
    rfl
theorem LawRowL.put {ls : List Nat} {us : List (List Nat)} (L : LawRowL ls us) : LawRowM ls (put5 [] us) := by
  have M := L.five
  obtain ⟨⟨al, vs, h4, h5, hf⟩, ho⟩ := L
  have h5' : ∀ u ∈ put5 [] vs, u.length ≤ 5 := fun u hu => by
    rcases put5_mem hu with h | rfl
    · exact h5 u h
    · exact Nat.zero_le _
  have al' : ∀ u ∈ put5 [] us, AL u := fun u hu => by
    rcases put5_mem hu with h | rfl
    · exact al u h
    · exact AL.nil
  refine ⟨⟨al', ?_⟩, fun u hu => ?_, ?_, fun u hu => ?_⟩
  · rcases hf with rfl | ⟨p, rfl, hp, hm⟩
    · exact ⟨put5 [] us, by rw [put5_len]; omega, h5', by rw [put5_filter]; exact filter_le4 h4, .inl rfl⟩
    · cases vs with
      | nil =>
        have e := made_none hm
        subst e
        exact ⟨put5 [] [[]], by rw [put5_len]; show 1 + 5 ≤ 9; decide, fun u hu => (by
          rcases put5_mem hu with h | rfl
          · rw [List.mem_singleton.mp h]; exact Nat.zero_le _
          · exact Nat.zero_le _), by rw [put5_filter]; decide, .inl rfl⟩
      | cons v vs =>
        refine ⟨put5 [] (v :: vs), by rw [put5_len]; omega, h5', by rw [put5_filter]; exact filter_le4 h4, .inr ⟨p, ?_, hp, made_mono (fun u hu => ?_) hm⟩⟩
        · show [v] ++ List.replicate 5 [] ++ (vs ++ [p]) = [v] ++ List.replicate 5 [] ++ vs ++ [p]
          rw [List.append_assoc ([v] ++ List.replicate 5 [])]
        · show u ∈ [v] ++ List.replicate 5 [] ++ vs
          rcases List.mem_cons.mp hu with rfl | hu
          · simp
          · exact List.mem_append_right _ hu
  · rcases put5_mem hu with h | rfl
    · exact ho u h
    · exact fun c hc => by cases hc
  · rw [put5_len]
    rcases hf with rfl | ⟨p, rfl, _, _⟩
    · omega
    · rw [List.length_append, List.length_singleton]; omega
  · rcases put5_mem hu with h | rfl
    · exact M.short u h
    · exact Nat.zero_le _
theorem row_tail {H H7 : Hp} {Q : VK} {l ll lW : Addr} {ns : List Int} {ls : List Nat} {us : List (List Nat)} {y3 : Option V} (ex : Ex H H7) (hS : SqL K H l (ns.map V.int)) (no : H lW = none) (L : LawRowL ls us) (hW : H7 lW = some (.lst (us.map fun u => V.str (tx u)))) (q : Ret H Q fun v H' => ∃ us, LawRowM ls us ∧ NewL H v H' (us.map fun u => V.str (tx u))) :
    sp__law_cell K ([V.ref l, V.int 1] ++ []) H7 (fun x H1 => tC (V.int 24) [some (V.ref l), some (V.ref ll), some (V.ref lW), y3] H1 fun y H2 => rI CDiv (fun i j => V.int (i / j)) x y H2 fun x H1 => tC (V.int 16) [some (V.ref l), some (V.ref ll), some (V.ref lW), y3] H1 fun y H2 => rI (fun x j => 0 < j) (fun i j => V.int (i % j)) x y H2 fun x H1 => tC (V.int 5) [some (V.ref l), some (V.ref ll), some (V.ref lW), y3] H1 fun y H2 => rEq x y H2 fun x H' => ∃ k, x = V.bl k ∧
      if k = true then tAsg (tOp rCatN (tOp rCatN (tSl (rSlLN K) (tVar 2) tNoPart (tPart (tC (V.int 1)))) (tOp rRepN (tLstN (tCons (tC (V.str (Str.ofString ""))) tNil)) (tC (V.int 5)))) (tSl (rSlLN K) (tVar 2) (tPart (tC (V.int 1))) tNoPart)) (gName 2) { nx := tRet (tVar 2) { nx := fun x H' => Q V.non H', rt := Q }, rt := Q } [some (V.ref l), some (V.ref ll), some (V.ref lW), y3] H'
      else tNext { nx := tRet (tVar 2) { nx := fun x H' => Q V.non H', rt := Q }, rt := Q } [some (V.ref l), some (V.ref ll), some (V.ref lW), y3] H') E0 := by
  refine c_cell 1 (L2.Same.refl _) (ex.seq hS) fun H8 e8 => ?_
  have hW8 := e8 _ _ hW
  walk_at "gw"
  have five := L.five
  have lus : us.length ≤ 10 := five.len
  by_cases h5 : ns.getD 1 0 / 24 % 16 = 5
  · rw [h5, show decide (V.int 5 = V.int 5) = true from rfl]
    walk_at "gw"
    obtain ⟨p1, r1⟩ : ∃ xs, xs = us.map fun u => V.str (tx u) := ⟨_, rfl⟩
    refine ⟨lW, _, rfl, sqL_of hW8, fun l9 H9 n9 => ?_⟩
    walk_at "gw"
    refine sz_and (by show 1 ≤ 16000000; decide) fun l10 H10 n10 => ?_
    walk_at "gw"
    refine ⟨l10, 5, _, rfl, rfl, n10.at_, by decide, by decide, line_le (by show 1 * 5 ≤ _; decide), fun l11 H11 n11 => ?_⟩
    walk_at "gw"
    have c1 : cutV (us.map fun u => V.str (tx u)) none (some 1) = (us.take 1).map fun u => V.str (tx u) := by
      cases us with
      | nil => rfl
      | cons u us =>
        rw [show (1 : Int) = ((1 : Nat) : Int) from rfl, cutV_to _ (by simp), List.map_take]
    have c2 : cutV (us.map fun u => V.str (tx u)) (some 1) none = (us.drop 1).map fun u => V.str (tx u) := by
      cases us with
      | nil => rfl
      | cons u us =>
        rw [show (1 : Int) = ((1 : Nat) : Int) from rfl, cutV_from _ (by simp), List.map_drop]
    have c3 : (List.replicate (5 : Int).toNat [V.str (Str.ofString "")]).flatten = (List.replicate 5 ([] : List Nat)).map fun u => V.str (tx u) := rfl
    have h9 : H11 l9 = some (.lst ((us.take 1).map fun u => V.str (tx u))) := by
      have := n11.ex _ _ (n10.ex _ _ n9.at_)
      rw [c1] at this
      exact this
    have h11 : H11 l11 = some (.lst ((List.replicate 5 ([] : List Nat)).map fun u => V.str (tx u))) := by
      have := n11.at_
      rw [c3] at this
      exact this
    refine w_cat2 h9 h11 (by rw [List.length_map, List.length_map, List.length_take, List.length_replicate]; omega) fun l12 H12 n12 => ?_
    have hW12 := n12.ex _ _ (n11.ex _ _ (n10.ex _ _ (n9.ex _ _ hW8)))
    walk_at "gw"
    refine ⟨lW, _, rfl, sqL_of hW12, fun l13 H13 n13 => ?_⟩
    have h12 : H13 l12 = some (.lst ((us.take 1 ++ List.replicate 5 []).map fun u => V.str (tx u))) := by
      have := n13.ex _ _ n12.at_
      rw [← List.map_append] at this
      exact this
    have h13 : H13 l13 = some (.lst ((us.drop 1).map fun u => V.str (tx u))) := by
      have := n13.at_
      rw [c2] at this
      exact this
    refine w_cat2 h12 h13 (by rw [List.length_map, List.length_map, List.length_append, List.length_take, List.length_replicate, List.length_drop]; omega) fun l14 H14 n14 => ?_
    walk_at "gw"
    have e14 : Ex H H13 := ((((((ex.trans e8).trans n9.ex).trans n10.ex).trans n11.ex).trans n12.ex).trans n13.ex)
    refine q _ _ (e14.trans n14.ex) ⟨put5 [] us, L.put, l14, rfl, e14.free n14.no, ?_⟩
    have := n14.at_
    rw [← List.map_append] at this
    exact this
  · rw [show decide (V.int (ns.getD 1 0 / 24 % 16) = V.int 5) = false from decide_eq_false fun z => h5 (by injection z)]
    walk_at "gw"
    exact q _ _ (ex.trans e8) ⟨us, L.five, lW, rfl, no, hW8⟩
abbrev N__law_row : List Str := ["_law_script", "_law_letters_here", "_law_words", "_law_cell_here"]
theorem sc__law_row : FnScope ["_law_script", "_law_letters_here", "_law_words", "_law_cell_here"] ["_law_script", "_law_letters_here"] (defScope s__law_row) := ⟨rfl, rfl, rfl, by decide +kernel, rfl, by decide +kernel, by decide +kernel⟩
theorem b__law_row : BindsT "_law_row" s__law_row ["_law_script", "_law_letters_here"] := fun _ _ _ _ _ _ us hl => match us, hl with | [_, _], _ => rfl
def sp__law_row (K : PySem.W.Frag) : Sp := fun vs H Q _ => ∃ p : Addr × List Int × Addr × List Nat, vs = [.ref p.1, .ref p.2.2.1] ∧ SqL K H p.1 (p.2.1.map V.int) ∧ SqL K H p.2.2.1 (sgs p.2.2.2) ∧ Lets p.2.2.2 ∧ Ret H Q fun v H' => ∃ us, LawRowM p.2.2.2 us ∧ NewL H v H' (us.map fun u => V.str (tx u))
theorem ok__law_row (T : Tx K mg) (G__law_cell : Ok P w K mg base 1 "_law_cell" ["_law_script", "_law_k"] (sp__law_cell K)) (G__law_word : Ok P w K mg base 2 "_law_word" ["_law_cell_here", "_law_letters_here", "_law_size"] (sp__law_word K)) (G__law_turned : Ok P w K mg base 2 "_law_turned" ["_law_word_here"] sp__law_turned) : Ok P w K mg base 3 "_law_row" ["_law_script", "_law_letters_here"] (sp__law_row K) := by
  refine Ok.of T.f__law_row sc__law_row b__law_row (fun vs H Q E h => by obtain ⟨a, rfl, _⟩ := h; rfl) (fun cdv A outer s H vs Q E hr h => ?_)
  obtain ⟨⟨l, ns, ll, ls⟩, rfl, hS, hL, lets, q⟩ := h
  have hS : SqL K H l (ns.map V.int) := hS
  have hL : SqL K H ll (sgs ls) := hL
  have lets : Lets ls := lets
  have q : Ret H Q fun v H' => ∃ us, LawRowM ls us ∧ NewL H v H' (us.map fun u => V.str (tx u)) := q
  refine ⟨_, (pss_cons (ps_set (i := 2) sc__law_row.nd rfl (.inl rfl) (pe_lstN pa_nil))
      (pss_cons (ps_for PassesOwn.never rfl (pi_list (pe_slice sl_listN (pv 0) (po_some pe_int) (po_some (pe_op op_add pe_int (pe_ix (ix_listK K) (pe_lstN (pa_cons pe_int (pa_cons pe_int (pa_cons pe_int (pa_cons pe_int (pa_cons pe_int (pa_cons pe_int pa_nil))))))) (pe_op op_mod (pe_g G__law_cell (hr.mono (by decide)) (by rfl) (pa_cons (pv 0) (pa_cons pe_int pa_nil))) pe_int) (fun _ _ => rfl)))))) (pg_name (i := 3) sc__law_row.nd rfl (.inl rfl)) (pss_one (ps_expr (pe_bm PySem.F.plainAttrs_list PySem.F.slot_list_append PySem.F.type_list_append mt_appN (pv 2) (pa_cons (pe_g G__law_word (hr.mono (by decide)) (by rfl) (pa_cons (pe_op op_fdiv (pv 3) pe_int) (pa_cons (pv 1) (pa_cons (pe_op op_mod (pv 3) pe_int) pa_nil)))) pa_nil)))))
      (pss_cons (ps_if (PW.pt (pw_and (pt_cmpR (op_neNil K hr.units) (pv 2) (pe_lstN pa_nil) (nomark _)) (pw_and1 (pt_cmpR op_eq (pe_op op_mod (pe_op op_fdiv (pe_g G__law_cell (hr.mono (by decide)) (by rfl) (pa_cons (pv 0) (pa_cons pe_int pa_nil))) pe_int) pe_int) pe_int (nomark _))))) (pss_one (ps_expr (pe_bm PySem.F.plainAttrs_list PySem.F.slot_list_append PySem.F.type_list_append mt_appN (pv 2) (pa_cons (pe_op op_add_str (pe_op op_add_str (pe_ix (ix_listK K) (pv 2) pe_int (fun _ _ => rfl)) (pe_ix (ix_listK K) (pv 2) (pe_un un_neg pe_int) (fun _ _ => rfl))) (pe_g G__law_turned (hr.mono (by decide)) (by rfl) (pa_cons (pe_ix (ix_listK K) (pv 2) pe_int (fun _ _ => rfl)) pa_nil))) pa_nil)))) pss_nil)
      (pss_cons (ps_if (PW.pt (pw_and (pt_cmpR (op_neNil K hr.units) (pv 2) (pe_lstN pa_nil) (nomark _)) (pw_and1 (pt_cmpR op_eq (pe_op op_mod (pe_op op_fdiv (pe_g G__law_cell (hr.mono (by decide)) (by rfl) (pa_cons (pv 0) (pa_cons pe_int pa_nil))) pe_int) pe_int) pe_int (nomark _))))) (pss_one (ps_expr (pe_bm PySem.F.plainAttrs_list PySem.F.slot_list_append PySem.F.type_list_append mt_appN (pv 2) (pa_cons (pe_op op_add_str (pe_op op_add_str (pe_ix (ix_listK K) (pv 2) (pe_un un_neg pe_int) (fun _ _ => rfl)) (pe_ix (ix_listK K) (pv 2) (pe_un un_neg pe_int) (fun _ _ => rfl))) (pe_ix (ix_listK K) (pv 2) (pe_un un_neg pe_int) (fun _ _ => rfl))) pa_nil)))) pss_nil)
      (pss_cons (ps_if (pt_cmpR op_eq (pe_op op_mod (pe_op op_fdiv (pe_g G__law_cell (hr.mono (by decide)) (by rfl) (pa_cons (pv 0) (pa_cons pe_int pa_nil))) pe_int) pe_int) pe_int (nomark _)) (pss_one (ps_set (i := 2) sc__law_row.nd rfl (.inl rfl) (pe_op op_catN (pe_op op_catN (pe_slice sl_listN (pv 2) po_none (po_some pe_int)) (pe_op op_repN (pe_lstN (pa_cons pe_str pa_nil)) pe_int)) (pe_slice sl_listN (pv 2) (po_some pe_int) po_none)))) pss_nil)
      (pss_one (ps_ret (pv 2)))))))), ?_⟩
  walk_at "gw"
  refine sz_and (Nat.zero_le _) fun lW H1 n1 => ?_
  walk_at "gw"
  refine sz_and (by show 6 ≤ 16000000; decide) fun l2 H2 n2 => ?_
  walk_at "gw"
  have e2 : Ex H H2 := n1.ex.trans n2.ex
  refine c_cell 1 (L2.Same.refl _) (e2.seq hS) fun H3 e3 => ?_
  walk_at "gw"
  have a0 := Int.emod_nonneg (ns.getD 1 0) (show (6 : Int) ≠ 0 by decide)
  have a1 := Int.emod_lt_of_pos (ns.getD 1 0) (show (0 : Int) < 6 by decide)
  obtain ⟨v, hv, hat⟩ := at_mem (xs := [V.int 3, .int 2, .int 1, .int 3, .int 4, .int 0]) (i := ns.getD 1 0 % 6) a0 (by show _ < (6 : Int); exact a1)
  refine w_ixL (sqL_of (e3 _ _ n2.at_)) hat ?_
  obtain ⟨m, rfl, hm⟩ : ∃ m : Nat, v = V.int ((m : Nat) : Int) ∧ m ≤ 4 := by
    simp only [List.mem_cons, List.not_mem_nil, or_false] at hv
    rcases hv with h | h | h | h | h | h
    · exact ⟨3, h, by decide⟩
    · exact ⟨2, h, by decide⟩
    · exact ⟨1, h, by decide⟩
    · exact ⟨3, h, by decide⟩
    · exact ⟨4, h, by decide⟩
    · exact ⟨0, h, by decide⟩
  walk_at "gw"
  have e3h : Ex H H3 := e2.trans e3
  obtain ⟨cs, ecs, lcs⟩ := cutV_map5 (f := V.int) ns 3 (3 + m)
  refine ⟨l, _, rfl, e3h.seq hS, fun l4 H4 n4 => ?_⟩
  rw [show (3 : Int) + (m : Int) = ((3 + m : Nat) : Int) by omega] at n4
  rw [show (3 : Int) = ((3 : Nat) : Int) from rfl, ecs] at n4
  refine ⟨l4, rfl, ⟨_, sqL_of n4.at_⟩, ?_⟩
  have lcs : cs.length ≤ 4 := by omega
  refine forS (bs := cs) (Seqs.of_map (f := V.int) seqs_list) (fun pre σ' H' => ∃ y3 us, σ' = [some (.ref l), some (.ref ll), some (.ref lW), y3] ∧ Ex H H' ∧ H' lW = some (.lst (us.map fun u => V.str (tx u))) ∧ us.length = pre.length ∧ (∀ u ∈ us, u.length ≤ 5 ∧ OfL ls u) ∧ SqL K H' l4 (cs.map V.int))
    ⟨_, [], rfl, e3h.trans n4.ex, n4.ex _ _ (e3 _ _ (n2.ex _ _ n1.at_)), rfl, (fun u hu => by cases hu), sqL_of n4.at_⟩ (fun _ _ H' ⟨_, _, _, _, _, _, _, h⟩ => h) ?_ ?_
  · rintro pre c post x σ' H5 H6 e ⟨y3, us, rfl, ex, hW, hl, hu, h4⟩ e6 rfl
    have lpre : pre.length ≤ 3 := by
      have h2 := congrArg List.length e
      rw [List.length_append, List.length_cons] at h2
      omega
    have ex6 : Ex H H6 := ex.trans e6
    have hW6 := e6 _ _ hW
    walk_at "gw"
    obtain ⟨k, ek, hk⟩ : ∃ k : Nat, c % 6 = ((k : Nat) : Int) ∧ k < 6 := mod_nat (by decide)
    rw [ek]
    refine c_word k (L2.Same.refl _) (ex6.seq hL) lets (by omega) fun H7 u e7 hlu ho => ?_
    walk_at "gw"
    refine w_app (e7 _ _ hW6) (by rw [List.length_map]; omega) fun H8 c8 => ?_
    have ne8 : l4 ≠ lW := fun z => by
      have := n4.no
      rw [z, e3 _ _ (n2.ex _ _ n1.at_)] at this
      cases this
    refine ⟨_, us ++ [u], rfl, c8.ex (ex6.trans e7) n1.no, by rw [List.map_append]; exact c8.at_, by rw [List.length_append, List.length_append, hl]; rfl, fun x hx => ?_, ?_⟩
    · rcases List.mem_append.mp hx with hx | hx
      · exact hu x hx
      · rw [List.mem_singleton.mp hx]
        exact ⟨by omega, ho⟩
    · rcases e7.seq (e6.seq h4) with (h | ⟨o, h⟩) | h
      · exact .inl (.inl (c8.but _ _ ne8 h))
      · exact .inl (.inr ⟨o, c8.but _ _ ne8 h⟩)
      · exact .inr h
  rintro σ' H5 ⟨y3, us, rfl, ex, hW, hl, hu, h4⟩
  have lus : us.length ≤ 4 := by omega
  have base : LawRowL ls us := ⟨⟨fun u hu' => (hu u hu').2.al, us, lus, fun u hu' => (hu u hu').1, .inl rfl⟩, fun u hu' => (hu u hu').2⟩
  walk_at "gw"
  refine sz_and (Nat.zero_le _) fun l6 H6 n6 => ?_
  have hW6 := n6.ex _ _ hW
  refine ⟨lW, l6, _, rfl, rfl, sqL_of hW6, sqL_of n6.at_, ?_⟩
  walk_at "gw"
  have ex6 : Ex H H6 := ex.trans n6.ex
  rcases list_end us with e0 | ⟨us0, ul, e0⟩
  · rw [e0, List.map_nil, List.isEmpty_nil, Bool.not_true]
    walk_at "gw"
    refine sz_and (Nat.zero_le _) fun l7 H7 n7 => ?_
    refine ⟨lW, l7, _, rfl, rfl, sqL_of (n7.ex _ _ hW6), sqL_of n7.at_, ?_⟩
    rw [e0, List.map_nil, List.isEmpty_nil, Bool.not_true]
    walk_at "gw"
    exact row_tail (ex6.trans n7.ex) hS n1.no base (n7.ex _ _ hW6) q
  obtain ⟨u0, hu0⟩ : ∃ u0, us[0]? = some u0 := ⟨us[0]'(by rw [e0, List.length_append]; exact Nat.succ_pos _), List.getElem?_eq_getElem _⟩
  have mu0 : u0 ∈ us := List.mem_of_getElem? hu0
  have mul : ul ∈ us := by rw [e0]; simp
  have ne : (!(us.map fun u => V.str (tx u)).isEmpty) = true := by
    rw [e0]
    cases us0 <;> rfl
  have first : ∀ H', H' lW = some (.lst (us.map fun u => V.str (tx u))) → ∀ Q' : VK, Q' (.str (tx u0)) H' → rIxL K (.ref lW) (.int 0) H' Q' := fun H' h' Q' q' => w_ixL (sqL_of h') (atI_nat (j := 0) (by rw [List.getElem?_map, hu0]; rfl)) q'
  have last : ∀ H', H' lW = some (.lst (us.map fun u => V.str (tx u))) → ∀ Q' : VK, Q' (.str (tx ul)) H' → rIxL K (.ref lW) (.int (-1)) H' Q' := fun H' h' Q' q' => w_ixL (sqL_of h') (by rw [e0, List.map_append]; exact atI_last _ _) q'
  obtain ⟨hl0, ho0⟩ := hu u0 mu0
  obtain ⟨hll, hol⟩ := hu ul mul
  have add : ∀ p, p.length ≤ 15 → Made us p → OfL ls p → LawRowL ls (us ++ [p]) := fun p h1 h2 h3 => by
    have all_ : ∀ u ∈ us ++ [p], OfL ls u := fun u hu' => by
      rcases List.mem_append.mp hu' with hu' | hu'
      · exact (hu u hu').2
      · rw [List.mem_singleton.mp hu']
        exact h3
    exact ⟨⟨fun u hu' => (all_ u hu').al, us, lus, fun u hu' => (hu u hu').1, .inr ⟨p, rfl, h1, h2⟩⟩, all_⟩
  rw [ne]
  walk_at "gw"
  refine c_cell 1 (L2.Same.refl _) (ex6.seq hS) fun H7 e7 => ?_
  walk_at "gw"
  have hW7 := e7 _ _ hW6
  have ex7 : Ex H H7 := ex6.trans e7
  by_cases h1 : ns.getD 1 0 / 6 % 4 = 1
  · rw [h1]
    rw [show decide (V.int 1 = V.int 1) = true from rfl]
    walk_at "gw"
    refine first _ hW7 _ ?_
    walk_at "gw"
    refine last _ hW7 _ ?_
    refine ⟨_, _, rfl, rfl, line_le (by show u0.length + ul.length ≤ _; omega), ?_⟩
    rw [show tx u0 ++ tx ul = tx (u0 ++ ul) from tx_app _ _]
    walk_at "gw"
    refine first _ hW7 _ ?_
    walk_at "gw"
    refine c_lturned (L2.Same.refl _) ho0.al (by omega) fun H8 e8 => ?_
    refine ⟨_, _, rfl, rfl, line_le (by show (u0 ++ ul).length + (rv u0).length ≤ _; rw [List.length_append, rv_len]; omega), ?_⟩
    rw [show tx (u0 ++ ul) ++ tx (rv u0) = tx (u0 ++ ul ++ rv u0) from tx_app _ _]
    walk_at "gw"
    refine w_app (e8 _ _ hW7) (by rw [List.length_map]; omega) fun H9 c9 => ?_
    have row9 : LawRowL ls (us ++ [u0 ++ ul ++ rv u0]) := add _ (by rw [List.length_append, List.length_append, rv_len]; omega) (.app (.app (.word mu0) (.word mul)) (.back (.word mu0))) ((ho0.app hol).app (fun c hc => by
      obtain ⟨d, hd, rfl⟩ := List.mem_map.mp hc
      obtain ⟨z1, z2⟩ := ho0 d (List.mem_reverse.mp hd)
      exact ⟨bk_L z1, by rw [low_bk z1]; exact z2⟩))
    have hW9 : H9 lW = some (.lst ((us ++ [u0 ++ ul ++ rv u0]).map fun u => V.str (tx u))) := by rw [List.map_append]; exact c9.at_
    have ex9 : Ex H H9 := c9.ex (ex7.trans e8) n1.no
    walk_at "gw"
    refine sz_and (Nat.zero_le _) fun l10 H10 n10 => ?_
    refine ⟨lW, l10, _, rfl, rfl, sqL_of (n10.ex _ _ hW9), sqL_of n10.at_, ?_⟩
    rw [show (!((us ++ [u0 ++ ul ++ rv u0]).map fun u => V.str (tx u)).isEmpty) = true by cases us <;> rfl]
    walk_at "gw"
    refine c_cell 1 (L2.Same.refl _) ((ex9.trans n10.ex).seq hS) fun H11 e11 => ?_
    walk_at "gw"
    rw [h1, show decide (V.int 1 = V.int 2) = false from rfl]
    walk_at "gw"
    exact row_tail ((ex9.trans n10.ex).trans e11) hS n1.no row9 (e11 _ _ (n10.ex _ _ hW9)) q
  · rw [show decide (V.int (ns.getD 1 0 / 6 % 4) = V.int 1) = false from decide_eq_false fun z => h1 (by injection z)]
    walk_at "gw"
    refine sz_and (Nat.zero_le _) fun l8 H8 n8 => ?_
    refine ⟨lW, l8, _, rfl, rfl, sqL_of (n8.ex _ _ hW7), sqL_of n8.at_, ?_⟩
    rw [ne]
    walk_at "gw"
    refine c_cell 1 (L2.Same.refl _) ((ex7.trans n8.ex).seq hS) fun H9 e9 => ?_
    have hW9 := e9 _ _ (n8.ex _ _ hW7)
    have ex9 : Ex H H9 := (ex7.trans n8.ex).trans e9
    walk_at "gw"
    by_cases h2 : ns.getD 1 0 / 6 % 4 = 2
    · rw [h2]
      rw [show decide (V.int 2 = V.int 2) = true from rfl]
      walk_at "gw"
      refine last _ hW9 _ ?_
      walk_at "gw"
      refine last _ hW9 _ ?_
      refine ⟨_, _, rfl, rfl, line_le (by show ul.length + ul.length ≤ _; omega), ?_⟩
      rw [show tx ul ++ tx ul = tx (ul ++ ul) from tx_app _ _]
      walk_at "gw"
      refine last _ hW9 _ ?_
      refine ⟨_, _, rfl, rfl, line_le (by show (ul ++ ul).length + ul.length ≤ _; rw [List.length_append]; omega), ?_⟩
      rw [show tx (ul ++ ul) ++ tx ul = tx (ul ++ ul ++ ul) from tx_app _ _]
      walk_at "gw"
      refine w_app hW9 (by rw [List.length_map]; omega) fun H10 c10 => ?_
      have row10 : LawRowL ls (us ++ [ul ++ ul ++ ul]) := add _ (by rw [List.length_append, List.length_append]; omega) (.app (.app (.word mul) (.word mul)) (.word mul)) ((hol.app hol).app hol)
      walk_at "gw"
      exact row_tail (c10.ex ex9 n1.no) hS n1.no row10 (by rw [List.map_append]; exact c10.at_) q
    · rw [show decide (V.int (ns.getD 1 0 / 6 % 4) = V.int 2) = false from decide_eq_false fun z => h2 (by injection z)]
      walk_at "gw"
      exact row_tail ex9 hS n1.no base hW9 q
end
end Gw

/-! ### law k05: what is made, in one -/
namespace Gw
open PySem PySem.Spec PyProof.Rows L2 RT PySem.W
/-- ways are the same by other numbers -/
theorem walk_num {Δ : List T3} (W : WebOk Δ) {w : List Nat} : Walk (numberedT Δ) 0 w 0 ↔ Walk Δ 0 w 0 := by
  constructor
  · intro h
    have key : ∀ r ∈ keysF (foundRooms Δ), ((keysF (foundRooms Δ))[numOf (foundRooms Δ) r]?).getD 0 = r := fun r hr => by
      unfold numOf
      have hr' : r ∈ (foundRooms Δ).map (·.1) := hr
      have h1 := List.idxOf_lt_length_of_mem hr'
      show (((foundRooms Δ).map (·.1))[((foundRooms Δ).map (·.1)).idxOf r]?).getD 0 = r
      rw [List.getElem?_eq_getElem h1, List.getElem_idxOf h1]
      rfl
    have h2 := h.map (φ := fun n => ((keysF (foundRooms Δ))[n]?).getD 0) (ts' := Δ) fun t ht => by
      obtain ⟨x, hx, rfl⟩ := List.mem_map.mp ((numbered_perm Δ).mem_iff.mp ht)
      obtain ⟨a, b⟩ := W.all_ x hx
      show (((keysF (foundRooms Δ))[numOf (foundRooms Δ) x.1]?).getD 0, x.2.1, ((keysF (foundRooms Δ))[numOf (foundRooms Δ) x.2.2]?).getD 0) ∈ Δ
      rw [key _ a, key _ b]
      exact hx
    have e0 : ((keysF (foundRooms Δ))[0]?).getD 0 = 0 := by
      have := key 0 (zero_found Δ)
      rw [numOf_zero] at this
      exact this
    rw [e0] at h2
    exact h2
  · intro h
    have h2 := h.map (φ := numOf (foundRooms Δ)) (ts' := numberedT Δ) fun t ht => (numbered_perm Δ).mem_iff.mpr (List.mem_map.mpr ⟨t, ht, rfl⟩)
    rw [numOf_zero] at h2
    exact h2
theorem num_found_len {Δ : List T3} (W : WebOk Δ) : (foundRooms (numberedT Δ)).length = (foundRooms Δ).length := by
  rw [numbered_found W]
  unfold mapF
  rw [List.length_map]
theorem ev1_sh {us : List (List Nat)} (h : ∀ u ∈ us, AL u) (n : Int) : ev1 (us.map sh) n = sh (ev1 us n) := by
  have key : ∀ i, (us.map sh).getD i [] = sh (us.getD i []) := fun i => by
    rw [List.getD_eq_getElem?_getD, List.getD_eq_getElem?_getD, List.getElem?_map]
    cases us[i]? <;> rfl
  unfold ev1
  split
  · exact key _
  · rw [key, sh_rv (getD_al h _)]
theorem evN_sh {us : List (List Nat)} (h : ∀ u ∈ us, AL u) : ∀ ns : List Int, sh (evN (us.map sh) ns) = sh (evN us ns)
  | [] => rfl
  | n :: ns => by
    have h' : ∀ u ∈ us.map sh, AL u := fun v hv => by
      obtain ⟨x, hx, rfl⟩ := List.mem_map.mp hv
      exact sh_AL (h x hx)
    show sh (ev1 (us.map sh) n ++ evN (us.map sh) ns) = sh (ev1 us n ++ evN us ns)
    exact sh_congr (ev1_al h' n) (evN_al h' ns) (ev1_al h n) (evN_al h ns) (by rw [ev1_sh h, sh_sh (ev1_al h n)]) (evN_sh h ns)
theorem LawRowM.webFine {ls : List Nat} {us : List (List Nat)} (L : LawRowM ls us) : WebFine us := by
  have n := L.len
  have m := L.short
  refine ⟨⟨L.row.al, fun u hu => by have := m u hu; omega, by omega, L.row.ok.1 _⟩, ?_, (gluedOf_ok L.row.al (glued_sm L.row.al)).1.all_⟩
  have := rings_le (n := 15) (us.map sh) fun w hw => by
    obtain ⟨u, hu, rfl⟩ := List.mem_map.mp hw
    have := sh_len u
    have := m u hu
    omega
  rw [List.length_map] at this
  have : us.length * 15 ≤ 10 * 15 := Nat.mul_le_mul_right _ n
  omega
/-- all that is asked of what is made -/
theorem made_all {ls : List Nat} {us : List (List Nat)} (L : LawRowM ls us) {u : List Nat} (hu : AL u) (hn : u.length + 1 ≤ 15 + (foundRooms (webOf us)).length) :
    MadeFine us u ∧ (ledT ((gluedOf us).map T4.t3) (sh u) = some 0 ↔ ledT (webOf us) (sh u) = some 0) ∧ (ledT ((gluedOf us).map T4.t3) (sh u) = some 0 → InU us.length (madeT (gluedOf us) (sh u)) ∧ (evN us (madeT (gluedOf us) (sh u))).length ≤ 16777216 ∧ sh (evN us (madeT (gluedOf us) (sh u))) = sh u ∧ (madeT (gluedOf us) (sh u)).length < 16000000) := by
  have al := L.row.al
  have sm3 := glued_sm al
  have sm : ∀ t ∈ gluedOf us, 97 ≤ t.2.1 ∧ t.2.1 ≤ 122 := fun t ht => sm3 t.t3 (List.mem_map.mpr ⟨t, ht, rfl⟩)
  have F : Folded ((gluedOf us).map T4.t3) := glue_folded _
  obtain ⟨_, kk, N, S, X, H, D, LL', Z, Wt⟩ := L.row.ok
  obtain ⟨ν, Vl⟩ := glued_val al
  have W := (gluedOf_ok al sm3).1
  have rooms := Z.rooms sm3 F
  have fl := num_found_len W
  have shal := sh_AL hu
  have shl : (sh u).length ≤ 15 + (N - 1 - D.length) := by
    have h1 := sh_len u
    have h2 : (foundRooms (webOf us)).length = (foundRooms ((gluedOf us).map T4.t3)).length := fl
    omega
  have us_al : ∀ v ∈ us.map sh, AL v := fun v hv => by
    obtain ⟨x, hx, rfl⟩ := List.mem_map.mp hv
    exact sh_AL (al x hx)
  have W2 := numbered_ok W
  refine ⟨⟨kk, N, S, X, H, D, LL', ν, Z, Vl, fun _ => shl⟩, ?_, fun hl => ?_⟩
  · show _ ↔ ledT (numberedT ((gluedOf us).map T4.t3)) (sh u) = some 0
    rw [ledT_walk sm3 F shal, ledT_walk W2.sm W2.fold shal]
    exact walk_num W |>.symm
  · obtain ⟨m1, m2, m3⟩ := made_ok us_al sm F Z Vl shal shl ((ledT_walk sm3 F shal).mp hl)
    rw [List.length_map] at m1
    have ml := wsum_len kk (eW (madeT (gluedOf us) (sh u)))
    rw [List.length_map] at ml
    refine ⟨m1, ?_, ?_, by omega⟩
    · have := Wt.len _ m1
      omega
    · rw [← evN_sh al, m2, sh_sh hu]
section
variable {K : PySem.W.Frag}
theorem words_isW {H : Hp} {us : List (List Nat)} (al : ∀ u ∈ us, AL u) (sh : ∀ u ∈ us, u.length ≤ 15) : ∀ x ∈ us.map fun u => (V.str (tx u), some u), IsW K H x.1 x.2 := fun x hx => by
  obtain ⟨u, hu, rfl⟩ := List.mem_map.mp hx
  exact IsW.word (al u hu) (by have := sh u hu; omega)
theorem c_made {H : Hp} {Q : VK} {E : XK} {ls : List Nat} {us : List (List Nat)} {u : List Nat} {l : Addr} (L : LawRowM ls us) (h : SqL K H l (us.map fun u => V.str (tx u))) (hu : AL u) (hl : u.length ≤ 100000) (hn : u.length + 1 ≤ 15 + (foundRooms (webOf us)).length)
    (q1 : ledT (webOf us) (sh u) = some 0 → ∀ H' m ns, Ex H H' → H m = none → H' m = some (.lst (ns.map V.int)) → InU us.length ns → (evN us ns).length ≤ 16777216 → sh (evN us ns) = sh u → ns.length < 16000000 → Q (.ref m) H')
    (q2 : ledT (webOf us) (sh u) ≠ some 0 → ∀ H', Ex H H' → Q .non H') : sp_made_by K [.ref l, .str (tx u)] H Q E := by
  obtain ⟨F, eq, ok⟩ := made_all L hu hn
  refine ⟨((l, us.map fun u => (V.str (tx u), some u)), (.str (tx u), some u)), rfl, by rw [List.map_map]; exact h, words_isW L.row.al L.short, by rw [List.length_map]; have := L.len; omega, IsW.word hu hl, fun us' hus' => ?_, fun ⟨x, hx, e⟩ => ?_⟩
  · have hus' : (us.map fun u => (V.str (tx u), some u)).map (·.2) = us'.map some := hus'
    rw [List.map_map] at hus'
    obtain rfl : us = us' := some_map_inj' hus'
    refine ⟨L.webFine.row, L.webFine.len, fun u' hu' => ?_, fun z => by cases z⟩
    obtain rfl : u = u' := Option.some.inj hu'
    refine ⟨F, ?_⟩
    rintro v H' e ⟨h1, h2⟩
    by_cases hled : ledT ((gluedOf us).map T4.t3) (sh u) = some 0
    · obtain ⟨m, rfl, no, hm⟩ := h1 hled
      obtain ⟨o1, o2, o3, o4⟩ := ok hled
      exact q1 (eq.mp hled) H' m _ e no hm o1 o2 o3 o4
    · obtain rfl := h2 hled
      exact q2 (fun z => hled (eq.mpr z)) H' e
  · have hx : x ∈ us.map fun u => (V.str (tx u), some u) := hx
    obtain ⟨u, hu, rfl⟩ := List.mem_map.mp hx
    cases e
end
end Gw

/-! ### the head's Hook: facts, defs, and how the classes of errors are asked -/
namespace Gw
open PySem PySem.Spec PyProof.Rows L2
def fact2 (K : PySem.W.Frag) (x y : Str) (b : Bool) : Bool := decide (PySem.W.kitOne K (.ref (He.ga K x)) (.ref (He.ga K y)) = some b)
def excB (K : PySem.W.Frag) (x : Str) : Bool :=
  decide (PySem.W.findIn K (.ref (He.ga K x)) "__getattribute__" = some (some (.builtin "BaseException.__getattribute__"))) && (decide (PySem.W.findIn K (.ref (He.ga K x)) "__getattr__" = some none) &&
  (decide (PySem.W.subIn K (.ref (He.ga K x)) (.type "BaseException") = some true) && (decide (PySem.W.hasDictIn K (He.ga K x) = true) && (decide (PySem.W.findIn K (.ref (He.ga K x)) "__class__" = some (some (.builtin "object.__class__"))) &&
  (decide (PySem.W.specialIn K (.builtin "object.__class__") "__get__" = some (some (.builtin "getset_descriptor.__get__"))) && (decide (PySem.W.takesIn K (.builtin "object.__class__") = some true) && decide (PySem.W.mroIn K (He.ga K x) (.type "object") = some true)))))))
theorem excB_ok {K : PySem.W.Frag} {x : Str} (h : excB K x = true) : ExcC K (He.ga K x) := by
  obtain ⟨h1, h⟩ := He.ba h
  obtain ⟨h2, h⟩ := He.ba h
  obtain ⟨h3, h⟩ := He.ba h
  obtain ⟨h4, h⟩ := He.ba h
  obtain ⟨h5, h⟩ := He.ba h
  obtain ⟨h6, h⟩ := He.ba h
  obtain ⟨h7, h8⟩ := He.ba h
  exact ⟨of_decide_eq_true h1, of_decide_eq_true h2, of_decide_eq_true h3, of_decide_eq_true h4, of_decide_eq_true h5, of_decide_eq_true h6, of_decide_eq_true h7, of_decide_eq_true h8⟩
def clB (K : PySem.W.Frag) : Bool :=
  excB K "BadWord" && (excB K "BadWeb" && (fact2 K "BadWord" "BadWord" true && (fact2 K "BadWord" "BadWeb" false && (decide (PySem.W.kitOne K (.ref (He.ga K "BadWord")) (.type "ValueError") = some true) &&
  (fact2 K "BadWeb" "BadWord" false && (fact2 K "BadWeb" "BadWeb" true && (decide (PySem.W.kitOne K (.ref (He.ga K "BadWeb")) (.type "ValueError") = some true) && (decide (PySem.W.exmOne K (.ref (He.ga K "BadWord")) (.ref (He.ga K "GlueError")) = some true) &&
  decide (PySem.W.exmOne K (.ref (He.ga K "BadWeb")) (.ref (He.ga K "GlueError")) = some true)))))))))
theorem clB_ok {K : PySem.W.Frag} (h : clB K = true) : ExCl K := by
  obtain ⟨h1, h⟩ := He.ba h
  obtain ⟨h2, h⟩ := He.ba h
  obtain ⟨h3, h⟩ := He.ba h
  obtain ⟨h4, h⟩ := He.ba h
  obtain ⟨h5, h⟩ := He.ba h
  obtain ⟨h6, h⟩ := He.ba h
  obtain ⟨h7, h⟩ := He.ba h
  obtain ⟨h8, h⟩ := He.ba h
  obtain ⟨h9, h10⟩ := He.ba h
  exact ⟨excB_ok h1, excB_ok h2, of_decide_eq_true h3, of_decide_eq_true h4, of_decide_eq_true h5, of_decide_eq_true h6, of_decide_eq_true h7, of_decide_eq_true h8, of_decide_eq_true h9, of_decide_eq_true h10⟩
abbrev AlW : Type := Bool × He.AlD
def obsW (n : Nat) (fa : List He.Fa) (fn : List He.DefD) (g : Addr → Option Obj) : AlW := (clB (He.frG g (He.asD g n)), He.obsDG n fa fn g)
def hookW (n : Nat) (fa : List He.Fa) (fn : List He.DefD) : PySem.W.Hook where
  α := AlW
  obs := fun s => obsW n fa fn s.heap.get?
  val := fun _ => (true, He.valD fn)
  says := fun _ h => ∃ K : PySem.W.Frag, K.In h ∧ clB K = true ∧ He.SaysD fa fn K
  of := fun _ s e => ⟨_, He.frG_in, congrArg (fun z : AlW => z.1) e, congrArg (fun z : AlW => z.2) e⟩
  keeps := fun _ _ _ ⟨K, hK, c⟩ k => ⟨K, PySem.W.Frag.In.keeps hK k, c⟩
theorem obsW_eq {n : Nat} {fa : List He.Fa} {fn : List He.DefD} {g : Addr → Option Obj} {s : Shared} (h : ∀ a, g a = s.heap.get? a) : obsW n fa fn g = (hookW n fa fn).obs s := by
  have e : g = s.heap.get? := funext h
  rw [e] <;> rfl
end Gw
namespace Gw
open PySem PySem.Spec PyProof.Rows L2
theorem to0 {P : Program} {w : World} {K : PySem.W.Frag} {mg : Str → Option Value} {base : Heap} {k : Nat} {f : Addr} {fd : FuncData} {ps : List Str} {sp : Sp} (F : FnOk P w K mg base (L2N.CX P w) k f fd ps sp) :
    FnOk P w K mg base CX0 k f fd ps (fun vs H Q _ => sp vs H Q E0) := by
  refine ⟨fun vs H Q E h => F.len vs H Q E0 h, fun A outer s H args us vs Q E hr he hb hv hs => ?_⟩
  refine codeAny_mono (F.run A outer s H args us vs Q E0 hr he hb hv hs) fun r s' h => ?_
  cases r with
  | error e =>
    obtain ⟨_, _, _, _, _, _, _, _, _, _, _, _, z⟩ := h
    exact z
  | ok fl =>
    cases fl with
    | ret u => exact h
    | _ => exact h
/-- the law's own def, its function object told -/
theorem fnOf {P : Program} {w : World} {K : PySem.W.Frag} {mg : Str → Option Value} {base : Heap} {x : Str} {st : Stmt} {N ps : List Str} {k : Nat} {sp : Sp} {fd : FuncData} (F : FunD K x x (defArgs st) (defBody st) (defScope st) [] [] (He.ga K x) fd) (S : FnScope N ps (defScope st)) (len : ∀ vs H Q E, sp vs H Q E → vs.length = ps.length)
    (hbody : ∀ (cdv : Value) (A : Around) (outer : List Env) (s : Shared) (H : Hp) (vs : List V) (Q : VK) (E : XK), Room k (A.deeper (envOfC x (defScope st) s.heap.objs.size (He.ga K x) cdv)) → sp vs H Q E →
      ∃ t, PSs (cxOf (L2N.CX P w) P w K mg base N x (defScope st) (He.ga K x) cdv A outer s H E).nox (defBody st) t ∧ t { nx := fun _ H' => Q .non H', rt := Q } (start N vs) H) : FnOk P w K mg base (L2N.CX P w) (k + 1) (He.ga K x) fd ps sp := by
  refine F.ok S len fun cdv A outer s H vs Q E hr h => ?_
  obtain ⟨t, h1, h2⟩ := hbody cdv A outer s H vs Q E hr h
  exact ⟨t, h1.nox, h2⟩
/-- what each law promises -/
def sp_law (K : PySem.W.Frag) : Sp := fun vs H Q _ => ∃ p : Addr × List Int, vs = [.ref p.1] ∧ SqL K H p.1 (p.2.map .int) ∧ p.2.length ≤ 63 ∧ Ret H Q fun v _ => v = .bl true
end Gw

/-! ### law k05 -/
namespace Gw
open PySem PySem.Spec PyProof.Rows L2 RT PySem.W
section
variable {P : Program} {w : World} {K : PySem.W.Frag} {mg : Str → Option Value} {base : Heap}
theorem w_modN {H : Hp} {Q : VK} {c : Int} {m : Nat} (h : 0 < m) (q : ∀ b : Nat, b < m → Q (V.int ((b : Nat) : Int)) H) : rI (fun x j => 0 < j) (fun i j => V.int (i % j)) (.int c) (.int (m : Int)) H Q := by
  obtain ⟨b, eb, hb⟩ := mod_nat (c := c) (m := m) h
  refine ⟨_, _, rfl, rfl, by show (0 : Int) < (m : Int); omega, ?_⟩
  show Q (V.int (c % (m : Int))) H
  rw [eb]
  exact q b hb
abbrev lawDepth : Nat := 20
abbrev N_law : List Str := ["_law_script", "_law_letters_here", "_law_words", "_law_handed", "_law_cell_here", "_law_thing", "_law_at", "_law_web", "_law_word_here", "_law_found", "_law_other"]
theorem sc_law : FnScope ["_law_script", "_law_letters_here", "_law_words", "_law_handed", "_law_cell_here", "_law_thing", "_law_at", "_law_web", "_law_word_here", "_law_found", "_law_other"] ["_law_script"] (defScope s_law) := ⟨rfl, rfl, rfl, by decide +kernel, rfl, by decide +kernel, by decide +kernel⟩
theorem b_law : BindsT "law" s_law ["_law_script"] := fun _ _ _ _ _ _ us hl => match us, hl with | [_], _ => rfl
theorem law_fn {fd : FuncData} (T : Tx K mg) (F : FunD K "law" "law" (defArgs s_law) (defBody s_law) (defScope s_law) [] [] (He.ga K "law") fd) : FnOk P w K mg base (L2N.CX P w) lawDepth (He.ga K "law") fd ["_law_script"] (sp_law K) := by
  have G__law_back := ok__law_back (P := P) (w := w) (base := base) T 
  have G_is_number := ok_is_number (P := P) (w := w) (base := base) T 
  have G_is_tie := ok_is_tie T G_is_number
  have G_back_of := ok_back_of (P := P) (w := w) (base := base) T 
  have G_steps_of := ok_steps_of T G_back_of
  have G_found_rooms := ok_found_rooms T G_back_of G_steps_of
  have G_ends_at := ok_ends_at (P := P) (w := w) (base := base) T 
  have G_numbered := ok_numbered T G_found_rooms
  have G_is_web := ok_is_web T G_is_tie G_steps_of G_found_rooms G_ends_at G_numbered
  have G_need_web := ok_need_web T G_is_web
  have G_is_word := ok_is_word (P := P) (w := w) (base := base) T 
  have G_need_word := ok_need_word T G_is_word
  have G_shortened := ok_shortened T G_back_of
  have G_led := ok_led T G_steps_of
  have G_reads := ok_reads T G_need_web G_need_word G_shortened G_led
  have G__law_letters := ok__law_letters (P := P) (w := w) (base := base) T 
  have G_behind := ok_behind (P := P) (w := w) (base := base) T 
  have G_rings_of := ok_rings_of T G_back_of G_behind
  have G_in_order := ok_in_order (P := P) (w := w) (base := base) T 
  have G_pair_of := ok_pair_of T G_in_order
  have G_joined := ok_joined (P := P) (w := w) (base := base) T 
  have G_moved := ok_moved T G_joined G_behind
  have G_glued := ok_glued T G_pair_of G_joined G_behind G_moved
  have G_glued_of := ok_glued_of T G_need_word G_shortened G_rings_of G_glued
  have G_numbers_by := ok_numbers_by T G_back_of G_behind
  have G__law_mixed := ok__law_mixed (P := P) (w := w) (base := base) T 
  have G__law_turned := ok__law_turned T G__law_back
  have G__law_steps := ok__law_stepsK (P := P) (w := w) (base := base) T 
  have G__law_ways := ok__law_ways (P := P) (w := w) (base := base) T 
  have G__law_round := ok__law_round T G__law_mixed G__law_turned G__law_steps G__law_ways
  have G__law_whole := ok__law_whole5 (P := P) (w := w) (base := base) T 
  have G__law_product := ok__law_product T G__law_turned
  have G__law_short := ok__law_short T G__law_back
  have G__law_is_making := ok__law_is_making T G__law_whole G__law_product G__law_short
  have G_made_by := ok_made_by T G_glued_of G_need_word G_shortened G_led G_numbers_by G_joined
  have G__law_refused := ok__law_refused5 T G_made_by
  have G_web_of := ok_web_of T G_glued_of G_numbered
  have G__law_cell := ok__law_cell (P := P) (w := w) (base := base) T 
  have G__law_word := ok__law_word T G__law_mixed
  have G__law_row := ok__law_row T G__law_cell G__law_word G__law_turned
  refine fnOf F sc_law (fun vs H Q E h => by obtain ⟨a, rfl, _⟩ := h; rfl) (fun cdv A outer s H vs Q E hr h => ?_)
  obtain ⟨⟨l, ns⟩, rfl, hS, hlen, q⟩ := h
  refine ⟨_, (pss_cons (ps_set (i := 1) sc_law.nd rfl (.inl rfl) (pe_g G__law_letters (hr.mono (by decide)) (by rfl) (pa_cons (pe_g G__law_cell (hr.mono (by decide)) (by rfl) (pa_cons (pv 0) (pa_cons pe_int pa_nil))) pa_nil)))
      (pss_cons (ps_set (i := 2) sc_law.nd rfl (.inl rfl) (pe_g G__law_row (hr.mono (by decide)) (by rfl) (pa_cons (pv 0) (pa_cons (pv 1) pa_nil))))
      (pss_cons (ps_set (i := 3) sc_law.nd rfl (.inl rfl) (pe_callTy call_listN (by rfl) T.n_list (by decide +kernel) (pa_cons (pv 2) pa_nil)))
      (pss_cons (ps_set (i := 4) sc_law.nd rfl (.inl rfl) (pe_g G__law_cell (hr.mono (by decide)) (by rfl) (pa_cons (pv 0) (pa_cons pe_int pa_nil))))
      (pss_cons (ps_if (pt_cmpR op_eq (pe_op op_mod (pv 4) pe_int) pe_int (nomark _)) (pss_cons (ps_set (i := 5) sc_law.nd rfl (.inl rfl) (pe_ix (ix_listK K) (pe_lstN (pa_cons pe_non (pa_cons pe_int (pa_cons pe_str (pa_cons pe_str (pa_cons (pe_lstN (pa_cons pe_str pa_nil)) pa_nil)))))) (pe_op op_mod (pe_op op_fdiv (pv 4) pe_int) pe_int) (fun _ _ => rfl)))
      (pss_cons (ps_set (i := 6) sc_law.nd rfl (.inl rfl) (pe_op op_mod (pe_op op_fdiv (pv 4) pe_int) (pe_op op_add (pe_callB (call_len_seqK K) (by rfl) T.n_len (by decide +kernel) (pa_cons (pv 2) pa_nil)) pe_int)))
      (pss_one (ps_ret (pe_and (pe_g G__law_refused (hr.mono (by decide)) (by rfl) (pa_cons (pe_op op_catN (pe_op op_catN (pe_slice sl_listN (pv 2) po_none (po_some (pv 6))) (pe_lstN (pa_cons (pv 5) pa_nil))) (pe_slice sl_listN (pv 2) (po_some (pv 6)) po_none)) (pa_cons pe_str pa_nil))) (pe_one (pe_g G__law_refused (hr.mono (by decide)) (by rfl) (pa_cons (pv 3) (pa_cons (pv 5) pa_nil))))))))) pss_nil)
      (pss_cons (ps_set (i := 7) sc_law.nd rfl (.inl rfl) (pe_g G_web_of (hr.mono (by decide)) (by rfl) (pa_cons (pv 2) pa_nil)))
      (pss_cons (ps_set (i := 8) sc_law.nd rfl (.inl rfl) (pe_g G__law_round (hr.mono (by decide)) (by rfl) (pa_cons (pv 7) (pa_cons (pe_g G__law_cell (hr.mono (by decide)) (by rfl) (pa_cons (pv 0) (pa_cons pe_int pa_nil))) (pa_cons (pe_op op_mod (pe_g G__law_cell (hr.mono (by decide)) (by rfl) (pa_cons (pv 0) (pa_cons pe_int pa_nil))) pe_int) pa_nil)))))
      (pss_cons (ps_set (i := 9) sc_law.nd rfl (.inl rfl) (pe_g G_made_by (hr.mono (by decide)) (by rfl) (pa_cons (pv 3) (pa_cons (pv 8) pa_nil))))
      (pss_cons (ps_if (pt_not (pt_val (pe_g G__law_is_making (hr.mono (by decide)) (by rfl) (pa_cons (pv 9) (pa_cons (pv 2) (pa_cons (pv 8) pa_nil)))))) (pss_one (ps_ret pe_bl)) pss_nil)
      (pss_cons (ps_expr (pe_bm PySem.F.plainAttrs_list PySem.F.slot_list_append PySem.F.type_list_append mt_appN (pv 9) (pa_cons pe_int pa_nil)))
      (pss_cons (ps_if (PW.pt (pw_or (pt_not (pt_val (pe_g G__law_is_making (hr.mono (by decide)) (by rfl) (pa_cons (pe_g G_made_by (hr.mono (by decide)) (by rfl) (pa_cons (pv 3) (pa_cons (pv 8) pa_nil))) (pa_cons (pv 2) (pa_cons (pv 8) pa_nil)))))) (pw_or1 (pt_not (pt_val (pe_g G__law_is_making (hr.mono (by decide)) (by rfl) (pa_cons (pe_g G_made_by (hr.mono (by decide)) (by rfl) (pa_cons (pv 3) (pa_cons pe_str pa_nil))) (pa_cons (pv 2) (pa_cons pe_str pa_nil))))))))) (pss_one (ps_ret pe_bl)) pss_nil)
      (pss_cons (ps_set (i := 10) sc_law.nd rfl (.inl rfl) (pe_g G__law_word (hr.mono (by decide)) (by rfl) (pa_cons (pe_g G__law_cell (hr.mono (by decide)) (by rfl) (pa_cons (pv 0) (pa_cons pe_int pa_nil))) (pa_cons (pv 1) (pa_cons (pe_op op_mod (pe_g G__law_cell (hr.mono (by decide)) (by rfl) (pa_cons (pv 0) (pa_cons pe_int pa_nil))) pe_int) pa_nil)))))
      (pss_cons (ps_set (i := 9) sc_law.nd rfl (.inl rfl) (pe_g G_made_by (hr.mono (by decide)) (by rfl) (pa_cons (pv 3) (pa_cons (pv 10) pa_nil))))
      (pss_cons (ps_if (pt_val (pe_g G_reads (hr.mono (by decide)) (by rfl) (pa_cons (pv 7) (pa_cons (pv 10) pa_nil)))) (pss_one (ps_ret (pe_and (pe_g G__law_is_making (hr.mono (by decide)) (by rfl) (pa_cons (pv 9) (pa_cons (pv 2) (pa_cons (pv 10) pa_nil)))) (pe_one (pe_cmpR (op_eqDK K hr.units) (pv 3) (pv 2) (nomark _)))))) pss_nil)
      (pss_one (ps_ret (pe_and (pe_cmp (pc_isN (pv 9))) (pe_one (pe_cmpR (op_eqDK K hr.units) (pv 3) (pv 2) (nomark _)))))))))))))))))))), ?_⟩
  have hS : SqL K H l (ns.map V.int) := hS
  show tSeq _ _ _ (L2.start _ [V.ref l]) H
  walk_at "gw"
  refine c_cell 0 (L2.Same.refl _) hS fun H1 e => ?_
  refine c_letters e fun H1 ll ls e1 lets hl => ?_
  have hS1 : SqL K H1 l (ns.map V.int) := e1.seq hS
  walk_at "gw"
  refine ⟨(l, ns, ll, ls), rfl, hS1, sqL_of hl, lets, ?_⟩
  rintro _ H2 e2 ⟨us, L, lr, rfl, nR, hR⟩
  have L : LawRowM ls us := L
  walk_at "gw"
  have alus := L.row.al
  have short := L.short
  have lus := L.len
  refine ⟨lr, _, rfl, .inl (sqL_of hR), fun lh H3 n3 => ?_⟩
  have hR3 := n3.ex _ _ hR
  have hH3 : H3 lh = some (.lst (us.map fun u => V.str (tx u))) := n3.at_
  have e13 : Ex H1 H3 := e2.trans n3.ex
  walk_at "gw"
  refine c_cell 2 (L2.Same.refl _) (e13.seq hS1) fun H4 e4 => ?_
  have e14 := e13.trans e4
  have hR4 := e4 _ _ hR3
  have hH4 := e4 _ _ hH3
  walk_at "gw"
  by_cases h3 : ns.getD 2 0 % 5 = 3
  · rw [h3, show decide (V.int 3 = V.int 3) = true from rfl]
    walk_at "gw"
    refine sz_and (by show 1 ≤ 16000000; decide) fun p5 H5 n5 => ?_
    walk_at "gw"
    refine sz_and (by show 5 ≤ 16000000; decide) fun p6 H6 n6 => ?_
    have e46 : Ex H4 H6 := n5.ex.trans n6.ex
    have hall : ∀ x ∈ [V.non, .int 5, .str (Str.ofString "a b"), .str (Str.ofString "a1"), .ref p5], IsW K H6 x none := by
      have k1 : PySem.W.kitOne K (.type "NoneType") (.type "str") = some false := kit_ty (by decide +kernel)
      have k2 : PySem.W.kitOne K (.type "int") (.type "str") = some false := kit_ty (by decide +kernel)
      have k4 : PySem.W.kitOne K (.type "list") (.type "str") = some false := kit_ty (by decide +kernel)
      intro x hx
      simp only [List.mem_cons, List.not_mem_nil, or_false] at hx
      rcases hx with rfl | rfl | rfl | rfl | rfl
      · exact .ty (.base .non) k1
      · exact .ty (.base (.int 5)) k2
      · exact .bad (z := [97, 32, 98]) (c := 32) (by decide) (by decide) (by decide)
      · exact .bad (z := [97, 49]) (c := 49) (by decide) (by decide) (by decide)
      · exact .ty (.base (.lst (n6.ex _ _ n5.at_))) k4
    walk_at "gw"
    obtain ⟨x, hx, hat⟩ := at_mem (xs := [V.non, .int 5, .str (Str.ofString "a b"), .str (Str.ofString "a1"), .ref p5]) (i := ns.getD 2 0 / 5 % 5) (Int.emod_nonneg _ (by decide)) (by show _ < (5 : Int); exact Int.emod_lt_of_pos _ (by decide))
    have hx := hall x hx
    refine w_ixL (sqL_of n6.at_) hat ?_
    walk_at "gw"
    have hR6 := e46 _ _ hR4
    have hH6 := e46 _ _ hH4
    refine ex_lenL (sqL_of hR6) ?_
    walk_at "gw"
    rw [List.length_map]
    rw [show ((us.length : Nat) : Int) + 1 = ((us.length + 1 : Nat) : Int) by omega]
    refine w_modN (by omega) fun b hb => ?_
    have hbl : b ≤ (us.map fun u => V.str (tx u)).length := by rw [List.length_map]; omega
    walk_at "gw"
    refine w_to hR6 hbl fun p7 H7 n7 => ?_
    walk_at "gw"
    refine sz_and (by show 1 ≤ 16000000; decide) fun p8 H8 n8 => ?_
    refine w_cat2 (n8.ex _ _ n7.at_) n8.at_ (by rw [List.length_take]; show _ + 1 ≤ _; omega) fun p9 H9 n9 => ?_
    walk_at "gw"
    have e69 : Ex H6 H9 := (n7.ex.trans n8.ex).trans n9.ex
    refine w_from (e69 _ _ hR6) hbl fun p10 H10 n10 => ?_
    refine w_cat2 (n10.ex _ _ n9.at_) n10.at_ (by rw [List.length_append, List.length_take, List.length_drop, List.length_map]; show _ + 1 + _ ≤ _; omega) fun p11 H11 n11 => ?_
    walk_at "gw"
    have e611 : Ex H6 H11 := (e69.trans n10.ex).trans n11.ex
    have wI : ∀ H', ∀ x ∈ us.map fun u => (V.str (tx u), some u), IsW K H' x.1 x.2 := fun H' => words_isW alus short
    have q11 := n11.at_
    refine ⟨((p11, (us.take b).map (fun u => (V.str (tx u), some u)) ++ [(x, none)] ++ (us.drop b).map (fun u => (V.str (tx u), some u))), (.str (tx []), some [])), rfl, ?_, fun y hy => ?_, ?_, IsW.word AL.nil (Nat.zero_le _), .inl ⟨(x, none), by simp, rfl⟩, ?_⟩
    · rw [List.map_append, List.map_append, List.map_map, List.map_map]
      rw [← List.map_take, ← List.map_drop] at q11
      exact sqL_of q11
    · rcases List.mem_append.mp hy with hy | hy
      · rcases List.mem_append.mp hy with hy | hy
        · obtain ⟨u, hu, rfl⟩ := List.mem_map.mp hy
          exact wI _ _ (List.mem_map.mpr ⟨u, List.mem_of_mem_take hu, rfl⟩)
        · rw [List.mem_singleton.mp hy]
          exact hx.mono e611
      · obtain ⟨u, hu, rfl⟩ := List.mem_map.mp hy
        exact wI _ _ (List.mem_map.mpr ⟨u, List.mem_of_mem_drop hu, rfl⟩)
    · show (_ ++ _ ++ _ : List _).length ≤ _
      rw [List.length_append, List.length_append, List.length_map, List.length_map, List.length_take, List.length_drop]
      show _ + 1 + _ ≤ _
      omega
    rintro _ H12 e12 rfl
    walk_at "gw"
    have e612 := e611.trans e12
    refine ⟨((lh, us.map fun u => (V.str (tx u), some u)), (x, none)), rfl, ?_, wI _, ?_, hx.mono e612, .inr ⟨fun us' hus' => ?_, rfl⟩, ?_⟩
    · rw [List.map_map]
      exact sqL_of (e612 _ _ hH6)
    · show (List.map _ _).length ≤ _
      rw [List.length_map]
      omega
    · have hus' : (us.map fun u => (V.str (tx u), some u)).map (·.2) = us'.map some := hus'
      rw [List.map_map] at hus'
      obtain rfl : us = us' := some_map_inj' hus'
      exact ⟨L.webFine.row, L.webFine.len⟩
    rintro _ H13 e13' rfl
    walk_at "gw"
    exact q _ _ ((((e1.trans e14).trans e46).trans e612).trans e13') rfl
  rw [show decide (V.int (ns.getD 2 0 % 5) = V.int 3) = false from decide_eq_false fun z => h3 (by injection z)]
  walk_at "gw"
  obtain ⟨W, _⟩ := webOf_ok alus (glued_sm alus)
  have sm := W.ok.sm
  have l3 : (webOf us).length ≤ 3000 := by
    have h1 := L.webFine.len
    have h2 := glueN_len (rings (us.map sh)).length (rings (us.map sh))
    rw [web_len]
    unfold gluedOf glue
    omega
  have fl := find_len W.ok
  refine c_web_of hR4 alus (fun u hu => by have := short u hu; omega) (by omega) L.webFine fun H5 lw ws e5 nw hw pw => ?_
  have e15 := e14.trans e5
  walk_at "gw"
  refine c_cell 10 (L2.Same.refl _) (e15.seq hS1) fun H6 e6 => ?_
  walk_at "gw"
  refine c_cell 11 (L2.Same.refl _) ((e15.trans e6).seq hS1) fun H7 e7 => ?_
  obtain ⟨k, ek, hk⟩ : ∃ k : Nat, ns.getD 11 0 % 16 = ((k : Nat) : Int) ∧ k < 16 := mod_nat (by decide)
  have e57 := e6.trans e7
  have pE : ∀ H', Ex H5 H' → Paired (fun t x => T3R K t x H') (webOf us) ws := fun H' e => paired_impH pw fun t x r => r.mono (Ex.tu e)
  walk_at "gw"
  rw [ek]
  refine ⟨(.ref lw, webOf us, ns.getD 10 0, k), rfl, ⟨lw, ws, rfl, sqL_of (e57 _ _ hw), pE _ e57⟩, l3, sm, by show k ≤ 100; omega, ?_⟩
  rintro _ H8 e8 ⟨u, rfl, hu, wu, lu⟩
  have wu : Walk (webOf us) 0 u 0 := wu
  have lu : u.length + 1 ≤ k + (waysK (webOf us)).length := lu
  have wl := waysK_le W.ok
  have e58 := e57.trans e8
  have e18 := e15.trans e58
  have hR8 := (e5.trans e58) _ _ hR4
  have hH8 := (e5.trans e58) _ _ hH4
  have ledu : ledT (webOf us) (sh u) = some 0 := (ledT_walk sm W.ok.fold (sh_AL hu)).mpr (wu.short W.ok.fold hu)
  walk_at "gw"
  refine c_made L (sqL_of hH8) hu (by omega) (by omega) (fun _ H9 m9 ns9 e9 no9 hm9 in9 len9 sh9 nl9 => ?_) (fun z => absurd ledu z)
  walk_at "gw"
  have mk : ∀ (H' : Hp) (m : Addr) (ms : List Int) (v : List Nat) (Q' : VK), H' m = some (.lst (ms.map V.int)) → SqL K H' lr (us.map fun u => V.str (tx u)) → InU us.length ms → (evN us ms).length ≤ 16777216 → AL v → v.length ≤ 16777216 → sh (evN us ms) = sh v → (∀ H'', Ex H' H'' → Q' (.bl true) H'') → sp__law_is_making K [.ref m, .ref lr, .str (tx v)] H' Q' E0 := fun H' m ms v Q' h1 h2 h3 h4 h5 h6 h7 q' =>
    ⟨((m, ms), (lr, us), v), rfl, h1, h2, fun u hu => ⟨alus u hu, by have := short u hu; omega⟩, by show us.length ≤ 1000; omega, h3, h4, h5, h6, h7, fun _ H'' e z => by subst z; exact q' H'' e⟩
  refine mk _ _ _ _ _ hm9 (sqL_of (e9 _ _ hR8)) in9 len9 hu (by omega) sh9 fun H10 e10 => ?_
  have hm10 := e10 _ _ hm9
  walk_at "gw"
  refine w_app hm10 (by rw [List.length_map]; omega) fun H11 c11 => ?_
  have e8b : Ex H8 H11 := c11.ex (e9.trans e10) no9
  have hR11 := e8b _ _ hR8
  have hH11 := e8b _ _ hH8
  walk_at "gw"
  refine c_made L (sqL_of hH11) hu (by omega) (by omega) (fun _ H12 m12 ns12 e12 no12 hm12 in12 len12 sh12 nl12 => ?_) (fun z => absurd ledu z)
  walk_at "gw"
  refine mk _ _ _ _ _ hm12 (sqL_of (e12 _ _ hR11)) in12 len12 hu (by omega) sh12 fun H13 e13' => ?_
  walk_at "gw"
  have e11 := e12.trans e13'
  have led0 : ledT (webOf us) (sh []) = some 0 := (ledT_walk sm W.ok.fold AL.nil).mpr rfl
  refine c_made (u := []) L (sqL_of (e11 _ _ hH11)) AL.nil (Nat.zero_le _) (by show 0 + 1 ≤ _; omega) (fun _ H14 m14 ns14 e14' no14 hm14 in14 len14 sh14 nl14 => ?_) (fun z => absurd led0 z)
  walk_at "gw"
  refine mk _ _ _ [] _ hm14 (sqL_of ((e11.trans e14') _ _ hR11)) in14 len14 AL.nil (Nat.zero_le _) sh14 fun H15 e15' => ?_
  have e8c := ((e8b.trans e11).trans e14').trans e15'
  have e1c := e18.trans e8c
  walk_at "gw"
  refine c_cell 12 (L2.Same.refl _) (e1c.seq hS1) fun H16 e16 => ?_
  walk_at "gw"
  refine c_cell 13 (L2.Same.refl _) ((e1c.trans e16).seq hS1) fun H17 e17 => ?_
  obtain ⟨k2, ek2, hk2⟩ : ∃ k : Nat, ns.getD 13 0 % 8 = ((k : Nat) : Int) ∧ k < 8 := mod_nat (by decide)
  walk_at "gw"
  rw [ek2]
  refine c_word k2 (L2.Same.refl _) (((e1c.trans e16).trans e17).seq (sqL_of hl)) lets (by omega) fun H18 v e18' hlv hov => ?_
  have hv := hov.al
  have e8d := ((e8c.trans e16).trans e17).trans e18'
  have hR18 := e8d _ _ hR8
  have hH18 := e8d _ _ hH8
  have fpos : 1 ≤ (foundRooms (webOf us)).length := by
    have h := List.length_pos_of_mem (zero_found (webOf us))
    rw [keysF, List.length_map] at h
    exact h
  walk_at "gw"
  have e5d := e58.trans e8d
  have fin : ∀ H', Ex H18 H' → ∀ Q' : VK, Q' (.bl true) H' → rEqD K (.ref lh) (.ref lr) H' Q' := fun H' e' Q' q' => w_eqW (sqL_of (e' _ _ hH18)) (sqL_of (e' _ _ hR18)) alus alus (by rw [decide_eq_true rfl]; exact q')
  by_cases led : ledT (webOf us) (sh v) = some 0
  · refine c_made L (sqL_of hH18) hv (by omega) (by omega) (fun _ H19 m19 ns19 e19 no19 hm19 in19 len19 sh19 nl19 => ?_) (fun z => absurd led z)
    walk_at "gw"
    refine c_reads ((e5d.trans e19) _ _ hw) (pE _ (e5d.trans e19)) sm W.isT l3 hv (by omega) fun H20 e20 => ?_
    rw [decide_eq_true led]
    walk_at "gw"
    refine mk _ _ _ _ _ (e20 _ _ hm19) (sqL_of ((e19.trans e20) _ _ hR18)) in19 len19 hv (by omega) sh19 fun H21 e21 => ?_
    walk_at "gw"
    refine fin _ ((e19.trans e20).trans e21) _ ?_
    exact q _ _ (((e1.trans e18).trans e8d).trans ((e19.trans e20).trans e21)) rfl
  · refine c_made L (sqL_of hH18) hv (by omega) (by omega) (fun z => absurd z led) (fun _ H19 e19 => ?_)
    walk_at "gw"
    refine c_reads ((e5d.trans e19) _ _ hw) (pE _ (e5d.trans e19)) sm W.isT l3 hv (by omega) fun H20 e20 => ?_
    rw [decide_eq_false led]
    walk_at "gw"
    rw [show decide (V.non = V.non) = true from decide_eq_true rfl, if_pos rfl]
    walk_at "gw"
    refine fin _ (e19.trans e20) _ ?_
    walk_at "gw"
    exact q _ _ (((e1.trans e18).trans e8d).trans (e19.trans e20)) rfl
end
end Gw

/-! ### the head -/
namespace Gw
open PySem PySem.Spec PyProof.Rows L2
def d_is_word : He.DefD := ⟨("is_word", none), "is_word", "is_word", defArgs s_is_word, defBody s_is_word, defScope s_is_word, [], []⟩
def d_need_word : He.DefD := ⟨("need_word", none), "need_word", "need_word", defArgs s_need_word, defBody s_need_word, defScope s_need_word, [], []⟩
def d_back_of : He.DefD := ⟨("back_of", none), "back_of", "back_of", defArgs s_back_of, defBody s_back_of, defScope s_back_of, [], []⟩
def d_shortened : He.DefD := ⟨("shortened", none), "shortened", "shortened", defArgs s_shortened, defBody s_shortened, defScope s_shortened, [], []⟩
def d_joined : He.DefD := ⟨("joined", none), "joined", "joined", defArgs s_joined, defBody s_joined, defScope s_joined, [], []⟩
def d_behind : He.DefD := ⟨("behind", none), "behind", "behind", defArgs s_behind, defBody s_behind, defScope s_behind, [], []⟩
def d_rings_of : He.DefD := ⟨("rings_of", none), "rings_of", "rings_of", defArgs s_rings_of, defBody s_rings_of, defScope s_rings_of, [], []⟩
def d_in_order : He.DefD := ⟨("in_order", none), "in_order", "in_order", defArgs s_in_order, defBody s_in_order, defScope s_in_order, [], []⟩
def d_pair_of : He.DefD := ⟨("pair_of", none), "pair_of", "pair_of", defArgs s_pair_of, defBody s_pair_of, defScope s_pair_of, [], []⟩
def d_moved : He.DefD := ⟨("moved", none), "moved", "moved", defArgs s_moved, defBody s_moved, defScope s_moved, [], []⟩
def d_glued : He.DefD := ⟨("glued", none), "glued", "glued", defArgs s_glued, defBody s_glued, defScope s_glued, [], []⟩
def d_steps_of : He.DefD := ⟨("steps_of", none), "steps_of", "steps_of", defArgs s_steps_of, defBody s_steps_of, defScope s_steps_of, [], []⟩
def d_found_rooms : He.DefD := ⟨("found_rooms", none), "found_rooms", "found_rooms", defArgs s_found_rooms, defBody s_found_rooms, defScope s_found_rooms, [], []⟩
def d_numbered : He.DefD := ⟨("numbered", none), "numbered", "numbered", defArgs s_numbered, defBody s_numbered, defScope s_numbered, [], []⟩
def d_is_number : He.DefD := ⟨("is_number", none), "is_number", "is_number", defArgs s_is_number, defBody s_is_number, defScope s_is_number, [], []⟩
def d_is_tie : He.DefD := ⟨("is_tie", none), "is_tie", "is_tie", defArgs s_is_tie, defBody s_is_tie, defScope s_is_tie, [], []⟩
def d_ends_at : He.DefD := ⟨("ends_at", none), "ends_at", "ends_at", defArgs s_ends_at, defBody s_ends_at, defScope s_ends_at, [], []⟩
def d_is_web : He.DefD := ⟨("is_web", none), "is_web", "is_web", defArgs s_is_web, defBody s_is_web, defScope s_is_web, [], []⟩
def d_need_web : He.DefD := ⟨("need_web", none), "need_web", "need_web", defArgs s_need_web, defBody s_need_web, defScope s_need_web, [], []⟩
def d_glued_of : He.DefD := ⟨("glued_of", none), "glued_of", "glued_of", defArgs s_glued_of, defBody s_glued_of, defScope s_glued_of, [], []⟩
def d_web_of : He.DefD := ⟨("web_of", none), "web_of", "web_of", defArgs s_web_of, defBody s_web_of, defScope s_web_of, [], []⟩
def d_led : He.DefD := ⟨("led", none), "led", "led", defArgs s_led, defBody s_led, defScope s_led, [], []⟩
def d_reads : He.DefD := ⟨("reads", none), "reads", "reads", defArgs s_reads, defBody s_reads, defScope s_reads, [], []⟩
def d_numbers_by : He.DefD := ⟨("numbers_by", none), "numbers_by", "numbers_by", defArgs s_numbers_by, defBody s_numbers_by, defScope s_numbers_by, [], []⟩
def d_made_by : He.DefD := ⟨("made_by", none), "made_by", "made_by", defArgs s_made_by, defBody s_made_by, defScope s_made_by, [], []⟩
def d__law_whole : He.DefD := ⟨("_law_whole", none), "_law_whole", "_law_whole", defArgs s__law_whole, defBody s__law_whole, defScope s__law_whole, [], []⟩
def d__law_cell : He.DefD := ⟨("_law_cell", none), "_law_cell", "_law_cell", defArgs s__law_cell, defBody s__law_cell, defScope s__law_cell, [], []⟩
def d__law_mixed : He.DefD := ⟨("_law_mixed", none), "_law_mixed", "_law_mixed", defArgs s__law_mixed, defBody s__law_mixed, defScope s__law_mixed, [], []⟩
def d__law_letters : He.DefD := ⟨("_law_letters", none), "_law_letters", "_law_letters", defArgs s__law_letters, defBody s__law_letters, defScope s__law_letters, [], []⟩
def d__law_back : He.DefD := ⟨("_law_back", none), "_law_back", "_law_back", defArgs s__law_back, defBody s__law_back, defScope s__law_back, [], []⟩
def d__law_word : He.DefD := ⟨("_law_word", none), "_law_word", "_law_word", defArgs s__law_word, defBody s__law_word, defScope s__law_word, [], []⟩
def d__law_short : He.DefD := ⟨("_law_short", none), "_law_short", "_law_short", defArgs s__law_short, defBody s__law_short, defScope s__law_short, [], []⟩
def d__law_turned : He.DefD := ⟨("_law_turned", none), "_law_turned", "_law_turned", defArgs s__law_turned, defBody s__law_turned, defScope s__law_turned, [], []⟩
def d__law_row : He.DefD := ⟨("_law_row", none), "_law_row", "_law_row", defArgs s__law_row, defBody s__law_row, defScope s__law_row, [], []⟩
def d__law_product : He.DefD := ⟨("_law_product", none), "_law_product", "_law_product", defArgs s__law_product, defBody s__law_product, defScope s__law_product, [], []⟩
def d__law_numbers : He.DefD := ⟨("_law_numbers", none), "_law_numbers", "_law_numbers", defArgs s__law_numbers, defBody s__law_numbers, defScope s__law_numbers, [], []⟩
def d__law_steps : He.DefD := ⟨("_law_steps", none), "_law_steps", "_law_steps", defArgs s__law_steps, defBody s__law_steps, defScope s__law_steps, [], []⟩
def d__law_ways : He.DefD := ⟨("_law_ways", none), "_law_ways", "_law_ways", defArgs s__law_ways, defBody s__law_ways, defScope s__law_ways, [], []⟩
def d__law_round : He.DefD := ⟨("_law_round", none), "_law_round", "_law_round", defArgs s__law_round, defBody s__law_round, defScope s__law_round, [], []⟩
def d__law_is_making : He.DefD := ⟨("_law_is_making", none), "_law_is_making", "_law_is_making", defArgs s__law_is_making, defBody s__law_is_making, defScope s__law_is_making, [], []⟩
def d__law_refused : He.DefD := ⟨("_law_refused", none), "_law_refused", "_law_refused", defArgs s__law_refused, defBody s__law_refused, defScope s__law_refused, [], []⟩
def d_law : He.DefD := ⟨("law", none), "law", "law", defArgs s_law, defBody s_law, defScope s_law, [], []⟩
def hfn0 : List He.DefD := [d_is_word, d_need_word, d_back_of, d_shortened, d_joined, d_behind, d_rings_of, d_in_order, d_pair_of, d_moved, d_glued, d_steps_of, d_found_rooms, d_numbered, d_is_number, d_is_tie, d_ends_at, d_is_web, d_need_web, d_glued_of, d_web_of, d_led, d_reads, d_numbers_by, d_made_by, d__law_whole, d__law_cell, d__law_mixed, d__law_letters, d__law_back]
def hfn1 : List He.DefD := [d__law_word, d__law_short, d__law_turned, d__law_row, d__law_product, d__law_numbers, d__law_steps, d__law_ways, d__law_round, d__law_is_making, d__law_refused, d_law]
def hfn : List He.DefD := hfn0 ++ hfn1
def hfa0 : List He.Fa := [.glo "is_word", .glo "need_word", .glo "back_of", .glo "shortened", .glo "joined", .glo "behind", .glo "rings_of", .glo "in_order", .glo "pair_of", .glo "moved", .glo "glued", .glo "steps_of", .glo "found_rooms", .glo "numbered", .glo "is_number", .glo "is_tie", .glo "ends_at", .glo "is_web", .glo "need_web", .glo "glued_of", .glo "web_of", .glo "led", .glo "reads", .glo "numbers_by", .glo "made_by", .glo "_law_whole", .glo "_law_cell", .glo "_law_mixed", .glo "_law_letters", .glo "_law_back"]
def hfa1 : List He.Fa := [.glo "_law_word", .glo "_law_short", .glo "_law_turned", .glo "_law_row", .glo "_law_product", .glo "_law_numbers", .glo "_law_steps", .glo "_law_ways", .glo "_law_round", .glo "_law_is_making", .glo "_law_refused", .glo "law", .glo "GlueError", .glo "BadWord", .glo "BadWeb", .str "SMALL" "abcdefghijklmnopqrstuvwxyz", .str "GREAT" "ABCDEFGHIJKLMNOPQRSTUVWXYZ", .free "ValueError", .free "abs", .free "all", .free "bool", .free "enumerate", .free "int", .free "isinstance", .free "len", .free "list", .free "range", .free "reversed", .free "set", .free "sorted"]
def hfa2 : List He.Fa := [.free "str", .free "tuple", .exc "GlueError", .exc "BadWord", .exc "BadWeb"]
def hfa : List He.Fa := hfa0 ++ hfa1 ++ hfa2
abbrev hR : PySem.W.OpenRow := PySem.W.OpenLaw.row PySem.Challenge.rw_gluewords_k05_whole_read_is_made
abbrev hHk : PySem.W.Hook := hookW 5 hfa hfn
def hOb (s : PySem.W.SharedT) : AlW := obsW 5 hfa hfn (HandSHeadRun.getT s)
theorem hOb_eq (s : PySem.W.SharedT) : hOb s = hHk.obs s.abs := obsW_eq (HandSHeadRun.getT_eq s)
def hNm0 : List Str := ["GlueError", "BadWord", "BadWeb", "SMALL", "GREAT", "is_word", "need_word", "back_of", "shortened", "joined", "behind", "rings_of", "in_order", "pair_of", "moved", "glued", "steps_of", "found_rooms", "numbered", "is_number", "is_tie", "ends_at", "is_web", "need_web", "glued_of", "web_of", "led", "reads", "numbers_by", "made_by"]
def hNm1 : List Str := ["_law_whole", "_law_cell", "_law_mixed", "_law_letters", "_law_back", "_law_word", "_law_short", "_law_turned", "_law_row", "_law_product", "_law_numbers", "_law_steps", "_law_ways", "_law_round", "_law_is_making", "_law_refused"]
def hNm : List Str := hNm0 ++ hNm1
theorem hRun (w : World) : HandSHeadRun.RunEq hR (PySem.W.view hR.prog [52]) hHk hOb 4000 hNm w := by
  intro os
  kernel_rfl
theorem hTx {K : PySem.W.Frag} {h : Heap} {mg : Str → Option Value} (X : K.In h) (G : h.Ns mainGlobals mg) (ce : clB K = true) (c : He.SaysD hfa hfn K) : Tx K mg where
  f_is_word := ⟨c.def_ 0 (d := d_is_word) rfl, He.glo_ok X G (c.fact 0 (f := .glo "is_word") rfl)⟩
  f_need_word := ⟨c.def_ 1 (d := d_need_word) rfl, He.glo_ok X G (c.fact 1 (f := .glo "need_word") rfl)⟩
  f_back_of := ⟨c.def_ 2 (d := d_back_of) rfl, He.glo_ok X G (c.fact 2 (f := .glo "back_of") rfl)⟩
  f_shortened := ⟨c.def_ 3 (d := d_shortened) rfl, He.glo_ok X G (c.fact 3 (f := .glo "shortened") rfl)⟩
  f_joined := ⟨c.def_ 4 (d := d_joined) rfl, He.glo_ok X G (c.fact 4 (f := .glo "joined") rfl)⟩
  f_behind := ⟨c.def_ 5 (d := d_behind) rfl, He.glo_ok X G (c.fact 5 (f := .glo "behind") rfl)⟩
  f_rings_of := ⟨c.def_ 6 (d := d_rings_of) rfl, He.glo_ok X G (c.fact 6 (f := .glo "rings_of") rfl)⟩
  f_in_order := ⟨c.def_ 7 (d := d_in_order) rfl, He.glo_ok X G (c.fact 7 (f := .glo "in_order") rfl)⟩
  f_pair_of := ⟨c.def_ 8 (d := d_pair_of) rfl, He.glo_ok X G (c.fact 8 (f := .glo "pair_of") rfl)⟩
  f_moved := ⟨c.def_ 9 (d := d_moved) rfl, He.glo_ok X G (c.fact 9 (f := .glo "moved") rfl)⟩
  f_glued := ⟨c.def_ 10 (d := d_glued) rfl, He.glo_ok X G (c.fact 10 (f := .glo "glued") rfl)⟩
  f_steps_of := ⟨c.def_ 11 (d := d_steps_of) rfl, He.glo_ok X G (c.fact 11 (f := .glo "steps_of") rfl)⟩
  f_found_rooms := ⟨c.def_ 12 (d := d_found_rooms) rfl, He.glo_ok X G (c.fact 12 (f := .glo "found_rooms") rfl)⟩
  f_numbered := ⟨c.def_ 13 (d := d_numbered) rfl, He.glo_ok X G (c.fact 13 (f := .glo "numbered") rfl)⟩
  f_is_number := ⟨c.def_ 14 (d := d_is_number) rfl, He.glo_ok X G (c.fact 14 (f := .glo "is_number") rfl)⟩
  f_is_tie := ⟨c.def_ 15 (d := d_is_tie) rfl, He.glo_ok X G (c.fact 15 (f := .glo "is_tie") rfl)⟩
  f_ends_at := ⟨c.def_ 16 (d := d_ends_at) rfl, He.glo_ok X G (c.fact 16 (f := .glo "ends_at") rfl)⟩
  f_is_web := ⟨c.def_ 17 (d := d_is_web) rfl, He.glo_ok X G (c.fact 17 (f := .glo "is_web") rfl)⟩
  f_need_web := ⟨c.def_ 18 (d := d_need_web) rfl, He.glo_ok X G (c.fact 18 (f := .glo "need_web") rfl)⟩
  f_glued_of := ⟨c.def_ 19 (d := d_glued_of) rfl, He.glo_ok X G (c.fact 19 (f := .glo "glued_of") rfl)⟩
  f_web_of := ⟨c.def_ 20 (d := d_web_of) rfl, He.glo_ok X G (c.fact 20 (f := .glo "web_of") rfl)⟩
  f_led := ⟨c.def_ 21 (d := d_led) rfl, He.glo_ok X G (c.fact 21 (f := .glo "led") rfl)⟩
  f_reads := ⟨c.def_ 22 (d := d_reads) rfl, He.glo_ok X G (c.fact 22 (f := .glo "reads") rfl)⟩
  f_numbers_by := ⟨c.def_ 23 (d := d_numbers_by) rfl, He.glo_ok X G (c.fact 23 (f := .glo "numbers_by") rfl)⟩
  f_made_by := ⟨c.def_ 24 (d := d_made_by) rfl, He.glo_ok X G (c.fact 24 (f := .glo "made_by") rfl)⟩
  f__law_whole := ⟨c.def_ 25 (d := d__law_whole) rfl, He.glo_ok X G (c.fact 25 (f := .glo "_law_whole") rfl)⟩
  f__law_cell := ⟨c.def_ 26 (d := d__law_cell) rfl, He.glo_ok X G (c.fact 26 (f := .glo "_law_cell") rfl)⟩
  f__law_mixed := ⟨c.def_ 27 (d := d__law_mixed) rfl, He.glo_ok X G (c.fact 27 (f := .glo "_law_mixed") rfl)⟩
  f__law_letters := ⟨c.def_ 28 (d := d__law_letters) rfl, He.glo_ok X G (c.fact 28 (f := .glo "_law_letters") rfl)⟩
  f__law_back := ⟨c.def_ 29 (d := d__law_back) rfl, He.glo_ok X G (c.fact 29 (f := .glo "_law_back") rfl)⟩
  f__law_word := ⟨c.def_ 30 (d := d__law_word) rfl, He.glo_ok X G (c.fact 30 (f := .glo "_law_word") rfl)⟩
  f__law_short := ⟨c.def_ 31 (d := d__law_short) rfl, He.glo_ok X G (c.fact 31 (f := .glo "_law_short") rfl)⟩
  f__law_turned := ⟨c.def_ 32 (d := d__law_turned) rfl, He.glo_ok X G (c.fact 32 (f := .glo "_law_turned") rfl)⟩
  f__law_row := ⟨c.def_ 33 (d := d__law_row) rfl, He.glo_ok X G (c.fact 33 (f := .glo "_law_row") rfl)⟩
  f__law_product := ⟨c.def_ 34 (d := d__law_product) rfl, He.glo_ok X G (c.fact 34 (f := .glo "_law_product") rfl)⟩
  f__law_numbers := ⟨c.def_ 35 (d := d__law_numbers) rfl, He.glo_ok X G (c.fact 35 (f := .glo "_law_numbers") rfl)⟩
  f__law_steps := ⟨c.def_ 36 (d := d__law_steps) rfl, He.glo_ok X G (c.fact 36 (f := .glo "_law_steps") rfl)⟩
  f__law_ways := ⟨c.def_ 37 (d := d__law_ways) rfl, He.glo_ok X G (c.fact 37 (f := .glo "_law_ways") rfl)⟩
  f__law_round := ⟨c.def_ 38 (d := d__law_round) rfl, He.glo_ok X G (c.fact 38 (f := .glo "_law_round") rfl)⟩
  f__law_is_making := ⟨c.def_ 39 (d := d__law_is_making) rfl, He.glo_ok X G (c.fact 39 (f := .glo "_law_is_making") rfl)⟩
  f__law_refused := ⟨c.def_ 40 (d := d__law_refused) rfl, He.glo_ok X G (c.fact 40 (f := .glo "_law_refused") rfl)⟩
  f_law := ⟨c.def_ 41 (d := d_law) rfl, He.glo_ok X G (c.fact 41 (f := .glo "law") rfl)⟩
  g_GlueError := He.glo_ok X G (c.fact 42 (f := .glo "GlueError") rfl)
  x_GlueError := He.exc_ok (c.fact 62 (f := .exc "GlueError") rfl)
  g_BadWord := He.glo_ok X G (c.fact 43 (f := .glo "BadWord") rfl)
  x_BadWord := He.exc_ok (c.fact 63 (f := .exc "BadWord") rfl)
  g_BadWeb := He.glo_ok X G (c.fact 44 (f := .glo "BadWeb") rfl)
  x_BadWeb := He.exc_ok (c.fact 64 (f := .exc "BadWeb") rfl)
  v_SMALL := He.str_ok X G (c.fact 45 (f := .str "SMALL" "abcdefghijklmnopqrstuvwxyz") rfl)
  v_GREAT := He.str_ok X G (c.fact 46 (f := .str "GREAT" "ABCDEFGHIJKLMNOPQRSTUVWXYZ") rfl)
  n_ValueError := He.free_ok X G (c.fact 47 (f := .free "ValueError") rfl)
  n_abs := He.free_ok X G (c.fact 48 (f := .free "abs") rfl)
  n_all := He.free_ok X G (c.fact 49 (f := .free "all") rfl)
  n_bool := He.free_ok X G (c.fact 50 (f := .free "bool") rfl)
  n_enumerate := He.free_ok X G (c.fact 51 (f := .free "enumerate") rfl)
  n_int := He.free_ok X G (c.fact 52 (f := .free "int") rfl)
  n_isinstance := He.free_ok X G (c.fact 53 (f := .free "isinstance") rfl)
  n_len := He.free_ok X G (c.fact 54 (f := .free "len") rfl)
  n_list := He.free_ok X G (c.fact 55 (f := .free "list") rfl)
  n_range := He.free_ok X G (c.fact 56 (f := .free "range") rfl)
  n_reversed := He.free_ok X G (c.fact 57 (f := .free "reversed") rfl)
  n_set := He.free_ok X G (c.fact 58 (f := .free "set") rfl)
  n_sorted := He.free_ok X G (c.fact 59 (f := .free "sorted") rfl)
  n_str := He.free_ok X G (c.fact 60 (f := .free "str") rfl)
  n_tuple := He.free_ok X G (c.fact 61 (f := .free "tuple") rfl)
  ec := clB_ok ce
end Gw
open PySem PySem.W PySem.Calls PyProof.Rows
theorem PySem.Challenge.cw_gluewords_k05_whole_read_is_made_holds : PySem.Challenge.rw_gluewords_k05_whole_read_is_made.Holds := by
  w_on; o_law
  refine HandSHeadRun.head_any (r := OpenLaw.row PySem.Challenge.rw_gluewords_k05_whole_read_is_made) (q := view (OpenLaw.row PySem.Challenge.rw_gluewords_k05_whole_read_is_made).prog [52]) (H := Gw.hHk) (ob := Gw.hOb) (M := 4000) (loose := Gw.hNm) (d := HandSHeadRun.topDef (OpenLaw.row PySem.Challenge.rw_gluewords_k05_whole_read_is_made).prog 52) (kwd := []) Gw.hOb_eq
    (by kernel_rfl) (fun s => by kernel_rfl) Gw.hRun (by kernel_rfl) (by kernel_rfl) (by kernel_rfl) (by rfl) (by first | assumption | decide +kernel) (by decide +kernel) ⟨rfl, rfl, rfl, rfl, rfl, by decide +kernel⟩ ?hw ?hc
  case hw => w_witness2
  case hc =>
    refine L2.walk_ofE (l := PySem.Challenge.rw_gluewords_k05_whole_read_is_made) (n := 63) (k := Gw.lawDepth) (x := "_law_script") (CX := L2.CX0) rfl (by decide) (by kernel_rfl) ⟨rfl, by decide, by decide⟩ ?F (fun _ _ _ _ z => z)
    intro w mg fa h Y G hmg0
    obtain ⟨K, KX, ce, c⟩ := Y
    have hmg : mg ("law" : PySem.Str) = some (.ref fa) := by
      have e : (HandSHeadRun.topDef (OpenLaw.row PySem.Challenge.rw_gluewords_k05_whole_read_is_made).prog 52).name = ("law" : PySem.Str) := by kernel_rfl
      rw [← e]
      exact hmg0
    have T := Gw.hTx KX G ce c
    obtain ⟨⟨fd, F⟩, gl⟩ := T.f_law
    have e := hmg.symm.trans gl
    cases e
    have b := L2.FunD.bindsA (ps := ["_law_script"]) F fun _ _ _ _ _ _ us hl => match us, hl with | [_], _ => rfl
    exact ⟨K, fd, fun vs H Q E => Gw.sp_law K vs H Q L2.E0, KX, fun s v => b s [v] rfl, fun H a ns hl _ hS => ⟨(a, ns), rfl, hS, hl, fun v _ _ e => e⟩, fun base _ _ => Gw.to0 (Gw.law_fn (P := (PySem.Challenge.rw_gluewords_k05_whole_read_is_made).prog) (w := w) T F)⟩

