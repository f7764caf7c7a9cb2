import PyProof.Rows.All
import Wide.All
import OpenK.AllK
import Wide.FinOn
import KE.KStateDown
import Lean
import HandS.ForMost
import HandS.ForExc
import HandS.Conv
import HandS.Rev
import HandS.RevTup
import HandS.Style
import HandS.Flow
import HandS.Replace
import HandS.ReplaceList
import HandS.IsInst
import HandS.ExcIs
import HandS.TryMany
import HandS.Defaults
import HandS.DictTup
import HandS.SetKeys
import HandS.Zip
import HandS.Head0
import HandS.Head1
import HandS.Head2
import HandS.HeadEnd
import HandS.HeadHook1
import HandS.HeadHook2
import KE.KDictKeyed
import KE.KDictLaw
import KE.SortData
import KE.KSortTupG
import KE.GoesEnum
import KE.GoesMore
import PySem.Challenge.RW_gluewords_k01_short_words
set_option Elab.async false
set_option linter.all false
set_option maxRecDepth 100000
set_option maxHeartbeats 4000000
/-! W0: the base of the walks: defs by name, readings in short, heaps that grow. -/
namespace Gw
open PySem PySem.Spec PyProof.Rows L2

/-! ### defs by name -/
/-- a def of the top, by its name -/
def FnT (K : PySem.W.Frag) (mg : Str → Option Value) (x : Str) (st : Stmt) : Prop :=
  (∃ fd, FunD K x x (defArgs st) (defBody st) (defScope st) [] [] (He.ga K x) fd) ∧ mg x = some (.ref (He.ga K x))
/-- the def called x keeps sp, by k levels at most -/
structure Ok (P : Program) (w : World) (K : PySem.W.Frag) (mg : Str → Option Value) (base : Heap) (k : Nat) (x : Str) (ps : List Str) (sp : Sp) : Prop where
  ex : ∃ fd, FnOk P w K mg base (L2.CX P w) k (He.ga K x) fd ps sp ∧ Binds K fd ps []
  kp : PySem.W.keepIn K (.ref (He.ga K x)) = true
  gl : mg x = some (.ref (He.ga K x))
section
variable {P : Program} {w : World} {K : PySem.W.Frag} {mg : Str → Option Value} {base : Heap} {x : Str} {st : Stmt} {N ps : List Str} {k : Nat} {sp : Sp}
theorem Ok.lift {j : Nat} (G : Ok P w K mg base j x ps sp) (h : j ≤ k) : Ok P w K mg base k x ps sp := by
  obtain ⟨⟨fd, F, b⟩, kp, gl⟩ := G
  exact ⟨⟨fd, F.mono h, b⟩, kp, gl⟩
theorem Ok.weak {sp' : Sp} (G : Ok P w K mg base k x ps sp) (h : ∀ vs H Q E, sp' vs H Q E → sp vs H Q E) : Ok P w K mg base k x ps sp' := by
  obtain ⟨⟨fd, F, b⟩, kp, gl⟩ := G
  exact ⟨⟨fd, F.imp h, b⟩, kp, gl⟩
/-- how the written parameters are bound -/
abbrev BindsT (x : Str) (st : Stmt) (ps : List Str) : Prop := ∀ (kV doc pm : Value) (an : Option Addr) (cdv ct : Value) (us : List Value), us.length = ps.length →
  bindArgs (PySem.W.fnOf x x (defArgs st) (defBody st) (defScope st) .none kV doc pm an cdv ct) ⟨us, []⟩ = pure (ps.zip us)
/-- a def that lets nothing out -/
theorem Ok.of (T : FnT K mg x st) (S : FnScope N ps (defScope st)) (b : BindsT x st ps) (len : ∀ vs H Q E, sp vs H Q E → vs.length = ps.length)
    (hbody : ∀ (cdv : Value) (A : Around) (outer : List Env) (s : Shared) (H : Hp) (vs : List V) (Q : VK) (E : XK), Room k (A.deeper (envOfC x (defScope st) s.heap.objs.size (He.ga K x) cdv)) → sp vs H Q E →
      ∃ t, PSs (cxOf (L2.CX P w) P w K mg base N x (defScope st) (He.ga K x) cdv A outer s H E).nox (defBody st) t ∧ t { nx := fun _ H' => Q .non H', rt := Q } (start N vs) H) : Ok P w K mg base (k + 1) x ps sp := by
  obtain ⟨⟨fd, F⟩, g⟩ := T
  refine ⟨⟨fd, F.ok S len fun cdv A outer s H vs Q E hr h => ?_, F.bindsN b⟩, F.kp, g⟩
  obtain ⟨t, h1, h2⟩ := hbody cdv A outer s H vs Q E hr h
  exact ⟨t, h1.nox, h2⟩
/-- a def that may raise -/
theorem Ok.ofX (T : FnT K mg x st) (S : FnScope N ps (defScope st)) (b : BindsT x st ps) (len : ∀ vs H Q E, sp vs H Q E → vs.length = ps.length)
    (hbody : ∀ (cdv : Value) (A : Around) (outer : List Env) (s : Shared) (H : Hp) (vs : List V) (Q : VK) (E : XK), Room k (A.deeper (envOfC x (defScope st) s.heap.objs.size (He.ga K x) cdv)) → sp vs H Q E →
      ∃ t, PSs (cxOf (L2.CX P w) P w K mg base N x (defScope st) (He.ga K x) cdv A outer s H E) (defBody st) t ∧ t { nx := fun _ H' => Q .non H', rt := Q } (start N vs) H) : Ok P w K mg base (k + 1) x ps sp := by
  obtain ⟨⟨fd, F⟩, g⟩ := T
  exact ⟨⟨fd, F.ok S len hbody, F.bindsN b⟩, F.kp, g⟩
end
section
variable {X : Cx} {x : Str} {ps : List Str} {sp : Sp} {k : Nat} {e : Expr} {es : List Expr} {t : TA} {p pos : Pos}
/-- a call that lets nothing out -/
theorem pe_g (G : Ok X.prog X.w X.K X.mg X.base k x ps sp) (hr : Room k X.A) (hg : Gl X x) (ha : PA X (e :: es) t) (hdb : (x == ("__debug__" : Str)) = false := by decide)
    (he : starEach (e :: es) X.env = (false, eval e X.env) :: starEach es X.env := by rfl) (hpl : (backTo pos (starEach es X.env)).any (·.1) = false := by rfl) : PE X (.Call (.Name x p) (e :: es) [] pos) (tCall sp [] E0 t) := by
  obtain ⟨⟨fd, F, b⟩, kp, gl⟩ := G
  exact pe_call F hr hg gl kp b .nil passL ha hdb he hpl
/-- a call whose exceptions leave this def too -/
theorem pe_gx {E : XK} (G : Ok X.prog X.w X.K X.mg X.base k x ps sp) (hr : Room k X.A) (hg : Gl X x) (tk : Takes X (fun cls d _ H => E cls d H)) (ha : PA X (e :: es) t) (hdb : (x == ("__debug__" : Str)) = false := by decide)
    (he : starEach (e :: es) X.env = (false, eval e X.env) :: starEach es X.env := by rfl) (hpl : (backTo pos (starEach es X.env)).any (·.1) = false := by rfl) : PE X (.Call (.Name x p) (e :: es) [] pos) (tCall sp [] E t) := by
  obtain ⟨⟨fd, F, b⟩, kp, gl⟩ := G
  exact pe_call F hr hg gl kp b .nil (passes_call tk fun _ _ _ _ h => h) ha hdb he hpl
/-- a call within a try -/
theorem pe_gt {W : WX} (G : Ok X.prog X.w X.K X.mg X.base k x ps sp) (hr : Room k X.A) (hg : Gl X x) (tk : Takes X W) (ha : PA X (e :: es) t) (hdb : (x == ("__debug__" : Str)) = false := by decide)
    (he : starEach (e :: es) X.env = (false, eval e X.env) :: starEach es X.env := by rfl) (hpl : (backTo pos (starEach es X.env)).any (·.1) = false := by rfl) : PE X (.Call (.Name x p) (e :: es) [] pos) (tCallS sp (WE W) t) := by
  obtain ⟨⟨fd, F, b⟩, kp, gl⟩ := G
  exact pe_callS F hr hg gl kp b (fun σ => passAt tk σ) ha hdb he hpl
end

/-! ### heaps that grow -/
abbrev Ex (H H' : Hp) : Prop := L2.Same H H'
theorem Ex.new {H : Hp} {p : Addr} {o : HO} (h : H p = none) : Ex H (upd H p o) := fun b u e => by
  rw [upd_ne (ne_of_none e h)]
  exact e
/-- the object at p may have changed -/
def But (p : Addr) (H H' : Hp) : Prop := ∀ b o, b ≠ p → H b = some o → H' b = some o
theorem But.upd {H : Hp} {p : Addr} {o : HO} : But p H (upd H p o) := fun b u h e => by
  rw [upd_ne h]
  exact e
theorem Ex.but {H0 H H' : Hp} {p : Addr} (e : Ex H0 H) (b : But p H H') (h : H0 p = none) : Ex H0 H' := fun c o q => b c o (ne_of_none q h) (e c o q)
theorem Ex.to_but {H H' : Hp} (p : Addr) (e : Ex H H') : But p H H' := fun b o _ q => e b o q
theorem But.trans {H H1 H2 : Hp} {p : Addr} (a : But p H H1) (b : But p H1 H2) : But p H H2 := fun c o n q => b c o n (a c o n q)
theorem But.ex {H H1 H2 : Hp} {p : Addr} (a : But p H H1) (b : Ex H1 H2) : But p H H2 := fun c o n q => b c o (a c o n q)
/-- tuples stay -/
def Tu (H H' : Hp) : Prop := ∀ b xs, Rd H b (.tup xs) → Rd H' b (.tup xs)
theorem Tu.refl (H : Hp) : Tu H H := fun _ _ h => h
theorem Tu.trans {H H1 H2 : Hp} (a : Tu H H1) (b : Tu H1 H2) : Tu H H2 := fun c xs h => b c xs (a c xs h)
theorem Ex.tu {H H' : Hp} (e : Ex H H') : Tu H H' := fun b xs h => by
  rcases h with h | ⟨o, h⟩
  · exact .inl (e b _ h)
  · exact .inr ⟨o, e b _ h⟩
/-- no tuple -/
def NoTup : HO → Prop
  | .tup _ => False
  | .frz _ _ => False
  | _ => True
theorem But.tu {H H' : Hp} {p : Addr} {o : HO} (b : But p H H') (h : H p = some o) (n : NoTup o) : Tu H H' := fun c xs q => by
  rcases q with q | ⟨ob, q⟩
  · exact .inl (b c _ (fun e => by
      rw [e, h] at q
      cases q
      exact n) q)
  · exact .inr ⟨ob, b c _ (fun e => by
      rw [e, h] at q
      cases q
      exact n) q⟩
theorem Tu.sq {K : PySem.W.Frag} {H H' : Hp} {a : Addr} {xs : List V} (t : Tu H H') (h : SqT K H a xs) : SqT K H' a xs := by
  rcases h with h | h
  · exact .inl (t a xs h)
  · exact .inr h
theorem Ex.sqT {K : PySem.W.Frag} {H H' : Hp} {a : Addr} {xs : List V} (e : Ex H H') (h : SqT K H a xs) : SqT K H' a xs := e.tu.sq h
theorem Ex.sqL {K : PySem.W.Frag} {H H' : Hp} {a : Addr} {xs : List V} (e : Ex H H') (h : SqL K H a xs) : SqL K H' a xs := e.seq h
theorem sqL_of {K : PySem.W.Frag} {H : Hp} {a : Addr} {xs : List V} (h : H a = some (.lst xs)) : SqL K H a xs := .inl (.inl h)
theorem sqT_of {K : PySem.W.Frag} {H : Hp} {a : Addr} {xs : List V} (h : H a = some (.tup xs)) : SqT K H a xs := .inl (.inl h)
/-- small sizes -/
theorem line_le {n : Nat} (h : n ≤ 1000000) : n ≤ sizeLine := by rw [sizeLine_eq]; omega
theorem line_lt {n : Nat} (h : n < 1000000) : n < sizeLine := by rw [sizeLine_eq]; omega

/-! ### readings -/
section
variable {K : PySem.W.Frag} {σ : L2.St} {H : Hp} {Q : VK} {D : Ends} {ta tb te : TE} {t u : TS} {tt : TT} {v x y : V} {i : Nat} {r : R2}
theorem w_var (h : σ[i]? = some (some v)) (q : Q v H) : tVar i σ H Q := ⟨v, h, q⟩
theorem w_var0 (q : ∃ v, σ[i]? = some (some v) ∧ Q v H) : tVar i σ H Q := q
theorem w_c (q : Q v H) : tC v σ H Q := q
theorem w_op (q : ta σ H fun x H1 => tb σ H1 fun y H2 => r x y H2 Q) : tOp r ta tb σ H Q := q
theorem w_un {r : V → Hp → VK → Prop} (q : ta σ H fun x H1 => r x H1 Q) : tUn r ta σ H Q := q
theorem w_rI0 {g : Int → Int → V} {a b : Int} (q : Q (g a b) H) : rI0 g (.int a) (.int b) H Q := ⟨a, b, rfl, rfl, q⟩
theorem w_rI {C : Int → Int → Prop} {g : Int → Int → V} {a b : Int} (c : C a b) (q : Q (g a b) H) : rI C g (.int a) (.int b) H Q := ⟨a, b, rfl, rfl, c, q⟩
theorem w_rU {g : Int → V} {a : Int} (q : Q (g a) H) : rU g (.int a) H Q := ⟨a, rfl, q⟩
theorem w_rEq (s : scal x y = true) (q : Q (.bl (decide (x = y))) H) : rEq x y H Q := ⟨s, q⟩
theorem w_rNe (s : scal x y = true) (q : Q (.bl (!decide (x = y))) H) : rNe x y H Q := ⟨s, q⟩
theorem w_test {Q : Bool → Hp → Prop} (q : te σ H fun x H' => ∃ k, x = .bl k ∧ Q k H') : tTest te σ H Q := q
theorem w_tB {Q : Bool → Hp → Prop} (q : te σ H fun x H' => ∃ k, x = .bl k ∧ Q k H') : tB te σ H Q := q
theorem w_nil {Q : List V → Hp → Prop} (q : Q [] H) : tNil σ H Q := q
theorem w_cons {tr : TA} {Q : List V → Hp → Prop} (q : te σ H fun x H1 => tr σ H1 fun xs H2 => Q (x :: xs) H2) : tCons te tr σ H Q := q
theorem w_seqA {j : Nat} (q : te σ H fun x H1 => u D (σ.set j (some x)) H1) : tSeq (tAsg te (gName j)) u D σ H := q
theorem w_seq (q : t { D with nx := u D } σ H) : tSeq t u D σ H := q
theorem w_asg {j : Nat} (q : te σ H fun x H1 => D.nx (σ.set j (some x)) H1) : tAsg te (gName j) D σ H := q
theorem w_ret (q : te σ H fun x H1 => D.rt x H1) : tRet te D σ H := q
theorem w_drop (q : te σ H fun _ H1 => D.nx σ H1) : tDrop te D σ H := q
theorem w_if (q : tt σ H fun b H1 => if b = true then t D σ H1 else u D σ H1) : tIfS tt t u D σ H := q
theorem w_next (q : D.nx σ H) : tNext D σ H := q
theorem w_and {t u : TT} {Q : Bool → Hp → Prop} (q : t σ H fun c H1 => if c = true then u σ H1 Q else Q false H1) : tAnd t u σ H Q := q
theorem w_or {t u : TT} {Q : Bool → Hp → Prop} (q : t σ H fun c H1 => if c = true then Q true H1 else u σ H1 Q) : tOr t u σ H Q := q
theorem w_not {t : TT} {Q : Bool → Hp → Prop} (q : t σ H fun c H1 => Q (!c) H1) : tNot t σ H Q := q
theorem w_andV (q : ta σ H fun x H1 => ∃ c, x = .bl c ∧ if c = true then tb σ H1 Q else Q (.bl false) H1) : tAndV ta tb σ H Q := q
theorem w_orV (q : ta σ H fun x H1 => ∃ c, x = .bl c ∧ if c = true then Q (.bl true) H1 else tb σ H1 Q) : tOrV ta tb σ H Q := q
theorem w_notV (q : ta σ H fun x H1 => ∃ c, x = .bl c ∧ Q (.bl (!c)) H1) : tNotV ta σ H Q := q
theorem w_ife (q : tt σ H fun c H1 => if c = true then ta σ H1 Q else tb σ H1 Q) : tIf tt ta tb σ H Q := q
theorem w_CB {r : List V → Hp → VK → Prop} {t : TA} (q : t σ H fun vs H1 => r vs H1 Q) : tCB r t σ H Q := q
theorem w_call {sp : Sp} {E : XK} {t : TA} (q : t σ H fun vs H1 => sp (vs ++ []) H1 Q E) : tCall sp [] E t σ H Q := q
theorem w_isN (q : te σ H fun x H1 => Q (.bl (decide (x = .non))) H1) : tIsN te σ H Q := q
theorem w_notN (q : te σ H fun x H1 => Q (.bl (!decide (x = .non))) H1) : tNotN te σ H Q := q
end
end Gw

/-! R1: reversed(a text), walked. -/
namespace Gw
open PySem PySem.Spec PyProof.Rows L2 RT

theorem norev_str : typeLookup (.type "str") "__reversed__" = pure none := by rw [typeLookup_type, builtinLookup_eq_fast]; kernel_rfl
theorem get_str : typeLookup (.type "str") "__getitem__" = pure (some (.builtin "str.__getitem__")) := by rw [typeLookup_type, builtinLookup_eq_fast]; kernel_rfl
def rsObj (z : Str) (t : Tok) (i : Int) : Obj := { cls := .type "reversed", data := .fields #[.str z t, rawInt i] }
/-- reversed(z), the next place i -/
def IsRs (h : Heap) (a : Addr) (z : Str) (t : Tok) (i : Int) : Prop := ∃ o, h.get? a = some o ∧ o.cls = .type "reversed" ∧ o.data = .fields #[.str z t, rawInt i]
theorem IsRs.at {h h' : Heap} {a : Addr} {z : Str} {t : Tok} {i : Int} (x : IsRs h a z t i) (e : ∀ o, h.get? a = some o → h'.get? a = some o) : IsRs h' a z t i := let ⟨o, ho, r⟩ := x; ⟨o, e _ ho, r⟩
section
variable {prog : Program} {w : World} {A : Around} {E : Value → Shared → Prop} {s : Shared}
theorem IsRs.typeIs {a : Addr} {z : Str} {t : Tok} {i : Int} (x : IsRs s.heap a z t i) : s.TypeIs (.ref a) "reversed" := let ⟨o, ho, hc, _⟩ := x; ⟨o, ho, hc⟩
theorem code_reversed_str {z : Str} {t : Tok} {Q₁ : Value → Shared → Prop} (hz : (z.length : Int) < 2 ^ 63)
    (h : Q₁ (.ref s.heap.objs.size) { s with heap := s.heap.push (rsObj z t ((z.length : Int) - 1)), toks := s.toks + 1 + 1 }) :
    codeAny (model prog w) A (.call (.builtin "reversed.__new__") ⟨[.type "reversed", .str z t], []⟩) (wants Q₁ E) s := by
  have hT : s.TypeIs (.str z t) "str" := typeIs_str _ _ _
  refine codeAny_of_tree ?_
  show wpAny _ A.in1 (do checkBuiltinCall "reversed.__new__" ⟨[.type "reversed", .str z t], []⟩; again (.builtin "reversed.__new__" ⟨[.type "reversed", .str z t], []⟩)) _ _ s
  refine wpAny_bind (wpAny_of_eq (F.newCall_reversed_1 _) (wpAny_pure ⟨plainId_quiet F.plain_reversed_new _, codeAny_builtin F.entry_reversed_new ?_⟩))
  rw [Around.under_plainId F.plain_reversed_new _]
  unfold Builtin.«reversed.__new__»
  refine wpAny_bind (wpAny_of_eq (newClass_reversed _) ?_)
  try dsimp only
  refine wpAny_bind (wpAny_of_eq (a := ()) (by first | rfl | kernel_rfl) ?_)
  try dsimp only
  refine wpAny_bind (wpAny_of_eq (a := ()) (by first | rfl | kernel_rfl) ?_)
  try dsimp only
  refine wpAny_bind (wpAny_specialOf hT norev_str ?_)
  try dsimp only
  refine wpAny_bind ?_
  wp_delta
  refine wpAny_bind (wpAny_isInstance (T := "str") (U := "dict") (b := false) hT PySem.F.sub_str_dict ?_)
  try dsimp only
  try rw [if_neg Bool.false_ne_true]
  try dsimp only
  refine wpAny_bind (wpAny_specialOf hT get_str ?_)
  try dsimp only
  try rw [if_pos (by decide +kernel)]
  refine wpAny_pure ?_
  try dsimp only
  try rw [if_neg (by decide)]
  try dsimp only
  refine wpAny_bind (len_str (by omega) ?_)
  refine wpAny_bind (wpAny_of_eq (a := some ((z.length : Nat) : Int)) rfl ?_)
  try dsimp only
  refine wpAny_bind ?_
  show wpAny _ _ (newObj (.type "reversed") (.fields #[.str z t, rawInt ((z.length : Int) - 1)])) _ _ _
  refine wpAny_newObj_type ?_
  exact wpAny_pure h
theorem call_reversed_str {z : Str} {t : Tok} {Q : Value → Shared → Prop} (hz : (z.length : Int) < 2 ^ 63)
    (h : Q (.ref s.heap.objs.size) { s with heap := s.heap.push (rsObj z t ((z.length : Int) - 1)), toks := s.toks + 1 + 1 }) : wpAny (model prog w) A (call (.type "reversed") [.str z t]) Q E s := by
  refine callType_codes (Q₁ := fun obj s₁ => s₁.TypeIs obj "reversed" ∧ Q obj s₁) called_rt (F.typeCall_reversed_1 _) F.entry_object_init
    (code_reversed_str (A := A.in1) hz ⟨⟨_, Heap.get?_push_size _ rfl, rfl⟩, h⟩) fun obj s₁ h₁ => ?_
  exact ⟨h₁.1, F.args_object_init_2 obj _, object_init_meets called_rt.init.lookup called_rt.made (by decide) prog w A.in1 _ s₁ ⟨h₁.1, rfl, h₁.2⟩⟩
theorem next_rs_item {it : Addr} {z : Str} {t : Tok} {i c : Nat} {Q : Option Value → Shared → Prop} (hit : IsRs s.heap it z t (i : Int)) (hx : z.cps[i]? = some c) (hsz : z.length ≤ sizeLine)
    (hQ : ∀ h' u tk, IsRs h' it z t ((i : Int) - 1) → Heap.SameBut it s.heap h' → Q (some (.str ⟨#[c]⟩ u)) { s with heap := h', toks := tk }) : wpAny (model prog w) A (pyNext (.ref it)) Q E s := by
  obtain ⟨o, ho, hc, hd⟩ := id hit
  have hi : i < z.cps.size := (Array.getElem?_eq_some_iff.mp hx).1
  have hil : i < z.length := hi
  have hT : s.TypeIs (.str z t) "str" := typeIs_str _ _ _
  rw [sizeLine_eq] at hsz
  unfold pyNext
  refine wpAny_bind (wpAny_attempt (wpAny_callSpecial?_slot (name := Str.ofString "__next__") hit.typeIs slot_rt_next
    (wpAny_call_entry slot_rt_next hit.typeIs entry_rt_next ?_ (args_rt_next _))))
  unfold Builtin.«reversed.__next__»
  refine wpAny_bind (wpAny_of_eq (a := (Value.ref it, [])) rfl ?_)
  try dsimp only
  refine wpAny_bind (wpAny_field ho hd (x := .str z t) rfl ?_)
  try dsimp only
  refine wpAny_bind (wpAny_field ho hd (x := rawInt (i : Int)) rfl ?_)
  show wpAny _ _ (if (i : Int) < 0 then _ else _) _ _ s
  rw [if_neg (by omega)]
  try dsimp only
  refine wpAny_bind (wpAny_specialOf hT get_str ?_)
  try dsimp only
  try rw [if_neg (by decide)]
  try dsimp only
  refine wpAny_bind (wpAny_mkInt ?_)
  refine wpAny_bind (wpAny_attempt ?_)
  have fin : seqIndex? (i : Int) z.length = some i := seqIndex_of (by omega) (by omega)
  refine getItem_str (s := { s with toks := s.toks + 1 }) (c := c) (by
    have e1 : decide ((i : Int) < -(2 ^ 63 : Int)) = false := decide_eq_false (by omega)
    have e2 : decide ((i : Int) ≥ 2 ^ 63) = false := decide_eq_false (by omega)
    rw [e1, e2, Bool.or_false]) (by rw [fin]; simpa using hx) ?_
  try dsimp only
  refine wpAny_bind (wpAny_field ho hd (x := rawInt (i : Int)) rfl ?_)
  try dsimp only
  refine wpAny_bind (wpAny_setField ho hd (by simp) ?_)
  first
  | refine wpAny_pure ⟨_, rfl, wpAny_pure (hQ _ _ _ ?_ (Heap.SameBut.update ..))⟩
  | refine wpAny_bind (wpAny_pure (wpAny_pure ⟨_, rfl, wpAny_pure (hQ _ _ _ ?_ (Heap.SameBut.update ..))⟩))
  exact ⟨_, Heap.get?_update_self _ ho (Obj.isFreed_of_fields (Obj.data_mapFields hd _)), (Obj.cls_mapFields ..).trans hc, by
    rw [Obj.data_mapFields hd]; simp⟩
theorem next_rs_end {it : Addr} {z : Str} {t : Tok} {Q : Option Value → Shared → Prop} (hh : A.handled = none) (hit : IsRs s.heap it z t (-1))
    (hQ : ∀ h', Heap.ExtBut it s.heap h' → Q none { s with heap := h' }) : wpAny (model prog w) A (pyNext (.ref it)) Q E s := by
  obtain ⟨o, ho, hc, hd⟩ := id hit
  unfold pyNext
  refine wpAny_bind (wpAny_attempt (wpAny_callSpecial?_slot (name := Str.ofString "__next__") hit.typeIs slot_rt_next
    (wpAny_call_entry slot_rt_next hit.typeIs entry_rt_next ?_ (args_rt_next _))))
  unfold Builtin.«reversed.__next__»
  refine wpAny_bind (wpAny_of_eq (a := (Value.ref it, [])) rfl ?_)
  try dsimp only
  refine wpAny_bind (wpAny_field ho hd (x := .str z t) rfl ?_)
  try dsimp only
  refine wpAny_bind (wpAny_field ho hd (x := rawInt (-1)) rfl ?_)
  show wpAny _ _ (if (-1 : Int) < 0 then _ else _) _ _ s
  rw [if_pos (by decide)]
  try dsimp only
  refine wpAny_bind (wpAny_rule ?_)
  refine wpAny_bind ?_
  wp_delta
  refine wpAny_bind (wpAny_setField ho hd (by simp) ?_)
  have ho2 := Heap.get?_update_self (Obj.mapFields (·.setIfInBounds 1 (rawInt (-1)))) ho (Obj.isFreed_of_fields (Obj.data_mapFields hd _))
  refine wpAny_setField (s := { s with heap := s.heap.update it (Obj.mapFields (·.setIfInBounds 1 (rawInt (-1)))) }) ho2 (Obj.data_mapFields hd _) (by simp) ?_
  try dsimp only
  first
  | show wpAny _ _ (newExc (.type "StopIteration") [] >>= _) _ _ _
  | (refine wpAny_bind ?_; show wpAny _ _ (newExc (.type "StopIteration") [] >>= _) _ _ _)
  | (refine wpAny_bind ?_; wp_delta; show wpAny _ _ (newExc (.type "StopIteration") [] >>= _) _ _ _)
  refine wpAny_bind ?_
  simp only [newExc, newTuple]
  refine wpAny_bind (wpAny_newObj_type ?_ (by size_fits))
  refine wpAny_bind (m := firstArgMember _ _) (wpAny_of_eq (a := Value.none) (by first | rfl | (simp only [firstArgMember]; rfl)) ?_)
  refine wpAny_newObj_type ?_ (by size_fits)
  simp only [raiseNew]
  refine wpAny_bind (wpAny_handled ?_)
  first | rw [show A.in1.handled = none from hh] | rw [hh]
  refine wpAny_bind (wpAny_pure (wpAny_throw ?_))
  refine wpAny_bind (wpAny_isInstance (T := "StopIteration") (b := true) ⟨_, Heap.get?_push_size _ rfl, rfl⟩ isSubtype_stop ?_)
  refine wpAny_pure (hQ _ ?_)
  refine ((?_ : Heap.ExtBut it s.heap _).push _).push _
  exact fun b ob hb e => (Heap.get?_update_other _ _ (Ne.symm hb)).trans ((Heap.get?_update_other _ _ (Ne.symm hb)).trans e)
theorem iter_rs {it : Addr} {z : Str} {t : Tok} {i : Int} {Q : Value → Shared → Prop} (hit : IsRs s.heap it z t i) (h : Q (.ref it) s) : wpAny (model prog w) A (pyIter (.ref it)) Q E s := by
  refine wpAny_pyIter_slot hit.typeIs slot_rt_iter (wpAny_call_entry slot_rt_iter hit.typeIs entry_rt_iter ?_ (args_rt_iter _))
  show wpAny _ _ (ret (.ref it)) _ _ s
  exact wpAny_pure ⟨_, rfl, "reversed", _, hit.typeIs, slot_rt_next.lookup, h⟩
end
/-- the signs of z from the last on -/
def Itrs (z : Str) : It := ⟨fun i _ => i < z.length, fun i H x H' => H' = H ∧ ∃ c, z.cps[z.length - 1 - i]? = some c ∧ x = .str ⟨#[c]⟩, fun i _ => z.length ≤ i⟩
theorem turn_rs {P : Program} {w : World} {K : PySem.W.Frag} {tg : Expr} (it : Addr) (z : Str) (t : Tok) (hz : z.length ≤ sizeLine) : Turn P w K tg (Itrs z) [it] it (fun i h => i ≤ z.length ∧ IsRs h it z t ((z.length : Int) - 1 - (i : Nat))) where
  mem := by simp
  obj := fun i h st b hb => by
    have e : b = it := by simpa using hb
    subst e
    obtain ⟨_, o, e, c, d⟩ := st
    exact ⟨o, e, fun v z => by rw [d] at z; cases z⟩
  keep := fun i h h' st k => ⟨st.1, st.2.at fun o e => k it (by simp) o e⟩
  item := by
    intro X hP hw hK hc i pins s σ H E I hf st hg
    subst hP hw hK
    have hin : i < z.length := hg
    obtain ⟨f0, f1, f2, f3, f4, f5⟩ := hf it (by simp)
    obtain ⟨_, hit⟩ := st
    have e1 : (z.length : Int) - 1 - ((i : Nat) : Int) = ((z.length - 1 - i : Nat) : Int) := by omega
    rw [e1] at hit
    have hlt : z.length - 1 - i < z.cps.size := by
      show z.length - 1 - i < z.length
      omega
    have hx : z.cps[z.length - 1 - i]? = some z.cps[z.length - 1 - i] := Array.getElem?_eq_getElem hlt
    refine next_rs_item hit hx hz fun h' u tk st' sb => ?_
    have e2 : ((z.length - 1 - i : Nat) : Int) - 1 = (z.length : Int) - 1 - ((i + 1 : Nat) : Int) := by omega
    rw [e2] at st'
    have I1 : Inv X pins σ H { s with heap := h', toks := tk } := I.turned (t' := tk) (fun b o hb e => (sb.2 b hb).trans e) f0 f1 f3 f4 f5
    obtain ⟨o, e, c, d⟩ := id st'
    exact ⟨_, rfl, go_of (s := { s with heap := h', toks := tk }) e c d (by decide) ⟨.str ⟨#[z.cps[z.length - 1 - i]]⟩, H, I1, ⟨u, rfl⟩, ⟨rfl, _, hx, rfl⟩, ⟨hin, st'⟩, fun b hb => (hf b hb).1⟩⟩
  done := by
    intro X hP hw hK hc i pins s σ H E I hf st hg
    subst hP hw hK
    obtain ⟨f0, f1, f2, f3, f4, f5⟩ := hf it (by simp)
    obtain ⟨hin, hit⟩ := st
    have hge : z.length ≤ i := hg
    have e1 : (z.length : Int) - 1 - ((i : Nat) : Int) = -1 := by omega
    rw [e1] at hit
    exact next_rs_end (I.ok.hd hc) hit fun h' eb => ⟨rfl, I.turned (t' := s.toks) (fun b o hb e => eb b o hb e) f0 f1 f3 f4 f5⟩
  self := fun A i s Q E st h => iter_rs st.2 h
/-- reversed(z), z a text -/
def iRevS (te : TE) : TI := fun σ H R => te σ H fun v H1 => ∃ z : Str, v = .str z ∧ z.length ≤ sizeLine ∧ R (Itrs z) H1
theorem pi_revS {X : Cx} {tg e : Expr} {te : TE} {p pos : Pos} (hg : Gl X "reversed") (hm : X.mg "reversed" = none) (he : PE X e te) (hs : starEach [e] X.env = (false, eval e X.env) :: starEach [] X.env := by rfl) : PI X tg (.Call (.Name "reversed" p) [e] [] pos) (iRevS te) := by
  refine ⟨fun pins s σ H R I h => ?_⟩
  refine Call_ (ld_blt I hg hm PyProof.Rows.boot_reversed (PyProof.Rows.callWith_type1 (args_cons (thn (he.run pins s σ H _ I h) fun u s1 ⟨v, H1, I1, r1, q1⟩ => args_nil ?_) hs) hs rfl))
  obtain ⟨z, ev, hz, q⟩ := q1
  subst ev
  obtain ⟨t, rfl⟩ := r1
  have hn := line63
  refine call_reversed_str (by omega) (iter_rs (z := z) (t := t) (i := (z.length : Int) - 1) ⟨_, Heap.get?_push_size _ rfl, rfl, rfl⟩ ?_)
  refine pi_one (tk := s1.toks + 1 + 1) I1 _ (turn_rs _ z t hz) ⟨Nat.zero_le _, ?_⟩ q
  have e1 : (z.length : Int) - 1 - ((0 : Nat) : Int) = (z.length : Int) - 1 := by omega
  rw [e1]
  exact ⟨_, Heap.get?_push_size _ rfl, rfl, rfl⟩
end Gw

/-! W1: rules whose readings name the new heap; loops and comprehensions by folds. -/
namespace Gw
open PySem PySem.Spec PyProof.Rows L2 RT

/-- a new object o at p, all else kept -/
structure New (H : Hp) (p : Addr) (o : HO) (H2 : Hp) : Prop where
  no : H p = none
  ex : Ex H H2
  at_ : H2 p = some o
theorem New.of {H : Hp} {p : Addr} {o : HO} (h : H p = none) : New H p o (upd H p o) := ⟨h, Ex.new h, upd_same⟩
/-- the object at p is now o, all else kept -/
structure Chg (H : Hp) (p : Addr) (o : HO) (H2 : Hp) : Prop where
  but : But p H H2
  at_ : H2 p = some o
theorem Chg.of {H : Hp} {p : Addr} {o : HO} : Chg H p o (upd H p o) := ⟨But.upd, upd_same⟩

theorem Chg.ex {H0 H H2 : Hp} {p : Addr} {o : HO} (c : Chg H p o H2) (e : Ex H0 H) (n : H0 p = none) : Ex H0 H2 := Ex.but e c.but n
section
variable {X : Cx} {es : List Expr} {e : Expr} {pos : Pos} {t : TA} {te : TE}
theorem PE.imp {t t' : TE} (h : PE X e t) (i : ∀ σ H Q, t' σ H Q → t σ H Q) : PE X e t' := ⟨fun pins s σ H Q I q => h.run pins s σ H Q I (i σ H Q q)⟩
theorem CallR.imp {f : Value} {r r' : List V → Hp → VK → Prop} (h : CallR X f r) (i : ∀ xs H Q, r' xs H Q → r xs H Q) : CallR X f r' := fun pins s σ H xs us Q I r1 q => h pins s σ H xs us Q I r1 (i xs H Q q)
theorem OpR.imp {f : Value → Value → Sem Value} {r r' : R2} (h : OpR X f r) (i : ∀ x y H Q, r' x y H Q → r x y H Q) : OpR X f r' := fun pins s σ H x y v u Q I r1 r2 q => h pins s σ H x y v u Q I r1 r2 (i x y H Q q)
theorem MtR.imp {id : String} {r r' : V → List V → Hp → VK → Prop} (h : MtR X id r) (i : ∀ x xs H Q, r' x xs H Q → r x xs H Q) : MtR X id r' := fun pins s σ H x xs v us Q I r1 r2 q => h pins s σ H x xs v us Q I r1 r2 (i x xs H Q q)
theorem SlR.imp {r r' : V → Option Int → Option Int → Hp → VK → Prop} (h : SlR X r) (i : ∀ x a b H Q, r' x a b H Q → r x a b H Q) : SlR X r' := fun pins s σ H x v vl vu lo hi sl Q I r1 hs p1 p2 q => h pins s σ H x v vl vu lo hi sl Q I r1 hs p1 p2 (i x lo hi H Q q)
/-- a tuple, a list written -/
def tTupN (t : TA) : TE := fun σ H Q => t σ H fun xs H1 => xs.length ≤ sizeLine ∧ ∀ p H2, New H1 p (.tup xs) H2 → Q (.ref p) H2
def tLstN (t : TA) : TE := fun σ H Q => t σ H fun xs H1 => xs.length ≤ sizeLine ∧ ∀ p H2, New H1 p (.lst xs) H2 → Q (.ref p) H2
theorem pe_tupN {k} (h : PA X es t) : PE X (.Tuple es k pos) (tTupN t) := by
  refine ⟨fun pins s σ H Q I hq => ?_⟩
  refine wpAny_Tuple_spliced (thn (h.run pos pins s σ H _ I hq) fun us s1 ⟨xs, H1, I1, r, z, q⟩ => ⟨by rw [← r.length]; exact z, ?_⟩)
  have hf : H1 s1.heap.objs.size = none := I1.hok.fresh (Nat.le_refl _)
  exact ⟨.ref s1.heap.objs.size, upd H1 s1.heap.objs.size (.tup xs), I1.laid (t' := s1.toks) (fun b u e => Heap.get?_push_of_some _ e) (Nat.le_refl _) ⟨z, us, r, ⟨_, Heap.get?_push_size _ rfl, rfl, _, rfl⟩⟩, rfl, q _ _ (.of hf)⟩
theorem pe_lstN (h : PA X es t) : PE X (.List es pos) (tLstN t) := by
  refine ⟨fun pins s σ H Q I hq => ?_⟩
  refine wpAny_List_spliced (thn (h.run pos pins s σ H _ I hq) fun us s1 ⟨xs, H1, I1, r, z, q⟩ => ⟨by rw [← r.length]; exact z, ?_⟩)
  have hf : H1 s1.heap.objs.size = none := I1.hok.fresh (Nat.le_refl _)
  exact ⟨.ref s1.heap.objs.size, upd H1 s1.heap.objs.size (.lst xs), I1.laid (t' := s1.toks) (fun b u e => Heap.get?_push_of_some _ e) (Nat.le_refl _) ⟨z, us, 0, r, Heap.get?_push_size _ rfl⟩, rfl, q _ _ (.of hf)⟩
def rSlLN (K : PySem.W.Frag) : V → Option Int → Option Int → Hp → VK → Prop := fun x lo hi H Q => ∃ a xs, x = .ref a ∧ SqL K H a xs ∧ ∀ p H2, New H p (.lst (cutV xs lo hi)) H2 → Q (.ref p) H2
theorem sl_listN : SlR X (rSlLN X.K) := SlR.imp sl_list fun x lo hi H Q ⟨a, xs, e, h, q⟩ => ⟨a, xs, e, h, fun p hp => q p _ (.of hp)⟩
def rListN (K : PySem.W.Frag) : List V → Hp → VK → Prop := fun xs H Q => ∃ p ys, xs = [.ref p] ∧ (SqL K H p ys ∨ SqT K H p ys) ∧ ∀ l H2, New H l (.lst ys) H2 → Q (.ref l) H2
theorem call_listN : CallR X (.type "list") (rListN X.K) := CallR.imp call_list_of fun xs H Q ⟨p, ys, e, h, q⟩ => ⟨p, ys, e, h, fun l hl => q l _ (.of hl)⟩
/-- tuple(a list) -/
def rTupN (K : PySem.W.Frag) : List V → Hp → VK → Prop := fun xs H Q => ∃ p ys, xs = [.ref p] ∧ SqL K H p ys ∧ ∀ l H2, New H l (.tup ys) H2 → Q (.ref l) H2
theorem call_tupN : CallR X (.type "tuple") (rTupN X.K) := CallR.imp call_tuple_of fun xs H Q ⟨p, ys, e, h, q⟩ => ⟨p, ys, e, .inl ⟨h, fun l hl => q l _ (.of hl)⟩⟩
def rCatN : R2 := fun x y H Q => ∃ l b xs zs, x = .ref l ∧ y = .ref b ∧ H l = some (.lst xs) ∧ H b = some (.lst zs) ∧ xs.length + zs.length ≤ sizeLine ∧ ∀ p H2, New H p (.lst (xs ++ zs)) H2 → Q (.ref p) H2
theorem op_catN : OpR X (binaryOp .Add) rCatN := OpR.imp op_cat fun x y H Q ⟨l, b, xs, zs, e1, e2, h1, h2, z, q⟩ => ⟨l, b, xs, zs, e1, e2, h1, h2, z, fun p hp => q p _ (.of hp)⟩
def rRepN : R2 := fun x y H Q => ∃ l k xs, x = .ref l ∧ y = .int k ∧ H l = some (.lst xs) ∧ -(2 ^ 63) ≤ k ∧ k < 2 ^ 63 ∧ xs.length * k.toNat ≤ sizeLine ∧ ∀ p H2, New H p (.lst (List.replicate k.toNat xs).flatten) H2 → Q (.ref p) H2
theorem op_repN : OpR X (binaryOp .Mult) rRepN := OpR.imp op_rep fun x y H Q ⟨l, k, xs, e1, e2, h1, h2, h3, z, q⟩ => ⟨l, k, xs, e1, e2, h1, h2, h3, z, fun p hp => q p _ (.of hp)⟩
def rAppN : V → List V → Hp → VK → Prop := fun x vs H Q => ∃ l xs y, x = .ref l ∧ vs = [y] ∧ H l = some (.lst xs) ∧ xs.length < sizeLine ∧ ∀ H2, Chg H l (.lst (xs ++ [y])) H2 → Q .non H2
theorem mt_appN : MtR X "list.append" rAppN := MtR.imp mt_append fun x xs H Q ⟨l, ys, y, e1, e2, h, z, q⟩ => ⟨l, ys, y, e1, e2, h, z, q _ .of⟩
def rPopN : V → List V → Hp → VK → Prop := fun x vs H Q => ∃ l xs y, x = .ref l ∧ vs = [] ∧ H l = some (.lst (xs ++ [y])) ∧ ∀ H2, Chg H l (.lst xs) H2 → Q y H2
theorem mt_popN : MtR X "list.pop" rPopN := MtR.imp mt_pop fun x vs H Q ⟨l, xs, y, e1, e2, h, q⟩ => ⟨l, _, y, e1, e2, h, by simp, by rw [List.dropLast_concat]; exact q _ .of⟩
theorem ty_list {K : PySem.W.Frag} {H : Hp} {p : Addr} {xs : List V} (h : SqL K H p xs) : tyV K "list" (.ref p) H := .inl ⟨rfl, xs, h⟩
theorem ty_lst {K : PySem.W.Frag} {H : Hp} {p : Addr} {xs : List V} (h : H p = some (.lst xs)) : tyV K "list" (.ref p) H := .inl ⟨rfl, xs, sqL_of h⟩
theorem ty_str {K : PySem.W.Frag} {H : Hp} {z : Str} : tyV K "str" (.str z) H := rfl
end

theorem paired_app {α β : Type} {R : α → β → Prop} : ∀ {xs xs' : List α} {ys ys' : List β}, Paired R xs ys → Paired R xs' ys' → Paired R (xs ++ xs') (ys ++ ys')
  | _, _, _, _, .nil, s => s
  | _, _, _, _, .cons r t, s => .cons r (paired_app t s)
/-! ### what evaluates to what -/
def Ev (te : TE) (σ : L2.St) (H : Hp) (P : V → Hp → Prop) : Prop := ∀ Q : VK, (∀ v H', Ex H H' → P v H' → Q v H') → te σ H Q
def EvT (tt : TT) (σ : L2.St) (H : Hp) (P : Bool → Prop) : Prop := ∀ Q : Bool → Hp → Prop, (∀ b H', Ex H H' → P b → Q b H') → tt σ H Q
def EvG (g : TG) (x : V) (σ : L2.St) (H : Hp) (P : L2.St → Hp → Prop) : Prop := ∀ Q : L2.St → Hp → Prop, (∀ σ' H', Ex H H' → P σ' H' → Q σ' H') → g x σ H Q
/-- a promise's end: the heap grows, the value is as P says -/
def Ret (H : Hp) (Q : VK) (P : V → Hp → Prop) : Prop := ∀ v H', Ex H H' → P v H' → Q v H'
/-- a new list of vs -/
def NewL (H : Hp) (v : V) (H' : Hp) (vs : List V) : Prop := ∃ l, v = .ref l ∧ H l = none ∧ H' l = some (.lst vs)

/-! ### what is walked -/
structure Seqs {β : Type} (J : It) (Ok : Hp → Prop) (bs : List β) (Y : β → V → Hp → Prop) : Prop where
  go : ∀ i H, Ok H → i < bs.length → J.go i H
  yld : ∀ i H x H' b, Ok H → bs[i]? = some b → J.yld i H x H' → Ex H H' ∧ Y b x H'
  stop : ∀ i H, Ok H → bs.length ≤ i → J.stop i H
theorem take_snoc {β : Type} {bs : List β} {i : Nat} {b : β} (h : bs[i]? = some b) : bs.take (i + 1) = bs.take i ++ [b] := by
  rw [List.take_add_one, h]
  rfl
theorem split_at {β : Type} {bs : List β} {i : Nat} {b : β} (h : bs[i]? = some b) : bs = bs.take i ++ b :: bs.drop (i + 1) := by
  obtain ⟨hi, e⟩ := List.getElem?_eq_some_iff.mp h
  have e2 : bs.drop i = b :: bs.drop (i + 1) := by
    rw [List.drop_eq_getElem_cons hi, e]
  calc bs = bs.take i ++ bs.drop i := (List.take_append_drop i bs).symm
    _ = bs.take i ++ b :: bs.drop (i + 1) := by rw [e2]
/-- what is left of a for, of a comprehension, once it is known what is walked -/
def ForG (J : It) (g : TG) (tb : TS) (D : Ends) (σ : L2.St) (H : Hp) : Prop := ∃ W : Nat → Nat → L2.St → Hp → Prop, (∃ m, W 0 m σ H) ∧ ∀ i m σ H, W i m σ H →
  (J.stop i H ∧ D.nx σ H) ∨ (J.go i H ∧ ∃ N : L2.St → Hp → Prop, (∀ σ' H', N σ' H' → ∃ m', m' < m ∧ W (i + 1) m' σ' H') ∧ ∀ x H', J.yld i H x H' → g x σ H' fun σ2 H2 => tb { D with nx := N, ct := N, bk := D.nx } σ2 H2)
def LcG (J : It) (g : TG) (tt : TT) (te : TE) (vs : List Nat) (σ : L2.St) (Q : VK) (H : Hp) : Prop := ∀ D, H D = none → ∃ W : Nat → Nat → Hp → Prop, (∃ m, W 0 m (upd H D (.lst []))) ∧ ∀ i m H, W i m H →
  (J.stop i H ∧ Q (.ref D) H) ∨ (J.go i H ∧ ∃ Nx : Hp → Prop, (∀ H', Nx H' → ∃ m', m' < m ∧ W (i + 1) m' H') ∧ ∀ x H', J.yld i H x H' → g x (wipe σ vs) H' fun σ2 H2 => wipe σ2 vs = wipe σ vs ∧ tt σ2 H2 fun b H3 =>
    if b = true then te σ2 H3 fun y H4 => ∃ acc, H4 D = some (.lst acc) ∧ acc.length < sizeLine ∧ Nx (upd H4 D (.lst (acc ++ [y]))) else Nx H3)
theorem w_for {wi : TI} {g : TG} {tb : TS} {D : Ends} {σ : L2.St} {H : Hp} (q : wi σ H fun J H1 => ForG J g tb D σ H1) : tFor wi g tb D σ H := q
theorem w_lc {wi : TI} {g : TG} {tt : TT} {te : TE} {vs : List Nat} {σ : L2.St} {Q : VK} {H : Hp} (q : wi σ H fun J H1 => LcG J g tt te vs σ Q H1) : tLc wi g tt te vs σ H Q := q
theorem w_iStr {te : TE} {σ : L2.St} {H : Hp} {R : It → Hp → Prop} (q : te σ H fun v H1 => ∃ x, v = .str x ∧ R (Its x) H1) : iStr te σ H R := q
theorem w_iRevS {te : TE} {σ : L2.St} {H : Hp} {R : It → Hp → Prop} (q : te σ H fun v H1 => ∃ z : Str, v = .str z ∧ z.length ≤ sizeLine ∧ R (Itrs z) H1) : iRevS te σ H R := q
theorem w_iList {K : PySem.W.Frag} {te : TE} {σ : L2.St} {H : Hp} {R : It → Hp → Prop} (q : te σ H fun x H1 => ∃ a, x = .ref a ∧ (∃ xs, SqL K H1 a xs) ∧ R (Itl K a) H1) : iList K te σ H R := q
theorem w_iTup {K : PySem.W.Frag} {te : TE} {σ : L2.St} {H : Hp} {R : It → Hp → Prop} (q : te σ H fun x H1 => ∃ a, x = .ref a ∧ (∃ xs, SqT K H1 a xs) ∧ R (Itt K a) H1) : iTup K te σ H R := q
theorem w_iRng1 {ta : TA} {σ : L2.St} {H : Hp} {R : It → Hp → Prop} (q : ta σ H fun vs H1 => ∃ j : Int, vs = [.int j] ∧ -(2 ^ 62) ≤ j ∧ j < 2 ^ 62 ∧ R (Itr 0 j.toNat) H1) : iRng1 ta σ H R := q
theorem ex_rng1 {n : Nat} (h : n ≤ 1000000) {R : Int → Prop} (q : R ((n : Nat) : Int)) : ∃ j : Int, [V.int ((n : Nat) : Int)] = [.int j] ∧ -(2 ^ 62) ≤ j ∧ j < 2 ^ 62 ∧ R j := ⟨n, rfl, by omega, by omega, q⟩
section
variable {β : Type} {J : It} {Ok : Hp → Prop} {bs : List β} {Y : β → V → Hp → Prop} {g : TG} {tb : TS} {D : Ends} {σ : L2.St} {H : Hp}
/-- a for: Rel by what was taken so far -/
theorem forS (S : Seqs J Ok bs Y) (Rel : List β → L2.St → Hp → Prop) (h0 : Rel [] σ H) (ok : ∀ pre σ H, Rel pre σ H → Ok H)
    (hs : ∀ pre b post x σ H H', bs = pre ++ b :: post → Rel pre σ H → Ex H H' → Y b x H' → g x σ H' fun σ2 H2 => tb { D with nx := Rel (pre ++ [b]), ct := Rel (pre ++ [b]), bk := D.nx } σ2 H2) (hd : ∀ σ H, Rel bs σ H → D.nx σ H) :
    ForG J g tb D σ H := by
  refine ⟨fun i m σ H => m = bs.length - i ∧ i ≤ bs.length ∧ Rel (bs.take i) σ H, ⟨bs.length, by omega, Nat.zero_le _, by rw [List.take_zero]; exact h0⟩, ?_⟩
  rintro i m σ H ⟨rfl, hi, p⟩
  have q := ok _ σ H p
  by_cases hlt : i < bs.length
  · have hb : bs[i]? = some bs[i] := List.getElem?_eq_getElem hlt
    refine .inr ⟨S.go i H q hlt, Rel (bs.take (i + 1)), fun σ' H' p' => ⟨bs.length - (i + 1), by omega, rfl, hlt, p'⟩, fun x H' y => ?_⟩
    obtain ⟨e1, e2⟩ := S.yld i H x H' _ q hb y
    rw [take_snoc hb]
    exact hs _ _ _ x σ H H' (split_at hb) p e1 e2
  · have e : i = bs.length := by omega
    subst e
    refine .inl ⟨S.stop _ H q (Nat.le_refl _), hd σ H ?_⟩
    rw [List.take_length] at p
    exact p
/-- a comprehension: El of what it makes, monotone -/
theorem lcS {tt : TT} {te : TE} {vs : List Nat} {Q : VK} (S : Seqs J Ok bs Y) (p : β → Bool) (El : β → V → Hp → Prop) (mono : ∀ b v H1 H2, Tu H1 H2 → El b v H1 → El b v H2) (ok : ∀ H', Ex H H' → Ok H') (len : bs.length < 1000000)
    (hs : ∀ b x H', b ∈ bs → Ex H H' → Y b x H' → EvG g x (wipe σ vs) H' fun σ2 H2 => wipe σ2 vs = wipe σ vs ∧ EvT tt σ2 H2 (fun c => c = p b) ∧ ∀ H3, Ex H2 H3 → p b = true → Ev te σ2 H3 fun y H4 => El b y H4)
    (hq : ∀ l H' ys, H l = none → Ex H H' → H' l = some (.lst ys) → Paired (fun b y => El b y H') (bs.filter p) ys → Q (.ref l) H') :
    LcG J g tt te vs σ Q H := fun D hD => by
  -- what holds between two turns
  obtain ⟨Rel, hRel⟩ : ∃ Rel : List β → Hp → Prop, Rel = fun pre H' => Ex H H' ∧ ∃ ys, H' D = some (.lst ys) ∧ Paired (fun b y => El b y H') (pre.filter p) ys := ⟨_, rfl⟩
  have rel0 : Rel [] (upd H D (.lst [])) := by
    rw [hRel]
    exact ⟨Ex.new hD, [], upd_same, .nil⟩
  refine ⟨fun i m H' => m = bs.length - i ∧ i ≤ bs.length ∧ Rel (bs.take i) H', ⟨bs.length, by omega, Nat.zero_le _, by rw [List.take_zero]; exact rel0⟩, ?_⟩
  rintro i m H0 ⟨rfl, hi, r⟩
  have r' := r
  rw [hRel] at r'
  obtain ⟨ex0, ys, hy, py⟩ := r'
  have q := ok H0 ex0
  by_cases hlt : i < bs.length
  · have hb : bs[i]? = some bs[i] := List.getElem?_eq_getElem hlt
    have hm : bs[i] ∈ bs := List.getElem_mem hlt
    refine .inr ⟨S.go i H0 q hlt, Rel (bs.take (i + 1)), fun H' p' => ⟨bs.length - (i + 1), by omega, rfl, hlt, p'⟩, fun x H' yl => ?_⟩
    obtain ⟨e1, e2⟩ := S.yld i H0 x H' _ q hb yl
    refine hs _ x H' hm (ex0.trans e1) e2 _ fun σ2 H2 e3 ⟨hw, ht, he⟩ => ⟨hw, ht _ fun c H3 e4 hc => ?_⟩
    subst hc
    have e03 : Ex H0 H3 := (e1.trans e3).trans e4
    have fs : (bs.take (i + 1)).filter p = (bs.take i).filter p ++ [bs[i]].filter p := by rw [take_snoc hb, List.filter_append]
    cases hc : p bs[i] with
    | false =>
      rw [if_neg Bool.false_ne_true, hRel]
      show Ex H H3 ∧ ∃ ys, H3 D = some (.lst ys) ∧ Paired (fun b y => El b y H3) ((bs.take (i + 1)).filter p) ys
      rw [fs]
      refine ⟨ex0.trans e03, ys, e03 _ _ hy, ?_⟩
      rw [List.filter_cons_of_neg (by rw [hc]; exact Bool.false_ne_true), List.filter_nil, List.append_nil]
      exact Paired.mapP py fun b y z => mono b y _ _ e03.tu z
    | true =>
      rw [if_pos rfl]
      refine he H3 e4 hc _ fun y H4 e5 el => ⟨ys, (e03.trans e5) _ _ hy, ?_, ?_⟩
      · have l1 := Paired.length py
        have l2 := List.length_filter_le p (bs.take i)
        have l3 : (bs.take i).length ≤ bs.length := by rw [List.length_take]; exact Nat.min_le_right _ _
        exact line_lt (by omega)
      · have e04 : Ex H0 H4 := e03.trans e5
        have tu : Tu H4 (upd H4 D (.lst (ys ++ [y]))) := But.tu But.upd (e04 _ _ hy) trivial
        rw [hRel]
        show Ex H _ ∧ ∃ ys', (upd H4 D (.lst (ys ++ [y]))) D = some (.lst ys') ∧ Paired (fun b y' => El b y' (upd H4 D (.lst (ys ++ [y])))) ((bs.take (i + 1)).filter p) ys'
        rw [fs]
        refine ⟨Ex.but (ex0.trans e04) But.upd hD, ys ++ [y], upd_same, ?_⟩
        rw [List.filter_cons_of_pos hc, List.filter_nil]
        have h1 : Paired (fun b y' => El b y' (upd H4 D (.lst (ys ++ [y])))) ((bs.take i).filter p) ys := Paired.mapP py fun b y' z => mono b y' _ _ (e04.tu.trans tu) z
        have h2 : Paired (fun b y' => El b y' (upd H4 D (.lst (ys ++ [y])))) [bs[i]] [y] := .cons (mono _ _ _ _ tu el) .nil
        exact paired_app h1 h2
  · have e : i = bs.length := by omega
    subst e
    refine .inl ⟨S.stop _ H0 q (Nat.le_refl _), hq D H0 ys hD ex0 hy ?_⟩
    rw [List.take_length] at py
    exact py
end

/-! ### the sources -/
abbrev sg (c : Nat) : Str := ⟨#[c]⟩
theorem seqs_list {K : PySem.W.Frag} {a : Addr} {xs : List V} : Seqs (Itl K a) (fun H => SqL K H a xs) xs (fun b x _ => x = b) where
  go := fun i H h hi => ⟨xs, xs[i], h, List.getElem?_eq_getElem hi⟩
  yld := fun i H x H' b h hb y => by
    obtain ⟨e, y⟩ := y
    subst e
    exact ⟨L2.Same.refl _, Option.some.inj ((y xs h).symm.trans hb)⟩
  stop := fun i H h hi => ⟨xs, h, hi⟩
theorem seqs_tup {K : PySem.W.Frag} {a : Addr} {xs : List V} : Seqs (Itt K a) (fun H => SqT K H a xs) xs (fun b x _ => x = b) where
  go := fun i H h hi => ⟨xs, xs[i], h, List.getElem?_eq_getElem hi⟩
  yld := fun i H x H' b h hb y => by
    obtain ⟨e, y⟩ := y
    subst e
    exact ⟨L2.Same.refl _, Option.some.inj ((y xs h).symm.trans hb)⟩
  stop := fun i H h hi => ⟨xs, h, hi⟩
theorem seqs_revT {K : PySem.W.Frag} {a : Addr} {xs : List V} : Seqs (ItvT K a xs.length) (fun H => SqT K H a xs) xs.reverse (fun b x _ => x = b) where
  go := fun i H h hi => by
    rw [List.length_reverse] at hi
    exact ⟨hi, xs, xs[xs.length - 1 - i], h, List.getElem?_eq_getElem (by omega)⟩
  yld := fun i H x H' b h hb y => by
    obtain ⟨e, y⟩ := y
    subst e
    refine ⟨L2.Same.refl _, ?_⟩
    have hi := (List.getElem?_eq_some_iff.mp hb).1
    rw [List.length_reverse] at hi
    rw [List.getElem?_reverse hi] at hb
    exact Option.some.inj ((y xs h).symm.trans hb)
  stop := fun i H h hi => by
    rw [List.length_reverse] at hi
    exact hi
theorem cps_get (z : Str) (i : Nat) : z.cps[i]? = z.cps.toList[i]? := by simp
theorem seqs_str {z : Str} : Seqs (Its z) (fun _ => True) z.cps.toList (fun c x _ => x = .str (sg c)) where
  go := fun i H _ hi => by
    show i < z.cps.size
    rw [← Array.length_toList]
    exact hi
  yld := fun i H x H' b _ hb y => by
    obtain ⟨e, c, hc, y⟩ := y
    subst e
    rw [cps_get, hb] at hc
    cases hc
    exact ⟨L2.Same.refl _, y⟩
  stop := fun i H _ hi => by
    show z.cps.size ≤ i
    rw [← Array.length_toList]
    exact hi
theorem len_cps (z : Str) : z.length = z.cps.toList.length := by simp [Str.length]
theorem seqs_revS {z : Str} : Seqs (Itrs z) (fun _ => True) z.cps.toList.reverse (fun c x _ => x = .str (sg c)) where
  go := fun i H _ hi => by
    rw [List.length_reverse, ← len_cps] at hi
    exact hi
  yld := fun i H x H' b _ hb y => by
    obtain ⟨e, c, hc, y⟩ := y
    subst e
    have hi := (List.getElem?_eq_some_iff.mp hb).1
    rw [List.length_reverse] at hi
    rw [List.getElem?_reverse hi] at hb
    rw [cps_get, len_cps, hb] at hc
    cases hc
    exact ⟨L2.Same.refl _, y⟩
  stop := fun i H _ hi => by
    rw [List.length_reverse, ← len_cps] at hi
    exact hi
theorem seqs_rng {lo : Int} {n : Nat} : Seqs (Itr lo n) (fun _ => True) (List.range n) (fun i x _ => x = .int (lo + (i : Nat))) where
  go := fun i H _ hi => by
    rw [List.length_range] at hi
    exact hi
  yld := fun i H x H' b _ hb y => by
    obtain ⟨e, y⟩ := y
    subst e
    obtain ⟨hi, e2⟩ := List.getElem?_eq_some_iff.mp hb
    rw [List.getElem_range] at e2
    subst e2
    exact ⟨L2.Same.refl _, y⟩
  stop := fun i H _ hi => by
    rw [List.length_range] at hi
    exact hi
/-- enumerate(a list): a new tuple at each turn -/
theorem seqs_enum {K : PySem.W.Frag} {a : Addr} {xs : List V} : Seqs (Ite K a) (fun H => SqL K H a xs) xs.zipIdx (fun b x H' => ∃ T, x = .ref T ∧ H' T = some (.tup [.int ((b.2 : Nat) : Int), b.1])) where
  go := fun i H h hi => by
    rw [List.length_zipIdx] at hi
    exact ⟨xs, xs[i], h, List.getElem?_eq_getElem hi⟩
  yld := fun i H x H' b h hb y => by
    obtain ⟨T, y, rfl, nT, rfl, f⟩ := y
    have h1 : xs.zipIdx[i]? = (xs[i]?).map fun v => (v, i) := by
      rw [List.getElem?_zipIdx]
      simp
    rw [h1] at hb
    obtain ⟨v, hv, rfl⟩ := Option.map_eq_some_iff.mp hb
    have e := (f xs h).symm.trans hv
    cases e
    exact ⟨Ex.new nT, T, rfl, upd_same⟩
  stop := fun i H h hi => by
    rw [List.length_zipIdx] at hi
    exact ⟨xs, h, hi⟩

/-! ### more short readings -/
section
variable {K : PySem.W.Frag} {σ : L2.St} {H : Hp} {Q : VK}
theorem ex_bl {b : Bool} {R : Bool → Prop} (q : R b) : ∃ k, V.bl b = .bl k ∧ R k := ⟨b, rfl, q⟩
theorem ex_str {a : Str} {R : Str → Prop} (q : R a) : ∃ i, V.str a = .str i ∧ R i := ⟨a, rfl, q⟩
theorem ex_str2 {a b : Str} {R : Str → Str → Prop} (q : R a b) : ∃ i j, V.str a = .str i ∧ V.str b = .str j ∧ R i j := ⟨a, b, rfl, rfl, q⟩
theorem ex_sgn {c : Nat} {z : Str} {R : Nat → Str → Prop} (q : R c z) : ∃ (c' : Nat) (z' : Str), V.str ⟨#[c]⟩ = .str ⟨#[c']⟩ ∧ V.str z = .str z' ∧ R c' z' := ⟨c, z, rfl, rfl, q⟩
theorem ex_lenS {z : Str} (h : z.length ≤ 1000000) {R : Str → Prop} (q : R z) : ∃ z', [V.str z] = [V.str z'] ∧ z'.length ≤ sizeLine ∧ R z' := ⟨z, rfl, line_le h, q⟩
theorem ex_lenL {p : Addr} {xs : List V} {R : Addr → List V → Prop} (h : SqL K H p xs) (q : R p xs) : ∃ p' ys, [V.ref p] = [V.ref p'] ∧ (SqL K H p' ys ∨ SqT K H p' ys) ∧ R p' ys := ⟨p, xs, rfl, .inl h, q⟩
theorem ex_lenT {p : Addr} {xs : List V} {R : Addr → List V → Prop} (h : SqT K H p xs) (q : R p xs) : ∃ p' ys, [V.ref p] = [V.ref p'] ∧ (SqL K H p' ys ∨ SqT K H p' ys) ∧ R p' ys := ⟨p, xs, rfl, .inr h, q⟩
theorem w_ixL {p : Addr} {xs : List V} {i : Int} {v : V} (h : SqL K H p xs) (a : atI xs i = some v) (q : Q v H) : rIxL K (.ref p) (.int i) H Q := ⟨p, xs, i, v, rfl, rfl, h, a, q⟩
theorem w_ixT {p : Addr} {xs : List V} {i : Int} {v : V} (h : SqT K H p xs) (a : atI xs i = some v) (q : Q v H) : rIxT K (.ref p) (.int i) H Q := ⟨p, xs, i, v, rfl, rfl, h, a, q⟩
theorem w_ixS {z : Str} {i : Int} {c : Nat} (h : z.length ≤ 1000000) (a : atI z.cps.toList i = some c) (q : Q (.str ⟨#[c]⟩) H) : rIxS (.str z) (.int i) H Q := ⟨z, i, c, rfl, rfl, line_le h, a, q⟩
end
theorem iteNT {a b : Prop} (q : b) : if (!true) = true then a else b := q
theorem iteNF {a b : Prop} (q : a) : if (!false) = true then a else b := q
theorem w_bm {T : String} {r : V → List V → Hp → VK → Prop} {K : PySem.W.Frag} {σ : L2.St} {H : Hp} {Q : VK} {to : TE} {t : TA} (q : to σ H fun x H1 => tyV K T x H1 ∧ t σ H1 fun xs H2 => r x xs H2 Q) : tBM K T r to t σ H Q := q
theorem w_bm0 {T : String} {r : V → List V → Hp → VK → Prop} {K : PySem.W.Frag} {σ : L2.St} {H : Hp} {Q : VK} {to : TE} (q : to σ H fun x H1 => tyV K T x H1 ∧ r x [] H1 Q) : tBM0 K T r to σ H Q := q
theorem ty_and_str {K : PySem.W.Frag} {H : Hp} {z : Str} {R : Prop} (q : R) : tyV K "str" (.str z) H ∧ R := ⟨rfl, q⟩
theorem ty_and_lst {K : PySem.W.Frag} {H : Hp} {p : Addr} {xs : List V} {R : Prop} (h : H p = some (.lst xs)) (q : R) : tyV K "list" (.ref p) H ∧ R := ⟨ty_lst h, q⟩
theorem ty_and_lst0 {K : PySem.W.Frag} {H : Hp} {p : Addr} {R : Prop} (h : ∃ xs, H p = some (.lst xs)) (q : R) : tyV K "list" (.ref p) H ∧ R := let ⟨_, h⟩ := h; ⟨ty_lst h, q⟩
theorem list_end {α : Type} (l : List α) : l = [] ∨ ∃ k d, l = k ++ [d] := by
  rcases List.eq_nil_or_concat l with e | ⟨k, d, e⟩
  · exact .inl e
  · exact .inr ⟨k, d, by rw [e, List.concat_eq_append]⟩
theorem w_app {l : Addr} {xs : List V} {y : V} {H : Hp} {Q : VK} (h : H l = some (.lst xs)) (z : xs.length < 1000000) (q : ∀ H2, Chg H l (.lst (xs ++ [y])) H2 → Q .non H2) : rAppN (.ref l) [y] H Q := ⟨l, xs, y, rfl, rfl, h, line_lt z, q⟩
theorem w_pop {l : Addr} {xs : List V} {y : V} {H : Hp} {Q : VK} (h : H l = some (.lst (xs ++ [y]))) (q : ∀ H2, Chg H l (.lst xs) H2 → Q y H2) : rPopN (.ref l) [] H Q := ⟨l, xs, y, rfl, rfl, h, q⟩
theorem w_lst {t : TA} {σ : L2.St} {H : Hp} {Q : VK} (q : t σ H fun xs H1 => xs.length ≤ sizeLine ∧ ∀ p H2, New H1 p (.lst xs) H2 → Q (.ref p) H2) : tLstN t σ H Q := q
theorem w_tup {t : TA} {σ : L2.St} {H : Hp} {Q : VK} (q : t σ H fun xs H1 => xs.length ≤ sizeLine ∧ ∀ p H2, New H1 p (.tup xs) H2 → Q (.ref p) H2) : tTupN t σ H Q := q
theorem sz_and {n : Nat} {R : Prop} (h : n ≤ 1000000) (q : R) : n ≤ sizeLine ∧ R := ⟨line_le h, q⟩
theorem w_m1 {r : V → List V → Hp → VK → Prop} {to te : TE} {σ : L2.St} {H : Hp} {Q : VK} (q : to σ H fun x H1 => (∃ a, x = .str a) ∧ te σ H1 fun y H2 => r x [y] H2 Q) : tM1 r to te σ H Q := q
theorem w_m0 {r : V → List V → Hp → VK → Prop} {to : TE} {σ : L2.St} {H : Hp} {Q : VK} (q : to σ H fun x H1 => (∃ a, x = .str a) ∧ r x [] H1 Q) : tM0 r to σ H Q := q
theorem str_and {a : Str} {R : Prop} (q : R) : (∃ b, V.str a = .str b) ∧ R := ⟨⟨a, rfl⟩, q⟩
theorem w_slS {e : TE} {tl th : TO} {r : V → Option Int → Option Int → Hp → VK → Prop} {σ : L2.St} {H : Hp} {Q : VK} (q : e σ H fun x H1 => tl σ H1 fun l H2 => th σ H2 fun u H3 => r x l u H3 Q) : tSl r e tl th σ H Q := q
theorem w_nopart {σ : L2.St} {H : Hp} {Q : Option Int → Hp → Prop} (q : Q none H) : tNoPart σ H Q := q
theorem w_part {te : TE} {σ : L2.St} {H : Hp} {Q : Option Int → Hp → Prop} (q : te σ H fun x H1 => ∃ i, x = .int i ∧ Q (some i) H1) : tPart te σ H Q := q
theorem ex_int {i : Int} {R : Int → Prop} (q : R i) : ∃ j, V.int i = .int j ∧ R j := ⟨i, rfl, q⟩
theorem w_cut {z : Str} {lo hi : Option Int} {H : Hp} {Q : VK} (h : z.length ≤ 1000000) (q : Q (.str (cutS z lo hi)) H) : rSlS (.str z) lo hi H Q := ⟨z, rfl, line_le h, q⟩
theorem w_nx {N : L2.St → Hp → Prop} {r : VK} {b c : L2.St → Hp → Prop} {σ : L2.St} {H : Hp} (q : N σ H) : Ends.nx ⟨N, r, b, c⟩ σ H := q
theorem w_rt {N : L2.St → Hp → Prop} {r : VK} {b c : L2.St → Hp → Prop} {v : V} {H : Hp} (q : r v H) : Ends.rt ⟨N, r, b, c⟩ v H := q
theorem w_bk {N : L2.St → Hp → Prop} {r : VK} {b c : L2.St → Hp → Prop} {σ : L2.St} {H : Hp} (q : b σ H) : Ends.bk ⟨N, r, b, c⟩ σ H := q
theorem w_ct {N : L2.St → Hp → Prop} {r : VK} {b c : L2.St → Hp → Prop} {σ : L2.St} {H : Hp} (q : c σ H) : Ends.ct ⟨N, r, b, c⟩ σ H := q
theorem evG_name {i : Nat} {v : V} {σ : L2.St} {H : Hp} {P : L2.St → Hp → Prop} (p : P (σ.set i (some v)) H) : EvG (gName i) v σ H P := fun _ q => q _ _ (L2.Same.refl _) p
theorem evT_yes {σ : L2.St} {H : Hp} {P : Bool → Prop} (p : P true) : EvT tYes σ H P := fun _ q => q _ _ (L2.Same.refl _) p
/-- a comprehension with a name as its target and no test -/
theorem lcN {β : Type} {J : It} {Ok : Hp → Prop} {bs : List β} {Y : β → V → Hp → Prop} {σ : L2.St} {H : Hp} {te : TE} {j : Nat} {Q : VK} (S : Seqs J Ok bs Y) (El : β → V → Hp → Prop) (mono : ∀ b v H1 H2, Tu H1 H2 → El b v H1 → El b v H2) (ok : ∀ H', Ex H H' → Ok H') (len : bs.length < 1000000)
    (hw : ∀ x, wipe ((wipe σ [j]).set j (some x)) [j] = wipe σ [j])
    (hs : ∀ b x H', b ∈ bs → Ex H H' → Y b x H' → Ev te ((wipe σ [j]).set j (some x)) H' (El b))
    (ym : ∀ b x H1 H2, Ex H1 H2 → Y b x H1 → Y b x H2)
    (hq : ∀ l H' ys, H l = none → Ex H H' → H' l = some (.lst ys) → Paired (fun b y => El b y H') bs ys → Q (.ref l) H') :
    LcG J (gName j) tYes te [j] σ Q H :=
  lcS S (fun _ => true) El mono ok len (fun b x H' hb e y => evG_name ⟨hw x, evT_yes rfl, fun H3 e3 _ => hs b x H3 hb (e.trans e3) (ym b x _ _ e3 y)⟩) fun l H' ys h1 h2 h3 h4 => hq l H' ys h1 h2 h3 (by
    rw [show bs.filter (fun _ => true) = bs by simp] at h4
    exact h4)
/-- .. with a test -/
theorem lcT {β : Type} {J : It} {Ok : Hp → Prop} {bs : List β} {Y : β → V → Hp → Prop} {σ : L2.St} {H : Hp} {tt : TT} {te : TE} {j : Nat} {Q : VK} (S : Seqs J Ok bs Y) (p : β → Bool) (El : β → V → Hp → Prop) (mono : ∀ b v H1 H2, Tu H1 H2 → El b v H1 → El b v H2) (ok : ∀ H', Ex H H' → Ok H') (len : bs.length < 1000000)
    (hw : ∀ x, wipe ((wipe σ [j]).set j (some x)) [j] = wipe σ [j])
    (ht : ∀ b x H', b ∈ bs → Ex H H' → Y b x H' → EvT tt ((wipe σ [j]).set j (some x)) H' (fun c => c = p b))
    (hs : ∀ b x H', b ∈ bs → Ex H H' → Y b x H' → p b = true → Ev te ((wipe σ [j]).set j (some x)) H' (El b))
    (ym : ∀ b x H1 H2, Ex H1 H2 → Y b x H1 → Y b x H2)
    (hq : ∀ l H' ys, H l = none → Ex H H' → H' l = some (.lst ys) → Paired (fun b y => El b y H') (bs.filter p) ys → Q (.ref l) H') :
    LcG J (gName j) tt te [j] σ Q H :=
  lcS S p El mono ok len (fun b x H' hb e y => evG_name ⟨hw x, ht b x H' hb e y, fun H3 e3 pb => hs b x H3 hb (e.trans e3) (ym b x _ _ e3 y) pb⟩) hq
theorem paired_map {α β γ : Type} {f : α → β} {R : β → γ → Prop} : ∀ {xs : List α} {ys : List γ}, Paired (fun a y => R (f a) y) xs ys → Paired R (xs.map f) ys
  | _, _, .nil => .nil
  | _, _, .cons r t => .cons r (paired_map t)
theorem paired_eq {α β : Type} {f : α → β} : ∀ {xs : List α} {ys : List β}, Paired (fun a y => y = f a) xs ys → ys = xs.map f
  | _, _, .nil => rfl
  | _, _, .cons r t => by rw [r, paired_eq t]; rfl
theorem w_gn {i : Nat} {v : V} {σ : L2.St} {H : Hp} {Q : L2.St → Hp → Prop} (q : Q (σ.set i (some v)) H) : gName i v σ H Q := q
theorem pe_txt {X : Cx} {x : Str} {z : Str} {pos : Pos} (hg : Gl X x) (hm : ∃ t, X.mg x = some (.str z t)) (hd : (x == ("__debug__" : Str)) = false := by decide) : PE X (.Name x pos) (tC (.str z)) := by
  obtain ⟨t, h⟩ := hm
  exact pe_glob hg h ⟨t, rfl⟩ hd
theorem pe_cls {X : Cx} {x : Str} {a : Addr} {pos : Pos} (hg : Gl X x) (hm : X.mg x = some (.ref a)) (hd : (x == ("__debug__" : Str)) = false := by decide) : PE X (.Name x pos) (tC (.ref a)) := pe_glob (x := x) (v := .ref a) hg hm rfl hd
theorem ty_only {n : String} : ∀ u, RelV (.ty n) u → u = .type n := fun u r => r
theorem ref_only {a : Addr} : ∀ u, RelV (.ref a) u → u = .ref a := fun u r => r
/-- the classes of errors, as isinstance asks them -/
structure ExCl (K : PySem.W.Frag) : Prop where
  word : ExcC K (He.ga K "BadWord")
  web : ExcC K (He.ga K "BadWeb")
  ww : PySem.W.kitOne K (.ref (He.ga K "BadWord")) (.ref (He.ga K "BadWord")) = some true
  wb : PySem.W.kitOne K (.ref (He.ga K "BadWord")) (.ref (He.ga K "BadWeb")) = some false
  wv : PySem.W.kitOne K (.ref (He.ga K "BadWord")) (.type "ValueError") = some true
  bw : PySem.W.kitOne K (.ref (He.ga K "BadWeb")) (.ref (He.ga K "BadWord")) = some false
  bb : PySem.W.kitOne K (.ref (He.ga K "BadWeb")) (.ref (He.ga K "BadWeb")) = some true
  bv : PySem.W.kitOne K (.ref (He.ga K "BadWeb")) (.type "ValueError") = some true
  ew : PySem.W.exmOne K (.ref (He.ga K "BadWord")) (.ref (He.ga K "GlueError")) = some true
  eb : PySem.W.exmOne K (.ref (He.ga K "BadWeb")) (.ref (He.ga K "GlueError")) = some true

/-- isinstance(e, c), e the error that the suite holds, its class told in the reading -/
def rIsX (K : PySem.W.Frag) (cls : Value) (d : Option Addr) (a : Addr) : List V → Hp → VK → Prop := fun xs H Q => ∃ D, cls = .ref D ∧ d = none ∧ ExcC K D ∧ rIsE K D a xs H Q
theorem call_isX {X : Cx} {a : Addr} {oe : Obj} {cls : Value} {d : Option Addr} {pn : List (Addr × Obj)} (hz : Zc cls d oe) (hf : ∃ vs, oe.data = .fields vs) : CallR (X.suite a ((a, oe) :: pn)) (.builtin "isinstance") (rIsX X.K cls d a) := by
  intro pins s σ H xs us Q I r h
  obtain ⟨D, e1, e2, C, q⟩ := h
  subst e1 e2
  exact call_isE C hz hf pins s σ H xs us Q I r q
theorem w_isX {K : PySem.W.Frag} {D a : Addr} {H : Hp} {Q : VK} {c : V} {cv : Value} {b : Bool} (C : ExcC K D) (hc : ∀ u, RelV c u → u = cv) (k : PySem.W.kitOne K (.ref D) cv = some b) (q : Q (.bl b) H) : rIsX K (.ref D) none a [.ref a, c] H Q := ⟨D, rfl, rfl, C, c, cv, b, rfl, hc, k, q⟩
/-- an item at a bounded place -/
theorem at_mem {xs : List V} {i : Int} (h0 : 0 ≤ i) (h1 : i < xs.length) : ∃ v ∈ xs, atI xs i = some v := by
  have h2 : i.toNat < xs.length := by omega
  refine ⟨xs[i.toNat], List.getElem_mem h2, ?_⟩
  have h3 := atI_nat (xs := xs) (List.getElem?_eq_getElem h2)
  rw [show ((i.toNat : Nat) : Int) = i by omega] at h3
  exact h3
theorem w_rIs {C : Int → Int → Prop} {g : Int → Int → V} {a b : Int} {H : Hp} {Q : VK} (c : C a b) (q : ∀ z, V.int z = g a b → Q (.int z) H) (e : ∃ z, g a b = .int z) : rI C g (.int a) (.int b) H Q := by
  obtain ⟨z, e⟩ := e
  exact ⟨a, b, rfl, rfl, c, by rw [e]; exact q z e.symm⟩
end Gw

namespace Gw
open PySem PySem.Spec PyProof.Rows L2
def topS (i : Nat) : Stmt := (PySem.Challenge.pw_gluewords_k01_short_words).main.body.getD i (.Pass ⟨0, 0, 0, 0⟩)
abbrev s_is_word : Stmt := topS 7
abbrev s_need_word : Stmt := topS 8
abbrev s_back_of : Stmt := topS 9
abbrev s_shortened : Stmt := topS 10
abbrev s_turned : Stmt := topS 11
abbrev s_short : Stmt := topS 12
abbrev s_back : Stmt := topS 13
abbrev s_times : Stmt := topS 14
abbrev s__law_whole : Stmt := topS 16
abbrev s__law_cell : Stmt := topS 17
abbrev s__law_mixed : Stmt := topS 18
abbrev s__law_letters : Stmt := topS 19
abbrev s__law_back : Stmt := topS 20
abbrev s__law_word : Stmt := topS 21
abbrev s__law_short : Stmt := topS 22
abbrev s__law_turned : Stmt := topS 23
abbrev s__law_taken_out : Stmt := topS 24
abbrev s__law_called : Stmt := topS 25
abbrev s__law_refused : Stmt := topS 26
abbrev s__law_is : Stmt := topS 27
abbrev s_law : Stmt := topS 28
/-- what the top has written -/
structure Tx (K : PySem.W.Frag) (mg : Str → Option Value) : Prop where
  f_is_word : FnT K mg "is_word" s_is_word
  f_need_word : FnT K mg "need_word" s_need_word
  f_back_of : FnT K mg "back_of" s_back_of
  f_shortened : FnT K mg "shortened" s_shortened
  f_turned : FnT K mg "turned" s_turned
  f_short : FnT K mg "short" s_short
  f_back : FnT K mg "back" s_back
  f_times : FnT K mg "times" s_times
  f__law_whole : FnT K mg "_law_whole" s__law_whole
  f__law_cell : FnT K mg "_law_cell" s__law_cell
  f__law_mixed : FnT K mg "_law_mixed" s__law_mixed
  f__law_letters : FnT K mg "_law_letters" s__law_letters
  f__law_back : FnT K mg "_law_back" s__law_back
  f__law_word : FnT K mg "_law_word" s__law_word
  f__law_short : FnT K mg "_law_short" s__law_short
  f__law_turned : FnT K mg "_law_turned" s__law_turned
  f__law_taken_out : FnT K mg "_law_taken_out" s__law_taken_out
  f__law_called : FnT K mg "_law_called" s__law_called
  f__law_refused : FnT K mg "_law_refused" s__law_refused
  f__law_is : FnT K mg "_law_is" s__law_is
  f_law : FnT K mg "law" s_law
  g_GlueError : mg "GlueError" = some (.ref (He.ga K "GlueError"))
  x_GlueError : PySem.W.excIn K (He.ga K "GlueError") He.veBase "ValueError.__new__" = true ∧ PySem.W.keepIn K (.ref (He.ga K "GlueError")) = true ∧ PySem.W.subIn K (.ref (He.ga K "GlueError")) (.type "BaseException") = some true ∧ PySem.W.typeIn K (.ref (He.ga K "GlueError")) = some (.type "type")
  g_BadWord : mg "BadWord" = some (.ref (He.ga K "BadWord"))
  x_BadWord : PySem.W.excIn K (He.ga K "BadWord") He.veBase "ValueError.__new__" = true ∧ PySem.W.keepIn K (.ref (He.ga K "BadWord")) = true ∧ PySem.W.subIn K (.ref (He.ga K "BadWord")) (.type "BaseException") = some true ∧ PySem.W.typeIn K (.ref (He.ga K "BadWord")) = some (.type "type")
  g_BadWeb : mg "BadWeb" = some (.ref (He.ga K "BadWeb"))
  x_BadWeb : PySem.W.excIn K (He.ga K "BadWeb") He.veBase "ValueError.__new__" = true ∧ PySem.W.keepIn K (.ref (He.ga K "BadWeb")) = true ∧ PySem.W.subIn K (.ref (He.ga K "BadWeb")) (.type "BaseException") = some true ∧ PySem.W.typeIn K (.ref (He.ga K "BadWeb")) = some (.type "type")
  v_SMALL : ∃ t, mg "SMALL" = some (.str "abcdefghijklmnopqrstuvwxyz" t)
  v_GREAT : ∃ t, mg "GREAT" = some (.str "ABCDEFGHIJKLMNOPQRSTUVWXYZ" t)
  n_ValueError : mg "ValueError" = none
  n_all : mg "all" = none
  n_bool : mg "bool" = none
  n_int : mg "int" = none
  n_isinstance : mg "isinstance" = none
  n_len : mg "len" = none
  n_range : mg "range" = none
  n_reversed : mg "reversed" = none
  n_str : mg "str" = none
  ec : ExCl K
end Gw

open Gw L2 PySem
local macro_rules | `(tactic| walk_at "gw1") => `(tactic| first
  | with_reducible refine w_seqA ?_
  | with_reducible refine w_seq ?_
  | with_reducible refine w_asg ?_
  | with_reducible refine w_ret ?_
  | with_reducible refine w_drop ?_
  | with_reducible refine w_if ?_
  | with_reducible refine w_test ?_
  | with_reducible refine w_tB ?_
  | with_reducible refine w_nil ?_
  | with_reducible refine w_cons ?_
  | with_reducible refine w_op ?_
  | with_reducible refine w_un ?_
  | with_reducible refine w_c ?_
  | ((with_reducible refine w_var0 ?_); refine ⟨_, rfl, ?_⟩)
  | with_reducible refine w_rI0 ?_
  | with_reducible refine w_rU ?_
  | with_reducible refine w_rEq rfl ?_
  | with_reducible refine w_rNe rfl ?_
  | with_reducible refine w_CB ?_
  | with_reducible refine w_and ?_
  | with_reducible refine w_or ?_
  | with_reducible refine w_not ?_
  | with_reducible refine w_andV ?_
  | with_reducible refine w_orV ?_
  | with_reducible refine w_notV ?_
  | with_reducible refine w_ife ?_
  | with_reducible refine w_call ?_
  | with_reducible refine w_isN ?_
  | with_reducible refine w_notN ?_
  | with_reducible refine ex_bl ?_
  | with_reducible refine ex_str2 ?_
  | with_reducible refine ex_sgn ?_
  | with_reducible refine w_next ?_
  | with_reducible refine w_nx ?_
  | with_reducible refine w_rt ?_
  | with_reducible refine w_bk ?_
  | with_reducible refine w_ct ?_
  | ((with_reducible refine w_rI ?_ ?_); (focus first | (show (0 : Int) < _; decide) | exact ⟨by decide, by decide⟩ | exact .inl ⟨by omega, by omega⟩ | exact .inr ⟨by omega, by omega⟩))
  | with_reducible refine w_gn ?_
  | with_reducible refine w_for ?_
  | with_reducible refine w_lc ?_
  | with_reducible refine w_iStr ?_
  | with_reducible refine w_iRevS ?_
  | with_reducible refine w_iList ?_
  | with_reducible refine w_iTup ?_
  | with_reducible refine w_iRng1 ?_
  | with_reducible refine ex_str ?_
  | with_reducible refine iteT ?_
  | with_reducible refine iteF ?_
  | with_reducible refine iteNT ?_
  | with_reducible refine iteNF ?_
  | with_reducible refine w_bm ?_
  | with_reducible refine w_bm0 ?_
  | with_reducible refine ty_and_str ?_
  | with_reducible refine w_lst ?_
  | with_reducible refine w_tup ?_
  | with_reducible refine w_m1 ?_
  | with_reducible refine w_m0 ?_
  | with_reducible refine str_and ?_
  | with_reducible refine w_slS ?_
  | with_reducible refine w_nopart ?_
  | with_reducible refine w_part ?_
  | with_reducible refine ex_int ?_
  | ((with_reducible refine ty_and_lst0 ?_ ?_); (focus exact ⟨_, by assumption⟩)))
local macro_rules | `(tactic| walk_at "gw") => `(tactic| repeat walk_at "gw1")

/-! Free: words with backs, shortened. Plain lists of codes; no program in sight. -/
namespace Gw
/-- a letter's code, its back -/
def isL (c : Nat) : Bool := (decide (97 ≤ c) && decide (c ≤ 122)) || (decide (65 ≤ c) && decide (c ≤ 90))
def bk (c : Nat) : Nat := if 97 ≤ c then c - 32 else c + 32
/-- one sign more, from the left -/
def shSt (k : List Nat) (c : Nat) : List Nat := if k.getLast? = some (bk c) then k.dropLast else k ++ [c]
/-- the short word -/
def sh (w : List Nat) : List Nat := w.foldl shSt []
/-- the back of a word, not shortened -/
def rv (w : List Nat) : List Nat := w.reverse.map bk
/-- all are letters -/
def AL (w : List Nat) : Prop := ∀ c ∈ w, isL c = true
theorem isL_iff {c : Nat} : isL c = true ↔ (97 ≤ c ∧ c ≤ 122) ∨ (65 ≤ c ∧ c ≤ 90) := by
  unfold isL
  simp only [Bool.or_eq_true, Bool.and_eq_true, decide_eq_true_eq]
theorem isL_cases {c : Nat} (h : isL c = true) : (∃ i, i < 26 ∧ c = 97 + i) ∨ ∃ i, i < 26 ∧ c = 65 + i := by
  rcases isL_iff.mp h with h | h
  · exact .inl ⟨c - 97, by omega, by omega⟩
  · exact .inr ⟨c - 65, by omega, by omega⟩
theorem bk_L {c : Nat} (h : isL c = true) : isL (bk c) = true := by
  rw [isL_iff] at h ⊢
  unfold bk
  split <;> omega
theorem bk_bk {c : Nat} (h : isL c = true) : bk (bk c) = c := by
  rw [isL_iff] at h
  unfold bk
  split <;> split <;> omega
theorem bk_ne {c : Nat} (h : isL c = true) : bk c ≠ c := by
  rw [isL_iff] at h
  unfold bk
  split <;> omega
theorem bk_inj {c d : Nat} (h : isL c = true) (h' : isL d = true) (e : bk c = bk d) : c = d := by
  rw [← bk_bk h, e, bk_bk h']
theorem AL.nil : AL [] := fun c h => by cases h
theorem AL.app {u v : List Nat} (h : AL u) (h' : AL v) : AL (u ++ v) := fun c hc => (List.mem_append.mp hc).elim (h c) (h' c)
theorem AL.left {u v : List Nat} (h : AL (u ++ v)) : AL u := fun c hc => h c (List.mem_append_left _ hc)
theorem AL.right {u v : List Nat} (h : AL (u ++ v)) : AL v := fun c hc => h c (List.mem_append_right _ hc)
theorem AL.head {c : Nat} {v : List Nat} (h : AL (c :: v)) : isL c = true := h c List.mem_cons_self
theorem AL.tail {c : Nat} {v : List Nat} (h : AL (c :: v)) : AL v := fun d hd => h d (List.mem_cons_of_mem _ hd)
theorem AL.cons {c : Nat} {v : List Nat} (h : isL c = true) (h' : AL v) : AL (c :: v) := fun d hd => by
  rcases List.mem_cons.mp hd with e | hd
  · rw [e]; exact h
  · exact h' d hd
theorem AL.rv {u : List Nat} (h : AL u) : AL (rv u) := fun c hc => by
  obtain ⟨d, hd, e⟩ := List.mem_map.mp hc
  rw [← e]
  exact bk_L (h d (List.mem_reverse.mp hd))
theorem snoc_ind {α : Type} {P : List α → Prop} (h0 : P []) (h1 : ∀ l c, P l → P (l ++ [c])) : ∀ l, P l := by
  intro l
  have : ∀ r : List α, P r.reverse := by
    intro r
    induction r with
    | nil => exact h0
    | cons c r ih =>
      rw [List.reverse_cons]
      exact h1 _ _ ih
  have h := this l.reverse
  rw [List.reverse_reverse] at h
  exact h
theorem end_of {α : Type} (l : List α) : l = [] ∨ ∃ k d, l = k ++ [d] := by
  refine snoc_ind (P := fun l => l = [] ∨ ∃ k d, l = k ++ [d]) (.inl rfl) (fun l c _ => .inr ⟨l, c, rfl⟩) l
/-! ### short words -/
/-- no letter beside its back -/
def Red : List Nat → Prop
  | [] => True
  | [_] => True
  | a :: b :: r => b ≠ bk a ∧ Red (b :: r)
theorem Red.tail {a : Nat} : ∀ {r : List Nat}, Red (a :: r) → Red r
  | [], _ => trivial
  | _ :: _, h => h.2
theorem red_snoc : ∀ {k : List Nat} {c : Nat}, Red (k ++ [c]) ↔ Red k ∧ ∀ d, k.getLast? = some d → c ≠ bk d
  | [], c => ⟨fun _ => ⟨trivial, fun d h => by cases h⟩, fun _ => trivial⟩
  | [a], c => by
    show (c ≠ bk a ∧ True) ↔ _
    simp [Red]
  | a :: b :: r, c => by
    have ih := red_snoc (k := b :: r) (c := c)
    show (b ≠ bk a ∧ Red ((b :: r) ++ [c])) ↔ (b ≠ bk a ∧ Red (b :: r)) ∧ _
    rw [ih, List.getLast?_cons_cons]
    constructor
    · rintro ⟨h1, h2, h3⟩
      exact ⟨⟨h1, h2⟩, h3⟩
    · rintro ⟨⟨h1, h2⟩, h3⟩
      exact ⟨h1, h2, h3⟩
theorem red_left {k r : List Nat} (h : Red (k ++ r)) : Red k := by
  induction r using snoc_ind generalizing k with
  | h0 => rw [List.append_nil] at h; exact h
  | h1 l c ih =>
    rw [← List.append_assoc] at h
    exact ih (red_snoc.mp h).1
theorem red_right : ∀ {k r : List Nat}, Red (k ++ r) → Red r
  | [], _, h => h
  | _ :: k, r, h => red_right (k := k) (Red.tail h)
theorem shSt_AL {k : List Nat} {c : Nat} (hk : AL k) (hc : isL c = true) : AL (shSt k c) := by
  unfold shSt
  split
  · exact fun d h => hk d (List.dropLast_subset _ h)
  · exact hk.app (AL.cons hc AL.nil)
theorem shSt_red {k : List Nat} {c : Nat} (hk : AL k) (hc : isL c = true) (hr : Red k) : Red (shSt k c) := by
  unfold shSt
  split
  · rcases end_of k with e | ⟨k', d, e⟩
    · rw [e]; trivial
    · rw [e] at hr ⊢
      rw [List.dropLast_concat]
      exact (red_snoc.mp hr).1
  · rename_i h
    refine red_snoc.mpr ⟨hr, fun d hd e => h ?_⟩
    rw [hd, e, bk_bk (hk d (List.mem_of_getLast? hd))]
theorem foldl_AL : ∀ {v k : List Nat}, AL k → AL v → AL (v.foldl shSt k)
  | [], _, hk, _ => hk
  | c :: r, k, hk, hv => foldl_AL (v := r) (k := shSt k c) (shSt_AL hk hv.head) hv.tail
theorem foldl_red : ∀ {v k : List Nat}, AL k → AL v → Red k → Red (v.foldl shSt k)
  | [], _, _, _, hr => hr
  | c :: r, k, hk, hv, hr => foldl_red (v := r) (k := shSt k c) (shSt_AL hk hv.head) hv.tail (shSt_red hk hv.head hr)
theorem sh_AL {w : List Nat} (h : AL w) : AL (sh w) := foldl_AL AL.nil h
theorem sh_red {w : List Nat} (h : AL w) : Red (sh w) := foldl_red AL.nil h trivial
theorem sh_snoc (w : List Nat) (c : Nat) : sh (w ++ [c]) = shSt (sh w) c := by
  unfold sh
  rw [List.foldl_append]
  rfl
theorem sh_app (u v : List Nat) : sh (u ++ v) = v.foldl shSt (sh u) := by
  unfold sh
  rw [List.foldl_append]
theorem shSt_len (k : List Nat) (c : Nat) : (shSt k c).length ≤ k.length + 1 := by
  unfold shSt
  split
  · rw [List.length_dropLast]
    omega
  · rw [List.length_append]
    exact Nat.le_refl _
theorem foldl_len : ∀ (v k : List Nat), (v.foldl shSt k).length ≤ k.length + v.length
  | [], _ => Nat.le_refl _
  | c :: r, k => by
    have h1 := foldl_len r (shSt k c)
    have h2 := shSt_len k c
    rw [List.foldl_cons, List.length_cons]
    omega
theorem sh_len (w : List Nat) : (sh w).length ≤ w.length := by
  have h := foldl_len w []
  rw [List.length_nil, Nat.zero_add] at h
  exact h
/-- a word that is short -/
theorem sh_of_red {w : List Nat} (hw : AL w) (h : Red w) : sh w = w := by
  induction w using snoc_ind with
  | h0 => rfl
  | h1 l c ih =>
    obtain ⟨h1, h2⟩ := red_snoc.mp h
    rw [sh_snoc, ih hw.left h1, shSt, if_neg]
    intro e
    exact h2 _ e (bk_bk (hw c (by simp))).symm
theorem sh_sh {w : List Nat} (hw : AL w) : sh (sh w) = sh w := sh_of_red (sh_AL hw) (sh_red hw)
theorem shSt_back {k : List Nat} {c : Nat} (hk : AL k) (hc : isL c = true) (hr : Red k) : shSt (shSt k c) (bk c) = k := by
  by_cases h : k.getLast? = some (bk c)
  · rw [show shSt k c = k.dropLast by unfold shSt; rw [if_pos h]]
    rcases end_of k with e | ⟨k', d, e⟩
    · rw [e] at h; cases h
    · rw [e] at h hr ⊢
      rw [List.getLast?_concat] at h
      cases h
      rw [List.dropLast_concat, shSt, if_neg]
      rw [bk_bk hc]
      intro z
      exact (red_snoc.mp hr).2 _ z rfl
  · rw [show shSt k c = k ++ [c] by unfold shSt; rw [if_neg h], shSt, if_pos (by rw [bk_bk hc, List.getLast?_concat]), List.dropLast_concat]
theorem foldl_sh {k v : List Nat} (hk : AL k) (hr : Red k) (hv : AL v) : v.foldl shSt k = (sh v).foldl shSt k := by
  induction v using snoc_ind with
  | h0 => rfl
  | h1 l c ih =>
    have hc : isL c = true := hv c (by simp)
    have hl := hv.left
    rw [List.foldl_append, ih hl, sh_snoc]
    show shSt ((sh l).foldl shSt k) c = _
    by_cases h : (sh l).getLast? = some (bk c)
    · rw [show shSt (sh l) c = (sh l).dropLast by unfold shSt; rw [if_pos h]]
      rcases end_of (sh l) with e | ⟨k', d, e⟩
      · rw [e] at h; cases h
      · have hal := sh_AL hl
        rw [e] at h hal ⊢
        rw [List.getLast?_concat] at h
        cases h
        rw [List.dropLast_concat, List.foldl_append]
        show shSt (shSt (k'.foldl shSt k) (bk c)) c = _
        have h3 := shSt_back (foldl_AL hk hal.left) (bk_L hc) (foldl_red hk hal.left hr)
        rw [bk_bk hc] at h3
        exact h3
    · rw [show shSt (sh l) c = sh l ++ [c] by unfold shSt; rw [if_neg h], List.foldl_append]
      rfl
/-- the short word of both -/
theorem sh_app_sh {u v : List Nat} (hu : AL u) (hv : AL v) : sh (u ++ v) = sh (sh u ++ sh v) := by
  rw [sh_app, sh_app, sh_sh hu, foldl_sh (sh_AL hu) (sh_red hu) hv]
theorem sh_congr {u u' v v' : List Nat} (hu : AL u) (hv : AL v) (hu' : AL u') (hv' : AL v') (e : sh u = sh u') (e' : sh v = sh v') : sh (u ++ v) = sh (u' ++ v') := by
  rw [sh_app_sh hu hv, sh_app_sh hu' hv', e, e']
theorem sh_pair {c : Nat} (hc : isL c = true) : sh [c, bk c] = [] := by
  show shSt (shSt [] c) (bk c) = []
  exact shSt_back AL.nil hc trivial
/-- a letter with its back right behind it falls away -/
theorem sh_out {a b : List Nat} {c : Nat} (ha : AL a) (hb : AL b) (hc : isL c = true) : sh (a ++ c :: bk c :: b) = sh (a ++ b) := by
  have e : a ++ c :: bk c :: b = (a ++ [c, bk c]) ++ b := by simp
  have h2 : AL (a ++ [c, bk c]) := ha.app (AL.cons hc (AL.cons (bk_L hc) AL.nil))
  rw [e]
  refine sh_congr h2 hb ha hb ?_ rfl
  rw [sh_app]
  show shSt (shSt (sh a) c) (bk c) = sh a
  exact shSt_back (sh_AL ha) hc (sh_red ha)
/-! ### backs -/
theorem rv_nil : rv [] = [] := rfl
theorem rv_app (u v : List Nat) : rv (u ++ v) = rv v ++ rv u := by
  unfold rv
  rw [List.reverse_append, List.map_append]
theorem rv_cons (c : Nat) (v : List Nat) : rv (c :: v) = rv v ++ [bk c] := by
  unfold rv
  rw [List.reverse_cons, List.map_append]
  rfl
theorem rv_snoc (c : Nat) (v : List Nat) : rv (v ++ [c]) = bk c :: rv v := by
  unfold rv
  rw [List.reverse_append, List.map_append]
  rfl
theorem rv_rv {u : List Nat} (h : AL u) : rv (rv u) = u := by
  induction u with
  | nil => rfl
  | cons c r ih =>
    rw [rv_cons, rv_snoc, ih h.tail, bk_bk h.head]
theorem rv_len (u : List Nat) : (rv u).length = u.length := by
  unfold rv
  rw [List.length_map, List.length_reverse]
theorem sh_rv_r {u : List Nat} (h : AL u) : sh (u ++ rv u) = [] := by
  induction u using snoc_ind with
  | h0 => rfl
  | h1 l c ih =>
    have hc : isL c = true := h c (by simp)
    rw [rv_snoc]
    have e : (l ++ [c]) ++ bk c :: rv l = l ++ c :: bk c :: rv l := by simp
    rw [e, sh_out h.left h.left.rv hc, ih h.left]
theorem sh_rv_l {u : List Nat} (h : AL u) : sh (rv u ++ u) = [] := by
  have h2 := sh_rv_r h.rv
  rw [rv_rv h] at h2
  exact h2
theorem red_rv {u : List Nat} (h : AL u) (hr : Red u) : Red (rv u) := by
  induction u with
  | nil => trivial
  | cons c r ih =>
    rw [rv_cons]
    refine red_snoc.mpr ⟨ih h.tail hr.tail, fun d hd e => ?_⟩
    cases r with
    | nil => cases hd
    | cons b r =>
      rw [rv_cons, List.getLast?_concat] at hd
      cases hd
      rw [bk_bk h.tail.head] at e
      exact hr.1 e.symm
/-- words that have one short word -/
theorem sh_cancel_r {u v x : List Nat} (hu : AL u) (hv : AL v) (hx : AL x) (e : sh (u ++ x) = sh (v ++ x)) : sh u = sh v := by
  have h1 : sh ((u ++ x) ++ rv x) = sh ((v ++ x) ++ rv x) := sh_congr (hu.app hx) hx.rv (hv.app hx) hx.rv e rfl
  rw [List.append_assoc, List.append_assoc] at h1
  have h2 : ∀ {y : List Nat}, AL y → sh (y ++ (x ++ rv x)) = sh y := fun {y} hy => by
    rw [sh_app_sh hy (hx.app hx.rv), sh_rv_r hx, List.append_nil, sh_sh hy]
  rw [h2 hu, h2 hv] at h1
  exact h1
theorem sh_rv {u : List Nat} (h : AL u) : sh (rv u) = rv (sh u) := by
  have h1 : sh (rv u ++ u) = sh (rv (sh u) ++ u) := by
    rw [sh_rv_l h, sh_app_sh (sh_AL h).rv h]
    have h2 : sh (rv (sh u)) = rv (sh u) := sh_of_red (sh_AL h).rv (red_rv (sh_AL h) (sh_red h))
    rw [h2, sh_rv_l (sh_AL h)]
  have h3 := sh_cancel_r h.rv (sh_AL h).rv h h1
  rw [h3]
  exact sh_of_red (sh_AL h).rv (red_rv (sh_AL h) (sh_red h))
/-! ### what is asked of short, back, times -/
theorem back_is {u : List Nat} (h : AL u) : sh (rv u) = rv (sh u) := sh_rv h
theorem back_back {u : List Nat} (h : AL u) : sh (rv (sh (rv u))) = sh u := by
  rw [sh_rv (sh_AL h.rv), sh_sh h.rv, sh_rv h, rv_rv (sh_AL h)]
theorem back_times {u : List Nat} (h : AL u) : sh (sh (rv u) ++ u) = [] := by
  rw [sh_app_sh (sh_AL h.rv) h, sh_sh h.rv, ← sh_app_sh h.rv h, sh_rv_l h]
/-- either short, or a letter with its back right behind it stands somewhere -/
theorem red_or {w : List Nat} (hw : AL w) : Red w ∨ ∃ i c, w[i]? = some c ∧ w[i + 1]? = some (bk c) := by
  induction w with
  | nil => exact .inl trivial
  | cons a r ih =>
    rcases ih hw.tail with h | ⟨i, c, h1, h2⟩
    · cases r with
      | nil => exact .inl trivial
      | cons b r =>
        by_cases e : b = bk a
        · exact .inr ⟨0, a, rfl, by rw [e]; rfl⟩
        · exact .inl ⟨e, h⟩
    · exact .inr ⟨i + 1, c, by simpa using h1, by simpa using h2⟩
end Gw

/-! ### plain data: shape, equality -/
namespace Gw
open PySem PySem.Spec PyProof.Rows L2 RT
/-- data of depth n at most -/
def Shd (n : Nat) (d : PyData) : Prop := d.canLay0 = true ∧ d.depth ≤ n
theorem Shd.shaped {n : Nat} {d : PyData} (h : Shd n d) (hn : n ≤ 64 := by decide) : SeqAt.shaped d = true := by
  unfold SeqAt.shaped
  rw [Bool.and_eq_true, decide_eq_true_eq]
  exact ⟨h.1, Nat.le_trans h.2 hn⟩
theorem Shd.mono {n m : Nat} {d : PyData} (h : Shd n d) (l : n ≤ m) : Shd m d := ⟨h.1, Nat.le_trans h.2 l⟩
theorem Shd.int {n : Nat} {i : Int} : Shd n (.int i) := ⟨by simp only [PyData.canLay0], by simp [PyData.depth]⟩
theorem Shd.bl {n : Nat} {i : Bool} : Shd n (.bool i) := ⟨by simp only [PyData.canLay0], by simp [PyData.depth]⟩
theorem Shd.non {n : Nat} : Shd n .none := ⟨by simp only [PyData.canLay0], by simp [PyData.depth]⟩
theorem Shd.str {n : Nat} {x : Str} (h : PyData.strOk x = true) : Shd n (.str x) := ⟨by simpa only [PyData.canLay0] using h, by simp [PyData.depth]⟩
theorem Shd.all {n : Nat} : ∀ {ds : List PyData}, (∀ d ∈ ds, Shd n d) → PyData.canLayAll0 ds = true ∧ PyData.depthAll ds ≤ n
  | [], _ => ⟨by simp [PyData.canLayAll0], by simp [PyData.depthAll]⟩
  | d :: ds, h => by
    obtain ⟨a, b⟩ := h d (List.mem_cons_self ..)
    obtain ⟨c, e⟩ := Shd.all (ds := ds) fun x hx => h x (List.mem_cons_of_mem _ hx)
    refine ⟨by simp only [PyData.canLayAll0, a, c, Bool.and_self], ?_⟩
    simp only [PyData.depthAll]
    omega
theorem Shd.list {n : Nat} {ds : List PyData} (h : ∀ d ∈ ds, Shd n d) : Shd (n + 1) (.list ds) := by
  obtain ⟨a, b⟩ := Shd.all h
  exact ⟨by simpa only [PyData.canLay0] using a, by simp only [PyData.depth]; omega⟩
theorem Shd.tup {n : Nat} {ds : List PyData} (h : ∀ d ∈ ds, Shd n d) : Shd (n + 1) (.tuple ds) := by
  obtain ⟨a, b⟩ := Shd.all h
  exact ⟨by simpa only [PyData.canLay0] using a, by simp only [PyData.depth]; omega⟩
theorem eqv_int (i j : Int) : PyData.eqv (.int i) (.int j) = decide (i = j) := by
  simp only [PyData.eqv]
  rfl
theorem eqv_str (i j : Str) : PyData.eqv (.str i) (.str j) = decide (i = j) := by
  simp only [PyData.eqv]
  rw [Bool.eq_iff_iff, beq_iff_eq, decide_eq_true_eq]
theorem eqvAll_map {α : Type} [DecidableEq α] {enc : α → PyData} (h : ∀ a b, PyData.eqv (enc a) (enc b) = decide (a = b)) : ∀ xs ys : List α, PyData.eqvAll (xs.map enc) (ys.map enc) = decide (xs = ys)
  | [], [] => by simp [PyData.eqvAll]
  | [], y :: ys => by simp [PyData.eqvAll]
  | x :: xs, [] => by simp [PyData.eqvAll]
  | x :: xs, y :: ys => by
    simp only [List.map_cons, PyData.eqvAll, h, eqvAll_map h xs ys]
    rw [Bool.eq_iff_iff, Bool.and_eq_true, decide_eq_true_eq, decide_eq_true_eq, decide_eq_true_eq, List.cons.injEq]
theorem eqv_list {α : Type} [DecidableEq α] {enc : α → PyData} (h : ∀ a b, PyData.eqv (enc a) (enc b) = decide (a = b)) (xs ys : List α) : PyData.eqv (.list (xs.map enc)) (.list (ys.map enc)) = decide (xs = ys) := by
  rw [← eqvAll_map h]
  simp only [PyData.eqv]
theorem eqv_tup {α : Type} [DecidableEq α] {enc : α → PyData} (h : ∀ a b, PyData.eqv (enc a) (enc b) = decide (a = b)) (xs ys : List α) : PyData.eqv (.tuple (xs.map enc)) (.tuple (ys.map enc)) = decide (xs = ys) := by
  rw [← eqvAll_map h]
  simp only [PyData.eqv]
section
variable {K : PySem.W.Frag} {H : Hp} {Q : VK}
theorem dpAll_map {α : Type} {f : α → V} {g : α → PyData} : ∀ {l : List α}, (∀ a ∈ l, Dp K H (f a) (g a)) → DpAll K H (l.map f) (l.map g)
  | [], _ => .nil
  | a :: l, h => .cons (h a (List.mem_cons_self ..)) (dpAll_map fun x hx => h x (List.mem_cons_of_mem _ hx))
/-- a list against the empty one written -/
theorem w_neNil {α : Type} {l e : Addr} {xs : List α} {f : α → V} {g : α → PyData} {n : Nat} (hl : SqL K H l (xs.map f)) (he : SqL K H e []) (hd : ∀ a ∈ xs, Dp K H (f a) (g a)) (hs : ∀ a ∈ xs, Shd n (g a)) (hn : n + 1 ≤ 64 := by decide) (q : Q (.bl (!xs.isEmpty)) H) : rNeD K (.ref l) (.ref e) H Q := by
  refine ⟨_, _, .lst hl (dpAll_map hd), .lst he .nil, (Shd.list (n := n) fun d hd => ?_).shaped hn, (Shd.list (n := 0) fun d hd => by cases hd).shaped, ?_⟩
  · obtain ⟨a, ha, rfl⟩ := List.mem_map.mp hd
    exact hs a ha
  · cases xs <;> simpa [PyData.eqv, PyData.eqvAll] using q
end
end Gw

/-! ### words -/
namespace Gw
open PySem PySem.Spec PyProof.Rows L2 RT
abbrev tx (w : List Nat) : Str := ⟨w.toArray⟩
theorem small_list : (Str.ofString "abcdefghijklmnopqrstuvwxyz").cps.toList = (List.range 26).map (97 + ·) := by decide +kernel
theorem great_list : (Str.ofString "ABCDEFGHIJKLMNOPQRSTUVWXYZ").cps.toList = (List.range 26).map (65 + ·) := by decide +kernel
theorem small_len : (Str.ofString "abcdefghijklmnopqrstuvwxyz").length = 26 := by decide +kernel
theorem great_len : (Str.ofString "ABCDEFGHIJKLMNOPQRSTUVWXYZ").length = 26 := by decide +kernel
theorem mem_small {c : Nat} : c ∈ (Str.ofString "abcdefghijklmnopqrstuvwxyz").cps.toList ↔ 97 ≤ c ∧ c ≤ 122 := by
  rw [small_list, List.mem_map]
  constructor
  · rintro ⟨a, h, rfl⟩
    have := List.mem_range.mp h
    omega
  · rintro ⟨h1, h2⟩
    exact ⟨c - 97, List.mem_range.mpr (by omega), by omega⟩
theorem mem_great {c : Nat} : c ∈ (Str.ofString "ABCDEFGHIJKLMNOPQRSTUVWXYZ").cps.toList ↔ 65 ≤ c ∧ c ≤ 90 := by
  rw [great_list, List.mem_map]
  constructor
  · rintro ⟨a, h, rfl⟩
    have := List.mem_range.mp h
    omega
  · rintro ⟨h1, h2⟩
    exact ⟨c - 65, List.mem_range.mpr (by omega), by omega⟩
theorem occ_small : ∀ i, i < 26 → Builtin.Str.occurrences (Str.ofString "abcdefghijklmnopqrstuvwxyz") ⟨#[97 + i]⟩ 0 (Str.ofString "abcdefghijklmnopqrstuvwxyz").length 1 = [i] := by decide +kernel
theorem occ_great : ∀ i, i < 26 → Builtin.Str.occurrences (Str.ofString "ABCDEFGHIJKLMNOPQRSTUVWXYZ") ⟨#[65 + i]⟩ 0 (Str.ofString "ABCDEFGHIJKLMNOPQRSTUVWXYZ").length 1 = [i] := by decide +kernel
theorem at_small {i : Nat} (h : i < 26) : atI (Str.ofString "abcdefghijklmnopqrstuvwxyz").cps.toList ((i : Nat) : Int) = some (97 + i) := by
  refine atI_nat ?_
  rw [small_list, List.getElem?_map, List.getElem?_range h]
  rfl
theorem at_great {i : Nat} (h : i < 26) : atI (Str.ofString "ABCDEFGHIJKLMNOPQRSTUVWXYZ").cps.toList ((i : Nat) : Int) = some (65 + i) := by
  refine atI_nat ?_
  rw [great_list, List.getElem?_map, List.getElem?_range h]
  rfl
section
variable {P : Program} {w : World} {K : PySem.W.Frag} {mg : Str → Option Value} {base : Heap}
abbrev N_back_of : List Str := ["letter"]
theorem sc_back_of : FnScope ["letter"] ["letter"] (defScope s_back_of) := ⟨rfl, rfl, rfl, by decide +kernel, rfl, by decide +kernel, by decide +kernel⟩
theorem b_back_of : BindsT "back_of" s_back_of ["letter"] := fun _ _ _ _ _ _ us hl => match us, hl with | [_], _ => rfl
def sp_back_of : Sp := fun vs H Q _ => ∃ c : Nat, vs = [.str (sg c)] ∧ isL c = true ∧ Ret H Q fun v _ => v = .str (sg (bk c))
theorem ok_back_of (T : Tx K mg) : Ok P w K mg base 1 "back_of" ["letter"] sp_back_of := by
  refine Ok.of T.f_back_of sc_back_of b_back_of (fun vs H Q E h => by obtain ⟨a, rfl, _⟩ := h; rfl) (fun cdv A outer s H vs Q E hr h => ?_)
  obtain ⟨c, rfl, hc, q⟩ := h
  refine ⟨_, (pss_cons (ps_if (pt_cmpR op_in_sign (pv 0) (pe_txt (by rfl) T.v_SMALL) (by rfl)) (pss_one (ps_ret (pe_ix ix_str (pe_txt (by rfl) T.v_GREAT) (pe_bm PySem.F.plainAttrs_str PySem.F.slot_str_index PySem.F.type_str_index mt_sindex (pe_txt (by rfl) T.v_SMALL) (pa_cons (pv 0) pa_nil)) (fun _ _ => rfl)))) pss_nil)
      (pss_one (ps_ret (pe_ix ix_str (pe_txt (by rfl) T.v_SMALL) (pe_bm PySem.F.plainAttrs_str PySem.F.slot_str_index PySem.F.type_str_index mt_sindex (pe_txt (by rfl) T.v_GREAT) (pa_cons (pv 0) pa_nil)) (fun _ _ => rfl))))), ?_⟩
  walk_at "gw"
  rcases isL_cases hc with ⟨i, hi, rfl⟩ | ⟨i, hi, rfl⟩
  · rw [if_pos (decide_eq_true (mem_small.mpr (by omega)))]
    walk_at "gw"
    refine ⟨_, _, _, _, rfl, rfl, occ_small i hi, ?_⟩
    refine w_ixS (by rw [great_len]; decide) (at_great hi) ?_
    refine q _ _ (L2.Same.refl _) ?_
    rw [show bk (97 + i) = 65 + i by unfold bk; rw [if_pos (by omega)]; omega]
  · rw [if_neg (fun e => by have := mem_small.mp (of_decide_eq_true e); omega)]
    walk_at "gw"
    refine ⟨_, _, _, _, rfl, rfl, occ_great i hi, ?_⟩
    refine w_ixS (by rw [small_len]; decide) (at_small hi) ?_
    refine q _ _ (L2.Same.refl _) ?_
    rw [show bk (65 + i) = 97 + i by unfold bk; rw [if_neg (by omega)]; omega]

abbrev sgs (w : List Nat) : List V := w.map fun c => V.str (sg c)
theorem seqs_tx {w : List Nat} : Seqs (Its (tx w)) (fun _ => True) w (fun c x _ => x = .str (sg c)) := seqs_str (z := tx w)
theorem join_sgs (u : List Nat) : Txt.join (Str.ofString "") (u.map sg) = tx u := by
  show Builtin.Str.glued (Str.ofString "") (u.map sg) = tx u
  rw [PySem.StrLaws.glued_eq_join]
  induction u with
  | nil => rfl
  | cons c r ih =>
    cases r with
    | nil => rfl
    | cons d r =>
      have e : Str.join (Str.ofString "") ((c :: d :: r).map sg) = sg c ++ Str.ofString "" ++ Str.join (Str.ofString "") ((d :: r).map sg) := rfl
      rw [e, ih]
      exact Str.ext' (by simp [Str.cps_append, show (Str.ofString "").cps = #[] by decide +kernel])
theorem sum_sgs (u : List Nat) : ((u.map sg).map (·.length)).sum = u.length := by
  induction u with
  | nil => rfl
  | cons c r ih =>
    rw [List.map_cons, List.map_cons, List.sum_cons, ih, List.length_cons]
    show 1 + r.length = r.length + 1
    omega
abbrev N_shortened : List Str := ["word", "kept", "letter"]
theorem sc_shortened : FnScope ["word", "kept", "letter"] ["word"] (defScope s_shortened) := ⟨rfl, rfl, rfl, by decide +kernel, rfl, by decide +kernel, by decide +kernel⟩
theorem b_shortened : BindsT "shortened" s_shortened ["word"] := fun _ _ _ _ _ _ us hl => match us, hl with | [_], _ => rfl
def sp_shortened : Sp := fun vs H Q _ => ∃ u : List Nat, vs = [.str (tx u)] ∧ (∀ c ∈ u, isL c = true) ∧ u.length ≤ 100000 ∧ Ret H Q fun v _ => v = .str (tx (sh u))
theorem ok_shortened (T : Tx K mg) (G_back_of : Ok P w K mg base 1 "back_of" ["letter"] sp_back_of) : Ok P w K mg base 2 "shortened" ["word"] sp_shortened := by
  refine Ok.of T.f_shortened sc_shortened b_shortened (fun vs H Q E h => by obtain ⟨a, rfl, _⟩ := h; rfl) (fun cdv A outer s H vs Q E hr h => ?_)
  obtain ⟨u, rfl, hw, hl, q⟩ := h
  refine ⟨_, (pss_cons (ps_set (i := 1) sc_shortened.nd rfl (.inl rfl) (pe_lstN pa_nil))
      (pss_cons (ps_for PassesOwn.never rfl (pi_str (pv 0)) (pg_name (i := 2) sc_shortened.nd rfl (.inl rfl)) (pss_one (ps_if (PW.pt (pw_and (pt_cmpR op_gt (pe_callB call_len_seq (by rfl) T.n_len (by decide +kernel) (pa_cons (pv 1) pa_nil)) pe_int (nomark _)) (pw_and1 (pt_cmpR op_eq (pe_ix ix_list (pv 1) (pe_un un_neg pe_int) (fun _ _ => rfl)) (pe_g G_back_of (hr.mono (by decide)) (by rfl) (pa_cons (pv 2) pa_nil)) (nomark _))))) (pss_one (ps_expr (pe_bm0 PySem.F.plainAttrs_list PySem.F.slot_list_pop PySem.F.type_list_pop mt_popN (pv 1)))) (pss_one (ps_expr (pe_bm PySem.F.plainAttrs_list PySem.F.slot_list_append PySem.F.type_list_append mt_appN (pv 1) (pa_cons (pv 2) pa_nil)))))))
      (pss_one (ps_ret (pe_join pe_str (pv 1)))))), ?_⟩
  walk_at "gw"
  refine sz_and (Nat.zero_le _) fun p H1 n1 => ?_
  walk_at "gw"
  refine forS (bs := u) seqs_tx (fun pre σ' H' => ∃ y, σ' = [some (.str (tx u)), some (.ref p), y] ∧ Ex H H' ∧ H' p = some (.lst (sgs (sh pre)))) ⟨_, rfl, n1.ex, n1.at_⟩ (fun _ _ _ _ => trivial) ?_ ?_
  · rintro pre c post x σ' H2 H3 e ⟨y, rfl, ex, hp⟩ e3 rfl
    have hp3 := e3 _ _ hp
    have hc : isL c = true := hw c (by rw [e]; simp)
    have hlen : (sh pre).length ≤ 100000 := by
      have h1 := sh_len pre
      have h2 := congrArg List.length e
      rw [List.length_append] at h2
      omega
    rw [sh_snoc]
    walk_at "gw"
    refine ex_lenL (sqL_of hp3) ?_
    walk_at "gw"
    rcases list_end (sh pre) with ek | ⟨k, d, ek⟩
    · rw [ek] at hp3 ⊢
      rw [if_neg (by decide), if_neg (by decide)]
      walk_at "gw"
      refine w_app hp3 (by decide) fun H4 c4 => ?_
      walk_at "gw"
      refine ⟨_, rfl, c4.ex (ex.trans e3) n1.no, ?_⟩
      rw [c4.at_]
      rfl
    · have hd : isL d = true := sh_AL (w := pre) (fun c h => hw c (by rw [e]; simp [h])) d (by rw [ek]; simp)
      rw [ek] at hp3 hlen ⊢
      rw [if_pos (by simp)]
      walk_at "gw"
      refine w_ixL (sqL_of hp3) (v := .str (sg d)) (by simp only [sgs, List.map_append]; exact atI_last _ _) ?_
      walk_at "gw"
      refine ⟨c, rfl, hc, fun v H4 e4 ev => ?_⟩
      subst ev
      have hp4 := e4 _ _ hp3
      walk_at "gw"
      by_cases hcd : d = bk c
      · rw [if_pos (by rw [hcd]; exact decide_eq_true rfl)]
        walk_at "gw"
        simp only [sgs, List.map_append] at hp4
        refine w_pop hp4 fun H5 c5 => ?_
        walk_at "gw"
        refine ⟨_, rfl, c5.ex ((ex.trans e3).trans e4) n1.no, ?_⟩
        rw [c5.at_, shSt, if_pos (by rw [hcd]; simp), List.dropLast_concat]
      · rw [if_neg (fun z => hcd (by
          have z1 := of_decide_eq_true z
          cases z1
          rfl))]
        walk_at "gw"
        refine w_app hp4 (by simp only [List.length_map]; omega) fun H5 c5 => ?_
        walk_at "gw"
        refine ⟨_, rfl, c5.ex ((ex.trans e3).trans e4) n1.no, ?_⟩
        rw [c5.at_, shSt, if_neg (by simpa using hcd)]
        simp only [sgs, List.map_append]
        rfl
  · rintro σ' H2 ⟨y, rfl, ex, hp⟩
    walk_at "gw"
    refine ⟨_, _, sh u |>.map sg, rfl, rfl, .inl (sqL_of ?_), ?_, ?_⟩
    · rw [hp, List.map_map]
      rfl
    · rw [sum_sgs, show (Str.ofString "").length = 0 by decide +kernel, Nat.mul_zero]
      have := sh_len u
      omega
    · rw [join_sgs]
      exact q _ _ ex rfl

/-! what is a word -/
/-- v is the word u, or (none) no word -/
def IsW (K : PySem.W.Frag) (H : Hp) (v : V) (r : Option (List Nat)) : Prop :=
  (∃ z : List Nat, v = .str (tx z) ∧ z.length ≤ 100000 ∧ ((AL z ∧ r = some z) ∨ ((∃ c ∈ z, isL c = false) ∧ r = none))) ∨
  (r = none ∧ ∃ t, TyX K H v t ∧ PySem.W.kitOne K t (.type "str") = some false)
theorem IsW.word {H : Hp} {u : List Nat} (h : AL u) (l : u.length ≤ 100000) : IsW K H (.str (tx u)) (some u) := .inl ⟨u, rfl, l, .inl ⟨h, rfl⟩⟩
theorem IsW.some_of {H : Hp} {v : V} {u : List Nat} (h : IsW K H v (some u)) : v = .str (tx u) ∧ AL u ∧ u.length ≤ 100000 := by
  rcases h with ⟨z, rfl, l, ⟨h, e⟩ | ⟨_, e⟩⟩ | ⟨e, _⟩
  · cases e
    exact ⟨rfl, h, l⟩
  · cases e
  · cases e
theorem TyX.mono {H H' : Hp} {v : V} {t : Value} (e : Ex H H') (h : TyX K H v t) : TyX K H' v t := by
  cases h with
  | base h =>
    cases h with
    | non => exact .base .non
    | bl x => exact .base (.bl x)
    | int i => exact .base (.int i)
    | str x => exact .base (.str x)
    | flt x => exact .base (.flt x)
    | lst h => exact .base (.lst (e _ _ h))
    | frz h => exact .base (.frz (e _ _ h))
    | tup h => exact .base (.tup (e _ _ h))
    | dK h => exact .base (.dK (e _ _ h))
    | dT h => exact .base (.dT (e _ _ h))
    | ins h a b c d f => exact .base (.ins (e _ _ h) a b c d f)
  | byt b => exact .byt b
  | set h => exact .set (e _ _ h)
  | kList a b => exact .kList a b
  | kTuple a b => exact .kTuple a b
  | kDict a b => exact .kDict a b
  | fTuple h => exact .fTuple (e _ _ h)
  | fDict h => exact .fDict (e _ _ h)
theorem IsW.mono {H H' : Hp} {v : V} {r : Option (List Nat)} (h : IsW K H v r) (e : Ex H H') : IsW K H' v r := by
  rcases h with h | ⟨h1, t, h2, h3⟩
  · exact .inl h
  · exact .inr ⟨h1, t, TyX.mono e h2, h3⟩
theorem tx_app (u v : List Nat) : tx u ++ tx v = tx (u ++ v) := Str.ext' (by simp [Str.cps_append])
theorem isL_test (c : Nat) : (decide (c ∈ (Str.ofString "abcdefghijklmnopqrstuvwxyz").cps.toList) || decide (c ∈ (Str.ofString "ABCDEFGHIJKLMNOPQRSTUVWXYZ").cps.toList)) = isL c := by
  rw [Bool.eq_iff_iff, isL_iff, Bool.or_eq_true, decide_eq_true_eq, decide_eq_true_eq, mem_small, mem_great]
theorem all_isL {z : List Nat} {r : Option (List Nat)} (h : (AL z ∧ r = some z) ∨ ((∃ c ∈ z, isL c = false) ∧ r = none)) : (z.map isL).all id = r.isSome := by
  rcases h with ⟨h, rfl⟩ | ⟨⟨c, hc, e⟩, rfl⟩
  · exact List.all_eq_true.mpr fun b hb => by
      obtain ⟨c, hc, rfl⟩ := List.mem_map.mp hb
      exact h c hc
  · cases q : (z.map isL).all id with
    | false => rfl
    | true =>
      have := List.all_eq_true.mp q (isL c) (List.mem_map.mpr ⟨c, hc, rfl⟩)
      rw [e] at this
      cases this
abbrev N_is_word : List Str := ["thing", "sign"]
theorem sc_is_word : FnScope ["thing", "sign"] ["thing"] (defScope s_is_word) := ⟨rfl, rfl, rfl, by decide +kernel, rfl, by decide +kernel, by decide +kernel⟩
theorem b_is_word : BindsT "is_word" s_is_word ["thing"] := fun _ _ _ _ _ _ us hl => match us, hl with | [_], _ => rfl
def sp_is_word (K : PySem.W.Frag) : Sp := fun vs H Q _ => ∃ p : V × Option (List Nat), vs = [p.1] ∧ IsW K H p.1 p.2 ∧ Ret H Q fun v _ => v = .bl p.2.isSome
theorem ok_is_word (T : Tx K mg) : Ok P w K mg base 1 "is_word" ["thing"] (sp_is_word K) := by
  refine Ok.of T.f_is_word sc_is_word b_is_word (fun vs H Q E h => by obtain ⟨a, rfl, _⟩ := h; rfl) (fun cdv A outer s H vs Q E hr h => ?_)
  obtain ⟨⟨v, r⟩, rfl, hv, q⟩ := h
  refine ⟨_, (pss_one (ps_ret (pe_and (pe_callB call_isi (by rfl) T.n_isinstance (by decide +kernel) (pa_cons (pv 0) (pa_cons (pe_bltn (v := .ty "str") (by rfl) T.n_str (by decide +kernel) rfl) pa_nil))) (pe_one (pe_callB (cr_all rfl) (by rfl) T.n_all (by decide +kernel) (pa_cons (pe_lc (own := [("sign", 1)]) (g := gName 1) (tt := tYes) rfl sc_is_word.nd (pi_str (pv 0)) (blkOk_by (N := N_is_word) (sc := defScope s_is_word) (by decide +kernel)) (fun _ _ _ _ _ => (pg_name (i := 1) sc_is_word.nd rfl (.inl rfl))) (fun _ _ _ _ _ => pts_nil) (fun _ _ _ _ _ => (pe_or (pe_cmpR op_in_sign (pv 1) (pe_txt (by rfl) T.v_SMALL) (by rfl)) (pe_one (pe_cmpR op_in_sign (pv 1) (pe_txt (by rfl) T.v_GREAT) (by rfl)))))) pa_nil)))))), ?_⟩
  walk_at "gw"
  rcases hv with ⟨z, rfl, hl, hz⟩ | ⟨rfl, t, ty, kt⟩
  · refine ⟨_, _, _, _, true, rfl, .ty "str", .base (.str (tx z)), kit_ty (by decide +kernel), ?_⟩
    walk_at "gw"
    refine lcN (bs := z) seqs_tx (fun c v _ => v = .bl (isL c)) (fun _ _ _ _ _ h => h) (fun _ _ => trivial) (by omega) (fun _ => rfl) ?_ (fun _ _ _ _ _ h => h) ?_
    · rintro c x H' hc e rfl Q' q'
      walk_at "gw"
      have e1 := isL_test c
      cases h1 : decide (c ∈ (Str.ofString "abcdefghijklmnopqrstuvwxyz").cps.toList) with
      | true =>
        rw [h1, Bool.true_or] at e1
        walk_at "gw"
        exact q' _ _ (L2.Same.refl _) (by rw [e1])
      | false =>
        rw [h1, Bool.false_or] at e1
        walk_at "gw"
        exact q' _ _ (L2.Same.refl _) (by rw [e1])
    · intro l H' ys hn ex hy py
      walk_at "gw"
      have e2 := paired_eq py
      refine ⟨l, z.map isL, rfl, sqL_of (by rw [hy, e2, List.map_map]; rfl), ?_⟩
      rw [all_isL hz]
      exact q _ _ ex rfl
  · refine ⟨_, _, _, _, false, rfl, .ty "str", ty, kt, ?_⟩
    walk_at "gw"
    exact q _ _ (L2.Same.refl _) rfl
abbrev N_need_word : List Str := ["thing"]
theorem sc_need_word : FnScope ["thing"] ["thing"] (defScope s_need_word) := ⟨rfl, rfl, rfl, by decide +kernel, rfl, by decide +kernel, by decide +kernel⟩
theorem b_need_word : BindsT "need_word" s_need_word ["thing"] := fun _ _ _ _ _ _ us hl => match us, hl with | [_], _ => rfl
/-- a word is refused -/
abbrev NoWord (K : PySem.W.Frag) (H : Hp) (E : XK) : Prop := ∀ H', Ex H H' → E (.ref (He.ga K "BadWord")) none H'
def sp_need_word (K : PySem.W.Frag) : Sp := fun vs H Q E => ∃ p : V × Option (List Nat), vs = [p.1] ∧ IsW K H p.1 p.2 ∧ (∀ u, p.2 = some u → Ret H Q fun v _ => v = .non) ∧ (p.2 = none → NoWord K H E)
theorem ok_need_word (T : Tx K mg) (G_is_word : Ok P w K mg base 1 "is_word" ["thing"] (sp_is_word K)) : Ok P w K mg base 2 "need_word" ["thing"] (sp_need_word K) := by
  refine Ok.ofX T.f_need_word sc_need_word b_need_word (fun vs H Q E h => by obtain ⟨a, rfl, _⟩ := h; rfl) (fun cdv A outer s H vs Q E hr h => ?_)
  obtain ⟨⟨v, r⟩, rfl, hv, q, qe⟩ := h
  refine ⟨_, (pss_one (ps_if (pt_not (pt_val (pe_g G_is_word (hr.mono (by decide)) (by rfl) (pa_cons (pv 0) pa_nil)))) (pss_one (ps_raise rfl (takes_of rfl rfl rfl rfl) (pmk_own PySem.F.excBase_ValueError T.x_BadWord.1 T.g_BadWord T.x_BadWord.2.1 (raises_own T.x_BadWord.2.2.1 T.x_BadWord.2.2.2) rfl))) pss_nil)), ?_⟩
  walk_at "gw"
  refine ⟨(v, r), rfl, hv, ?_⟩
  rintro _ H1 e1 rfl
  walk_at "gw"
  cases r with
  | none => exact qe rfl H1 e1
  | some u =>
    walk_at "gw"
    exact q u rfl _ _ e1 rfl
abbrev N_turned : List Str := ["word", "letter"]
theorem sc_turned : FnScope ["word", "letter"] ["word"] (defScope s_turned) := ⟨rfl, rfl, rfl, by decide +kernel, rfl, by decide +kernel, by decide +kernel⟩
theorem b_turned : BindsT "turned" s_turned ["word"] := fun _ _ _ _ _ _ us hl => match us, hl with | [_], _ => rfl
def sp_turned : Sp := fun vs H Q _ => ∃ u : List Nat, vs = [.str (tx u)] ∧ (∀ c ∈ u, isL c = true) ∧ u.length ≤ 100000 ∧ Ret H Q fun v _ => v = .str (tx (sh (rv u)))
theorem seqs_revtx {u : List Nat} : Seqs (Itrs (tx u)) (fun _ => True) u.reverse (fun c x _ => x = .str (sg c)) := seqs_revS (z := tx u)
theorem ok_turned (T : Tx K mg) (G_back_of : Ok P w K mg base 1 "back_of" ["letter"] sp_back_of) (G_shortened : Ok P w K mg base 2 "shortened" ["word"] sp_shortened) : Ok P w K mg base 3 "turned" ["word"] sp_turned := by
  refine Ok.of T.f_turned sc_turned b_turned (fun vs H Q E h => by obtain ⟨a, rfl, _⟩ := h; rfl) (fun cdv A outer s H vs Q E hr h => ?_)
  obtain ⟨u, rfl, hu, hl, q⟩ := h
  refine ⟨_, (pss_one (ps_ret (pe_g G_shortened (hr.mono (by decide)) (by rfl) (pa_cons (pe_join pe_str (pe_lc (own := [("letter", 1)]) (g := gName 1) (tt := tYes) rfl sc_turned.nd (pi_revS (by rfl) T.n_reversed (pv 0)) (blkOk_by (N := N_turned) (sc := defScope s_turned) (by decide +kernel)) (fun _ _ _ _ _ => (pg_name (i := 1) sc_turned.nd rfl (.inl rfl))) (fun _ _ _ _ _ => pts_nil) (fun _ _ _ _ _ => (pe_g G_back_of (hr.mono (by decide)) (by rfl) (pa_cons (pv 1) pa_nil))))) pa_nil)))), ?_⟩
  walk_at "gw"
  refine sz_and (by show u.length ≤ _; omega) ?_
  refine lcN (bs := u.reverse) seqs_revtx (fun c v _ => v = .str (sg (bk c))) (fun _ _ _ _ _ h => h) (fun _ _ => trivial) (by rw [List.length_reverse]; omega) (fun _ => rfl) ?_ (fun _ _ _ _ _ h => h) ?_
  · rintro c x H' hc e rfl Q' q'
    walk_at "gw"
    refine ⟨c, rfl, hu c (List.mem_reverse.mp hc), ?_⟩
    rintro _ H2 e2 rfl
    exact q' _ _ e2 rfl
  · intro l H' ys hn ex hy py
    walk_at "gw"
    have e2 := paired_eq py
    have e3 : ys = ((rv u).map sg).map V.str := by
      rw [e2, rv, List.map_map, List.map_map]
      rfl
    refine ⟨_, _, (rv u).map sg, rfl, rfl, .inl (sqL_of (by rw [hy, e3])), ?_, ?_⟩
    · rw [sum_sgs, show (Str.ofString "").length = 0 by decide +kernel, Nat.mul_zero, rv_len]
      omega
    · rw [join_sgs]
      walk_at "gw"
      refine ⟨rv u, rfl, AL.rv hu, by rw [rv_len]; exact hl, ?_⟩
      rintro _ H3 e3 rfl
      exact q _ _ (ex.trans e3) rfl
/-! the words' own defs, as they are called -/
abbrev N_short : List Str := ["word"]
theorem sc_short : FnScope ["word"] ["word"] (defScope s_short) := ⟨rfl, rfl, rfl, by decide +kernel, rfl, by decide +kernel, by decide +kernel⟩
theorem b_short : BindsT "short" s_short ["word"] := fun _ _ _ _ _ _ us hl => match us, hl with | [_], _ => rfl
def sp_short (K : PySem.W.Frag) : Sp := fun vs H Q E => ∃ p : V × Option (List Nat), vs = [p.1] ∧ IsW K H p.1 p.2 ∧ (∀ u, p.2 = some u → Ret H Q fun v _ => v = .str (tx (sh u))) ∧ (p.2 = none → NoWord K H E)
theorem ok_short (T : Tx K mg) (G_need_word : Ok P w K mg base 2 "need_word" ["thing"] (sp_need_word K)) (G_shortened : Ok P w K mg base 2 "shortened" ["word"] sp_shortened) : Ok P w K mg base 3 "short" ["word"] (sp_short K) := by
  refine Ok.ofX T.f_short sc_short b_short (fun vs H Q E h => by obtain ⟨a, rfl, _⟩ := h; rfl) (fun cdv A outer s H vs Q E hr h => ?_)
  obtain ⟨⟨v, r⟩, rfl, hv, q, qe⟩ := h
  refine ⟨_, (pss_cons (ps_expr (pe_gx G_need_word (hr.mono (by decide)) (by rfl) (takes_of rfl rfl rfl rfl) (pa_cons (pv 0) pa_nil)))
      (pss_one (ps_ret (pe_g G_shortened (hr.mono (by decide)) (by rfl) (pa_cons (pv 0) pa_nil))))), ?_⟩
  walk_at "gw"
  refine ⟨(v, r), rfl, hv, ?_, fun er => qe er⟩
  rintro u rfl _ H1 e1 rfl
  obtain ⟨rfl, hu, hl⟩ : v = .str (tx u) ∧ AL u ∧ u.length ≤ 100000 := IsW.some_of hv
  walk_at "gw"
  refine ⟨u, rfl, hu, hl, ?_⟩
  rintro _ H2 e2 rfl
  exact q u rfl _ _ (e1.trans e2) rfl
abbrev N_back : List Str := ["word"]
theorem sc_back : FnScope ["word"] ["word"] (defScope s_back) := ⟨rfl, rfl, rfl, by decide +kernel, rfl, by decide +kernel, by decide +kernel⟩
theorem b_back : BindsT "back" s_back ["word"] := fun _ _ _ _ _ _ us hl => match us, hl with | [_], _ => rfl
def sp_back (K : PySem.W.Frag) : Sp := fun vs H Q E => ∃ p : V × Option (List Nat), vs = [p.1] ∧ IsW K H p.1 p.2 ∧ (∀ u, p.2 = some u → Ret H Q fun v _ => v = .str (tx (sh (rv u)))) ∧ (p.2 = none → NoWord K H E)
theorem ok_back (T : Tx K mg) (G_need_word : Ok P w K mg base 2 "need_word" ["thing"] (sp_need_word K)) (G_turned : Ok P w K mg base 3 "turned" ["word"] sp_turned) : Ok P w K mg base 4 "back" ["word"] (sp_back K) := by
  refine Ok.ofX T.f_back sc_back b_back (fun vs H Q E h => by obtain ⟨a, rfl, _⟩ := h; rfl) (fun cdv A outer s H vs Q E hr h => ?_)
  obtain ⟨⟨v, r⟩, rfl, hv, q, qe⟩ := h
  refine ⟨_, (pss_cons (ps_expr (pe_gx G_need_word (hr.mono (by decide)) (by rfl) (takes_of rfl rfl rfl rfl) (pa_cons (pv 0) pa_nil)))
      (pss_one (ps_ret (pe_g G_turned (hr.mono (by decide)) (by rfl) (pa_cons (pv 0) pa_nil))))), ?_⟩
  walk_at "gw"
  refine ⟨(v, r), rfl, hv, ?_, fun er => qe er⟩
  rintro u rfl _ H1 e1 rfl
  obtain ⟨rfl, hu, hl⟩ : v = .str (tx u) ∧ AL u ∧ u.length ≤ 100000 := IsW.some_of hv
  walk_at "gw"
  refine ⟨u, rfl, hu, hl, ?_⟩
  rintro _ H2 e2 rfl
  exact q u rfl _ _ (e1.trans e2) rfl
abbrev N_times : List Str := ["one", "other"]
theorem sc_times : FnScope ["one", "other"] ["one", "other"] (defScope s_times) := ⟨rfl, rfl, rfl, by decide +kernel, rfl, by decide +kernel, by decide +kernel⟩
theorem b_times : BindsT "times" s_times ["one", "other"] := fun _ _ _ _ _ _ us hl => match us, hl with | [_, _], _ => rfl
def sp_times (K : PySem.W.Frag) : Sp := fun vs H Q E => ∃ p : V × Option (List Nat) × V × Option (List Nat), vs = [p.1, p.2.2.1] ∧ IsW K H p.1 p.2.1 ∧ IsW K H p.2.2.1 p.2.2.2 ∧
  (∀ u v, p.2.1 = some u → p.2.2.2 = some v → u.length + v.length ≤ 100000 ∧ Ret H Q fun x _ => x = .str (tx (sh (u ++ v)))) ∧ (p.2.1 = none ∨ p.2.2.2 = none → NoWord K H E)
theorem ok_times (T : Tx K mg) (G_need_word : Ok P w K mg base 2 "need_word" ["thing"] (sp_need_word K)) (G_shortened : Ok P w K mg base 2 "shortened" ["word"] sp_shortened) : Ok P w K mg base 3 "times" ["one", "other"] (sp_times K) := by
  refine Ok.ofX T.f_times sc_times b_times (fun vs H Q E h => by obtain ⟨a, rfl, _⟩ := h; rfl) (fun cdv A outer s H vs Q E hr h => ?_)
  obtain ⟨⟨v, r, v', r'⟩, rfl, hv, hv', q, qe⟩ := h
  refine ⟨_, (pss_cons (ps_expr (pe_gx G_need_word (hr.mono (by decide)) (by rfl) (takes_of rfl rfl rfl rfl) (pa_cons (pv 0) pa_nil)))
      (pss_cons (ps_expr (pe_gx G_need_word (hr.mono (by decide)) (by rfl) (takes_of rfl rfl rfl rfl) (pa_cons (pv 1) pa_nil)))
      (pss_one (ps_ret (pe_g G_shortened (hr.mono (by decide)) (by rfl) (pa_cons (pe_op op_add_str (pv 0) (pv 1)) pa_nil)))))), ?_⟩
  walk_at "gw"
  refine ⟨(v, r), rfl, hv, ?_, fun er => qe (.inl er)⟩
  rintro u er _ H1 e1 rfl
  obtain rfl : r = some u := er
  obtain ⟨rfl, hu, hl⟩ : v = .str (tx u) ∧ AL u ∧ u.length ≤ 100000 := IsW.some_of hv
  walk_at "gw"
  refine ⟨(v', r'), rfl, hv'.mono e1, ?_, fun er' H' e' => qe (.inr er') H' (e1.trans e')⟩
  rintro u' er' _ H2 e2 rfl
  obtain rfl : r' = some u' := er'
  obtain ⟨rfl, hu', hl'⟩ : v' = .str (tx u') ∧ AL u' ∧ u'.length ≤ 100000 := IsW.some_of hv'
  obtain ⟨hs, qr⟩ := q u u' rfl rfl
  walk_at "gw"
  refine ⟨line_le (by show u.length + u'.length ≤ _; omega), ?_⟩
  walk_at "gw"
  refine ⟨u ++ u', by rw [tx_app]; rfl, AL.app hu hu', by rw [List.length_append]; exact hs, ?_⟩
  rintro _ H3 e3 rfl
  exact qr _ _ ((e1.trans e2).trans e3) rfl
/-! calls, in short -/
section
variable {H0 H : Hp} {Q : VK} {E : XK} {u v : List Nat}
theorem c_isword {x : V} {r : Option (List Nat)} (e : Ex H0 H) (h : IsW K H x r) (q : ∀ H', Ex H0 H' → Q (.bl r.isSome) H') : sp_is_word K [x] H Q E0 := ⟨(x, r), rfl, h, fun _ H' e' z => by subst z; exact q H' (e.trans e')⟩
theorem c_short (e : Ex H0 H) (hu : AL u) (hl : u.length ≤ 100000) (q : ∀ H', Ex H0 H' → Q (.str (tx (sh u))) H') : sp_short K [.str (tx u)] H Q E :=
  ⟨(_, some u), rfl, .word hu hl, fun v ev _ H' e' z => by cases ev; subst z; exact q H' (e.trans e'), fun z => nomatch z⟩
theorem c_back (e : Ex H0 H) (hu : AL u) (hl : u.length ≤ 100000) (q : ∀ H', Ex H0 H' → Q (.str (tx (sh (rv u)))) H') : sp_back K [.str (tx u)] H Q E :=
  ⟨(_, some u), rfl, .word hu hl, fun v ev _ H' e' z => by cases ev; subst z; exact q H' (e.trans e'), fun z => nomatch z⟩
theorem c_times (e : Ex H0 H) (hu : AL u) (hl : u.length ≤ 50000) (hv : AL v) (hk : v.length ≤ 50000) (q : ∀ H', Ex H0 H' → Q (.str (tx (sh (u ++ v)))) H') : sp_times K [.str (tx u), .str (tx v)] H Q E :=
  ⟨(_, some u, _, some v), rfl, .word hu (by omega), .word hv (by omega), fun a b ea eb => by cases ea; cases eb; exact ⟨by omega, fun _ H' e' z => by subst z; exact q H' (e.trans e')⟩, fun z => by rcases z with z | z <;> cases z⟩
theorem c_shortened (e : Ex H0 H) (hu : AL u) (hl : u.length ≤ 100000) (q : ∀ H', Ex H0 H' → Q (.str (tx (sh u))) H') : sp_shortened [.str (tx u)] H Q E0 := ⟨u, rfl, hu, hl, fun _ H' e' z => by subst z; exact q H' (e.trans e')⟩
theorem c_turned (e : Ex H0 H) (hu : AL u) (hl : u.length ≤ 100000) (q : ∀ H', Ex H0 H' → Q (.str (tx (sh (rv u)))) H') : sp_turned [.str (tx u)] H Q E0 := ⟨u, rfl, hu, hl, fun _ H' e' z => by subst z; exact q H' (e.trans e')⟩
theorem c_back_of {c : Nat} (e : Ex H0 H) (hc : isL c = true) (q : ∀ H', Ex H0 H' → Q (.str (sg (bk c))) H') : sp_back_of [.str (sg c)] H Q E0 := ⟨c, rfl, hc, fun _ H' e' z => by subst z; exact q H' (e.trans e')⟩
/-- no words -/
theorem IsW.bad {z : List Nat} {c : Nat} (hl : z.length ≤ 100000) (hc : c ∈ z) (h : isL c = false) : IsW K H (.str (tx z)) none := .inl ⟨z, rfl, hl, .inr ⟨⟨c, hc, h⟩, rfl⟩⟩
theorem IsW.ty {x : V} {n : String} (h : TyX K H x (.type n)) (k : PySem.W.kitOne K (.type n) (.type "str") = some false) : IsW K H x none := .inr ⟨rfl, _, h, k⟩
end
end
end Gw

/-! ### the laws' common helpers -/
namespace Gw
open PySem PySem.Spec PyProof.Rows L2 RT
section
variable {P : Program} {w : World} {K : PySem.W.Frag} {mg : Str → Option Value} {base : Heap}
theorem at_ints {ns : List Int} {k : Nat} (h : k < ns.length) : atI (ns.map V.int) ((k : Nat) : Int) = some (.int (ns.getD k 0)) := by
  refine atI_nat ?_
  rw [List.getElem?_map, List.getD_eq_getElem?_getD, List.getElem?_eq_getElem h]
  rfl
abbrev N__law_cell : List Str := ["_law_script", "_law_k"]
theorem sc__law_cell : FnScope ["_law_script", "_law_k"] ["_law_script", "_law_k"] (defScope s__law_cell) := ⟨rfl, rfl, rfl, by decide +kernel, rfl, by decide +kernel, by decide +kernel⟩
theorem b__law_cell : BindsT "_law_cell" s__law_cell ["_law_script", "_law_k"] := fun _ _ _ _ _ _ us hl => match us, hl with | [_, _], _ => rfl
def sp__law_cell (K : PySem.W.Frag) : Sp := fun vs H Q _ => ∃ p : Addr × List Int × Nat, vs = [.ref p.1, .int ((p.2.2 : Nat) : Int)] ∧ SqL K H p.1 (p.2.1.map V.int) ∧ Ret H Q fun v _ => v = .int (p.2.1.getD p.2.2 0)
theorem ok__law_cell (T : Tx K mg) : Ok P w K mg base 1 "_law_cell" ["_law_script", "_law_k"] (sp__law_cell K) := by
  refine Ok.of T.f__law_cell sc__law_cell b__law_cell (fun vs H Q E h => by obtain ⟨a, rfl, _⟩ := h; rfl) (fun cdv A outer s H vs Q E hr h => ?_)
  obtain ⟨⟨a, ns, k⟩, rfl, hS, q⟩ := h
  refine ⟨_, (pss_cons (ps_if (pt_cmpR op_lt (pv 1) (pe_callB call_len_seq (by rfl) T.n_len (by decide +kernel) (pa_cons (pv 0) pa_nil)) (nomark _)) (pss_one (ps_ret (pe_ix ix_list (pv 0) (pv 1) (fun _ _ => rfl)))) pss_nil)
      (pss_one (ps_ret pe_int))), ?_⟩
  walk_at "gw"
  refine ex_lenL hS ?_
  walk_at "gw"
  by_cases hk : k < ns.length
  · rw [if_pos (by simp only [List.length_map]; exact decide_eq_true (by omega))]
    walk_at "gw"
    refine w_ixL hS (at_ints hk) ?_
    walk_at "gw"
    exact q _ _ (L2.Same.refl _) rfl
  · rw [if_neg (fun e => by have := of_decide_eq_true e; simp only [List.length_map] at this; omega)]
    walk_at "gw"
    refine q _ _ (L2.Same.refl _) ?_
    show V.int 0 = V.int (ns.getD k 0)
    rw [List.getD_eq_getElem?_getD, List.getElem?_eq_none (show ns.length ≤ k by omega)]
    rfl
abbrev N__law_mixed : List Str := ["_law_cell_here", "_law_k", "_law_number"]
theorem sc__law_mixed : FnScope ["_law_cell_here", "_law_k", "_law_number"] ["_law_cell_here", "_law_k"] (defScope s__law_mixed) := ⟨rfl, rfl, rfl, by decide +kernel, rfl, by decide +kernel, by decide +kernel⟩
theorem b__law_mixed : BindsT "_law_mixed" s__law_mixed ["_law_cell_here", "_law_k"] := fun _ _ _ _ _ _ us hl => match us, hl with | [_, _], _ => rfl
def mixed (c : Int) (k : Nat) : Int := (c % 2147483647 + 7919 * k * k + 31 * k) * 48271 % 2147483647 * (69621 + 2 * k) % 2147483629
theorem mixed_nn (c : Int) (k : Nat) : 0 ≤ mixed c k := Int.emod_nonneg _ (by decide)
def sp__law_mixed : Sp := fun vs H Q _ => ∃ p : Int × Nat, vs = [.int p.1, .int ((p.2 : Nat) : Int)] ∧ p.2 ≤ 1000000 ∧ Ret H Q fun v _ => v = .int (mixed p.1 p.2)
theorem ok__law_mixed (T : Tx K mg) : Ok P w K mg base 1 "_law_mixed" ["_law_cell_here", "_law_k"] sp__law_mixed := by
  refine Ok.of T.f__law_mixed sc__law_mixed b__law_mixed (fun vs H Q E h => by obtain ⟨a, rfl, _⟩ := h; rfl) (fun cdv A outer s H vs Q E hr h => ?_)
  obtain ⟨⟨c, k⟩, rfl, hk, q⟩ := h
  have hk : k ≤ 1000000 := hk
  refine ⟨_, (pss_cons (ps_set (i := 2) sc__law_mixed.nd rfl (.inl rfl) (pe_op op_mod (pe_op op_mul (pe_op op_add (pe_op op_add (pe_op op_mod (pv 0) pe_int) (pe_op op_mul (pe_op op_mul pe_int (pv 1)) (pv 1))) (pe_op op_mul pe_int (pv 1))) pe_int) pe_int))
      (pss_one (ps_ret (pe_op op_mod (pe_op op_mul (pv 2) (pe_op op_add pe_int (pe_op op_mul pe_int (pv 1)))) pe_int)))), ?_⟩
  walk_at "gw"
  exact q _ _ (L2.Same.refl _) rfl
abbrev N__law_letters : List Str := ["_law_cell_here", "_law_some", "_law_step", "_law_many", "_law_k"]
theorem sc__law_letters : FnScope ["_law_cell_here", "_law_some", "_law_step", "_law_many", "_law_k"] ["_law_cell_here"] (defScope s__law_letters) := ⟨rfl, rfl, rfl, by decide +kernel, rfl, by decide +kernel, by decide +kernel⟩
theorem b__law_letters : BindsT "_law_letters" s__law_letters ["_law_cell_here"] := fun _ _ _ _ _ _ us hl => match us, hl with | [_], _ => rfl
/-- letters of a law: one to eight small ones, unlike -/
structure Lets (ls : List Nat) : Prop where
  pos : 0 < ls.length
  few : ls.length ≤ 8
  sm : ∀ c ∈ ls, 97 ≤ c ∧ c ≤ 122
  nd : ls.Nodup
def steps8 : List Int := [1, 3, 5, 7, 9, 11, 15, 25]
theorem steps_nd : ∀ s ∈ steps8, ∀ i, i < 8 → ∀ j, j < 8 → (((i : Nat) : Int) * s - (j : Nat) * s) % 26 = 0 → i = j := by decide +kernel
theorem lets_of {c s : Int} {m : Nat} (hs : s ∈ steps8) (h1 : 0 < m) (h8 : m ≤ 8) : Lets ((List.range m).map fun k => 97 + ((c + (k : Nat) * s) % 26).toNat) where
  pos := by rw [List.length_map, List.length_range]; exact h1
  few := by rw [List.length_map, List.length_range]; exact h8
  sm := fun x hx => by
    obtain ⟨k, _, rfl⟩ := List.mem_map.mp hx
    have := Int.emod_lt_of_pos (c + (k : Nat) * s) (show (0 : Int) < 26 by decide)
    omega
  nd := by
    refine List.pairwise_map.mpr ?_
    refine (List.nodup_range (n := m)).imp_of_mem ?_
    intro i j hi hj hne e
    refine hne (steps_nd s hs i (by have := List.mem_range.mp hi; omega) j (by have := List.mem_range.mp hj; omega) ?_)
    have a1 := Int.emod_nonneg (c + (i : Nat) * s) (show (26 : Int) ≠ 0 by decide)
    have a2 := Int.emod_nonneg (c + (j : Nat) * s) (show (26 : Int) ≠ 0 by decide)
    have e2 : (c + (i : Nat) * s) % 26 = (c + (j : Nat) * s) % 26 := by omega
    have e3 := Int.emod_emod_of_dvd (c + (i : Nat) * s - (c + (j : Nat) * s)) (show (26 : Int) ∣ 26 from ⟨1, rfl⟩)
    have e4 : (c + (i : Nat) * s - (c + (j : Nat) * s)) % 26 = 0 := Int.emod_eq_emod_iff_emod_sub_eq_zero.mp e2
    rw [show c + (i : Nat) * s - (c + (j : Nat) * s) = (i : Nat) * s - (j : Nat) * s by omega] at e4
    exact e4
def sp__law_letters : Sp := fun vs H Q _ => ∃ c : Int, vs = [.int c] ∧ Ret H Q fun v H' => ∃ ls, Lets ls ∧ NewL H v H' (sgs ls)
theorem at_some {c : Int} : atI (Str.ofString "abcdefghijklmnopqrstuvwxyz").cps.toList (c % 26) = some (97 + (c % 26).toNat) := by
  have h0 := Int.emod_nonneg c (show (26 : Int) ≠ 0 by decide)
  have h1 := Int.emod_lt_of_pos c (show (0 : Int) < 26 by decide)
  have h2 := at_small (i := (c % 26).toNat) (by omega)
  rw [show (((c % 26).toNat : Nat) : Int) = c % 26 by omega] at h2
  exact h2
theorem ok__law_letters (T : Tx K mg) : Ok P w K mg base 1 "_law_letters" ["_law_cell_here"] sp__law_letters := by
  refine Ok.of T.f__law_letters sc__law_letters b__law_letters (fun vs H Q E h => by obtain ⟨a, rfl, _⟩ := h; rfl) (fun cdv A outer s H vs Q E hr h => ?_)
  obtain ⟨c, rfl, q⟩ := h
  refine ⟨_, (pss_cons (ps_set (i := 1) sc__law_letters.nd rfl (.inr rfl) pe_str)
      (pss_cons (ps_set (i := 2) sc__law_letters.nd rfl (.inr rfl) (pe_ix ix_list (pe_lstN (pa_cons pe_int (pa_cons pe_int (pa_cons pe_int (pa_cons pe_int (pa_cons pe_int (pa_cons pe_int (pa_cons pe_int (pa_cons pe_int pa_nil))))))))) (pe_op op_mod (pe_op op_fdiv (pv 0) pe_int) pe_int) (fun _ _ => rfl)))
      (pss_cons (ps_set (i := 3) sc__law_letters.nd rfl (.inl rfl) (pe_ix ix_list (pe_lstN (pa_cons pe_int (pa_cons pe_int (pa_cons pe_int (pa_cons pe_int (pa_cons (pe_op op_add pe_int (pe_op op_mod (pe_op op_fdiv (pv 0) pe_int) pe_int)) (pa_cons pe_int (pa_cons pe_int (pa_cons pe_int pa_nil))))))))) (pe_op op_mod (pe_op op_fdiv (pv 0) pe_int) pe_int) (fun _ _ => rfl)))
      (pss_one (ps_ret (pe_lc (own := [("_law_k", 4)]) (g := gName 4) (tt := tYes) rfl sc__law_letters.nd (pi_range1 (by rfl) T.n_range (pa_cons (pv 3) pa_nil)) (blkOk_by (N := N__law_letters) (sc := defScope s__law_letters) (by decide +kernel)) (fun _ _ _ _ _ => (pg_name (i := 4) sc__law_letters.nd rfl (.inl rfl))) (fun _ _ _ _ _ => pts_nil) (fun _ _ _ _ _ => (pe_ix ix_str (pv 1) (pe_op op_mod (pe_op op_add (pv 0) (pe_op op_mul (pv 4) (pv 2))) pe_int) (fun _ _ => rfl))))))))), ?_⟩
  walk_at "gw"
  refine sz_and (by decide) fun p H1 n1 => ?_
  walk_at "gw"
  have a0 := Int.emod_nonneg (c / 26) (show (8 : Int) ≠ 0 by decide)
  have a1 := Int.emod_lt_of_pos (c / 26) (show (0 : Int) < 8 by decide)
  obtain ⟨v, hv, hat⟩ := at_mem (xs := steps8.map V.int) (i := c / 26 % 8) a0 (by show _ < (8 : Int); exact a1)
  obtain ⟨st, hst, rfl⟩ := List.mem_map.mp hv
  refine w_ixL (sqL_of n1.at_) hat ?_
  walk_at "gw"
  refine sz_and (by show 8 ≤ 1000000; decide) fun p2 H2 n2 => ?_
  walk_at "gw"
  have b0 := Int.emod_nonneg (c / 208) (show (8 : Int) ≠ 0 by decide)
  have b1 := Int.emod_lt_of_pos (c / 208) (show (0 : Int) < 8 by decide)
  have c0 := Int.emod_nonneg (c / 1664) (show (5 : Int) ≠ 0 by decide)
  have c1 := Int.emod_lt_of_pos (c / 1664) (show (0 : Int) < 5 by decide)
  obtain ⟨v2, hv2, hat2⟩ := at_mem (xs := [V.int 2, .int 3, .int 2, .int 1, .int (4 + c / 1664 % 5), .int 3, .int 2, .int 8]) (i := c / 208 % 8) b0 (by show _ < (8 : Int); exact b1)
  obtain ⟨m, rfl, h1, h8⟩ : ∃ m : Nat, v2 = .int ((m : Nat) : Int) ∧ 0 < m ∧ m ≤ 8 := by
    simp only [List.mem_cons, List.not_mem_nil, or_false] at hv2
    rcases hv2 with e | e | e | e | e | e | e | e
    · exact ⟨2, e, by decide, by decide⟩
    · exact ⟨3, e, by decide, by decide⟩
    · exact ⟨2, e, by decide, by decide⟩
    · exact ⟨1, e, by decide, by decide⟩
    · exact ⟨(4 + c / 1664 % 5).toNat, by rw [e, show (((4 + c / 1664 % 5).toNat : Nat) : Int) = 4 + c / 1664 % 5 by omega], by omega, by omega⟩
    · exact ⟨3, e, by decide, by decide⟩
    · exact ⟨2, e, by decide, by decide⟩
    · exact ⟨8, e, by decide, by decide⟩
  refine w_ixL (sqL_of n2.at_) hat2 ?_
  walk_at "gw"
  refine ex_rng1 (n := m) (by omega) ?_
  refine lcN (bs := List.range m) seqs_rng (fun k v _ => v = .str (sg (97 + ((c + (k : Nat) * st) % 26).toNat))) (fun _ _ _ _ _ h => h) (fun _ _ => trivial) (by rw [List.length_range]; omega) (fun _ => rfl) ?_ (fun _ _ _ _ _ h => h) ?_
  · rintro k x H' hk e rfl Q' q'
    have hk := List.mem_range.mp hk
    rw [Int.zero_add]
    walk_at "gw"
    refine w_ixS (by rw [small_len]; decide) at_some ?_
    exact q' _ _ (L2.Same.refl _) rfl
  · intro l H' ys hn ex hy py
    have e2 := paired_eq py
    refine q _ _ ((n1.ex.trans n2.ex).trans ex) ⟨_, lets_of (c := c) hst h1 h8, l, rfl, (n1.ex.trans n2.ex).free hn, ?_⟩
    rw [hy, e2]
    simp only [sgs, List.map_map]
    rfl
abbrev N__law_back : List Str := ["_law_letter"]
theorem sc__law_back : FnScope ["_law_letter"] ["_law_letter"] (defScope s__law_back) := ⟨rfl, rfl, rfl, by decide +kernel, rfl, by decide +kernel, by decide +kernel⟩
theorem b__law_back : BindsT "_law_back" s__law_back ["_law_letter"] := fun _ _ _ _ _ _ us hl => match us, hl with | [_], _ => rfl
theorem lower_a : ∀ i, i < 26 → Txt.lower ⟨#[97 + i]⟩ = ⟨#[97 + i]⟩ := by decide +kernel
theorem lower_A : ∀ i, i < 26 → Txt.lower ⟨#[65 + i]⟩ = ⟨#[97 + i]⟩ := by decide +kernel
theorem upper_a : ∀ i, i < 26 → Txt.upper ⟨#[97 + i]⟩ = ⟨#[65 + i]⟩ := by decide +kernel
def sp__law_back : Sp := fun vs H Q _ => ∃ c : Nat, vs = [.str (sg c)] ∧ isL c = true ∧ Ret H Q fun v _ => v = .str (sg (bk c))
theorem sg_inj {a b : Nat} (h : V.str ⟨#[a]⟩ = V.str ⟨#[b]⟩) : a = b := by
  injection h with h
  injection h with h
  have := congrArg Array.toList h
  injection this
theorem ok__law_back (T : Tx K mg) : Ok P w K mg base 1 "_law_back" ["_law_letter"] sp__law_back := by
  refine Ok.of T.f__law_back sc__law_back b__law_back (fun vs H Q E h => by obtain ⟨a, rfl, _⟩ := h; rfl) (fun cdv A outer s H vs Q E hr h => ?_)
  obtain ⟨c, rfl, hc, q⟩ := h
  refine ⟨_, (pss_cons (ps_if (pt_cmpR op_eq (pv 0) (pe_lower (pv 0)) (nomark _)) (pss_one (ps_ret (pe_upper (pv 0)))) pss_nil)
      (pss_one (ps_ret (pe_lower (pv 0))))), ?_⟩
  walk_at "gw"
  rcases isL_cases hc with ⟨i, hi, rfl⟩ | ⟨i, hi, rfl⟩
  · refine ⟨rfl, (by show 1 ≤ 5592405; decide), ?_⟩
    rw [lower_a i hi]
    walk_at "gw"
    rw [if_pos (decide_eq_true rfl)]
    walk_at "gw"
    refine ⟨rfl, (by show 1 ≤ 5592405; decide), ?_⟩
    rw [upper_a i hi]
    refine q _ _ (L2.Same.refl _) ?_
    rw [show bk (97 + i) = 65 + i by unfold bk; rw [if_pos (by omega)]; omega]
  · refine ⟨rfl, (by show 1 ≤ 5592405; decide), ?_⟩
    rw [lower_A i hi]
    walk_at "gw"
    rw [if_neg (fun e => by have := sg_inj (of_decide_eq_true e); omega)]
    walk_at "gw"
    refine ⟨rfl, (by show 1 ≤ 5592405; decide), ?_⟩
    rw [lower_A i hi]
    refine q _ _ (L2.Same.refl _) ?_
    rw [show bk (65 + i) = 97 + i by unfold bk; rw [if_neg (by omega)]; omega]

/-- a letter's small one -/
def low (c : Nat) : Nat := if 97 ≤ c then c else c + 32
/-- a word of these letters -/
def OfL (ls : List Nat) (u : List Nat) : Prop := ∀ c ∈ u, isL c = true ∧ low c ∈ ls
theorem OfL.al {ls u : List Nat} (h : OfL ls u) : AL u := fun c hc => (h c hc).1
theorem OfL.app {ls u v : List Nat} (h : OfL ls u) (h' : OfL ls v) : OfL ls (u ++ v) := fun c hc => (List.mem_append.mp hc).elim (h c) (h' c)
theorem OfL.nil {ls : List Nat} : OfL ls [] := fun c hc => by cases hc
theorem OfL.one {ls : List Nat} {c : Nat} (h1 : isL c = true) (h2 : low c ∈ ls) : OfL ls [c] := fun d hd => by
  rw [List.mem_singleton.mp hd]
  exact ⟨h1, h2⟩
theorem at_sgs {ls : List Nat} {n : Int} (h : 0 < ls.length) : ∃ c ∈ ls, atI (sgs ls) (n % (ls.length : Int)) = some (.str (sg c)) := by
  have h0 := Int.emod_nonneg n (show (ls.length : Int) ≠ 0 by omega)
  have h1 := Int.emod_lt_of_pos n (show (0 : Int) < ls.length by omega)
  obtain ⟨v, hv, e⟩ := at_mem (xs := sgs ls) h0 (by simp only [List.length_map]; exact h1)
  obtain ⟨c, hc, rfl⟩ := List.mem_map.mp hv
  exact ⟨c, hc, e⟩
theorem seqs_rng0 {n : Nat} : Seqs (Itr 0 n) (fun _ => True) (List.range n) (fun i x _ => x = .int ((i : Nat) : Int)) where
  go := seqs_rng.go
  yld := fun i H x H' b h hb y => by
    obtain ⟨e1, e2⟩ := (seqs_rng (lo := 0)).yld i H x H' b h hb y
    exact ⟨e1, by rw [e2, Int.zero_add]⟩
  stop := seqs_rng.stop
theorem range_split {n : Nat} {pre post : List Nat} {k : Nat} (e : List.range n = pre ++ k :: post) : k = pre.length ∧ k < n := by
  have h1 : (List.range n)[pre.length]? = some k := by
    rw [e, List.getElem?_append_right (Nat.le_refl _)]
    simp
  obtain ⟨h2, h3⟩ := List.getElem?_eq_some_iff.mp h1
  rw [List.getElem_range] at h3
  rw [List.length_range] at h2
  exact ⟨h3.symm, by omega⟩
abbrev N__law_word : List Str := ["_law_cell_here", "_law_letters_here", "_law_size", "_law_word_here", "_law_k", "_law_number", "_law_letter"]
theorem sc__law_word : FnScope ["_law_cell_here", "_law_letters_here", "_law_size", "_law_word_here", "_law_k", "_law_number", "_law_letter"] ["_law_cell_here", "_law_letters_here", "_law_size"] (defScope s__law_word) := ⟨rfl, rfl, rfl, by decide +kernel, rfl, by decide +kernel, by decide +kernel⟩
theorem b__law_word : BindsT "_law_word" s__law_word ["_law_cell_here", "_law_letters_here", "_law_size"] := fun _ _ _ _ _ _ us hl => match us, hl with | [_, _, _], _ => rfl
def sp__law_word (K : PySem.W.Frag) : Sp := fun vs H Q _ => ∃ p : Int × Addr × List Nat × Nat, vs = [.int p.1, .ref p.2.1, .int ((p.2.2.2 : Nat) : Int)] ∧ SqL K H p.2.1 (sgs p.2.2.1) ∧ 0 < p.2.2.1.length ∧ (∀ c ∈ p.2.2.1, 97 ≤ c ∧ c ≤ 122) ∧ p.2.2.2 ≤ 1000 ∧
  Ret H Q fun v _ => ∃ u, v = .str (tx u) ∧ u.length = p.2.2.2 ∧ OfL p.2.2.1 u
theorem ok__law_word (T : Tx K mg) (G__law_mixed : Ok P w K mg base 1 "_law_mixed" ["_law_cell_here", "_law_k"] sp__law_mixed) : Ok P w K mg base 2 "_law_word" ["_law_cell_here", "_law_letters_here", "_law_size"] (sp__law_word K) := by
  refine Ok.of T.f__law_word sc__law_word b__law_word (fun vs H Q E h => by obtain ⟨a, rfl, _⟩ := h; rfl) (fun cdv A outer s H vs Q E hr h => ?_)
  obtain ⟨⟨c, l, ls, n⟩, rfl, hS, h0, hsm, hn, q⟩ := h
  have hS : SqL K H l (sgs ls) := hS
  have h0 : 0 < ls.length := h0
  have hsm : ∀ c ∈ ls, 97 ≤ c ∧ c ≤ 122 := hsm
  have hn : n ≤ 1000 := hn
  refine ⟨_, (pss_cons (ps_set (i := 3) sc__law_word.nd rfl (.inl rfl) pe_str)
      (pss_cons (ps_for PassesOwn.never rfl (pi_range1 (by rfl) T.n_range (pa_cons (pv 2) pa_nil)) (pg_name (i := 4) sc__law_word.nd rfl (.inl rfl)) (pss_cons (ps_set (i := 5) sc__law_word.nd rfl (.inl rfl) (pe_op op_fdiv (pe_g G__law_mixed (hr.mono (by decide)) (by rfl) (pa_cons (pv 0) (pa_cons (pv 4) pa_nil))) pe_int))
      (pss_cons (ps_set (i := 6) sc__law_word.nd rfl (.inl rfl) (pe_ix ix_list (pv 1) (pe_op op_mod (pv 5) (pe_callB call_len_seq (by rfl) T.n_len (by decide +kernel) (pa_cons (pv 1) pa_nil))) (fun _ _ => rfl)))
      (pss_one (ps_set (i := 3) sc__law_word.nd rfl (.inl rfl) (pe_op op_add_str (pv 3) (pe_ix ix_list (pe_lstN (pa_cons (pv 6) (pa_cons (pe_upper (pv 6)) pa_nil))) (pe_op op_mod (pe_op op_fdiv (pv 5) pe_int) pe_int) (fun _ _ => rfl))))))))
      (pss_one (ps_ret (pv 3))))), ?_⟩
  walk_at "gw"
  refine ex_rng1 (n := n) (by omega) ?_
  refine forS (bs := List.range n) seqs_rng0 (fun pre σ' H' => ∃ y z x u, σ' = [some (.int c), some (.ref l), some (.int ((n : Nat) : Int)), some (.str (tx u)), y, z, x] ∧ Ex H H' ∧ u.length = pre.length ∧ OfL ls u) ⟨_, _, _, [], rfl, L2.Same.refl _, rfl, .nil⟩ (fun _ _ _ _ => trivial) ?_ ?_
  · rintro pre k post x σ' H2 H3 e ⟨y, z, x, u, rfl, ex, hu, ho⟩ e3 rfl
    obtain ⟨hk, hkn⟩ := range_split e
    have hS3 : SqL K H3 l (sgs ls) := (ex.trans e3).seq hS
    walk_at "gw"
    refine ⟨(c, k), rfl, (show k ≤ 1000000 by omega), ?_⟩
    rintro _ H4 e4 rfl
    have hS4 : SqL K H4 l (sgs ls) := e4.seq hS3
    walk_at "gw"
    refine ex_lenL hS4 ?_
    walk_at "gw"
    refine w_rI (show (0 : Int) < ((sgs ls).length : Nat) by simp only [List.length_map]; omega) ?_
    obtain ⟨d, hd, hat⟩ := at_sgs (n := mixed c k / 7) h0
    refine w_ixL hS4 (by rw [List.length_map]; exact hat) ?_
    walk_at "gw"
    refine ⟨rfl, (by show 1 ≤ 5592405; decide), ?_⟩
    have hd2 := hsm d hd
    have e5 : Txt.upper (sg d) = sg (d - 32) := by
      have := upper_a (d - 97) (by omega)
      rw [show 97 + (d - 97) = d by omega, show 65 + (d - 97) = d - 32 by omega] at this
      exact this
    rw [e5]
    walk_at "gw"
    refine sz_and (by show 2 ≤ 1000000; decide) fun p5 H5 n5 => ?_
    walk_at "gw"
    obtain ⟨v, hv, hat2⟩ := at_mem (xs := [V.str (sg d), .str (sg (d - 32))]) (i := mixed c k / 7 / 16 % 2) (Int.emod_nonneg _ (by decide)) (by show _ < (2 : Int); exact Int.emod_lt_of_pos _ (by decide))
    refine w_ixL (sqL_of n5.at_) hat2 ?_
    obtain ⟨d', rfl, hd'⟩ : ∃ d', v = .str (sg d') ∧ isL d' = true ∧ low d' ∈ ls := by
      simp only [List.mem_cons, List.not_mem_nil, or_false] at hv
      rcases hv with e | e
      · exact ⟨d, e, isL_iff.mpr (.inl hd2), by unfold low; rw [if_pos hd2.1]; exact hd⟩
      · exact ⟨d - 32, e, isL_iff.mpr (.inr (by omega)), by unfold low; rw [if_neg (by omega), show d - 32 + 32 = d by omega]; exact hd⟩
    walk_at "gw"
    refine ⟨line_le (by show u.length + 1 ≤ _; omega), ?_⟩
    walk_at "gw"
    rw [show tx u ++ sg d' = tx (u ++ [d']) from tx_app u [d']]
    exact ⟨_, _, _, u ++ [d'], rfl, ((ex.trans e3).trans e4).trans n5.ex, by rw [List.length_append, List.length_append, hu]; rfl, ho.app (.one hd'.1 hd'.2)⟩
  · rintro σ' H2 ⟨y, z, x, u, rfl, ex, hu, ho⟩
    walk_at "gw"
    exact q _ _ ex ⟨u, rfl, by rw [hu, List.length_range], ho⟩
abbrev N__law_turned : List Str := ["_law_word_here", "_law_letter"]
theorem sc__law_turned : FnScope ["_law_word_here", "_law_letter"] ["_law_word_here"] (defScope s__law_turned) := ⟨rfl, rfl, rfl, by decide +kernel, rfl, by decide +kernel, by decide +kernel⟩
theorem b__law_turned : BindsT "_law_turned" s__law_turned ["_law_word_here"] := fun _ _ _ _ _ _ us hl => match us, hl with | [_], _ => rfl
def sp__law_turned : Sp := fun vs H Q _ => ∃ u : List Nat, vs = [.str (tx u)] ∧ AL u ∧ u.length ≤ 100000 ∧ Ret H Q fun v _ => v = .str (tx (rv u))
theorem ok__law_turned (T : Tx K mg) (G__law_back : Ok P w K mg base 1 "_law_back" ["_law_letter"] sp__law_back) : Ok P w K mg base 2 "_law_turned" ["_law_word_here"] sp__law_turned := by
  refine Ok.of T.f__law_turned sc__law_turned b__law_turned (fun vs H Q E h => by obtain ⟨a, rfl, _⟩ := h; rfl) (fun cdv A outer s H vs Q E hr h => ?_)
  obtain ⟨u, rfl, hu, hl, q⟩ := h
  refine ⟨_, (pss_one (ps_ret (pe_join pe_str (pe_lc (own := [("_law_letter", 1)]) (g := gName 1) (tt := tYes) rfl sc__law_turned.nd (pi_revS (by rfl) T.n_reversed (pv 0)) (blkOk_by (N := N__law_turned) (sc := defScope s__law_turned) (by decide +kernel)) (fun _ _ _ _ _ => (pg_name (i := 1) sc__law_turned.nd rfl (.inl rfl))) (fun _ _ _ _ _ => pts_nil) (fun _ _ _ _ _ => (pe_g G__law_back (hr.mono (by decide)) (by rfl) (pa_cons (pv 1) pa_nil))))))), ?_⟩
  walk_at "gw"
  refine sz_and (by show u.length ≤ _; omega) ?_
  refine lcN (bs := u.reverse) seqs_revtx (fun c v _ => v = .str (sg (bk c))) (fun _ _ _ _ _ h => h) (fun _ _ => trivial) (by rw [List.length_reverse]; omega) (fun _ => rfl) ?_ (fun _ _ _ _ _ h => h) ?_
  · rintro c x H' hc e rfl Q' q'
    walk_at "gw"
    refine ⟨c, rfl, hu c (List.mem_reverse.mp hc), ?_⟩
    rintro _ H2 e2 rfl
    exact q' _ _ e2 rfl
  · intro l H' ys hn ex hy py
    walk_at "gw"
    have e2 := paired_eq py
    have e3 : ys = ((rv u).map sg).map V.str := by
      rw [e2, rv, List.map_map, List.map_map]
      rfl
    refine ⟨_, _, (rv u).map sg, rfl, rfl, .inl (sqL_of (by rw [hy, e3])), ?_, ?_⟩
    · rw [sum_sgs, show (Str.ofString "").length = 0 by decide +kernel, Nat.mul_zero, rv_len]
      omega
    · rw [join_sgs]
      exact q _ _ ex rfl
section
variable {H0 H : Hp} {Q : VK} {E : XK} {u : List Nat} {l : Addr} {ns : List Int}
theorem c_cell (k : Nat) (e : Ex H0 H) (hS : SqL K H0 l (ns.map V.int)) (q : ∀ H', Ex H0 H' → Q (.int (ns.getD k 0)) H') : sp__law_cell K [.ref l, .int (k : Nat)] H Q E0 := ⟨(l, ns, k), rfl, e.seq hS, fun _ H' e' z => by subst z; exact q H' (e.trans e')⟩
theorem c_mixed {c : Int} (k : Nat) (e : Ex H0 H) (hk : k ≤ 1000000) (q : ∀ H', Ex H0 H' → Q (.int (mixed c k)) H') : sp__law_mixed [.int c, .int (k : Nat)] H Q E0 := ⟨(c, k), rfl, hk, fun _ H' e' z => by subst z; exact q H' (e.trans e')⟩
theorem c_letters {c : Int} (e : Ex H0 H) (q : ∀ H' l ls, Ex H0 H' → Lets ls → H' l = some (.lst (sgs ls)) → Q (.ref l) H') : sp__law_letters [.int c] H Q E0 := ⟨c, rfl, fun _ H' e' ⟨ls, h, l, z, _, y⟩ => by subst z; exact q H' l ls (e.trans e') h y⟩
theorem c_word {c : Int} {ls : List Nat} (n : Nat) (e : Ex H0 H) (hS : SqL K H l (sgs ls)) (hL : Lets ls) (hn : n ≤ 1000) (q : ∀ H' u, Ex H0 H' → u.length = n → OfL ls u → Q (.str (tx u)) H') : sp__law_word K [.int c, .ref l, .int (n : Nat)] H Q E0 :=
  ⟨(c, l, ls, n), rfl, hS, hL.pos, hL.sm, hn, fun _ H' e' ⟨u, z, h1, h2⟩ => by subst z; exact q H' u (e.trans e') h1 h2⟩
theorem c_lturned (e : Ex H0 H) (hu : AL u) (hl : u.length ≤ 100000) (q : ∀ H', Ex H0 H' → Q (.str (tx (rv u))) H') : sp__law_turned [.str (tx u)] H Q E0 := ⟨u, rfl, hu, hl, fun _ H' e' z => by subst z; exact q H' (e.trans e')⟩
theorem c_lback {c : Nat} (e : Ex H0 H) (hc : isL c = true) (q : ∀ H', Ex H0 H' → Q (.str (sg (bk c))) H') : sp__law_back [.str (sg c)] H Q E0 := ⟨c, rfl, hc, fun _ H' e' z => by subst z; exact q H' (e.trans e')⟩
theorem mod_nat {c : Int} {m : Nat} (h : 0 < m) : ∃ n : Nat, c % (m : Int) = (n : Nat) ∧ n < m := by
  have h0 := Int.emod_nonneg c (show (m : Int) ≠ 0 by omega)
  have h1 := Int.emod_lt_of_pos c (show (0 : Int) < m by omega)
  exact ⟨(c % (m : Int)).toNat, by omega, by omega⟩
end
end
end Gw

/-! ### the head's Hook: facts, defs, and how the classes of errors are asked -/
namespace Gw
open PySem PySem.Spec PyProof.Rows L2
def fact2 (K : PySem.W.Frag) (x y : Str) (b : Bool) : Bool := decide (PySem.W.kitOne K (.ref (He.ga K x)) (.ref (He.ga K y)) = some b)
def excB (K : PySem.W.Frag) (x : Str) : Bool :=
  decide (PySem.W.findIn K (.ref (He.ga K x)) "__getattribute__" = some (some (.builtin "BaseException.__getattribute__"))) && (decide (PySem.W.findIn K (.ref (He.ga K x)) "__getattr__" = some none) &&
  (decide (PySem.W.subIn K (.ref (He.ga K x)) (.type "BaseException") = some true) && (decide (PySem.W.hasDictIn K (He.ga K x) = true) && (decide (PySem.W.findIn K (.ref (He.ga K x)) "__class__" = some (some (.builtin "object.__class__"))) &&
  (decide (PySem.W.specialIn K (.builtin "object.__class__") "__get__" = some (some (.builtin "getset_descriptor.__get__"))) && (decide (PySem.W.takesIn K (.builtin "object.__class__") = some true) && decide (PySem.W.mroIn K (He.ga K x) (.type "object") = some true)))))))
theorem excB_ok {K : PySem.W.Frag} {x : Str} (h : excB K x = true) : ExcC K (He.ga K x) := by
  obtain ⟨h1, h⟩ := He.ba h
  obtain ⟨h2, h⟩ := He.ba h
  obtain ⟨h3, h⟩ := He.ba h
  obtain ⟨h4, h⟩ := He.ba h
  obtain ⟨h5, h⟩ := He.ba h
  obtain ⟨h6, h⟩ := He.ba h
  obtain ⟨h7, h8⟩ := He.ba h
  exact ⟨of_decide_eq_true h1, of_decide_eq_true h2, of_decide_eq_true h3, of_decide_eq_true h4, of_decide_eq_true h5, of_decide_eq_true h6, of_decide_eq_true h7, of_decide_eq_true h8⟩
def clB (K : PySem.W.Frag) : Bool :=
  excB K "BadWord" && (excB K "BadWeb" && (fact2 K "BadWord" "BadWord" true && (fact2 K "BadWord" "BadWeb" false && (decide (PySem.W.kitOne K (.ref (He.ga K "BadWord")) (.type "ValueError") = some true) &&
  (fact2 K "BadWeb" "BadWord" false && (fact2 K "BadWeb" "BadWeb" true && (decide (PySem.W.kitOne K (.ref (He.ga K "BadWeb")) (.type "ValueError") = some true) && (decide (PySem.W.exmOne K (.ref (He.ga K "BadWord")) (.ref (He.ga K "GlueError")) = some true) &&
  decide (PySem.W.exmOne K (.ref (He.ga K "BadWeb")) (.ref (He.ga K "GlueError")) = some true)))))))))
theorem clB_ok {K : PySem.W.Frag} (h : clB K = true) : ExCl K := by
  obtain ⟨h1, h⟩ := He.ba h
  obtain ⟨h2, h⟩ := He.ba h
  obtain ⟨h3, h⟩ := He.ba h
  obtain ⟨h4, h⟩ := He.ba h
  obtain ⟨h5, h⟩ := He.ba h
  obtain ⟨h6, h⟩ := He.ba h
  obtain ⟨h7, h⟩ := He.ba h
  obtain ⟨h8, h⟩ := He.ba h
  obtain ⟨h9, h10⟩ := He.ba h
  exact ⟨excB_ok h1, excB_ok h2, of_decide_eq_true h3, of_decide_eq_true h4, of_decide_eq_true h5, of_decide_eq_true h6, of_decide_eq_true h7, of_decide_eq_true h8, of_decide_eq_true h9, of_decide_eq_true h10⟩
abbrev AlW : Type := Bool × He.AlD
def obsW (n : Nat) (fa : List He.Fa) (fn : List He.DefD) (g : Addr → Option Obj) : AlW := (clB (He.frG g (He.asD g n)), He.obsDG n fa fn g)
def hookW (n : Nat) (fa : List He.Fa) (fn : List He.DefD) : PySem.W.Hook where
  α := AlW
  obs := fun s => obsW n fa fn s.heap.get?
  val := fun _ => (true, He.valD fn)
  says := fun _ h => ∃ K : PySem.W.Frag, K.In h ∧ clB K = true ∧ He.SaysD fa fn K
  of := fun _ s e => ⟨_, He.frG_in, congrArg (fun z : AlW => z.1) e, congrArg (fun z : AlW => z.2) e⟩
  keeps := fun _ _ _ ⟨K, hK, c⟩ k => ⟨K, PySem.W.Frag.In.keeps hK k, c⟩
theorem obsW_eq {n : Nat} {fa : List He.Fa} {fn : List He.DefD} {g : Addr → Option Obj} {s : Shared} (h : ∀ a, g a = s.heap.get? a) : obsW n fa fn g = (hookW n fa fn).obs s := by
  have e : g = s.heap.get? := funext h
  rw [e] <;> rfl
end Gw
namespace Gw
open PySem PySem.Spec PyProof.Rows L2
theorem to0 {P : Program} {w : World} {K : PySem.W.Frag} {mg : Str → Option Value} {base : Heap} {k : Nat} {f : Addr} {fd : FuncData} {ps : List Str} {sp : Sp} (F : FnOk P w K mg base (L2.CX P w) k f fd ps sp) :
    FnOk P w K mg base CX0 k f fd ps (fun vs H Q _ => sp vs H Q E0) := by
  refine ⟨fun vs H Q E h => F.len vs H Q E0 h, fun A outer s H args us vs Q E hr he hb hv hs => ?_⟩
  refine codeAny_mono (F.run A outer s H args us vs Q E0 hr he hb hv hs) fun r s' h => ?_
  cases r with
  | error e =>
    obtain ⟨_, _, _, _, _, _, _, _, _, _, _, _, z⟩ := h
    exact z
  | ok fl =>
    cases fl with
    | ret u => exact h
    | _ => exact h
/-- the law's own def, its function object told -/
theorem fnOf {P : Program} {w : World} {K : PySem.W.Frag} {mg : Str → Option Value} {base : Heap} {x : Str} {st : Stmt} {N ps : List Str} {k : Nat} {sp : Sp} {fd : FuncData} (F : FunD K x x (defArgs st) (defBody st) (defScope st) [] [] (He.ga K x) fd) (S : FnScope N ps (defScope st)) (len : ∀ vs H Q E, sp vs H Q E → vs.length = ps.length)
    (hbody : ∀ (cdv : Value) (A : Around) (outer : List Env) (s : Shared) (H : Hp) (vs : List V) (Q : VK) (E : XK), Room k (A.deeper (envOfC x (defScope st) s.heap.objs.size (He.ga K x) cdv)) → sp vs H Q E →
      ∃ t, PSs (cxOf (L2.CX P w) P w K mg base N x (defScope st) (He.ga K x) cdv A outer s H E).nox (defBody st) t ∧ t { nx := fun _ H' => Q .non H', rt := Q } (start N vs) H) : FnOk P w K mg base (L2.CX P w) (k + 1) (He.ga K x) fd ps sp := by
  refine F.ok S len fun cdv A outer s H vs Q E hr h => ?_
  obtain ⟨t, h1, h2⟩ := hbody cdv A outer s H vs Q E hr h
  exact ⟨t, h1.nox, h2⟩
/-- what each law promises -/
def sp_law (K : PySem.W.Frag) : Sp := fun vs H Q _ => ∃ p : Addr × List Int, vs = [.ref p.1] ∧ SqL K H p.1 (p.2.map .int) ∧ p.2.length ≤ 63 ∧ Ret H Q fun v _ => v = .bl true
end Gw

/-! ### law k01 -/
namespace Gw
open PySem PySem.Spec PyProof.Rows L2 RT
section
variable {P : Program} {w : World} {K : PySem.W.Frag} {mg : Str → Option Value} {base : Heap}
theorem cut_to {u : List Nat} {i : Nat} : cutS (tx u) none (some ((i : Nat) : Int)) = tx (u.take i) := by
  unfold cutS
  rw [HT.sIx_none, HT.sIx_nat]
  show (⟨((u.drop 0).take (min i u.length - 0)).toArray⟩ : Str) = _
  rw [List.drop_zero, Nat.sub_zero]
  have : u.take (min i u.length) = u.take i := by
    by_cases h : i ≤ u.length
    · rw [Nat.min_eq_left h]
    · rw [Nat.min_eq_right (by omega), List.take_length, List.take_of_length_le (by omega)]
  rw [this]
theorem cut_from {u : List Nat} {i : Nat} : cutS (tx u) (some ((i : Nat) : Int)) none = tx (u.drop i) := by
  unfold cutS
  rw [HT.sIx_none, HT.sIx_nat]
  show (⟨((u.drop (min i u.length)).take (u.length - min i u.length)).toArray⟩ : Str) = _
  by_cases h : i ≤ u.length
  · rw [Nat.min_eq_left h, List.take_of_length_le (by rw [List.length_drop]; omega)]
  · rw [Nat.min_eq_right (by omega), List.drop_eq_nil_of_le (Nat.le_refl _), List.drop_eq_nil_of_le (by omega), List.take_nil]
theorem at_tx {u : List Nat} {i : Nat} {c : Nat} (h : u[i]? = some c) : atI (tx u).cps.toList ((i : Nat) : Int) = some c := atI_nat (xs := u) h
abbrev N__law_taken_out : List Str := ["_law_word_here", "_law_cell_here", "_law_turn", "_law_places", "_law_at", "_law_k"]
theorem sc__law_taken_out : FnScope ["_law_word_here", "_law_cell_here", "_law_turn", "_law_places", "_law_at", "_law_k"] ["_law_word_here", "_law_cell_here"] (defScope s__law_taken_out) := ⟨rfl, rfl, rfl, by decide +kernel, rfl, by decide +kernel, by decide +kernel⟩
theorem b__law_taken_out : BindsT "_law_taken_out" s__law_taken_out ["_law_word_here", "_law_cell_here"] := fun _ _ _ _ _ _ us hl => match us, hl with | [_, _], _ => rfl
def sp__law_taken_out : Sp := fun vs H Q _ => ∃ p : List Nat × Int, vs = [.str (tx p.1), .int p.2] ∧ AL p.1 ∧ p.1.length ≤ 100000 ∧ Ret H Q fun v _ => v = .str (tx (sh p.1))
theorem red_nil_places {v : List Nat} (hv : AL v) (h : (List.range (v.length - 1)).filter (fun i => decide (v.getD (i + 1) 0 = bk (v.getD i 0))) = []) : Red v := by
  rcases red_or hv with r | ⟨i, c, h1, h2⟩
  · exact r
  · exfalso
    have l2 := (List.getElem?_eq_some_iff.mp h2).1
    have hm : i ∈ (List.range (v.length - 1)).filter (fun i => decide (v.getD (i + 1) 0 = bk (v.getD i 0))) := by
      refine List.mem_filter.mpr ⟨List.mem_range.mpr (by omega), decide_eq_true ?_⟩
      rw [List.getD_eq_getElem?_getD, List.getD_eq_getElem?_getD, h1, h2]
      rfl
    rw [h] at hm
    cases hm
theorem getD_of {v : List Nat} {i : Nat} (h : i < v.length) : v[i]? = some (v.getD i 0) := by
  rw [List.getD_eq_getElem?_getD, List.getElem?_eq_getElem h]
  rfl
theorem out_at {v : List Nat} {i : Nat} (hv : AL v) (hi : i + 1 < v.length) (e : v.getD (i + 1) 0 = bk (v.getD i 0)) :
    sh (v.take i ++ v.drop (i + 2)) = sh v ∧ (v.take i ++ v.drop (i + 2)).length + 2 = v.length ∧ AL (v.take i ++ v.drop (i + 2)) := by
  have h1 := getD_of (v := v) (i := i) (by omega)
  have h2 := getD_of (v := v) (i := i + 1) hi
  have e1 : v = v.take i ++ v.getD i 0 :: v.getD (i + 1) 0 :: v.drop (i + 2) := by
    have a := split_at h1
    have b := split_at (bs := v.drop (i + 1)) (i := 0) (b := v.getD (i + 1) 0) (by rw [List.getElem?_drop]; exact h2)
    rw [List.take_zero, List.nil_append, List.drop_drop] at b
    rw [show i + 1 + (0 + 1) = i + 2 by omega] at b
    rw [← b]
    exact a
  have hc : isL (v.getD i 0) = true := hv _ (List.mem_of_getElem? h1)
  have ht : AL (v.take i) := fun c hc => hv c (List.mem_of_mem_take hc)
  have hd : AL (v.drop (i + 2)) := fun c hc => hv c (List.mem_of_mem_drop hc)
  refine ⟨?_, ?_, ht.app hd⟩
  · rw [e] at e1
    have := sh_out ht hd hc
    rw [← this, ← e1]
  · rw [List.length_append, List.length_take, List.length_drop]
    omega
theorem red_no {v : List Nat} {i c : Nat} (h : Red v) (h1 : v[i]? = some c) (h2 : v[i + 1]? = some (bk c)) : False := by
  have e := split_at h1
  have e2 := split_at (bs := v.drop (i + 1)) (i := 0) (b := bk c) (by rw [List.getElem?_drop]; exact h2)
  rw [List.take_zero, List.nil_append] at e2
  rw [e2] at e
  rw [e] at h
  exact (red_right h).1 rfl
theorem ok__law_taken_out (T : Tx K mg) (G__law_back : Ok P w K mg base 1 "_law_back" ["_law_letter"] sp__law_back) (G__law_mixed : Ok P w K mg base 1 "_law_mixed" ["_law_cell_here", "_law_k"] sp__law_mixed) : Ok P w K mg base 2 "_law_taken_out" ["_law_word_here", "_law_cell_here"] sp__law_taken_out := by
  refine Ok.of T.f__law_taken_out sc__law_taken_out b__law_taken_out (fun vs H Q E h => by obtain ⟨a, rfl, _⟩ := h; rfl) (fun cdv A outer s H vs Q E hr h => ?_)
  obtain ⟨⟨u, c⟩, rfl, hu, hl, q⟩ := h
  have hu : AL u := hu
  have hl : u.length ≤ 100000 := hl
  refine ⟨_, (pss_cons (ps_for PassesOwn.never rfl (pi_range1 (by rfl) T.n_range (pa_cons (pe_callB call_len_str (by rfl) T.n_len (by decide +kernel) (pa_cons (pv 0) pa_nil)) pa_nil)) (pg_name (i := 2) sc__law_taken_out.nd rfl (.inl rfl)) (pss_cons (ps_setLc (i := 3) (own := [("_law_k", 5)]) (g := gName 5) rfl sc__law_taken_out.nd rfl rfl (sw_true rfl rfl rfl (by decide +kernel)) (pi_range1 (by rfl) T.n_range (pa_cons (pe_op op_sub (pe_callB call_len_str (by rfl) T.n_len (by decide +kernel) (pa_cons (pv 0) pa_nil)) pe_int) pa_nil)) (blkOk_by (N := N__law_taken_out) (sc := defScope s__law_taken_out) (by decide +kernel)) (fun _ _ _ _ _ => (pg_name (i := 5) sc__law_taken_out.nd rfl (.inl rfl))) (fun _ _ _ _ _ => (pts_one (pt_cmpR op_eq (pe_ix ix_str (pv 0) (pe_op op_add (pv 5) pe_int) (fun _ _ => rfl)) (pe_g G__law_back (hr.mono (by decide)) (by rfl) (pa_cons (pe_ix ix_str (pv 0) (pv 5) (fun _ _ => rfl)) pa_nil)) (nomark _)))) (fun _ _ _ _ _ => (pv 5)))
      (pss_one (ps_if (pt_cmpR (op_neD hr.units) (pv 3) (pe_lstN pa_nil) (nomark _)) (pss_cons (ps_set (i := 4) sc__law_taken_out.nd rfl (.inl rfl) (pe_ix ix_list (pv 3) (pe_op op_mod (pe_op op_fdiv (pe_g G__law_mixed (hr.mono (by decide)) (by rfl) (pa_cons (pv 1) (pa_cons (pv 2) pa_nil))) pe_int) (pe_callB call_len_seq (by rfl) T.n_len (by decide +kernel) (pa_cons (pv 3) pa_nil))) (fun _ _ => rfl)))
      (pss_one (ps_set (i := 0) sc__law_taken_out.nd rfl (.inr rfl) (pe_op op_add_str (pe_slice sl_str (pv 0) po_none (po_some (pv 4))) (pe_slice sl_str (pv 0) (po_some (pe_op op_add (pv 4) pe_int)) po_none))))) pss_nil))))
      (pss_one (ps_ret (pv 0)))), ?_⟩
  walk_at "gw"
  refine ex_lenS (by show u.length ≤ _; omega) ?_
  walk_at "gw"
  refine ex_rng1 (n := u.length) (by omega) ?_
  refine forS (bs := List.range u.length) seqs_rng0 (fun pre σ' H' => ∃ v y z x t, σ' = [some (.str (tx v)), some (.int c), y, z, x, t] ∧ Ex H H' ∧ AL v ∧ sh v = sh u ∧ (v.length + 2 * pre.length ≤ u.length ∨ (Red v ∧ v.length ≤ u.length))) ⟨u, _, _, _, _, rfl, L2.Same.refl _, hu, rfl, .inl (Nat.le_refl _)⟩ (fun _ _ _ _ => trivial) ?_ ?_
  · rintro pre k post x σ' H2 H3 e ⟨v, y, z, x, t, rfl, ex, hv, hs, hm⟩ e3 rfl
    obtain ⟨hk, hkn⟩ := range_split e
    have hvl : v.length ≤ 100000 := by
      rcases hm with h | h
      · omega
      · have := h.2
        omega
    walk_at "gw"
    refine ex_lenS (by show v.length ≤ _; omega) ?_
    walk_at "gw"
    have hv1 : ((v.length : Int) - 1).toNat = v.length - 1 := by omega
    refine ⟨(v.length : Int) - 1, rfl, by omega, by omega, ?_⟩
    rw [hv1]
    refine lcT (bs := List.range (v.length - 1)) seqs_rng0 (fun i => decide (v.getD (i + 1) 0 = bk (v.getD i 0))) (fun i y _ => y = .int ((i : Nat) : Int)) (fun _ _ _ _ _ h => h) (fun _ _ => trivial) (by rw [List.length_range]; omega) (fun _ => rfl) ?_ ?_ (fun _ _ _ _ _ h => h) ?_
    · rintro i x H4 hi e4 rfl Q' q'
      have hi := List.mem_range.mp hi
      walk_at "gw"
      refine w_ixS (by show v.length ≤ _; omega) (at_tx (i := i + 1) (getD_of (by omega))) ?_
      walk_at "gw"
      refine w_ixS (by show v.length ≤ _; omega) (at_tx (getD_of (by omega))) ?_
      walk_at "gw"
      refine ⟨_, rfl, hv _ (List.mem_of_getElem? (getD_of (by omega))), ?_⟩
      rintro _ H5 e5 rfl
      walk_at "gw"
      refine q' _ _ e5 ?_
      show decide _ = decide _
      rw [Bool.eq_iff_iff, decide_eq_true_eq, decide_eq_true_eq]
      exact ⟨sg_inj, fun z => by rw [z]⟩
    · rintro i x H4 hi e4 rfl _ Q' q'
      walk_at "gw"
      exact q' _ _ (L2.Same.refl _) rfl
    · intro l H4 ys hn e4 hy py
      have e5 := paired_eq py
      clear py
      obtain ⟨ks, hks⟩ : ∃ ks, ks = (List.range (v.length - 1)).filter (fun i => decide (v.getD (i + 1) 0 = bk (v.getD i 0))) := ⟨_, rfl⟩
      rw [← hks] at e5
      subst e5
      walk_at "gw"
      refine sz_and (Nat.zero_le _) fun p6 H6 n6 => ?_
      have hy6 := n6.ex _ _ hy
      refine w_neNil (xs := ks) (g := fun k => .int ((k : Nat) : Int)) (n := 0) (sqL_of hy6) (sqL_of n6.at_) (fun a _ => .int _) (fun a _ => .int) (by decide) ?_
      walk_at "gw"
      have ex6 : Ex H H6 := ((ex.trans e3).trans e4).trans n6.ex
      rcases list_end ks with e0 | ⟨k1, d1, e0⟩
      · rw [e0, List.isEmpty_nil, Bool.not_true]
        walk_at "gw"
        refine ⟨v, _, _, _, _, rfl, ex6, hv, hs, .inr ⟨red_nil_places hv (by rw [← hks, e0]), ?_⟩⟩
        rcases hm with h | h
        · omega
        · exact h.2
      · have hkn : ks.isEmpty = false := by
          rw [e0]
          cases k1 <;> rfl
        rw [hkn, Bool.not_false]
        have hkl : 0 < ks.length := by
          rw [e0, List.length_append]
          exact Nat.succ_pos _
        walk_at "gw"
        refine ⟨(c, k), rfl, (show k ≤ 1000000 by omega), ?_⟩
        rintro _ H7 e7 rfl
        have hy7 := e7 _ _ hy6
        walk_at "gw"
        refine ex_lenL (sqL_of hy7) ?_
        walk_at "gw"
        refine w_rI (show (0 : Int) < ((ks.map _).length : Nat) by simp only [List.length_map]; omega) ?_
        have h0 := Int.emod_nonneg (mixed c k / 7) (show (ks.length : Int) ≠ 0 by omega)
        have h1 := Int.emod_lt_of_pos (mixed c k / 7) (show (0 : Int) < ks.length by omega)
        obtain ⟨z, hz, hat⟩ := at_mem (xs := ks.map fun k => V.int ((k : Nat) : Int)) h0 (by rw [List.length_map]; exact h1)
        obtain ⟨i, hi, rfl⟩ := List.mem_map.mp hz
        refine w_ixL (sqL_of hy7) (by rw [List.length_map]; exact hat) ?_
        rw [hks] at hi
        obtain ⟨hi1, hi2⟩ := List.mem_filter.mp hi
        have hi1 := List.mem_range.mp hi1
        have hi2 := of_decide_eq_true hi2
        obtain ⟨o1, o2, o3⟩ := out_at hv (by omega) hi2
        walk_at "gw"
        refine w_cut (by show v.length ≤ _; omega) ?_
        walk_at "gw"
        refine w_cut (by show v.length ≤ _; omega) ?_
        rw [cut_to, show ((i : Nat) : Int) + 2 = ((i + 2 : Nat) : Int) by omega, cut_from]
        refine ⟨_, _, rfl, rfl, ?_, ?_⟩
        · refine line_le ?_
          show (v.take i).length + (v.drop (i + 2)).length ≤ _
          rw [← List.length_append]
          omega
        rw [tx_app]
        walk_at "gw"
        refine ⟨_, _, _, _, _, rfl, ex6.trans e7, o3, o1.trans hs, ?_⟩
        rcases hm with h | h
        · left
          have e8 : (pre ++ [k]).length = pre.length + 1 := by simp
          rw [e8]
          omega
        · right
          exfalso
          exact red_no h.1 (getD_of (show i < v.length by omega)) (by rw [getD_of (show i + 1 < v.length by omega), hi2])
  · rintro σ' H2 ⟨v, y, z, x, t, rfl, ex, hv, hs, hm⟩
    walk_at "gw"
    refine q _ _ ex ?_
    have hr : Red v := by
      rcases hm with h | h
      · rw [List.length_range] at h
        have : v.length = 0 := by omega
        rw [List.length_eq_zero_iff.mp this]
        trivial
      · exact h.1
    rw [← hs, sh_of_red hv hr]
abbrev N__law_called : List Str := ["_law_pick", "_law_thing"]
theorem sc__law_called : FnScope ["_law_pick", "_law_thing"] ["_law_pick", "_law_thing"] (defScope s__law_called) := ⟨rfl, rfl, rfl, by decide +kernel, rfl, by decide +kernel, by decide +kernel⟩
theorem b__law_called : BindsT "_law_called" s__law_called ["_law_pick", "_law_thing"] := fun _ _ _ _ _ _ us hl => match us, hl with | [_, _], _ => rfl
def sp__law_called (K : PySem.W.Frag) : Sp := fun vs H Q E => ∃ p : Int × V, vs = [.int p.1, p.2] ∧ IsW K H p.2 none ∧ NoWord K H E
theorem isW_a {H : Hp} : IsW K H (.str (Str.ofString "a")) (some [97]) := IsW.word (u := [97]) (fun c hc => by rw [List.mem_singleton.mp hc]; decide) (by decide)
theorem isW_B {H : Hp} : IsW K H (.str (Str.ofString "B")) (some [66]) := IsW.word (u := [66]) (fun c hc => by rw [List.mem_singleton.mp hc]; decide) (by decide)
theorem ok__law_called (T : Tx K mg) (G_short : Ok P w K mg base 3 "short" ["word"] (sp_short K)) (G_back : Ok P w K mg base 4 "back" ["word"] (sp_back K)) (G_times : Ok P w K mg base 3 "times" ["one", "other"] (sp_times K)) : Ok P w K mg base 5 "_law_called" ["_law_pick", "_law_thing"] (sp__law_called K) := by
  refine Ok.ofX T.f__law_called sc__law_called b__law_called (fun vs H Q E h => by obtain ⟨a, rfl, _⟩ := h; rfl) (fun cdv A outer s H vs Q E hr h => ?_)
  obtain ⟨⟨i, v⟩, rfl, hv, qe⟩ := h
  have hv : IsW K H v none := hv
  refine ⟨_, (pss_cons (ps_if (pt_cmpR op_eq (pv 0) pe_int (nomark _)) (pss_one (ps_ret (pe_gx G_short (hr.mono (by decide)) (by rfl) (takes_of rfl rfl rfl rfl) (pa_cons (pv 1) pa_nil)))) pss_nil)
      (pss_cons (ps_if (pt_cmpR op_eq (pv 0) pe_int (nomark _)) (pss_one (ps_ret (pe_gx G_back (hr.mono (by decide)) (by rfl) (takes_of rfl rfl rfl rfl) (pa_cons (pv 1) pa_nil)))) pss_nil)
      (pss_cons (ps_if (pt_cmpR op_eq (pv 0) pe_int (nomark _)) (pss_one (ps_ret (pe_gx G_times (hr.mono (by decide)) (by rfl) (takes_of rfl rfl rfl rfl) (pa_cons (pv 1) (pa_cons pe_str pa_nil))))) pss_nil)
      (pss_one (ps_ret (pe_gx G_times (hr.mono (by decide)) (by rfl) (takes_of rfl rfl rfl rfl) (pa_cons pe_str (pa_cons (pv 1) pa_nil)))))))), ?_⟩
  walk_at "gw"
  split
  · walk_at "gw"
    exact ⟨(v, none), rfl, hv, (fun u e => nomatch e), fun _ => qe⟩
  walk_at "gw"
  split
  · walk_at "gw"
    exact ⟨(v, none), rfl, hv, (fun u e => nomatch e), fun _ => qe⟩
  walk_at "gw"
  split
  · walk_at "gw"
    exact ⟨(v, none, .str (Str.ofString "a"), some [97]), rfl, hv, isW_a, (fun u _ e => nomatch e), fun _ => qe⟩
  walk_at "gw"
  exact ⟨(.str (Str.ofString "B"), some [66], v, none), rfl, isW_B, hv, (fun u _ _ e => nomatch e), fun _ => qe⟩
abbrev N__law_refused : List Str := ["_law_pick", "_law_thing", "error"]
theorem sc__law_refused : FnScope ["_law_pick", "_law_thing", "error"] ["_law_pick", "_law_thing"] (defScope s__law_refused) := ⟨rfl, rfl, rfl, by decide +kernel, rfl, by decide +kernel, by decide +kernel⟩
theorem b__law_refused : BindsT "_law_refused" s__law_refused ["_law_pick", "_law_thing"] := fun _ _ _ _ _ _ us hl => match us, hl with | [_, _], _ => rfl
def sp__law_refused (K : PySem.W.Frag) : Sp := fun vs H Q _ => ∃ p : Int × V, vs = [.int p.1, p.2] ∧ IsW K H p.2 none ∧ Ret H Q fun v _ => v = .bl true
theorem ok__law_refused (T : Tx K mg) (G__law_called : Ok P w K mg base 5 "_law_called" ["_law_pick", "_law_thing"] (sp__law_called K)) : Ok P w K mg base 6 "_law_refused" ["_law_pick", "_law_thing"] (sp__law_refused K) := by
  refine Ok.of T.f__law_refused sc__law_refused b__law_refused (fun vs H Q E h => by obtain ⟨a, rfl, _⟩ := h; rfl) (fun cdv A outer s H vs Q E hr h => ?_)
  obtain ⟨⟨i, v⟩, rfl, hv, q⟩ := h
  refine ⟨_, (pss_cons (ps_try_as (i := 2) rfl rfl sc__law_refused.nd rfl rfl ⟨rfl, by decide, .inl T.g_GlueError⟩ takes0 (fun W pn xe tk _ => (pss_one (ps_expr (pe_gt G__law_called (hr.mono (by decide)) (by rfl) tk (pa_cons (pv 0) (pa_cons (pv 1) pa_nil)))))) (fun a oe cls d pn hz hf => (pss_one (ps_ret (pe_and (pe_callB (call_isX hz hf) (by rfl) T.n_isinstance (by decide +kernel) (pa_cons (pv 2) (pa_cons (pe_cls (by rfl) T.g_BadWord) pa_nil))) (pe_and (pe_callB (call_isX hz hf) (by rfl) T.n_isinstance (by decide +kernel) (pa_cons (pv 2) (pa_cons (pe_bltn (v := .ty "ValueError") (by rfl) T.n_ValueError (by decide +kernel) rfl) pa_nil))) (pe_one (pe_not (pe_callB (call_isX hz hf) (by rfl) T.n_isinstance (by decide +kernel) (pa_cons (pv 2) (pa_cons (pe_cls (by rfl) T.g_BadWeb) pa_nil)))))))))))
      (pss_one (ps_ret pe_bl))), ?_⟩
  refine ⟨_, rfl, _, rfl, (i, v), rfl, hv, fun H1 e1 => ?_⟩
  refine ⟨true, T.ec.ew, fun _ a ha => ?_, fun z => nomatch z⟩
  walk_at "gw"
  refine w_isX T.ec.word ref_only T.ec.ww ?_
  walk_at "gw"
  refine w_isX T.ec.word ty_only T.ec.wv ?_
  walk_at "gw"
  refine w_isX T.ec.word ref_only T.ec.wb ?_
  walk_at "gw"
  exact q _ _ e1 rfl
abbrev N__law_is : List Str := ["_law_found", "_law_due"]
theorem sc__law_is : FnScope ["_law_found", "_law_due"] ["_law_found", "_law_due"] (defScope s__law_is) := ⟨rfl, rfl, rfl, by decide +kernel, rfl, by decide +kernel, by decide +kernel⟩
theorem b__law_is : BindsT "_law_is" s__law_is ["_law_found", "_law_due"] := fun _ _ _ _ _ _ us hl => match us, hl with | [_, _], _ => rfl
def sp__law_is : Sp := fun vs H Q _ => ∃ a : Str, vs = [.str a, .str a] ∧ Ret H Q fun v _ => v = .bl true
theorem ok__law_is (T : Tx K mg) : Ok P w K mg base 1 "_law_is" ["_law_found", "_law_due"] sp__law_is := by
  refine Ok.of T.f__law_is sc__law_is b__law_is (fun vs H Q E h => by obtain ⟨a, rfl, _⟩ := h; rfl) (fun cdv A outer s H vs Q E hr h => ?_)
  obtain ⟨a, rfl, q⟩ := h
  refine ⟨_, (pss_one (ps_ret (pe_and (pe_callB call_isi (by rfl) T.n_isinstance (by decide +kernel) (pa_cons (pv 0) (pa_cons (pe_bltn (v := .ty "str") (by rfl) T.n_str (by decide +kernel) rfl) pa_nil))) (pe_one (pe_cmpR op_eq (pv 0) (pv 1) (nomark _)))))), ?_⟩
  walk_at "gw"
  refine ⟨_, _, _, _, true, rfl, .ty "str", .base (.str a), kit_ty (by decide +kernel), ?_⟩
  walk_at "gw"
  exact q _ _ (L2.Same.refl _) (by rw [decide_eq_true rfl])
theorem c_out {H0 H : Hp} {Q : VK} {u : List Nat} {c : Int} (e : Ex H0 H) (hu : AL u) (hl : u.length ≤ 100000) (q : ∀ H', Ex H0 H' → Q (.str (tx (sh u))) H') : sp__law_taken_out [.str (tx u), .int c] H Q E0 := ⟨(u, c), rfl, hu, hl, fun _ H' e' z => by subst z; exact q H' (e.trans e')⟩
theorem c_is {H0 H : Hp} {Q : VK} {a b : Str} (e : Ex H0 H) (ab : a = b) (q : ∀ H', Ex H0 H' → Q (.bl true) H') : sp__law_is [.str a, .str b] H Q E0 := by
  subst ab
  exact ⟨a, rfl, fun _ H' e' z => by subst z; exact q H' (e.trans e')⟩
abbrev lawDepth : Nat := 20
abbrev N_law : List Str := ["_law_script", "_law_letters_here", "_law_word_here", "_law_other", "_law_due", "_law_last", "_law_both", "_law_things", "_law_thing"]
theorem sc_law : FnScope ["_law_script", "_law_letters_here", "_law_word_here", "_law_other", "_law_due", "_law_last", "_law_both", "_law_things", "_law_thing"] ["_law_script"] (defScope s_law) := ⟨rfl, rfl, rfl, by decide +kernel, rfl, by decide +kernel, by decide +kernel⟩
theorem b_law : BindsT "law" s_law ["_law_script"] := fun _ _ _ _ _ _ us hl => match us, hl with | [_], _ => rfl
theorem law_fn {fd : FuncData} (T : Tx K mg) (F : FunD K "law" "law" (defArgs s_law) (defBody s_law) (defScope s_law) [] [] (He.ga K "law") fd) : FnOk P w K mg base (L2.CX P w) lawDepth (He.ga K "law") fd ["_law_script"] (sp_law K) := by
  have G_is_word := ok_is_word (P := P) (w := w) (base := base) T
  have G_need_word := ok_need_word T G_is_word
  have G_back_of := ok_back_of (P := P) (w := w) (base := base) T
  have G_shortened := ok_shortened T G_back_of
  have G_turned := ok_turned T G_back_of G_shortened
  have G_short := ok_short T G_need_word G_shortened
  have G_back := ok_back T G_need_word G_turned
  have G_times := ok_times T G_need_word G_shortened
  have G__law_cell := ok__law_cell (P := P) (w := w) (base := base) T
  have G__law_mixed := ok__law_mixed (P := P) (w := w) (base := base) T
  have G__law_letters := ok__law_letters (P := P) (w := w) (base := base) T
  have G__law_back := ok__law_back (P := P) (w := w) (base := base) T
  have G__law_word := ok__law_word T G__law_mixed
  have G__law_turned := ok__law_turned T G__law_back
  have G__law_taken_out := ok__law_taken_out T G__law_back G__law_mixed
  have G__law_called := ok__law_called T G_short G_back G_times
  have G__law_refused := ok__law_refused T G__law_called
  have G__law_is := ok__law_is (P := P) (w := w) (base := base) T
  refine fnOf F sc_law (fun vs H Q E h => by obtain ⟨a, rfl, _⟩ := h; rfl) (fun cdv A outer s H vs Q E hr h => ?_)
  obtain ⟨⟨l, ns⟩, rfl, hS, hn, q⟩ := h
  have hS : SqL K H l (ns.map V.int) := hS
  refine ⟨_, (pss_cons (ps_set (i := 1) sc_law.nd rfl (.inl rfl) (pe_g G__law_letters (hr.mono (by decide)) (by rfl) (pa_cons (pe_g G__law_cell (hr.mono (by decide)) (by rfl) (pa_cons (pv 0) (pa_cons pe_int pa_nil))) pa_nil)))
      (pss_cons (ps_set (i := 2) sc_law.nd rfl (.inl rfl) (pe_g G__law_word (hr.mono (by decide)) (by rfl) (pa_cons (pe_g G__law_cell (hr.mono (by decide)) (by rfl) (pa_cons (pv 0) (pa_cons pe_int pa_nil))) (pa_cons (pv 1) (pa_cons (pe_op op_mod (pe_g G__law_cell (hr.mono (by decide)) (by rfl) (pa_cons (pv 0) (pa_cons pe_int pa_nil))) pe_int) pa_nil)))))
      (pss_cons (ps_set (i := 3) sc_law.nd rfl (.inl rfl) (pe_g G__law_word (hr.mono (by decide)) (by rfl) (pa_cons (pe_g G__law_cell (hr.mono (by decide)) (by rfl) (pa_cons (pv 0) (pa_cons pe_int pa_nil))) (pa_cons (pv 1) (pa_cons (pe_op op_mod (pe_g G__law_cell (hr.mono (by decide)) (by rfl) (pa_cons (pv 0) (pa_cons pe_int pa_nil))) pe_int) pa_nil)))))
      (pss_cons (ps_set (i := 4) sc_law.nd rfl (.inl rfl) (pe_g G__law_taken_out (hr.mono (by decide)) (by rfl) (pa_cons (pv 2) (pa_cons (pe_g G__law_cell (hr.mono (by decide)) (by rfl) (pa_cons (pv 0) (pa_cons pe_int pa_nil))) pa_nil))))
      (pss_cons (ps_set (i := 5) sc_law.nd rfl (.inl rfl) (pe_g G__law_taken_out (hr.mono (by decide)) (by rfl) (pa_cons (pv 3) (pa_cons (pe_g G__law_cell (hr.mono (by decide)) (by rfl) (pa_cons (pv 0) (pa_cons pe_int pa_nil))) pa_nil))))
      (pss_cons (ps_if (PW.pt (pw_or (pt_cmpR op_notBl (pe_g G_is_word (hr.mono (by decide)) (by rfl) (pa_cons (pv 2) pa_nil)) pe_bl (nomark _)) (pw_or (pt_not (pt_val (pe_g G__law_is (hr.mono (by decide)) (by rfl) (pa_cons (pe_g G_short (hr.mono (by decide)) (by rfl) (pa_cons (pv 2) pa_nil)) (pa_cons (pv 4) pa_nil))))) (pw_or1 (pt_not (pt_val (pe_g G__law_is (hr.mono (by decide)) (by rfl) (pa_cons (pe_g G_short (hr.mono (by decide)) (by rfl) (pa_cons (pv 4) pa_nil)) (pa_cons (pv 4) pa_nil))))))))) (pss_one (ps_ret pe_bl)) pss_nil)
      (pss_cons (ps_if (PW.pt (pw_or (pt_not (pt_val (pe_g G__law_is (hr.mono (by decide)) (by rfl) (pa_cons (pe_g G_back (hr.mono (by decide)) (by rfl) (pa_cons (pv 2) pa_nil)) (pa_cons (pe_g G__law_turned (hr.mono (by decide)) (by rfl) (pa_cons (pv 4) pa_nil)) pa_nil))))) (pw_or1 (pt_not (pt_val (pe_g G__law_is (hr.mono (by decide)) (by rfl) (pa_cons (pe_g G_back (hr.mono (by decide)) (by rfl) (pa_cons (pe_g G_back (hr.mono (by decide)) (by rfl) (pa_cons (pv 2) pa_nil)) pa_nil)) (pa_cons (pv 4) pa_nil)))))))) (pss_one (ps_ret pe_bl)) pss_nil)
      (pss_cons (ps_set (i := 6) sc_law.nd rfl (.inl rfl) (pe_g G__law_taken_out (hr.mono (by decide)) (by rfl) (pa_cons (pe_op op_add_str (pv 2) (pv 3)) (pa_cons (pe_g G__law_cell (hr.mono (by decide)) (by rfl) (pa_cons (pv 0) (pa_cons pe_int pa_nil))) pa_nil))))
      (pss_cons (ps_if (PW.pt (pw_or (pt_not (pt_val (pe_g G__law_is (hr.mono (by decide)) (by rfl) (pa_cons (pe_g G_times (hr.mono (by decide)) (by rfl) (pa_cons (pv 2) (pa_cons (pv 3) pa_nil))) (pa_cons (pv 6) pa_nil))))) (pw_or1 (pt_not (pt_val (pe_g G__law_is (hr.mono (by decide)) (by rfl) (pa_cons (pe_g G_times (hr.mono (by decide)) (by rfl) (pa_cons (pv 4) (pa_cons (pv 5) pa_nil))) (pa_cons (pv 6) pa_nil)))))))) (pss_one (ps_ret pe_bl)) pss_nil)
      (pss_cons (ps_if (PW.pt (pw_or (pt_not (pt_val (pe_g G__law_is (hr.mono (by decide)) (by rfl) (pa_cons (pe_g G_times (hr.mono (by decide)) (by rfl) (pa_cons (pv 2) (pa_cons (pe_g G__law_turned (hr.mono (by decide)) (by rfl) (pa_cons (pv 2) pa_nil)) pa_nil))) (pa_cons pe_str pa_nil))))) (pw_or1 (pt_not (pt_val (pe_g G__law_is (hr.mono (by decide)) (by rfl) (pa_cons (pe_g G_times (hr.mono (by decide)) (by rfl) (pa_cons (pe_g G_back (hr.mono (by decide)) (by rfl) (pa_cons (pv 2) pa_nil)) (pa_cons (pv 2) pa_nil))) (pa_cons pe_str pa_nil)))))))) (pss_one (ps_ret pe_bl)) pss_nil)
      (pss_cons (ps_set (i := 7) sc_law.nd rfl (.inl rfl) (pe_lstN (pa_cons pe_non (pa_cons pe_int (pa_cons pe_bl (pa_cons pe_str (pa_cons pe_str (pa_cons (pe_op op_add_str (pv 2) pe_str) (pa_cons (pe_op op_add_str pe_str (pv 2)) (pa_cons (pe_lstN (pa_cons (pv 2) pa_nil)) (pa_cons (pe_tupN (pa_cons (pv 2) pa_nil)) (pa_cons pe_str pa_nil))))))))))))
      (pss_cons (ps_set (i := 8) sc_law.nd rfl (.inl rfl) (pe_ix ix_list (pv 7) (pe_op op_mod (pe_g G__law_cell (hr.mono (by decide)) (by rfl) (pa_cons (pv 0) (pa_cons pe_int pa_nil))) pe_int) (fun _ _ => rfl)))
      (pss_one (ps_ret (pe_and (pe_cmpR op_isBl (pe_g G_is_word (hr.mono (by decide)) (by rfl) (pa_cons (pv 8) pa_nil)) pe_bl (nomark _)) (pe_one (pe_g G__law_refused (hr.mono (by decide)) (by rfl) (pa_cons (pe_op op_mod (pe_op op_fdiv (pe_g G__law_cell (hr.mono (by decide)) (by rfl) (pa_cons (pv 0) (pa_cons pe_int pa_nil))) pe_int) pe_int) (pa_cons (pv 8) pa_nil))))))))))))))))))), ?_⟩
  walk_at "gw"
  refine c_cell 0 (L2.Same.refl _) hS fun H1 e => ?_
  refine c_letters e fun H1 ll ls e1 hL hl => ?_
  have hS1 : SqL K H1 l (ns.map V.int) := e1.seq hS
  walk_at "gw"
  refine c_cell 1 (L2.Same.refl _) hS1 fun H2 e => ?_
  walk_at "gw"
  refine c_cell 2 e hS1 fun H2 e => ?_
  walk_at "gw"
  obtain ⟨n, en, hn60⟩ : ∃ n : Nat, ns.getD 2 0 % 61 = ((n : Nat) : Int) ∧ n < 61 := mod_nat (by decide)
  rw [en]
  refine c_word n e (sqL_of (e _ _ hl)) hL (by omega) fun H2 u e hun hu => ?_
  walk_at "gw"
  refine c_cell 3 e hS1 fun H2 e => ?_
  walk_at "gw"
  refine c_cell 4 e hS1 fun H2 e => ?_
  walk_at "gw"
  obtain ⟨m, em, hm10⟩ : ∃ n : Nat, ns.getD 4 0 % 10 = ((n : Nat) : Int) ∧ n < 10 := mod_nat (by decide)
  rw [em]
  refine c_word m e (sqL_of (e _ _ hl)) hL (by omega) fun H2 v e hvm hv => ?_
  have hu := hu.al
  have hv := hv.al
  have hsu := sh_len u
  have hsv := sh_len v
  have au := sh_AL hu
  have av := sh_AL hv
  walk_at "gw"
  refine c_cell 5 e hS1 fun H2 e => ?_
  walk_at "gw"
  refine c_out e hu (by omega) fun H2 e => ?_
  walk_at "gw"
  refine c_cell 5 e hS1 fun H2 e => ?_
  walk_at "gw"
  refine c_out e hv (by omega) fun H2 e => ?_
  walk_at "gw"
  refine c_isword e (.word hu (by omega)) fun H2 e => ?_
  walk_at "gw"
  refine ⟨true, true, rfl, rfl, ?_⟩
  rw [decide_eq_true rfl]
  walk_at "gw"
  refine c_short e hu (by omega) fun H2 e => ?_
  walk_at "gw"
  refine c_is e rfl fun H2 e => ?_
  walk_at "gw"
  refine c_short e au (by omega) fun H2 e => ?_
  walk_at "gw"
  refine c_is e (by rw [sh_sh hu]) fun H2 e => ?_
  walk_at "gw"
  refine c_back e hu (by omega) fun H2 e => ?_
  walk_at "gw"
  refine c_lturned e au (by omega) fun H2 e => ?_
  walk_at "gw"
  refine c_is e (by rw [sh_rv hu]) fun H2 e => ?_
  walk_at "gw"
  have arv : AL (sh (rv u)) := sh_AL hu.rv
  have lrv : (sh (rv u)).length ≤ 60 := by
    have h1 := sh_len (rv u)
    rw [rv_len] at h1
    omega
  refine c_back e hu (by omega) fun H2 e => ?_
  walk_at "gw"
  refine c_back e arv (by omega) fun H2 e => ?_
  walk_at "gw"
  refine c_is e (by rw [back_back hu]) fun H2 e => ?_
  walk_at "gw"
  refine ⟨line_le (by show u.length + v.length ≤ _; omega), ?_⟩
  rw [show tx u ++ tx v = tx (u ++ v) from tx_app u v]
  walk_at "gw"
  refine c_cell 6 e hS1 fun H2 e => ?_
  walk_at "gw"
  refine c_out e (hu.app hv) (by rw [List.length_append]; omega) fun H2 e => ?_
  walk_at "gw"
  refine c_times e hu (by omega) hv (by omega) fun H2 e => ?_
  walk_at "gw"
  refine c_is e rfl fun H2 e => ?_
  walk_at "gw"
  refine c_times e au (by omega) av (by omega) fun H2 e => ?_
  walk_at "gw"
  refine c_is e (by rw [← sh_app_sh hu hv]) fun H2 e => ?_
  walk_at "gw"
  refine c_lturned e hu (by omega) fun H2 e => ?_
  walk_at "gw"
  refine c_times e hu (by omega) hu.rv (by rw [rv_len]; omega) fun H2 e => ?_
  walk_at "gw"
  refine c_is e (by rw [sh_rv_r hu]; decide +kernel) fun H2 e => ?_
  walk_at "gw"
  refine c_back e hu (by omega) fun H2 e => ?_
  walk_at "gw"
  refine c_times e arv (by omega) hu (by omega) fun H2 e => ?_
  walk_at "gw"
  refine c_is e (by rw [back_times hu]; decide +kernel) fun H2 e => ?_
  walk_at "gw"
  refine ⟨line_le (by show u.length + 1 ≤ _; omega), ?_⟩
  walk_at "gw"
  refine ⟨line_le (by show 1 + u.length ≤ _; omega), ?_⟩
  walk_at "gw"
  refine sz_and (by show 1 ≤ 1000000; decide) fun p3 H3 n3 => ?_
  walk_at "gw"
  refine sz_and (by show 1 ≤ 1000000; decide) fun p4 H4 n4 => ?_
  walk_at "gw"
  refine sz_and (by show 10 ≤ 1000000; decide) fun p5 H5 n5 => ?_
  have e : Ex H1 H5 := ((e.trans n3.ex).trans n4.ex).trans n5.ex
  walk_at "gw"
  have hS5 : SqL K H5 l (ns.map V.int) := e.seq hS1
  refine c_cell 7 (L2.Same.refl _) hS5 fun H6 e6 => ?_
  have hp5 := n5.at_
  have hall : ∀ x ∈ [V.non, .int 5, .bl true, .str (Str.ofString "a b"), .str (Str.ofString "a1"), .str (tx u ++ Str.ofString "-"), .str (Str.ofString " " ++ tx u), .ref p3, .ref p4, .str (Str.ofString "\n")], IsW K H5 x none := by
    have k1 : PySem.W.kitOne K (.type "NoneType") (.type "str") = some false := kit_ty (by decide +kernel)
    have k2 : PySem.W.kitOne K (.type "int") (.type "str") = some false := kit_ty (by decide +kernel)
    have k3 : PySem.W.kitOne K (.type "bool") (.type "str") = some false := kit_ty (by decide +kernel)
    have k4 : PySem.W.kitOne K (.type "list") (.type "str") = some false := kit_ty (by decide +kernel)
    have k5 : PySem.W.kitOne K (.type "tuple") (.type "str") = some false := kit_ty (by decide +kernel)
    intro x hx
    simp only [List.mem_cons, List.not_mem_nil, or_false] at hx
    rcases hx with rfl | rfl | rfl | rfl | rfl | rfl | rfl | rfl | rfl | rfl
    · exact .ty (.base .non) k1
    · exact .ty (.base (.int 5)) k2
    · exact .ty (.base (.bl true)) k3
    · exact .bad (z := [97, 32, 98]) (c := 32) (by decide) (by decide) (by decide)
    · exact .bad (z := [97, 49]) (c := 49) (by decide) (by decide) (by decide)
    · rw [show tx u ++ Str.ofString "-" = tx (u ++ [45]) from tx_app u [45]]
      exact .bad (c := 45) (by rw [List.length_append]; show u.length + 1 ≤ _; omega) (by simp) (by decide)
    · rw [show Str.ofString " " ++ tx u = tx ([32] ++ u) from tx_app [32] u]
      exact .bad (c := 32) (by rw [List.length_append]; show 1 + u.length ≤ _; omega) (by simp) (by decide)
    · exact .ty (.base (.lst (n4.ex.trans n5.ex _ _ n3.at_))) k4
    · exact .ty (.base (.tup (n5.ex _ _ n4.at_))) k5
    · exact .bad (z := [10]) (c := 10) (by decide) (by decide) (by decide)
  have ex6 : Ex H5 H6 := e6
  walk_at "gw"
  obtain ⟨x, hx, hat⟩ := at_mem (xs := [V.non, .int 5, .bl true, .str (Str.ofString "a b"), .str (Str.ofString "a1"), .str (tx u ++ Str.ofString "-"), .str (Str.ofString " " ++ tx u), .ref p3, .ref p4, .str (Str.ofString "\n")]) (i := ns.getD 7 0 % 10) (Int.emod_nonneg _ (by decide)) (by show _ < (10 : Int); exact Int.emod_lt_of_pos _ (by decide))
  have hx := hall x hx
  refine w_ixL (sqL_of (ex6 _ _ hp5)) hat ?_
  walk_at "gw"
  refine c_isword e6 (hx.mono ex6) fun H7 e7 => ?_
  walk_at "gw"
  refine ⟨false, false, rfl, rfl, ?_⟩
  rw [decide_eq_true rfl]
  walk_at "gw"
  refine c_cell 7 e7 hS5 fun H8 e8 => ?_
  walk_at "gw"
  refine ⟨(_, x), rfl, hx.mono e8, ?_⟩
  rintro _ H9 e9 rfl
  exact q _ _ (((e1.trans e).trans e8).trans e9) rfl
end
end Gw

/-! ### the head -/
namespace Gw
open PySem PySem.Spec PyProof.Rows L2
def d_is_word : He.DefD := ⟨("is_word", none), "is_word", "is_word", defArgs s_is_word, defBody s_is_word, defScope s_is_word, [], []⟩
def d_need_word : He.DefD := ⟨("need_word", none), "need_word", "need_word", defArgs s_need_word, defBody s_need_word, defScope s_need_word, [], []⟩
def d_back_of : He.DefD := ⟨("back_of", none), "back_of", "back_of", defArgs s_back_of, defBody s_back_of, defScope s_back_of, [], []⟩
def d_shortened : He.DefD := ⟨("shortened", none), "shortened", "shortened", defArgs s_shortened, defBody s_shortened, defScope s_shortened, [], []⟩
def d_turned : He.DefD := ⟨("turned", none), "turned", "turned", defArgs s_turned, defBody s_turned, defScope s_turned, [], []⟩
def d_short : He.DefD := ⟨("short", none), "short", "short", defArgs s_short, defBody s_short, defScope s_short, [], []⟩
def d_back : He.DefD := ⟨("back", none), "back", "back", defArgs s_back, defBody s_back, defScope s_back, [], []⟩
def d_times : He.DefD := ⟨("times", none), "times", "times", defArgs s_times, defBody s_times, defScope s_times, [], []⟩
def d__law_whole : He.DefD := ⟨("_law_whole", none), "_law_whole", "_law_whole", defArgs s__law_whole, defBody s__law_whole, defScope s__law_whole, [], []⟩
def d__law_cell : He.DefD := ⟨("_law_cell", none), "_law_cell", "_law_cell", defArgs s__law_cell, defBody s__law_cell, defScope s__law_cell, [], []⟩
def d__law_mixed : He.DefD := ⟨("_law_mixed", none), "_law_mixed", "_law_mixed", defArgs s__law_mixed, defBody s__law_mixed, defScope s__law_mixed, [], []⟩
def d__law_letters : He.DefD := ⟨("_law_letters", none), "_law_letters", "_law_letters", defArgs s__law_letters, defBody s__law_letters, defScope s__law_letters, [], []⟩
def d__law_back : He.DefD := ⟨("_law_back", none), "_law_back", "_law_back", defArgs s__law_back, defBody s__law_back, defScope s__law_back, [], []⟩
def d__law_word : He.DefD := ⟨("_law_word", none), "_law_word", "_law_word", defArgs s__law_word, defBody s__law_word, defScope s__law_word, [], []⟩
def d__law_short : He.DefD := ⟨("_law_short", none), "_law_short", "_law_short", defArgs s__law_short, defBody s__law_short, defScope s__law_short, [], []⟩
def d__law_turned : He.DefD := ⟨("_law_turned", none), "_law_turned", "_law_turned", defArgs s__law_turned, defBody s__law_turned, defScope s__law_turned, [], []⟩
def d__law_taken_out : He.DefD := ⟨("_law_taken_out", none), "_law_taken_out", "_law_taken_out", defArgs s__law_taken_out, defBody s__law_taken_out, defScope s__law_taken_out, [], []⟩
def d__law_called : He.DefD := ⟨("_law_called", none), "_law_called", "_law_called", defArgs s__law_called, defBody s__law_called, defScope s__law_called, [], []⟩
def d__law_refused : He.DefD := ⟨("_law_refused", none), "_law_refused", "_law_refused", defArgs s__law_refused, defBody s__law_refused, defScope s__law_refused, [], []⟩
def d__law_is : He.DefD := ⟨("_law_is", none), "_law_is", "_law_is", defArgs s__law_is, defBody s__law_is, defScope s__law_is, [], []⟩
def d_law : He.DefD := ⟨("law", none), "law", "law", defArgs s_law, defBody s_law, defScope s_law, [], []⟩
def hfn0 : List He.DefD := [d_is_word, d_need_word, d_back_of, d_shortened, d_turned, d_short, d_back, d_times, d__law_whole, d__law_cell, d__law_mixed, d__law_letters, d__law_back, d__law_word, d__law_short, d__law_turned, d__law_taken_out, d__law_called, d__law_refused, d__law_is, d_law]
def hfn : List He.DefD := hfn0
def hfa0 : List He.Fa := [.glo "is_word", .glo "need_word", .glo "back_of", .glo "shortened", .glo "turned", .glo "short", .glo "back", .glo "times", .glo "_law_whole", .glo "_law_cell", .glo "_law_mixed", .glo "_law_letters", .glo "_law_back", .glo "_law_word", .glo "_law_short", .glo "_law_turned", .glo "_law_taken_out", .glo "_law_called", .glo "_law_refused", .glo "_law_is", .glo "law", .glo "GlueError", .glo "BadWord", .glo "BadWeb", .str "SMALL" "abcdefghijklmnopqrstuvwxyz", .str "GREAT" "ABCDEFGHIJKLMNOPQRSTUVWXYZ", .free "ValueError", .free "all", .free "bool", .free "int"]
def hfa1 : List He.Fa := [.free "isinstance", .free "len", .free "range", .free "reversed", .free "str", .exc "GlueError", .exc "BadWord", .exc "BadWeb"]
def hfa : List He.Fa := hfa0 ++ hfa1
abbrev hR : PySem.W.OpenRow := PySem.W.OpenLaw.row PySem.Challenge.rw_gluewords_k01_short_words
abbrev hHk : PySem.W.Hook := hookW 5 hfa hfn
def hOb (s : PySem.W.SharedT) : AlW := obsW 5 hfa hfn (HandSHeadRun.getT s)
theorem hOb_eq (s : PySem.W.SharedT) : hOb s = hHk.obs s.abs := obsW_eq (HandSHeadRun.getT_eq s)
def hNm0 : List Str := ["GlueError", "BadWord", "BadWeb", "SMALL", "GREAT", "is_word", "need_word", "back_of", "shortened", "turned", "short", "back", "times", "_law_whole", "_law_cell", "_law_mixed", "_law_letters", "_law_back", "_law_word", "_law_short", "_law_turned", "_law_taken_out", "_law_called", "_law_refused", "_law_is"]
def hNm : List Str := hNm0
theorem hRun (w : World) : HandSHeadRun.RunEq hR (PySem.W.view hR.prog [28]) hHk hOb 4000 hNm w := by
  intro os
  kernel_rfl
theorem hTx {K : PySem.W.Frag} {h : Heap} {mg : Str → Option Value} (X : K.In h) (G : h.Ns mainGlobals mg) (ce : clB K = true) (c : He.SaysD hfa hfn K) : Tx K mg where
  f_is_word := ⟨c.def_ 0 (d := d_is_word) rfl, He.glo_ok X G (c.fact 0 (f := .glo "is_word") rfl)⟩
  f_need_word := ⟨c.def_ 1 (d := d_need_word) rfl, He.glo_ok X G (c.fact 1 (f := .glo "need_word") rfl)⟩
  f_back_of := ⟨c.def_ 2 (d := d_back_of) rfl, He.glo_ok X G (c.fact 2 (f := .glo "back_of") rfl)⟩
  f_shortened := ⟨c.def_ 3 (d := d_shortened) rfl, He.glo_ok X G (c.fact 3 (f := .glo "shortened") rfl)⟩
  f_turned := ⟨c.def_ 4 (d := d_turned) rfl, He.glo_ok X G (c.fact 4 (f := .glo "turned") rfl)⟩
  f_short := ⟨c.def_ 5 (d := d_short) rfl, He.glo_ok X G (c.fact 5 (f := .glo "short") rfl)⟩
  f_back := ⟨c.def_ 6 (d := d_back) rfl, He.glo_ok X G (c.fact 6 (f := .glo "back") rfl)⟩
  f_times := ⟨c.def_ 7 (d := d_times) rfl, He.glo_ok X G (c.fact 7 (f := .glo "times") rfl)⟩
  f__law_whole := ⟨c.def_ 8 (d := d__law_whole) rfl, He.glo_ok X G (c.fact 8 (f := .glo "_law_whole") rfl)⟩
  f__law_cell := ⟨c.def_ 9 (d := d__law_cell) rfl, He.glo_ok X G (c.fact 9 (f := .glo "_law_cell") rfl)⟩
  f__law_mixed := ⟨c.def_ 10 (d := d__law_mixed) rfl, He.glo_ok X G (c.fact 10 (f := .glo "_law_mixed") rfl)⟩
  f__law_letters := ⟨c.def_ 11 (d := d__law_letters) rfl, He.glo_ok X G (c.fact 11 (f := .glo "_law_letters") rfl)⟩
  f__law_back := ⟨c.def_ 12 (d := d__law_back) rfl, He.glo_ok X G (c.fact 12 (f := .glo "_law_back") rfl)⟩
  f__law_word := ⟨c.def_ 13 (d := d__law_word) rfl, He.glo_ok X G (c.fact 13 (f := .glo "_law_word") rfl)⟩
  f__law_short := ⟨c.def_ 14 (d := d__law_short) rfl, He.glo_ok X G (c.fact 14 (f := .glo "_law_short") rfl)⟩
  f__law_turned := ⟨c.def_ 15 (d := d__law_turned) rfl, He.glo_ok X G (c.fact 15 (f := .glo "_law_turned") rfl)⟩
  f__law_taken_out := ⟨c.def_ 16 (d := d__law_taken_out) rfl, He.glo_ok X G (c.fact 16 (f := .glo "_law_taken_out") rfl)⟩
  f__law_called := ⟨c.def_ 17 (d := d__law_called) rfl, He.glo_ok X G (c.fact 17 (f := .glo "_law_called") rfl)⟩
  f__law_refused := ⟨c.def_ 18 (d := d__law_refused) rfl, He.glo_ok X G (c.fact 18 (f := .glo "_law_refused") rfl)⟩
  f__law_is := ⟨c.def_ 19 (d := d__law_is) rfl, He.glo_ok X G (c.fact 19 (f := .glo "_law_is") rfl)⟩
  f_law := ⟨c.def_ 20 (d := d_law) rfl, He.glo_ok X G (c.fact 20 (f := .glo "law") rfl)⟩
  g_GlueError := He.glo_ok X G (c.fact 21 (f := .glo "GlueError") rfl)
  x_GlueError := He.exc_ok (c.fact 35 (f := .exc "GlueError") rfl)
  g_BadWord := He.glo_ok X G (c.fact 22 (f := .glo "BadWord") rfl)
  x_BadWord := He.exc_ok (c.fact 36 (f := .exc "BadWord") rfl)
  g_BadWeb := He.glo_ok X G (c.fact 23 (f := .glo "BadWeb") rfl)
  x_BadWeb := He.exc_ok (c.fact 37 (f := .exc "BadWeb") rfl)
  v_SMALL := He.str_ok X G (c.fact 24 (f := .str "SMALL" "abcdefghijklmnopqrstuvwxyz") rfl)
  v_GREAT := He.str_ok X G (c.fact 25 (f := .str "GREAT" "ABCDEFGHIJKLMNOPQRSTUVWXYZ") rfl)
  n_ValueError := He.free_ok X G (c.fact 26 (f := .free "ValueError") rfl)
  n_all := He.free_ok X G (c.fact 27 (f := .free "all") rfl)
  n_bool := He.free_ok X G (c.fact 28 (f := .free "bool") rfl)
  n_int := He.free_ok X G (c.fact 29 (f := .free "int") rfl)
  n_isinstance := He.free_ok X G (c.fact 30 (f := .free "isinstance") rfl)
  n_len := He.free_ok X G (c.fact 31 (f := .free "len") rfl)
  n_range := He.free_ok X G (c.fact 32 (f := .free "range") rfl)
  n_reversed := He.free_ok X G (c.fact 33 (f := .free "reversed") rfl)
  n_str := He.free_ok X G (c.fact 34 (f := .free "str") rfl)
  ec := clB_ok ce
end Gw
open PySem PySem.W PySem.Calls PyProof.Rows
theorem PySem.Challenge.cw_gluewords_k01_short_words_holds : PySem.Challenge.rw_gluewords_k01_short_words.Holds := by
  w_on; o_law
  refine HandSHeadRun.head_any (r := OpenLaw.row PySem.Challenge.rw_gluewords_k01_short_words) (q := view (OpenLaw.row PySem.Challenge.rw_gluewords_k01_short_words).prog [28]) (H := Gw.hHk) (ob := Gw.hOb) (M := 4000) (loose := Gw.hNm) (d := HandSHeadRun.topDef (OpenLaw.row PySem.Challenge.rw_gluewords_k01_short_words).prog 28) (kwd := []) Gw.hOb_eq
    (by kernel_rfl) (fun s => by kernel_rfl) Gw.hRun (by kernel_rfl) (by kernel_rfl) (by kernel_rfl) (by rfl) (by first | assumption | decide +kernel) (by decide +kernel) ⟨rfl, rfl, rfl, rfl, rfl, by decide +kernel⟩ ?hw ?hc
  case hw => w_witness2
  case hc =>
    refine L2.walk_ofE (l := PySem.Challenge.rw_gluewords_k01_short_words) (n := 63) (k := Gw.lawDepth) (x := "_law_script") (CX := L2.CX0) rfl (by decide) (by kernel_rfl) ⟨rfl, by decide, by decide⟩ ?F (fun _ _ _ _ z => z)
    intro w mg fa h Y G hmg0
    obtain ⟨K, KX, ce, c⟩ := Y
    have hmg : mg ("law" : PySem.Str) = some (.ref fa) := by
      have e : (HandSHeadRun.topDef (OpenLaw.row PySem.Challenge.rw_gluewords_k01_short_words).prog 28).name = ("law" : PySem.Str) := by kernel_rfl
      rw [← e]
      exact hmg0
    have T := Gw.hTx KX G ce c
    obtain ⟨⟨fd, F⟩, gl⟩ := T.f_law
    have e := hmg.symm.trans gl
    cases e
    have b := L2.FunD.bindsA (ps := ["_law_script"]) F fun _ _ _ _ _ _ us hl => match us, hl with | [_], _ => rfl
    exact ⟨K, fd, fun vs H Q E => Gw.sp_law K vs H Q L2.E0, KX, fun s v => b s [v] rfl, fun H a ns hl _ hS => ⟨(a, ns), rfl, hS, hl, fun v _ _ e => e⟩, fun base _ _ => Gw.to0 (Gw.law_fn (P := (PySem.Challenge.rw_gluewords_k01_short_words).prog) (w := w) T F)⟩

