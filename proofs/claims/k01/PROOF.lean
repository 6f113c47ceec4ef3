import PyProof.Rows.All
import Wide.All
import OpenK.AllK
import Wide.FinOn
import HandS.ForMost
import HandS.Walk
import HandS.Star
import HandS.ExcInit
import HandS.ExcInitHot
import HandS.IsInst
import HandS.Wide
import HandS.Defaults
import HandS.HotCalls
import HandS.HeadHook1
import HandS.HeadHook2
import HandS.TupAny
import HandS.TupMul
import HandS.StrMore
import HandS.Style
import HandS.NoneIn
import HandS.Small
import KE.GoesEnum
import KE.GoesZip
import KE.GoesMore
import HandS.IterVal
import HandS.IterNext
import HandS.Property
import HandS.OwnIter
import HandS.SlotsOwn
import KE.KOwnIter
import HandS.ExcField
import HandS.ExcIs
import HandS.ExcCtx
import HandS.ClsMeth
import HandS.Steps
import HandS.EndBits
import HandS.HeadEnd
import HandS.Head0
import HandS.Head1
import HandS.Head2
import HandS.Codes
import PyProof.StrLawsFirst
import PySem.Challenge.RW_tailheard_k01_drills_led
set_option Elab.async false
set_option linter.all false
set_option maxRecDepth 100000
set_option maxHeartbeats 2000000
/-! A layer over the hand layer: calls by names, words of values, steps of readings -/
namespace TH
open PySem PySem.Spec PyProof.Rows L2


abbrev St := L2.St
/-! ### heaps -/
theorem keep1 {H : Hp} {a b : Addr} {o u : HO} (h : H b = some u) (n : H a = none) : upd H a o b = some u := by
  rw [upd_ne (ne_of_none h n)]; exact h
theorem keep2 {H : Hp} {a b : Addr} {o u : HO} (ne : b ≠ a) (h : H b = some u) : upd H a o b = some u := by
  rw [upd_ne ne]; exact h
theorem none1 {H : Hp} {a b : Addr} {o : HO} (h : upd H a o b = none) : H b = none := by
  by_cases e : b = a
  · subst e; rw [upd_same] at h; cases h
  · rw [upd_ne e] at h; exact h
theorem none2 {H : Hp} {a b : Addr} {o : HO} (h : upd H a o b = none) : b ≠ a := by
  intro e; subst e; rw [upd_same] at h; cases h
theorem same_upd {H H1 : Hp} {a : Addr} {o : HO} (s : Same H H1) (n : H1 a = none) : Same H (upd H1 a o) := fun b u e => keep1 (s b u e) n
/-- all but what is at d stands -/
def But (d : Addr) (H H' : Hp) : Prop := ∀ b o, b ≠ d → H b = some o → H' b = some o
theorem But.refl (d : Addr) (H : Hp) : But d H H := fun _ _ _ h => h
theorem But.trans {d : Addr} {H H1 H2 : Hp} (a : But d H H1) (b : But d H1 H2) : But d H H2 := fun c o n h => b c o n (a c o n h)
theorem But.of {d : Addr} {H H1 : Hp} (s : Same H H1) : But d H H1 := fun b o _ e => s b o e
theorem But.upd {d : Addr} {H H1 : Hp} {o : HO} (s : But d H H1) : But d H (upd H1 d o) := fun b u n e => keep2 n (s b u n e)
theorem But.new {d a : Addr} {H H1 : Hp} {o : HO} (s : But d H H1) (n : H1 a = none) : But d H (L2.upd H1 a o) := fun b u nb e => keep1 (s b u nb e) n

/-! ### calls by names -/
section
variable (P : Program) (w : World) (K : PySem.W.Frag) (mg : Str → Option Value) (base : Heap)
abbrev FnT (k : Nat) (f : Addr) (sp : Sp) : Prop := FnR P w K mg base (L2N.CX P w) k f sp
structure Cal (k : Nat) (x : Str) (sp : Sp) : Prop where
  fn : FnT P w K mg base k (He.ga K x) sp
  kp : PySem.W.keepIn K (.ref (He.ga K x)) = true
  at_ : mg x = some (.ref (He.ga K x))
end
abbrev FD (K : PySem.W.Frag) (x q : Str) (st : Stmt) (dvs : List V) (f : Addr) : Prop := ∃ fd, FunD K x q (defArgs st) (defBody st) (defScope st) dvs [] f fd
section
variable {P : Program} {w : World} {K : PySem.W.Frag} {mg : Str → Option Value} {base : Heap}
theorem fnT_of {x q : Str} {st : Stmt} {f : Addr} {N ps : List Str} {k : Nat} {sp : Sp} (F : FD K x q st [] f) (S : FnScope N ps (defScope st))
    (hb : ∀ (kV doc pm : Value) (an : Option Addr) (cdv ct : Value) (us : List Value), us.length = ps.length → bindArgs (PySem.W.fnOf x q (defArgs st) (defBody st) (defScope st) .none kV doc pm an cdv ct) ⟨us, []⟩ = pure (ps.zip us))
    (len : ∀ vs H Q E, sp vs H Q E → vs.length = ps.length)
    (hbody : ∀ (cdv : Value) (A : Around) (outer : List Env) (s : Shared) (H : Hp) (vs : List V) (Q : VK) (E : XK), Room k (A.deeper (envOfC q (defScope st) s.heap.objs.size f cdv)) → sp vs H Q E →
      ∃ t, PSs (cxOf (L2N.CX P w) P w K mg base N q (defScope st) f cdv A outer s H E) (defBody st) t ∧ t { nx := fun _ H' => Q .non H', rt := Q } (start N vs) H) : FnT P w K mg base (k + 1) f sp := by
  obtain ⟨fd, F⟩ := F
  have G : FnOk P w K mg base (L2N.CX P w) (k + 1) f fd ps sp := F.ok S len hbody
  have b : Binds K fd ps [] := F.bindsN hb
  exact (G.raw b .nil).imp fun vs H Q E h => by rw [List.append_nil]; exact h
end
/-- nothing is let out -/
theorem passE0 {X : Cx} : Passes (L2N.CX X.prog X.w) X E0 := fun _ _ _ _ _ _ _ h => by
  obtain ⟨_, _, _, _, _, _, _, _, _, _, _, _, e⟩ := h
  exact e.elim
/-- what a callee lets out leaves this def -/
theorem passE {X : Cx} {E : XK} (tk : L2N.Takes X (fun cls d _ H => E cls d H)) : Passes (L2N.CX X.prog X.w) X E := fun pins σ H s e s' I c => L2N.passes_call (E := E) tk (fun _ _ _ _ h => h) pins σ H s e s' I c
def tCl (sp : Sp) (E : XK) (t : TA) : TE := fun σ H Q => t σ H fun vs H1 => sp vs H1 Q E
section
variable {X : Cx} {e : Expr} {es : List Expr} {t : TA} {p pos : Pos} {x : Str} {sp : Sp} {j k : Nat} {E : XK}
theorem pe_cl (c : Cal X.prog X.w X.K X.mg X.base k x sp) (hr : Room j X.A) (hk : k ≤ j) (hg : Gl X x) (hx : Passes (L2N.CX X.prog X.w) X E) (ha : PA X (e :: es) t) (hd : (x == ("__debug__" : Str)) = false := by decide)
    (he : starEach (e :: es) X.env = (false, eval e X.env) :: starEach es X.env := by rfl) (hpl : (backTo pos (starEach es X.env)).any (·.1) = false := by rfl) :
    PE X (.Call (.Name x p) (e :: es) [] pos) (tCl sp E t) := by
  refine ⟨fun pins s σ H Q I h => ?_⟩
  refine wpAny_Call_Name_kw (ld_glob I hg c.at_ ?_ hd)
  refine PySem.W.callWith_K (h₀ := X.base) I.ok.mod.kin c.kp (thn (ha.run pos pins s σ H _ I h) fun us s1 ⟨vs, H1, I1, r, q⟩ => ⟨I1.kIn, ?_⟩) he hpl
  exact wpAny_call (run_fnR c.fn (hr.mono hk) hx I1 r q)
end

/-! ### types of plain values -/
def tyN (H : Hp) : V → String
  | .non => "NoneType" | .bl _ => "bool" | .int _ => "int" | .str _ => "str"
  | .ref a => (match H a with
    | some (.lst _) => "list" | some (.tup _) => "tuple" | some (.dK _) => "dict" | _ => "")
  | _ => ""
def isB (t T : String) : Bool := t == T || (t == "bool" && T == "int")
def tys : List String := ["NoneType", "bool", "int", "str", "list", "tuple", "dict"]
theorem tyN_tyX {K : PySem.W.Frag} {H : Hp} {x : V} (h : tyN H x ≠ "") : TyX K H x (.type (tyN H x)) ∧ tyN H x ∈ tys := by
  cases x with
  | non => exact ⟨.base .non, by simp [tyN, tys]⟩
  | bl b => exact ⟨.base (.bl b), by simp [tyN, tys]⟩
  | int i => exact ⟨.base (.int i), by simp [tyN, tys]⟩
  | str z => exact ⟨.base (.str z), by simp [tyN, tys]⟩
  | byt z => exact absurd rfl h
  | flt z => exact absurd rfl h
  | ty z => exact absurd rfl h
  | ref a =>
    cases e : H a with
    | none => exact absurd (by simp only [tyN, e]) h
    | some o =>
      cases o with
      | lst xs => simp only [tyN, e]; exact ⟨.base (.lst e), by decide⟩
      | tup xs => simp only [tyN, e]; exact ⟨.base (.tup e), by decide⟩
      | dK xs => simp only [tyN, e]; exact ⟨.base (.dK e), by decide⟩
      | _ => exact absurd (by simp only [tyN, e]) h
theorem kit_isB : ∀ t ∈ tys, ∀ T ∈ ["int", "bool", "str", "list", "tuple", "dict"], kitB t T = some (isB t T) := by decide +kernel
/-- isinstance(x, T) of a plain value -/
def rIs : List V → Hp → VK → Prop := fun xs H Q => ∃ x T, xs = [x, .ty T] ∧ tyN H x ≠ "" ∧ T ∈ ["int", "bool", "str", "list", "tuple", "dict"] ∧ Q (.bl (isB (tyN H x) T)) H
theorem call_is {X : Cx} : CallR X (.builtin "isinstance") rIs := by
  intro pins s σ H xs us Q I r h
  obtain ⟨x, T, rfl, hx, hT, q⟩ := h
  obtain ⟨ty, tm⟩ := tyN_tyX (K := X.K) hx
  exact call_isi pins s σ H _ us Q I r ⟨x, .ty T, _, _, _, rfl, .ty T, ty, kit_ty (kit_isB _ tm _ hT), q⟩
def rIsT : List V → Hp → VK → Prop := fun xs H Q => ∃ x tp, ∃ Ts : List String, xs = [x, .ref tp] ∧ H tp = some (.tup (Ts.map V.ty)) ∧ tyN H x ≠ "" ∧ (∀ T ∈ Ts, T ∈ ["int", "bool", "str", "list", "tuple", "dict"]) ∧ Q (.bl (Ts.any (isB (tyN H x)))) H
theorem kitAny_isB {K : PySem.W.Frag} {t : String} (ht : t ∈ tys) : ∀ Ts : List String, (∀ T ∈ Ts, T ∈ ["int", "bool", "str", "list", "tuple", "dict"]) → PySem.W.kitAny K (.type t) (Ts.map Value.type) = some (Ts.any (isB t))
  | [], _ => rfl
  | T :: Ts, h => by
    refine kitAny_cons (kit_ty (kit_isB _ ht _ (h T List.mem_cons_self))) (fun e => ?_) (fun e => ?_)
    · rw [List.any_cons, e, Bool.false_or]
      exact kitAny_isB ht Ts fun T hT => h T (List.mem_cons_of_mem _ hT)
    · rw [List.any_cons, e, Bool.true_or]
theorem paired_ty : ∀ Ts : List String, Paired ClsV (Ts.map V.ty) (Ts.map Value.type)
  | [] => .nil
  | T :: Ts => .cons (.ty T) (paired_ty Ts)
theorem call_isT {X : Cx} : CallR X (.builtin "isinstance") rIsT := by
  intro pins s σ H xs us Q I r h
  obtain ⟨x, tp, Ts, rfl, hp, hx, hT, q⟩ := h
  obtain ⟨ty, tm⟩ := tyN_tyX (K := X.K) hx
  exact call_isiT pins s σ H _ us Q I r ⟨x, tp, _, _, _, _, rfl, hp, paired_ty Ts, ty, kitAny_isB tm Ts hT, q⟩
end TH
set_option Elab.async false
set_option linter.all false
set_option maxRecDepth 100000
set_option maxHeartbeats 2000000
/-! Operators that the hand layer lacks -/
namespace TH
open PySem PySem.Spec PyProof.Rows L2
section
variable {X : Cx}
/-- a product of together less than 2 ^ 26 bits -/
def CMulV (i j : Int) : Prop := i.natAbs.log2 + j.natAbs.log2 < 67108864
theorem bits_log (x : Int) : Builtin.Int.intBits x ≤ x.natAbs.log2 + 1 := by
  unfold Builtin.Int.intBits
  split
  · exact Nat.zero_le _
  · exact Nat.le_refl _
theorem CMulV.ok {i j : Int} (h : CMulV i j) : IntMulOk i j := fun z => by
  have h1 := bits_log i
  have h2 := bits_log j
  have h3 := of_decide_eq_true (show decide (((Builtin.Int.intBits i + Builtin.Int.intBits j : Nat) : Int) > (bitsLine : Int)) = true from (Bool.and_eq_true_iff.mp z).2)
  rw [show bitsLine = 134217728 by decide] at h3
  unfold CMulV at h
  omega
theorem op_mulV : OpR X (binaryOp .Mult) (rI CMulV fun i j => .int (i * j)) := opI fun _ _ _ _ _ _ _ hc q => mul_int q hc.ok
/-- a power of any two ints whose result is below some size -/
def CPowW (i j : Int) : Prop := 0 ≤ j ∧ (Builtin.Int.intBits i : Int) * j ≤ 2 ^ 27
theorem op_powW : OpR X (binaryOp .Pow) (rI CPowW fun i j => .int (i ^ j.toNat)) := opI fun _ _ _ _ _ _ _ hc q => pow_int hc.1 hc.2 q
/-- a text, so many times -/
def timesS (z : Str) (k : Int) : Str := ⟨(List.replicate k.toNat z.cps.toList).flatten.toArray⟩
theorem timesS_list (z : Str) (k : Int) : (timesS z k).cps.toList = (List.replicate k.toNat z.cps.toList).flatten := rfl
theorem timesS_len (z : Str) (k : Int) : (timesS z k).length = k.toNat * z.length := by
  show (timesS z k).cps.size = _
  rw [← Array.length_toList, timesS_list, List.length_flatten]
  simp [Str.length]
theorem foldl_app (n : Nat) (a : Array Nat) : ∀ acc : Array Nat, ((List.replicate n a).foldl (· ++ ·) acc).toList = acc.toList ++ (List.replicate n a.toList).flatten := by
  induction n with
  | zero => intro acc; simp
  | succ n ih =>
    intro acc
    rw [List.replicate_succ, List.foldl_cons, ih, List.replicate_succ, List.flatten_cons, Array.toList_append, List.append_assoc]
def rMulS : R2 := fun x y H Q => ∃ z k, x = .str z ∧ y = .int k ∧ -(2 ^ 62) ≤ k ∧ k < 2 ^ 62 ∧ z.length * k.toNat ≤ 1000000 ∧ Q (.str (timesS z k)) H
theorem ext_str {a b : Str} (h : a.cps.toList = b.cps.toList) : a = b := by
  obtain ⟨a⟩ := a
  obtain ⟨b⟩ := b
  have h' : a.toList = b.toList := h
  obtain ⟨a⟩ := a
  obtain ⟨b⟩ := b
  have : a = b := h'
  rw [this]
theorem op_mulS : OpR X (binaryOp .Mult) rMulS := by
  intro pins s σ H x y v u Q I rx ry h
  obtain ⟨z, k, rfl, rfl, h1, h2, h3, q⟩ := h
  obtain ⟨t, rfl⟩ := rx
  obtain ⟨t', rfl⟩ := ry
  have a1 : ¬ k < -(2 ^ 63 : Int) := by omega
  have a2 : ¬ k ≥ 2 ^ 63 := by omega
  refine PySem.P.mul_str (by rw [decide_eq_false a1, decide_eq_false a2]; rfl) (fun h4 h5 => ?_) (fun h4 h5 => ?_) ?_
  · intro h6
    have hk : 0 < k := by omega
    have : (2 ^ 63 - 1) / k < (z.length : Int) := h6
    have := (Int.ediv_lt_iff_lt_mul hk).mp this
    have e : ((z.length * k.toNat : Nat) : Int) = (z.length : Int) * k := by
      rw [Int.natCast_mul, Int.toNat_of_nonneg (by omega)]
    omega
  · unfold PySem.Builtin.Str.tooLong
    have : sizeLine = 16777216 := sizeLine_eq
    simp only [decide_eq_false_iff_not]
    omega
  · by_cases c1 : k < 1
    · rw [if_pos c1]
      have : k.toNat = 0 := by omega
      have e : timesS z k = Str.empty := ext_str (by rw [timesS_list, this]; rfl)
      rw [e] at q
      exact ⟨by decide, .str Str.empty, H, I.tok _, ⟨_, rfl⟩, q⟩
    · rw [if_neg c1]
      by_cases c2 : (k == 1 || z.length == 0) = true
      · rw [if_pos c2]
        refine ⟨.str (timesS z k), H, I, ⟨t, ?_⟩, q⟩
        have e : timesS z k = z := ext_str (by
          rw [timesS_list]
          rcases Bool.or_eq_true_iff.mp c2 with e | e
          · have : k = 1 := beq_iff_eq.mp e
            rw [this]
            simp
          · have hz : z.cps.size = 0 := beq_iff_eq.mp e
            have : z.cps.toList = [] := by
              have := Array.length_toList (xs := z.cps)
              exact List.eq_nil_of_length_eq_zero (by omega)
            rw [this]
            simp)
        rw [e]
      · rw [if_neg c2]
        have e : (⟨(List.replicate k.toNat z.cps).foldl (· ++ ·) #[]⟩ : Str) = timesS z k := ext_str (by
          rw [timesS_list]
          show ((List.replicate k.toNat z.cps).foldl (· ++ ·) #[]).toList = _
          rw [foldl_app]; simp)
        rw [e]
        refine ⟨?_, .str (timesS z k), H, I.tok _, ⟨_, rfl⟩, q⟩
        rw [timesS_len, sizeLine_eq, Nat.mul_comm]
        omega
/-- s[::-1] -/
def revS (z : Str) : Str := ⟨z.cps.toList.reverse.toArray⟩
theorem revS_sliceBy (z : Str) (u : Tok) : Txt.sliceBy z none none (-1, u) = revS z := by
  refine ext_str ?_
  rw [PyProof.Rows.step_rev_list]
  show _ = z.cps.toList.reverse
  refine List.ext_getElem? fun i => ?_
  rw [List.getElem?_map]
  by_cases hi : i < z.length
  · have hi' : i < z.cps.toList.length := by rw [Array.length_toList]; exact hi
    rw [List.getElem?_range hi, List.getElem?_reverse hi', Option.map_some]
    have h2 : z.cps.toList.length - 1 - i < z.cps.size := by rw [Array.length_toList] at hi' ⊢; omega
    have e : z.length - 1 - i = z.cps.toList.length - 1 - i := by rw [Array.length_toList]; rfl
    have h3 : z.cps.size - 1 - i < z.cps.size := by rw [Array.length_toList] at h2; exact h2
    rw [e, Array.getElem?_toList]
    simp [Array.getD, h3]
  · rw [List.getElem?_eq_none (by simp [Str.length] at hi ⊢; omega), List.getElem?_eq_none (by simp [Str.length] at hi ⊢; omega)]
    rfl
def tRevS (te : TE) : TE := fun σ H Q => te σ H fun x H1 => ∃ z, x = .str z ∧ z.length ≤ sizeLine ∧ Q (.str (revS z)) H1
theorem pe_revS {e : Expr} {te : TE} {k : Nat} {p1 p2 p3 pos : Pos} (he : PE X e te) : PE X (.Subscript e (.Slice none none (some (.UnaryOp .USub (.Constant (.int 1) k p1) p2)) p3) pos) (tRevS te) := by
  refine ⟨fun pins s σ H Q I h => ?_⟩
  refine Subscript_ (thn (he.run pins s σ H _ I h) fun v s1 ⟨x, H1, I1, r1, q1⟩ => ?_)
  obtain ⟨z, ex, hz, q⟩ := q1
  subst ex
  obtain ⟨t, rfl⟩ := r1
  have hst : PO X (some (.UnaryOp .USub (.Constant (.int 1) k p1) p2)) (tPart (tUn (rU fun i => .int (-i)) (tC (.int 1)))) := po_some (pe_un un_neg pe_int)
  refine wpAny_Slice (thn (po_none.run pins s1 σ H1 (fun o H2 => o = none ∧ H2 = H1) I1 ⟨rfl, rfl⟩) fun vl s2 ⟨l, H2, I2, pl, el, e2⟩ => ?_)
  subst el e2
  refine thn (po_none.run pins s2 σ H2 (fun o H3 => o = none ∧ H3 = H2) I2 ⟨rfl, rfl⟩) fun vu s3 ⟨u, H3, I3, pu, eu, e3⟩ => ?_
  subst eu e3
  refine thn (hst.run pins s3 σ H3 (fun o H4 => o = some (-1) ∧ H4 = H3) I3 ⟨1, rfl, -1, rfl, rfl, rfl⟩) fun vs s4 ⟨o, H4, I4, ps, eo, e4⟩ => ?_
  subst eo e4
  obtain ⟨l, rfl, e1⟩ := IsPart.raw pl
  obtain ⟨u, rfl, e2⟩ := IsPart.raw pu
  obtain ⟨w, rfl, e3⟩ := IsPart.raw ps
  obtain rfl : l = none := by cases l with | none => rfl | some _ => cases e1
  obtain rfl : u = none := by cases u with | none => rfl | some _ => cases e2
  obtain ⟨uk, rfl⟩ : ∃ uk, w = some (-1, uk) := by
    cases w with
    | none => cases e3
    | some p =>
      obtain ⟨a, b⟩ := p
      have : a = -1 := by simpa using e3
      exact ⟨b, by rw [this]⟩
  have I5 : Inv X pins σ H4 { s4 with heap := s4.heap.push { cls := .type "slice", data := .fields #[.none, .none, .int (-1) uk] } } := I4.kept (t' := s4.toks) fun b ob q => Heap.get?_push_of_some _ q
  show wpAny (model X.prog X.w) X.A (subscriptTail e (.Slice none none (some (.UnaryOp .USub (.Constant (.int 1) k p1) p2)) p3) (.str z t) (.ref s4.heap.objs.size)) (EP X pins σ Q) X.xe { s4 with heap := s4.heap.push { cls := .type "slice", data := .fields #[.none, .none, .int (-1) uk] } }
  refine tail_any (ops := [.str z t, .ref s4.heap.objs.size]) (typeIs_str _ _ _) (F.slot_str_getitem.lookup) ?_ (by with_unfolding_all rfl)
  refine wpAny_getItem_str_slice (l := none) (u := none) (st := some (-1, uk)) ⟨_, Heap.get?_push_size _ rfl, rfl, rfl⟩ rfl ?_
  have e := revS_sliceBy z uk
  unfold Txt.sliceBy slicePicked at e
  have c : ¬ (((Option.map (fun x : Int × Tok => x.fst) (some (-1, uk))).getD 1 == 1 && (Builtin.Str.strSliceIndices (Option.map (fun x : Int × Tok => x.fst) none) (Option.map (fun x : Int × Tok => x.fst) none) ((Option.map (fun x : Int × Tok => x.fst) (some (-1, uk))).getD 1) z.length).length == z.length) = true) := by
    intro q
    cases (Bool.and_eq_true_iff.mp q).1
  rw [if_neg c] at e
  have hl : (revS z).length ≤ sizeLine := by
    show (revS z).cps.size ≤ sizeLine
    rw [← Array.length_toList]
    show z.cps.toList.reverse.length ≤ sizeLine
    rw [List.length_reverse, Array.length_toList]
    exact hz
  rw [← e] at q hl
  unfold sliceMade slicePicked
  rw [if_neg c]
  exact ⟨hl, .str _, H4, I5.tok _, ⟨_, rfl⟩, q⟩
end
end TH
set_option Elab.async false
set_option linter.all false
set_option maxRecDepth 100000
set_option maxHeartbeats 2000000
/-! enumerate and zip over lists, tuples and texts, in any mix -/
namespace TH
open PySem PySem.Spec PyProof.Rows L2
/-- the signs of a text -/
def signs (z : Str) : List V := z.cps.toList.map fun c => V.str ⟨#[c]⟩
inductive Src where
  | lst (a : Addr) | tup (a : Addr) | str (z : Str)
namespace Src
def v : Src → V
  | .lst a => .ref a | .tup a => .ref a | .str z => .str z
def has (K : PySem.W.Frag) (H : Hp) : Src → List V → Prop
  | .lst a, xs => SqL K H a xs | .tup a, xs => SqT K H a xs | .str z, xs => xs = signs z
def val (t : Tok) : Src → Value
  | .lst a => .ref a | .tup a => .ref a | .str z => .str z t
def it (t : Tok) : Src → Addr → Nat → Heap → Prop
  | .lst a, p, i, h => h.IsListIter p a i | .tup a, p, i, h => h.IsTupleIter p a i | .str z, p, i, h => h.IsStrIter p (strIterType z) z t i
def gd : Src → Array Value → Heap → Prop
  | .lst a, items, h => h.IsList a items | .tup a, items, h => h.IsTuple a items | .str _, _, _ => True
def n : Src → Array Value → Nat
  | .lst _, items => items.size | .tup _, items => items.size | .str z, _ => z.cps.size
def yv : Src → Array Value → Nat → Value → Prop
  | .lst _, items, i, v => items[i]? = some v | .tup _, items, i, v => items[i]? = some v | .str z, _, i, v => ∃ c u, z.cps[i]? = some c ∧ v = .str ⟨#[c]⟩ u
def ad : Src → List Addr
  | .lst a => [a] | .tup a => [a] | .str _ => []
theorem draws {prog : Program} {w : World} {A : Around} (hh : A.handled = none) (src : Src) (t : Tok) (p : Addr) (hne : p ∉ src.ad) (items : Array Value) :
    Draws prog w A p (p :: src.ad) (src.n items) (src.yv items) (fun i h => src.it t p i h ∧ src.gd items h) := by
  cases src with
  | lst a => exact .list hh p a (fun e => hne (by simp [ad, e])) items
  | tup a => exact .tuple hh p a (fun e => hne (by simp [ad, e])) items
  | str z =>
    have D := Draws.text (prog := prog) (w := w) hh p z t
    exact ⟨fun i h st => D.live i h st.1, fun i h h' st k => ⟨D.frame i h h' st.1 k, trivial⟩, fun i s Q E hi st hQ => D.item i s Q E hi st.1 fun x h' tk px st' sb => hQ x h' tk px ⟨st', trivial⟩ sb, fun s Q E st hE => D.done s Q E st.1 hE⟩
theorem it_obj {src : Src} {t : Tok} {p : Addr} {i : Nat} {h : Heap} (st : src.it t p i h) : ∃ o, h.get? p = some o ∧ ∀ v, o.data ≠ .cell v := by
  cases src with
  | lst a => obtain ⟨o, e, c, d⟩ := st; exact ⟨o, e, fun v z => by rw [d] at z; cases z⟩
  | tup a => obtain ⟨o, e, c, d⟩ := st; exact ⟨o, e, fun v z => by rw [d] at z; cases z⟩
  | str z => obtain ⟨o, e, c, d⟩ := st; exact ⟨o, e, fun v z => by rw [d] at z; cases z⟩
theorem it_at {src : Src} {t : Tok} {p : Addr} {i : Nat} {h h' : Heap} (st : src.it t p i h) (k : ∀ o, h.get? p = some o → h'.get? p = some o) : src.it t p i h' := by
  cases src with
  | lst a => exact Heap.IsListIter.at st k
  | tup a => exact Heap.IsTupleIter.at st k
  | str z => obtain ⟨o, e, r⟩ := st; exact ⟨o, k o e, r⟩
theorem begins {src : Src} {t : Tok} {items : Array Value} : ∃ o, Begins (src.val t) o (src.gd items) ∧ ∀ (h : Heap) (p : Addr), h.get? p = some o → src.it t p 0 h := by
  cases src with
  | lst a => exact ⟨_, begins_list a items, fun h p e => ⟨_, e, rfl, rfl⟩⟩
  | tup a => exact ⟨_, begins_tuple a items, fun h p e => ⟨_, e, rfl, rfl⟩⟩
  | str z => exact ⟨_, begins_text z t, fun h p e => ⟨_, e, rfl, rfl⟩⟩
section
variable {X : Cx} {pins : List (Addr × Obj)} {σ : St} {H : Hp} {s : Shared} {src : Src} {xs ys : List V}
theorem inj (I : Inv X pins σ H s) (h : src.has X.K H xs) (h' : src.has X.K H ys) : xs = ys := by
  cases src with
  | lst a => exact I.list_inj h h'
  | tup a => exact I.tuple_inj h h'
  | str z => exact Eq.trans h (Eq.symm h')
theorem at_ (I : Inv X pins σ H s) (h : src.has X.K H xs) : ∃ items : Array Value, src.gd items s.heap ∧ src.n items = xs.length ∧ (∀ i v, src.yv items i v → ∃ x, xs[i]? = some x ∧ RelV x v) ∧ ∀ b ∈ src.ad, b < s.heap.objs.size := by
  cases src with
  | lst a =>
    obtain ⟨its, r, p, hz⟩ := I.list h
    refine ⟨its.toArray, p.isList, by rw [r.length]; exact List.size_toArray .., fun i v e => ?_, fun b hb => ?_⟩
    · have e' : its[i]? = some v := by simpa [yv] using e
      cases q : xs[i]? with
      | none => rw [r.none_of q] at e'; cases e'
      | some x =>
        obtain ⟨u, hu, ru⟩ := r.get q
        rw [hu] at e'; cases e'
        exact ⟨x, rfl, ru⟩
    · have e : b = a := by simpa [ad] using hb
      rw [e]; exact p.lt
  | tup a =>
    obtain ⟨its, r, p, hz⟩ := I.tuple h
    refine ⟨its.toArray, p, by rw [r.length]; exact List.size_toArray .., fun i v e => ?_, fun b hb => ?_⟩
    · have e' : its[i]? = some v := by simpa [yv] using e
      cases q : xs[i]? with
      | none => rw [r.none_of q] at e'; cases e'
      | some x =>
        obtain ⟨u, hu, ru⟩ := r.get q
        rw [hu] at e'; cases e'
        exact ⟨x, rfl, ru⟩
    · have e : b = a := by simpa [ad] using hb
      rw [e]; exact p.lt
  | str z =>
    have h' : xs = signs z := h
    refine ⟨#[], trivial, by rw [h']; simp [n, signs], fun i v e => ?_, fun b hb => by cases hb⟩
    obtain ⟨c, u, e1, e2⟩ := e
    refine ⟨.str ⟨#[c]⟩, ?_, u, e2⟩
    rw [h', signs, List.getElem?_map, Array.getElem?_toList, e1]; rfl
theorem of_val {u : Value} (r : RelV src.v u) : ∃ t, u = src.val t := by
  cases src with
  | lst a => exact ⟨0, r⟩
  | tup a => exact ⟨0, r⟩
  | str z => exact r
end
end Src
/-- a new pair at each turn -/
def Iteg (K : PySem.W.Frag) (src : Src) : It :=
  ⟨fun i H => ∃ (xs : List V) (x : V), src.has K H xs ∧ xs[i]? = some x, fun i H v H' => ∃ T x, v = .ref T ∧ H T = none ∧ H' = upd H T (.tup [.int (i : Nat), x]) ∧ ∀ xs, src.has K H xs → xs[i]? = some x, fun i H => ∃ xs : List V, src.has K H xs ∧ xs.length = i⟩
theorem turn_enumG {P : Program} {w : World} {K : PySem.W.Frag} {elts : List Expr} {kk : Nat} {tpos : Pos} (src : Src) (t : Tok) (e it : Addr) (hia : it ∉ src.ad) (hea : e ∉ src.ad) :
    Turn P w K (.Tuple elts kk tpos) (Iteg K src) [e, it] e (fun i h => (∃ old, IsEnum h e it ((i : Nat) : Int) old) ∧ src.it t it i h ∧ e ≠ it) where
  mem := by simp
  obj := fun i h st b hb => by
    obtain ⟨⟨old, he⟩, hi, _⟩ := st
    have e' : b = e ∨ b = it := by simpa using hb
    rcases e' with z | z
    · rw [z]; exact ⟨_, he, fun v q => nomatch q⟩
    · rw [z]; exact Src.it_obj hi
  keep := fun i h h' st k => let ⟨⟨old, he⟩, hi, hne⟩ := st; ⟨⟨old, k e (by simp) _ he⟩, Src.it_at hi fun o q => k it (by simp) o q, hne⟩
  item := by
    intro X hP hw hK hc i pins s σ H E I hf st hg
    subst hP hw hK
    obtain ⟨⟨old, he⟩, hit, hne⟩ := st
    obtain ⟨xs, x, hq, hx⟩ := hg
    obtain ⟨items, hgd, hn, hy, had⟩ := Src.at_ I hq
    have hel : e < s.heap.objs.size := Heap.lt_size he
    have hil : it < s.heap.objs.size := by obtain ⟨_, q, _⟩ := Src.it_obj hit; exact Heap.lt_size q
    have hlt : i < src.n items := by rw [hn]; exact (List.getElem?_eq_some_iff.mp hx).1
    have hh : X.A.in1.handled = none := I.ok.hd hc
    have hef : e ∉ it :: src.ad := fun hm => (List.mem_cons.mp hm).elim hne hea
    refine wpAny_pyNext_enum_itemC (Src.draws hh src t it hia items) he ⟨hit, hgd⟩ hlt hne hef fun u h' tk hu ho hit' hT hsz hk => ?_
    obtain ⟨x', hx', ru⟩ := hy i u hu
    rw [hx] at hx'; cases hx'
    refine ⟨_, rfl, wpAny_letOwnedTupleGo_enum (s := { s with heap := h', toks := tk + 1 }) ho fun h'' he' sb => ?_⟩
    have hT2 : h''.get? s.heap.objs.size = some { cls := .type "tuple", data := .seq #[.int i tk, u] } := (sb.2 _ (Nat.ne_of_gt hel)).trans hT
    have new : ObjOk X.prog X.w (upd H s.heap.objs.size (.tup [.int (i : Nat), x])) h'' s.heap.objs.size (.tup [.int (i : Nat), x]) :=
      ⟨by show 2 ≤ sizeLine; decide, [.int i tk, u], .cons ⟨_, rfl⟩ (.cons ru .nil), ⟨_, hT2, rfl, _, rfl⟩⟩
    have I1 : Inv X pins σ (upd H s.heap.objs.size (.tup [.int (i : Nat), x])) { s with heap := h'', toks := tk + 1 } :=
      I.turnedNew (ch := [e, it]) (fun b ob hb q => (sb.2 b (fun z => hb (by simp [z]))).trans (hk b ob (fun z => hb (by simp [z])) (fun z => hb (by simp [z])) q)) hf (Nat.le_refl _) new
    refine ⟨.ref s.heap.objs.size, _, I1, rfl, ⟨_, x, rfl, I.hok.fresh (Nat.le_refl _), rfl, fun ys hys => (by rw [Src.inj I hys hq]; exact hx)⟩, ⟨⟨u, ?_⟩, Src.it_at hit'.1 fun o q => (sb.2 it (Ne.symm hne)).trans q, hne⟩, fun b hb => ?_⟩
    · have e1 : ((i + 1 : Nat) : Int) = (i : Int) + 1 := by omega
      rw [e1]; exact he'
    · have hb' : b < s.heap.objs.size := by
        have e' : b = e ∨ b = it := by simpa using hb
        rcases e' with z | z
        · rw [z]; exact hel
        · rw [z]; exact hil
      rw [upd_ne (Nat.ne_of_lt hb')]
      exact (hf b hb).1
  done := by
    intro X hP hw hK hc i pins s σ H E I hf st hg
    subst hP hw hK
    obtain ⟨⟨old, he⟩, hit, hne⟩ := st
    obtain ⟨xs, hq, hx⟩ := hg
    obtain ⟨items, hgd, hn, hy, had⟩ := Src.at_ I hq
    obtain ⟨f0, f1, f2, f3, f4, f5⟩ := hf it (by simp)
    have hh : X.A.in1.handled = none := I.ok.hd hc
    have hni : i = src.n items := by rw [hn, hx]
    subst hni
    exact wpAny_pyNext_enum_endD (Src.draws hh src t it hia items) he ⟨hit, hgd⟩ fun h' hx => ⟨rfl, I.turned (t' := s.toks) (fun b o hb q => hx b o hb q) f0 f1 f3 f4 f5⟩
  self := fun A i s Q E st h => let ⟨⟨_, he⟩, _⟩ := st; wpAny_pyIter_enum he h
def iEnumG (K : PySem.W.Frag) (ta : TA) : TI := fun σ H R => ta σ H fun vs H1 => ∃ (src : Src) (xs : List V), vs = [src.v] ∧ src.has K H1 xs ∧ R (Iteg K src) H1
set_option maxHeartbeats 1000000 in
theorem meets_enumG {v : Value} {o : Obj} {H : Heap → Prop} (B : Begins v o H) :
    Meets (Builtin.«enumerate.__new__» ⟨[.type "enumerate", v], []⟩) (fun _ R s => H s.heap ∧
      R (.ok (.ret (.ref (s.heap.push o).objs.size))) { s with heap := (s.heap.push o).push { cls := .type "enumerate", data := .fields #[.none, .bool false, .ref s.heap.objs.size, rawInt 0, .none, .none] } }) :=
  .of_wp fun prog w A R s h => by
    obtain ⟨hp, g, d, tk, os⟩ := s; obtain ⟨h1, h⟩ := h
    have hsub := sub_enumerate
    have q1 : ∀ {A' : Around} {E : Value → Shared → Prop} {Q : Value → Shared → Prop}, Q (.ref hp.objs.size) ⟨hp.push o, g, d, tk, os⟩ → wpAny (model prog w) A' (pyIter v) Q E ⟨hp, g, d, tk, os⟩ :=
      fun q => B.iter prog w _ _ ⟨hp, g, d, tk, os⟩ _ h1 q
    wp_walk using q1
    refine wpAny_stack_any fun st => wpAny_pure ?_
    split
    · rename_i c _ _ _ _ _
      cases (c == Value.type "enumerate")
      · wp_walk using q1
        exact ⟨_, rfl, h⟩
      · wp_walk using q1
        exact ⟨_, rfl, h⟩
    · wp_walk using q1
      exact ⟨_, rfl, h⟩
theorem call_enumG {prog : Program} {w : World} {A : Around} {E : Value → Shared → Prop} {s : Shared} {v : Value} {o : Obj} {Hh : Heap → Prop} {Q : Value → Shared → Prop} (B : Begins v o Hh) (h1 : Hh s.heap)
    (h : ∀ h', IsEnum h' (s.heap.objs.size + 1) s.heap.objs.size 0 .none → h'.get? s.heap.objs.size = some o → (∀ b o, s.heap.get? b = some o → h'.get? b = some o) → Q (.ref (s.heap.objs.size + 1)) { s with heap := h' }) :
    wpAny (model prog w) A (call (.type "enumerate") [v]) Q E s := by
  refine callType_new F.called_enumerate (by decide) (F.typeCall_enumerate_1 _) (F.newCall_enumerate_1 _) (fun obj => F.args_object_init_2 obj _) F.entry_enumerate_new
    (meets_enumG B) ⟨h1, ?_⟩
  have hz : (s.heap.push o).objs.size = s.heap.objs.size + 1 := Heap.size_push ..
  show _ ∧ _
  rw [hz]
  have he : IsEnum ((s.heap.push o).push { cls := .type "enumerate", data := .fields #[.none, .bool false, .ref s.heap.objs.size, rawInt 0, .none, .none] }) (s.heap.objs.size + 1) s.heap.objs.size 0 .none := by
    have := Heap.get?_push_size (s.heap.push o) (o := { cls := .type "enumerate", data := .fields #[.none, .bool false, .ref s.heap.objs.size, rawInt 0, .none, .none] }) rfl
    rw [hz] at this; exact this
  exact ⟨⟨_, he, rfl⟩, h _ he (Heap.get?_push_of_some _ (Heap.get?_push_size _ B.free)) fun b o x => Heap.get?_push_of_some _ (Heap.get?_push_of_some _ x)⟩
theorem pi_enumG {X : Cx} {e : Expr} {ta : TA} {p pos tpos : Pos} {elts : List Expr} {kk : Nat} (hg : Gl X "enumerate") (hm : X.mg "enumerate" = none) (ha : PA X [e] ta) (hs : starEach [e] X.env = [(false, eval e X.env)] := by rfl) :
    PI X (.Tuple elts kk tpos) (.Call (.Name "enumerate" p) [e] [] pos) (iEnumG X.K ta) := by
  refine ⟨fun pins s σ H R I h => ?_⟩
  refine Call_ (ld_blt I hg hm boot_enumerate (PyProof.Rows.callWith_type1 (thn (ha.run pos pins s σ H _ I h) fun us s1 ⟨vs, H1, I1, r1, q1⟩ => ?_) hs rfl))
  obtain ⟨src, xs, ex, hq, q⟩ := q1
  subst ex
  cases r1 with
  | cons r rr =>
    cases rr
    obtain ⟨t, rfl⟩ := Src.of_val r
    obtain ⟨items, hgd, hn, hy, had⟩ := Src.at_ I1 hq
    obtain ⟨o, B, hB⟩ := Src.begins (src := src) (t := t) (items := items)
    refine call_enumG B hgd fun h' he ho hk => wpAny_pyIter_enum he ?_
    have I2 : Inv X pins σ H1 { s1 with heap := h' } := I1.kept (t' := s1.toks) hk
    refine ⟨s1.heap.objs.size + 1, [s1.heap.objs.size + 1, s1.heap.objs.size], _, _, H1, rfl, I2, turn_enumG src t (s1.heap.objs.size + 1) s1.heap.objs.size (fun z => absurd (had _ z) (Nat.lt_irrefl _)) (fun z => absurd (Nat.lt_trans (Nat.lt_succ_self _) (had _ z)) (Nat.lt_irrefl _)), ⟨⟨.none, he⟩, hB _ _ ho, Nat.succ_ne_self _⟩, fun b hb => ?_, q⟩
    have e' : b = s1.heap.objs.size + 1 ∨ b = s1.heap.objs.size := by simpa using hb
    have hle : s1.heap.objs.size ≤ b := by
      rcases e' with z | z
      · rw [z]; exact Nat.le_add_right _ _
      · rw [z]; exact Nat.le_refl _
    exact I1.fpOk hle (I1.hok.fresh hle)
end TH
set_option Elab.async false
set_option linter.all false
set_option maxRecDepth 100000
set_option maxHeartbeats 2000000
namespace TH
open PySem PySem.Spec PyProof.Rows L2
def Itzg (K : PySem.W.Frag) (a b : Src) : It :=
  ⟨fun i H => ∃ (xs ys : List V) (x y : V), a.has K H xs ∧ b.has K H ys ∧ xs[i]? = some x ∧ ys[i]? = some y,
    fun i H v H' => ∃ T x y, v = .ref T ∧ H T = none ∧ H' = upd H T (.tup [x, y]) ∧ (∀ xs, a.has K H xs → xs[i]? = some x) ∧ ∀ ys, b.has K H ys → ys[i]? = some y,
    fun i H => ∃ xs ys : List V, a.has K H xs ∧ b.has K H ys ∧ i ≤ xs.length ∧ i ≤ ys.length ∧ (i = xs.length ∨ i = ys.length)⟩
theorem turn_zipG {P : Program} {w : World} {K : PySem.W.Frag} {elts : List Expr} {kk : Nat} {tpos : Pos} {a b : Src} {t1 t2 : Tok} {z TI TO i1 i2 : Addr} (D : ZipSep2 z TI TO i1 i2 (i1 :: a.ad) (i2 :: b.ad)) (n1 : i1 ∉ a.ad) (n2 : i2 ∉ b.ad) :
    Turn P w K (.Tuple elts kk tpos) (Itzg K a b) [z, TI, TO, i1, i2] z (fun i h => IsZip h z TI TO .none ∧ IsTupOf2 h TI (.ref i1) (.ref i2) ∧ (∃ x y, IsTupOf2 h TO x y) ∧ a.it t1 i1 i h ∧ b.it t2 i2 i h) where
  mem := by simp
  obj := fun i h st c hc => by
    obtain ⟨hz, hTI, ⟨x, y, hTO⟩, h1, h2⟩ := st
    have e' : c = z ∨ c = TI ∨ c = TO ∨ c = i1 ∨ c = i2 := by simpa using hc
    rcases e' with q | q | q | q | q
    · rw [q]; exact ⟨_, hz, fun v q => nomatch q⟩
    · rw [q]; exact ⟨_, hTI, fun v q => nomatch q⟩
    · rw [q]; exact ⟨_, hTO, fun v q => nomatch q⟩
    · rw [q]; exact Src.it_obj h1
    · rw [q]; exact Src.it_obj h2
  keep := fun i h h' st k => by
    obtain ⟨hz, hTI, ⟨x, y, hTO⟩, h1, h2⟩ := st
    exact ⟨k z (by simp) _ hz, k TI (by simp) _ hTI, ⟨x, y, k TO (by simp) _ hTO⟩, Src.it_at h1 fun o q => k i1 (by simp) o q, Src.it_at h2 fun o q => k i2 (by simp) o q⟩
  item := by
    intro X hP hw hK hc i pins s σ H E I hf st hg
    subst hP hw hK
    obtain ⟨hz, hTI, ⟨x0, y0, hTO⟩, h1, h2⟩ := st
    obtain ⟨xs, ys, x, y, hqx, hqy, hx, hy⟩ := hg
    obtain ⟨its1, g1, e1, y1, ad1⟩ := Src.at_ I hqx
    obtain ⟨its2, g2, e2, y2, ad2⟩ := Src.at_ I hqy
    have hzl : z < s.heap.objs.size := Heap.lt_size hz
    have hh : X.A.in1.handled = none := I.ok.hd hc
    have iz1 : i1 ≠ z := fun q => D.zf1 (by rw [← q]; exact List.mem_cons_self)
    have iz2 : i2 ≠ z := fun q => D.zf2 (by rw [← q]; exact List.mem_cons_self)
    refine wpAny_pyNext_zipD2_item D (Src.draws hh a t1 i1 n1 its1) (Src.draws hh b t2 i2 n2 its2) hz hTI hTO ⟨h1, g1⟩ ⟨h2, g2⟩ (by rw [e1]; exact (List.getElem?_eq_some_iff.mp hx).1) (by rw [e2]; exact (List.getElem?_eq_some_iff.mp hy).1) fun u u2 h' tk hu hu2 z' TO' h1' h2' hT hsz hk => ?_
    obtain ⟨x', hx', ru⟩ := y1 i u hu
    rw [hx] at hx'; cases hx'
    obtain ⟨y', hy', ru2⟩ := y2 i u2 hu2
    rw [hy] at hy'; cases hy'
    refine ⟨_, rfl, wpAny_letOwnedTupleGo_zip (s := { s with heap := h', toks := tk }) z' fun h'' z'' sb => ?_⟩
    have hT2 : h''.get? s.heap.objs.size = some { cls := .type "tuple", data := .seq #[u, u2] } := (sb.2 _ (Nat.ne_of_gt hzl)).trans hT
    have new : ObjOk X.prog X.w (upd H s.heap.objs.size (.tup [x, y])) h'' s.heap.objs.size (.tup [x, y]) :=
      ⟨by show 2 ≤ sizeLine; decide, [u, u2], .cons ru (.cons ru2 .nil), ⟨_, hT2, rfl, _, rfl⟩⟩
    have I1 : Inv X pins σ (upd H s.heap.objs.size (.tup [x, y])) { s with heap := h'', toks := tk } :=
      I.turnedNew (t' := tk) (ch := [z, TI, TO, i1, i2]) (fun c o hb q => (sb.2 c (fun q' => hb (by simp [q']))).trans (hk c o (fun q' => hb (by simp [q'])) (fun q' => hb (by simp [q'])) (fun q' => hb (by simp [q'])) (fun q' => hb (by simp [q'])) q)) hf (Nat.le_refl _) new
    refine ⟨.ref s.heap.objs.size, _, I1, rfl, ⟨_, x, y, rfl, I.hok.fresh (Nat.le_refl _), rfl, fun l hl => by rw [Src.inj I hl hqx]; exact hx, fun l hl => by rw [Src.inj I hl hqy]; exact hy⟩, ⟨z'', ?_, ⟨u, u2, ?_⟩, ?_, ?_⟩, fun c hcm => ?_⟩
    · exact (sb.2 _ D.TIz).trans (hk _ _ D.TIz D.TITO D.TIi1 D.TIi2 hTI)
    · exact (sb.2 _ D.TOz).trans TO'
    · exact Src.it_at h1'.1 fun o q => (sb.2 _ iz1).trans q
    · exact Src.it_at h2'.1 fun o q => (sb.2 _ iz2).trans q
    · have hlt : c < s.heap.objs.size := by
        have e' : c = z ∨ c = TI ∨ c = TO ∨ c = i1 ∨ c = i2 := by simpa using hcm
        rcases e' with q | q | q | q | q
        · rw [q]; exact hzl
        · rw [q]; exact Heap.lt_size hTI
        · rw [q]; exact Heap.lt_size hTO
        · rw [q]; obtain ⟨_, e1, _⟩ := Src.it_obj h1; exact Heap.lt_size e1
        · rw [q]; obtain ⟨_, e2, _⟩ := Src.it_obj h2; exact Heap.lt_size e2
      rw [upd_ne (Nat.ne_of_lt hlt)]
      exact (hf c hcm).1
  done := by
    intro X hP hw hK hc i pins s σ H E I hf st hg
    subst hP hw hK
    obtain ⟨hz, hTI, ⟨x0, y0, hTO⟩, h1, h2⟩ := st
    obtain ⟨xs, ys, hqx, hqy, l1, l2, hend⟩ := hg
    obtain ⟨its1, g1, e1, y1, ad1⟩ := Src.at_ I hqx
    obtain ⟨its2, g2, e2, y2, ad2⟩ := Src.at_ I hqy
    have hh : X.A.in1.handled = none := I.ok.hd hc
    refine wpAny_pyNext_zipD2_end D (Src.draws hh a t1 i1 n1 its1) (Src.draws hh b t2 i2 n2 its2) hz hTI hTO ⟨h1, g1⟩ ⟨h2, g2⟩ (by rw [e1]; exact l1) (by rw [e2]; exact l2) (by rw [e1, e2]; exact hend) fun h' tk hk => ⟨rfl, I.turnedL (t' := tk) (ch := [z, TI, TO, i1, i2]) (fun c o hb q =>
      hk c o (fun q' => hb (by simp [q'])) (fun q' => hb (by simp [q'])) (fun q' => hb (by simp [q'])) (fun q' => hb (by simp [q'])) q) hf⟩
  self := fun A i s Q E st h => wpAny_pyIter_zip st.1 h
def iZipG (K : PySem.W.Frag) (ta : TA) : TI := fun σ H R => ta σ H fun vs H1 => ∃ (a b : Src) (xs ys : List V), vs = [a.v, b.v] ∧ a.has K H1 xs ∧ b.has K H1 ys ∧ R (Itzg K a b) H1
theorem pi_zipG {X : Cx} {e e2 : Expr} {ta : TA} {p pos tpos : Pos} {elts : List Expr} {kk : Nat} (hg : Gl X "zip") (hm : X.mg "zip" = none) (ha : PA X [e, e2] ta)
    (hs : starEach [e, e2] X.env = (false, eval e X.env) :: starEach [e2] X.env := by rfl) (hpl : (backTo pos (starEach [e2] X.env)).any (·.1) = false := by rfl) :
    PI X (.Tuple elts kk tpos) (.Call (.Name "zip" p) [e, e2] [] pos) (iZipG X.K ta) := by
  refine ⟨fun pins s σ H R I h => ?_⟩
  refine Call_ (ld_blt I hg hm PyProof.Rows.boot_zip (PyProof.Rows.callWith_type1 (thn (ha.run pos pins s σ H _ I h) fun us s1 ⟨vs, H1, I1, r1, q1⟩ => ?_) hs hpl))
  obtain ⟨a, b, xs, ys, ex, hqx, hqy, q⟩ := q1
  subst ex
  cases r1 with
  | cons r rr =>
    cases rr with
    | cons r' rr =>
      cases rr
      obtain ⟨t1, rfl⟩ := Src.of_val r
      obtain ⟨t2, rfl⟩ := Src.of_val r'
      obtain ⟨its1, g1, e1, y1, ad1⟩ := Src.at_ I1 hqx
      obtain ⟨its2, g2, e2, y2, ad2⟩ := Src.at_ I1 hqy
      obtain ⟨o1, B1, hB1⟩ := Src.begins (src := a) (t := t1) (items := its1)
      obtain ⟨o2, B2, hB2⟩ := Src.begins (src := b) (t := t2) (items := its2)
      refine zip_begins2 B1 B2 g1 g2 fun h' hz hTI hTO ho1 ho2 hsz hk => wpAny_pyIter_zip hz ?_
      have I2 : Inv X pins σ H1 { s1 with heap := h' } := I1.kept (t' := s1.toks) hk
      refine ⟨s1.heap.objs.size + 4, [s1.heap.objs.size + 4, s1.heap.objs.size + 2, s1.heap.objs.size + 3, s1.heap.objs.size, s1.heap.objs.size + 1], _, _, H1, rfl, I2, turn_zipG (t1 := t1) (t2 := t2) (zip_sep2 ad1 ad2) (fun z => absurd (ad1 _ z) (Nat.lt_irrefl _)) (fun z => absurd (Nat.lt_trans (Nat.lt_succ_self _) (ad2 _ z)) (Nat.lt_irrefl _)), ⟨hz, hTI, ⟨_, _, hTO⟩, hB1 _ _ ho1, hB2 _ _ ho2⟩, fun c hcm => ?_, q⟩
      have e' : c = s1.heap.objs.size + 4 ∨ c = s1.heap.objs.size + 2 ∨ c = s1.heap.objs.size + 3 ∨ c = s1.heap.objs.size ∨ c = s1.heap.objs.size + 1 := by simpa using hcm
      have hle : s1.heap.objs.size ≤ c := by
        rcases e' with z | z | z | z | z
        · rw [z]; exact Nat.le_add_right _ _
        · rw [z]; exact Nat.le_add_right _ _
        · rw [z]; exact Nat.le_add_right _ _
        · rw [z]; exact Nat.le_refl _
        · rw [z]; exact Nat.le_add_right _ _
      exact I1.fpOk hle (I1.hok.fresh hle)
/-! ### walks over them -/
theorem walk_enumG {K : PySem.W.Frag} {src : Src} {xs : List V} : Walk (Iteg K src) xs.length (fun H => src.has K H xs) (YPair (fun i => some (.int (i : Nat))) (fun i => xs[i]?)) := by
  refine ⟨fun i _ hi q => ⟨xs, xs[i], q, by simp [hi]⟩, fun _ q => ⟨xs, q, rfl⟩, fun i H v H' _ q y => ?_⟩
  obtain ⟨T, x, h1, h2, h3, h4⟩ := y
  exact ⟨T, .int (i : Nat), x, h1, h2, h3, rfl, h4 xs q⟩
theorem walk_zipG {K : PySem.W.Frag} {a b : Src} {xs ys : List V} : Walk (Itzg K a b) (min xs.length ys.length) (fun H => a.has K H xs ∧ b.has K H ys) (YPair (fun i => xs[i]?) (fun i => ys[i]?)) := by
  refine ⟨fun i _ hi q => ?_, fun _ q => ⟨xs, ys, q.1, q.2, by omega, by omega, by omega⟩, fun i H v H' _ q y => ?_⟩
  · have h1 : i < xs.length := by omega
    have h2 : i < ys.length := by omega
    exact ⟨xs, ys, xs[i], ys[i], q.1, q.2, by simp [h1], by simp [h2]⟩
  · obtain ⟨T, x, z, h1, h2, h3, h4, h5⟩ := y
    exact ⟨T, x, z, h1, h2, h3, h4 xs q.1, h5 ys q.2⟩
/-- for x in list | tuple | text -/
def iSrc (K : PySem.W.Frag) (tl : TE) : TI := fun σ H R => tl σ H fun x H1 => (∃ a xs, x = .ref a ∧ SqL K H1 a xs ∧ R (Itl K a) H1) ∨ (∃ a xs, x = .ref a ∧ SqT K H1 a xs ∧ R (Itt K a) H1) ∨ ∃ z, x = .str z ∧ R (Its z) H1
theorem pi_src {X : Cx} {tg l : Expr} {tl : TE} (hl : PE X l tl) : PI X tg l (iSrc X.K tl) := by
  refine ⟨fun pins s σ H R I h => ?_⟩
  refine thn (hl.run pins s σ H _ I h) fun v s1 ⟨x, H1, I1, r1, q1⟩ => ?_
  rcases q1 with ⟨a, xs, ex, hq, q⟩ | ⟨a, xs, ex, hq, q⟩ | ⟨z, ex, q⟩
  · subst ex
    cases r1
    obtain ⟨its, rv, p, hz⟩ := I1.list hq
    refine wpAny_pyIter_list p.isList ?_
    refine ⟨s1.heap.objs.size, [s1.heap.objs.size], _, _, H1, rfl, I1.kept (t' := s1.toks) fun b o e => Heap.get?_push_of_some _ e, turn_list a _, ⟨_, Heap.get?_push_size _ rfl, rfl, rfl⟩, fun b hb => ?_, q⟩
    have e : b = s1.heap.objs.size := by simpa using hb
    rw [e]
    exact I1.fpOk (Nat.le_refl _) (I1.hok.fresh (Nat.le_refl _))
  · subst ex
    cases r1
    obtain ⟨its, rv, p, hz⟩ := I1.tuple hq
    refine wpAny_pyIter_tuple (show s1.heap.IsTuple a its.toArray from p) ?_
    refine ⟨s1.heap.objs.size, [s1.heap.objs.size], _, _, H1, rfl, I1.kept (t' := s1.toks) fun b o e => Heap.get?_push_of_some _ e, turn_tuple a _, ⟨_, Heap.get?_push_size _ rfl, rfl, rfl⟩, fun b hb => ?_, q⟩
    have e : b = s1.heap.objs.size := by simpa using hb
    rw [e]
    exact I1.fpOk (Nat.le_refl _) (I1.hok.fresh (Nat.le_refl _))
  · subst ex
    obtain ⟨t, rfl⟩ := r1
    cases ha : z.cps.all (· < 128)
    · exact wpAny_pyIter_wide ha (pi_one (tk := s1.toks) I1 _ (turn_str _ z t "str_iterator" (.inr rfl)) ⟨_, Heap.get?_push_size _ rfl, rfl, rfl⟩ q)
    · exact wpAny_pyIter_ascii ha (pi_one (tk := s1.toks) I1 _ (turn_str _ z t "str_ascii_iterator" (.inl rfl)) ⟨_, Heap.get?_push_size _ rfl, rfl, rfl⟩ q)
end TH
set_option Elab.async false
set_option linter.all false
set_option maxRecDepth 100000
set_option maxHeartbeats 2000000
/-! own classes: len, [ ], ==, a property, a constant, for over what __iter__ hands out -/
namespace TH
open PySem PySem.Spec PyProof.Rows L2
section
variable {X : Cx} {pins : List (Addr × Obj)} {σ : St} {H : Hp} {s : Shared} {a C dx : Addr} {fs : List (Str × V)} {k : Nat} {f : Addr} {sp : Sp} {E : XK} {Q : VK}
theorem ins_inst (I : Inv X pins σ H s) (e : H a = some (.ins C dx fs)) : ∃ od, PySem.W.InstAt s.heap a (PySem.W.instObj C dx) C (some od) := by
  obtain ⟨mA, O, _, _, _, _⟩ := ins_get I.hok e
  obtain ⟨od, J, _⟩ := O.look
  exact ⟨od, J⟩
/-- a def called one level in -/
theorem run1 {CX : CXT} {us : List Value} {vs : List V} {R : Value → Shared → Prop} (F : FnR X.prog X.w X.K X.mg X.base CX k f sp) (hr : Room (k + 1) X.A) (hx : Passes CX X E) (I : Inv X pins σ H s) (r : Vals vs us) (h : sp vs H Q E)
    (hR : ∀ u s', EP X pins σ Q u s' → R u s') : wpAny (model X.prog X.w) X.A.in1 (call (.ref f) us) R X.xe s := by
  refine wpAny_call (codeAny_mono (F X.A.in1 X.stack s H us vs Q E hr.in1 I.env0.in1 r h) fun r s' hq => ?_)
  cases r with
  | error e => exact hx pins σ H s e s' I hq
  | ok fl =>
    cases fl with
    | ret u => exact hR _ _ (I.after hq)
    | next => exact False.elim hq
    | brk => exact False.elim hq
    | cont => exact False.elim hq
theorem run0 {CX : CXT} {us : List Value} {vs : List V} (F : FnR X.prog X.w X.K X.mg X.base CX k f sp) (hr : Room k X.A) (hx : Passes CX X E) (I : Inv X pins σ H s) (r : Vals vs us) (h : sp vs H Q E) : wpAny (model X.prog X.w) X.A (call (.ref f) us) (EP X pins σ Q) X.xe s :=
  wpAny_call (run_fnR F hr hx I r h)
end
/-- a special method of the class at C, its def at f -/
structure Spc (K : PySem.W.Frag) (C : Addr) (m : Str) (f : Addr) : Prop where
  at_ : PySem.W.findIn K (.ref C) m = some (some (.ref f))
  fn : PySem.W.isFn K (.ref f) = true
  fi : PySem.W.fnIn K f = true
section
variable {X : Cx} {C f : Addr} {k j : Nat} {sp : Sp} {E : XK}
/-- len(o) -/
def rLenO (C : Addr) (sp : Sp) (E : XK) : List V → Hp → VK → Prop := fun xs H Q => ∃ a dx fs, xs = [.ref a] ∧ H a = some (.ins C dx fs) ∧ sp [.ref a] H (fun v H' => ∃ n, v = .int n ∧ 0 ≤ n ∧ n < 2 ^ 63 ∧ Q (.int n) H') E
theorem call_lenO (S : Spc X.K C "__len__" f) (F : FnT X.prog X.w X.K X.mg X.base k f sp) (hr : Room j X.A) (hk : k + 1 ≤ j) (hx : Passes (L2N.CX X.prog X.w) X E) : CallR X (.builtin "len") (rLenO C sp E) := by
  intro pins s σ H xs us Q I r h
  obtain ⟨a, dx, fs, rfl, ea, q⟩ := h
  obtain ⟨u, rfl, ru⟩ := vals1 r
  cases ru
  obtain ⟨od, J⟩ := ins_inst I ea
  obtain ⟨m, hF⟩ := I.fr
  refine PySem.W.len_K hF I.ok.mod.kin J S.at_ S.fn (run1 F (hr.mono hk) hx I r q fun u s' hu => ?_)
  obtain ⟨v, H', I', rv, n, rfl, h0, h1, q'⟩ := hu
  obtain ⟨t, rfl⟩ := rv
  exact ⟨⟨h0, h1⟩, .int n, H', I'.tok _, ⟨_, rfl⟩, q'⟩
/-- o[e] -/
def rIxO (C : Addr) (sp : Sp) (E : XK) : R2 := fun x y H Q => ∃ a dx fs, x = .ref a ∧ H a = some (.ins C dx fs) ∧ sp [.ref a, y] H Q E
theorem pe_ixO {a b : Expr} {ta tb : TE} {pos : Pos} (S : Spc X.K C "__getitem__" f) (F : FnT X.prog X.w X.K X.mg X.base k f sp) (hr : Room j X.A) (hk : k + 1 ≤ j) (hx : Passes (L2N.CX X.prog X.w) X E) (ha : PE X a ta) (hb : PE X b tb)
    (hsl : ∀ x i, subscripted b true x i = runValue (.builtin "lifetime.subscript" ⟨[x, i], []⟩) := by intro _ _; with_unfolding_all rfl) : PE X (.Subscript a b pos) (tOp (rIxO C sp E) ta tb) := by
  refine ⟨fun pins s σ H Q I h => ?_⟩
  refine Subscript_ (thn (ha.run pins s σ H _ I h) fun v s1 ⟨x, H1, I1, r1, q1⟩ => ?_)
  refine thn (hb.run pins s1 σ H1 _ I1 q1) fun u s2 ⟨y, H2, I2, r2, a, dx, fs, ex, ea, q⟩ => ?_
  subst ex
  cases r1
  obtain ⟨od, J⟩ := ins_inst I2 ea
  obtain ⟨m, hF⟩ := I2.fr
  exact PySem.W.sub_K hF I2.ok.mod.kin J S.at_ S.fi S.fn (run1 (us := [.ref a, u]) (vs := [.ref a, y]) F (hr.mono hk) hx I2 (.cons rfl (.cons r2 .nil)) q fun u s' hu => hu) (hsl _ _)
/-- o == y: y of a type that isn't asked first -/
def rEqO (C : Addr) (sp : Sp) (E : XK) (K : PySem.W.Frag) : R2 := fun x y H Q => ∃ a dx fs t, x = .ref a ∧ H a = some (.ins C dx fs) ∧ TyX K H y t ∧ PySem.W.notFirst K C t = true ∧ sp [.ref a, y] H (fun v H' => ∃ b, v = .bl b ∧ Q (.bl b) H') E
theorem tyX_type {pins : List (Addr × Obj)} {σ : St} {H : Hp} {s : Shared} {y : V} {u t : Value} (I : Inv X pins σ H s) (r : RelV y u) (ty : TyX X.K H y t) : PySem.W.Looks (model X.prog X.w) s.heap (typeOf u) t := by
  obtain ⟨P, Z, p, _⟩ := kit_of I r ty
  exact Z.ty _ _ I.kIn p
theorem op_eqO (S : Spc X.K C "__eq__" f) (F : FnT X.prog X.w X.K X.mg X.base k f sp) (hr : Room j X.A) (hk : k ≤ j) (hx : Passes (L2N.CX X.prog X.w) X E) : OpR X (compareOp .Eq) (rEqO C sp E X.K) := by
  intro pins s σ H x y v u Q I rx ry h
  obtain ⟨a, dx, fs, t, rfl, ea, ty, nf, q⟩ := h
  cases (show v = Value.ref a from rx)
  obtain ⟨od, J⟩ := ins_inst I ea
  obtain ⟨m, hF⟩ := I.fr
  show wpAny _ _ (richCompare .Eq _ _) _ _ _
  refine PySem.W.cmp_K (op := .Eq) (tb := t) hr.units0 hF I.ok.mod.kin J (tyX_type I ry ty) nf S.at_ S.fn ?_
  refine wpAny_mono (run0 (us := [.ref a, u]) (vs := [.ref a, y]) F (hr.mono hk) hx I (.cons rfl (.cons ry .nil)) q) (fun w s' z => ?_) fun _ _ x => x
  obtain ⟨z', H', I', rz, b, rfl, qz⟩ := z
  exact SlX.cmpback rz ⟨.bl b, H', I', rz, qz⟩
end
/-! ### for x in o: __iter__ hands out iter(self.f), self.f a tuple -/
def ItT (t it : Addr) (i : Nat) : HO := .ext fun h => h.IsTupleIter it t i
theorem itT_ok {P : Program} {w : World} {H : Hp} {h : Heap} {t it : Addr} {i : Nat} (e : h.IsTupleIter it t i) : ObjOk P w H h it (ItT t it i) := by
  obtain ⟨o, e1, e2⟩ := id e
  exact ⟨e, ⟨o, e1⟩, fun h1 h2 q k => by
    obtain ⟨o2, e3, e4⟩ := q
    exact ⟨o2, k _ e3, e4⟩⟩
theorem call_iter_tuple {prog : Program} {w : World} {A : Around} {E : Value → Shared → Prop} {s : Shared} {l : Addr} {items : Array Value} {Q : Value → Shared → Prop} (hl : s.heap.IsTuple l items)
    (h : Q (.ref s.heap.objs.size) { s with heap := s.heap.push { cls := .type "tuple_iterator", data := .fields #[.ref l, .int 0 0] } }) : wpAny (model prog w) A (call (.builtin "iter") [.ref l]) Q E s := by
  refine Calls.call_function_entry (by decide +kernel) (by decide +kernel) PySem.W.kdk_entry_iter (PySem.W.kdk_args_iter _) ?_
  unfold Builtin.«iter»
  refine wpAny_bind (m := someArgs "iter" 1 2 _) (wpAny_of_eq (a := [Value.ref l]) (by first | rfl | kernel_rfl!) ?_)
  show wpAny _ _ (pyIter (.ref l) >>= _) _ _ _
  refine wpAny_bind (wpAny_pyIter_tuple hl ?_)
  exact wpAny_pure ⟨_, rfl, h⟩
def rIterT (K : PySem.W.Frag) (n : Nat) : List V → Hp → VK → Prop := fun xs H Q => ∃ (l : Addr) (zs : List V), xs = [.ref l] ∧ SqT K H l zs ∧ ∀ it, H it = Option.none → n ≤ it → Q (.ref it) (upd H it (ItT l it 0))
theorem call_iterT {X : Cx} : CallR X (.builtin "iter") (rIterT X.K X.s_0.heap.objs.size) := by
  intro pins s σ H xs us Q I r h
  obtain ⟨l, zs, rfl, hq, q⟩ := h
  obtain ⟨u, rfl, ru⟩ := vals1 r
  cases ru
  obtain ⟨its, rv, pl, hz⟩ := I.tuple hq
  refine call_iter_tuple (show s.heap.IsTuple l its.toArray from pl) ?_
  exact ⟨.ref s.heap.objs.size, _, I.laid (t' := s.toks) (fun b u e => Heap.get?_push_of_some _ e) (Nat.le_refl _) (itT_ok ⟨_, Heap.get?_push_size _ rfl, rfl, rfl⟩), rfl, q _ (I.hok.fresh (Nat.le_refl _)) I.sz⟩
/-- a def's run from one state, its promise told of that state -/
theorem fn_run {CX : CXT} {P : Program} {w : World} {K : PySem.W.Frag} {mg : Str → Option Value} {base : Heap} {k : Nat} {f : Addr} {x q : Str} {st : Stmt} {N ps : List Str} (F : FD K x q st [] f) (S : FnScope N ps (defScope st))
    (hb : ∀ (kV doc pm : Value) (an : Option Addr) (cdv ct : Value) (us : List Value), us.length = ps.length → bindArgs (PySem.W.fnOf x q (defArgs st) (defBody st) (defScope st) .none kV doc pm an cdv ct) ⟨us, []⟩ = pure (ps.zip us))
    {A : Around} {outer : List Env} {s : Shared} {H : Hp} {us : List Value} {vs : List V} {R : VK} {E : XK} (hr : Room (k + 1) A) (e0 : Env0 P w K mg base A outer s H) (r : Vals vs us) (hl : vs.length = ps.length)
    (hbody : ∀ cdv, Room k (A.deeper (envOfC q (defScope st) s.heap.objs.size f cdv)) → ∃ t, PSs (cxOf CX P w K mg base N q (defScope st) f cdv A outer s H E) (defBody st) t ∧ t { nx := fun _ H' => R .non H', rt := R } (start N vs) H) :
    codeAny (model P w) A (.call (.ref f) ⟨us, []⟩) (CR CX outer P w H s R E) s := by
  obtain ⟨fd, F⟩ := F
  obtain ⟨oc, od, dV, kV, doc, pm, an, cdv, ct, osl, rfl, lk, hcd, hD, _⟩ := F.ex
  have hD' : dV = .none := by
    rcases hD with ⟨_, e⟩ | ⟨e, _⟩
    · exact e
    · exact absurd rfl e
  subst hD'
  have KX : K.In s.heap := e0.mod.kin.keeps fun b o e => (e0.bs b o e).1
  have lim : s.heap.NoLimit := e0.mod.nolimit.keeps fun b o e => (e0.bs b o e).1
  have hkind : ∀ y ∈ ps.zip us, (defScope st).names.lookup y.1 = some .local ∨ ((defScope st).names.lookup y.1 = some .cell ∧ ((cellsFrom (s.heap.objs.size + 1) (defScope st).names []).lookup y.1).isSome = true) := fun ⟨n, v⟩ hy => by
    rcases S.par n (List.of_mem_zip hy).1 with q | q
    · exact .inl q
    · exact .inr ⟨q, PySem.W.cellsFrom_some _ _ _ (.inl q)⟩
  refine codeAny_call_function hr.depth (KX _ _ lk) rfl S.co S.gen rfl (PySem.W.codeRec_of KX hcd) ((BindsTo.of_eq (hb kV doc pm an cdv ct us (by rw [← r.length]; exact hl))) _ _ _ _ ?_)
  refine wpAny_newFunctionEnv_cells S.kind hkind fun env he s1 y => ?_
  subst he
  refine ⟨lim.keeps y.toInCall.keep, codeAny_func ?_⟩
  obtain ⟨t, ht, hq⟩ := hbody cdv (hr.deeper _)
  have I : Inv (cxOf CX P w K mg base N q (defScope st) f cdv A outer s H E) [] (start N vs) H s1 := inv_start S hr.hd e0 hl r y
  refine wpAny_mono (ht.run [] s1 (start N vs) H _ I hq) (fun fl s' hs => ?_) fun e s' hs => hs
  have fin : ∀ {σ' : L2.St} {H' : Hp} {v : V} {u : Value}, Inv (cxOf CX P w K mg base N q (defScope st) f cdv A outer s H E) [] σ' H' s' → RelV v u → R v H' → CE outer P w H s R u s' :=
    fun {σ' H' v u} J rv q => ⟨v, H', J.os, J.bare, J.base, J.hok, rv, q⟩
  cases fl with
  | ret u =>
    obtain ⟨v, σ', H', J, rv, q⟩ := hs
    exact fin J rv q
  | next =>
    obtain ⟨σ', H', J, q⟩ := hs
    exact fin (v := V.non) (u := Value.none) J rfl q
  | brk =>
    obtain ⟨_, _, _, q⟩ := hs
    exact False.elim q
  | cont =>
    obtain ⟨_, _, _, q⟩ := hs
    exact False.elim q
/-- the class's __iter__ is «return iter(self.f)» -/
structure OwnIt (K : PySem.W.Frag) (mg : Str → Option Value) (C : Addr) (f : Str) (g : Addr) (q : Str) (st : Stmt) : Prop where
  sp : Spc K C "__iter__" g
  fd : FD K "__iter__" q st [] g
  cl : Cls K C
  no : NoAttr K C f
  it : mg "iter" = none
  sc : FnScope ["self"] ["self"] (defScope st)
  gl : (defScope st).names.lookup ("iter" : Str) = some NameKind.globalImplicit
  lo : (defScope st).names.lookup ("self" : Str) = some NameKind.local
  ar : ∀ (kV doc pm : Value) (an : Option Addr) (cdv ct : Value) (us : List Value), us.length = (["self"] : List Str).length → bindArgs (PySem.W.fnOf "__iter__" q (defArgs st) (defBody st) (defScope st) .none kV doc pm an cdv ct) ⟨us, []⟩ = pure ((["self"] : List Str).zip us)
  body : ∃ p1 p2 p3 p4 p5, defBody st = [.Return (some (.Call (.Name "iter" p1) [.Attribute (.Name "self" p2) f p3] [] p4)) p5]
def iOwn (K : PySem.W.Frag) (C : Addr) (f : Str) (tl : TE) : TI := fun σ H R => tl σ H fun x H1 => ∃ a dx fs t xs, x = .ref a ∧ H1 a = some (.ins C dx fs) ∧ fs.lookup f = some (.ref t) ∧ SqT K H1 t xs ∧ R (Itt K t) H1
theorem pi_own {X : Cx} {tg l : Expr} {tl : TE} {C g : Addr} {f q : Str} {st : Stmt} (O : OwnIt X.K X.mg C f g q st) (hr : Room 2 X.A) (hl : PE X l tl) : PI X tg l (iOwn X.K C f tl) := by
  refine ⟨fun pins s σ H R I h => ?_⟩
  refine thn (hl.run pins s σ H _ I h) fun v s1 ⟨x, H1, I1, r1, a, dx, fs, t, xs, ex, ea, hf, hq, qR⟩ => ?_
  subst ex
  cases r1
  obtain ⟨od, J⟩ := ins_inst I1 ea
  obtain ⟨m, hF⟩ := I1.fr
  obtain ⟨p1, p2, p3, p4, p5, hb⟩ := O.body
  refine PySem.W.owit_iter hF I1.ok.mod.kin J O.sp.at_ O.sp.fn ?_
  have run : codeAny (model X.prog X.w) X.A (.call (.ref g) ⟨[.ref a], []⟩) (CR CX0 X.stack X.prog X.w H1 s1 (fun v H' => ∃ it, v = .ref it ∧ s1.heap.objs.size ≤ it ∧ H1 it = none ∧ H' = upd H1 it (ItT t it 0)) E0) s1 := by
    refine fn_run (k := 1) (CX := CX0) (mg := X.mg) (base := X.base) (vs := [.ref a]) O.fd O.sc O.ar hr I1.env0 (.cons rfl .nil) rfl fun cdv hr' => ?_
    rw [hb]
    refine ⟨_, pss_one (ps_ret (pe_callB call_iterT ?_ O.it (by first | rfl | decide +kernel) (pa_cons (pe_fld (pe_var (i := 0) rfl (.inl O.lo)) rfl) pa_nil))), ?_⟩
    · exact O.gl
    · exact ⟨_, rfl, a, C, dx, fs, _, rfl, ea, O.cl, O.no, hf, t, xs, rfl, hq, fun it n1 n2 => ⟨it, rfl, n2, n1, rfl⟩⟩
  refine wpAny_call (codeAny_mono run fun r s' hq' => ?_)
  cases r with
  | error e => exact False.elim hq'
  | ok fl =>
    cases fl with
    | ret u =>
      obtain ⟨v, H', I', rv, it, ev, hsz, hn, eH⟩ := I1.after hq'
      subst ev
      subst eH
      cases rv
      have eo : (upd H1 it (ItT t it 0)) it = some (ItT t it 0) := upd_same
      have st : s'.heap.IsTupleIter it t 0 := (I'.hok it _ eo).1
      have hit : s'.TypeIs (.ref it) "tuple_iterator" := by
        obtain ⟨o, e1, e2, _⟩ := st
        exact ⟨o, e1, e2⟩
      refine wpAny_specialOf (name := Str.ofString "__next__") hit PySem.F.slot_tuple_iterator_next.lookup ?_
      refine ⟨it, [it], _, _, H1, rfl, ?_, turn_tuple t it, st, fun b hb => ?_, qR⟩
      · have z := ItX.inv_drop I' (a := it) (by unfold ItT at eo; exact eo)
        rw [ItX.dropH_upd hn] at z
        exact z
      · have e : b = it := by simpa using hb
        rw [e]
        have z := ItX.inv_fp I' eo (Nat.le_trans I1.sz hsz)
        rw [ItX.dropH_upd hn] at z
        exact z
    | next => exact False.elim hq'
    | brk => exact False.elim hq'
    | cont => exact False.elim hq'
end TH
set_option Elab.async false
set_option linter.all false
set_option maxRecDepth 100000
set_option maxHeartbeats 2000000
/-! errors: own classes with an __init__ that stores, raised, caught, handed to a def -/
namespace TH
open PySem PySem.Spec PyProof.Rows L2
/-! ### raise X(e) -/
def spXI (C : Addr) (f : Str) : Sp := fun vs H Q _ => ∃ a v, vs = [.ref a, v] ∧ H a = some (exo a C none) ∧ ∀ dx, H dx = none → dx ≠ a → Q .non (upd (upd H dx (exd dx [(f, v)])) a (exo a C (some dx)))
structure Rse (P : Program) (w : World) (K : PySem.W.Frag) (mg : Str → Option Value) (base : Heap) (x : Str) (f : Str) : Prop where
  T : OexC K (He.ga K x)
  ini : ∃ fI, PySem.W.findIn K (.ref (He.ga K x)) "__init__" = some (some (.ref fI)) ∧ PySem.W.typeIn K (.ref fI) = some (.type "function") ∧ FnT P w K mg base 1 fI (spXI (He.ga K x) f)
  at_ : mg x = some (.ref (He.ga K x))
/-- the __init__ of such a class -/
theorem init_ok {P : Program} {w : World} {K : PySem.W.Frag} {mg : Str → Option Value} {base : Heap} {q f : Str} {st : Stmt} {C fI : Addr} (F : FD K "__init__" q st [] fI) (T : OexC K C) (no : PySem.W.findIn K (.ref C) f = some none)
    (S : FnScope ["self", f] ["self", f] (defScope st)) (l0 : (defScope st).names.lookup ("self" : Str) = some NameKind.local) (l1 : (defScope st).names.lookup f = some NameKind.local) (d1 : (f == ("__debug__" : Str)) = false) (d2 : (f == ("__classdict__" : Str)) = false)
    (hb : ∀ (kV doc pm : Value) (an : Option Addr) (cdv ct : Value) (us : List Value), us.length = (["self", f] : List Str).length → bindArgs (PySem.W.fnOf "__init__" q (defArgs st) (defBody st) (defScope st) .none kV doc pm an cdv ct) ⟨us, []⟩ = pure ((["self", f] : List Str).zip us))
    (hbody : ∃ p1 p2 p3 p4, defBody st = [.Assign [.Attribute (.Name "self" p1) f p2] (.Name f p3) p4]) : FnT P w K mg base 1 fI (spXI C f) := by
  refine fnT_of (k := 0) F S hb (fun vs H Q E h => ?_) fun cdv A outer s H vs Q E hr h => ?_
  · obtain ⟨a, v, rfl, _⟩ := h
    rfl
  · obtain ⟨a, v, rfl, ha, k⟩ := h
    obtain ⟨p1, p2, p3, p4, e⟩ := hbody
    rw [e]
    refine ⟨_, pss_one (ps_ost (pe_var (i := 0) rfl (.inl l0)) (pe_var (i := 1) rfl (.inl l1) d1 d2)), ?_⟩
    exact ⟨v, rfl, .ref a, rfl, a, C, rfl, T, no, .inl ⟨ha, fun dx n ne => k dx n ne⟩⟩
def tMkX (C : Addr) (f : Str) (ta : TA) : L2.St → Hp → XK → Prop := fun σ H Q => ta σ H fun vs H1 => ∃ v, vs = [v] ∧ ∀ d, H1 d = none → Q (.ref C) (some d) (upd H1 d (.xd [(f, v)]))
section
variable {X : Cx} {e : Expr} {es : List Expr} {ta : TA} {te : TE} {p pos pos' : Pos} {x f : Str} {W : WX}
theorem pmk_x (R : Rse X.prog X.w X.K X.mg X.base x f) (hr : Room 2 X.A) (hg : Gl X x) (ha : PA X (e :: es) ta)
    (hdb : (x == ("__debug__" : Str)) = false := by decide) (he : starEach (e :: es) X.env = (false, eval e X.env) :: starEach es X.env := by rfl) (hpl : (backTo pos (starEach es X.env)).any (·.1) = false := by rfl) :
    L2N.PMk X (.Call (.Name x p) (e :: es) [] pos) (tMkX (He.ga X.K x) f ta) := by
  intro pins s σ H Q I h
  have T := R.T
  generalize hC0 : He.ga X.K x = C at *
  obtain ⟨fI, iC, tI, F1⟩ := R.ini
  rw [hC0] at iC F1
  have hm := R.at_
  rw [hC0] at hm
  obtain ⟨nm, q, N, bs, bm, sn, sub, ab, col, dd, k0, k1, k2, k3, k5, hC, hbm⟩ := T.cls
  refine wpAny_Call_Name_kw (ld_glob I hg hm ?_ hdb)
  refine PySem.W.callWith_K (h₀ := X.base) I.ok.mod.kin T.kC (thn (ha.run pos pins s σ H _ I h) fun us s1 ⟨vs, H1, I1, r1, v, ev, q1⟩ => ⟨I1.kIn, ?_⟩) he hpl
  subst ev
  show wpAny _ _ (call (.ref C) us) _ _ _
  obtain ⟨hp, g, dr, tk, os⟩ := s1
  have hsz : hp.objs.size ≤ hp.objs.size + 1 := Nat.le_succ _
  have hn : H1 (hp.objs.size + 1) = none := I1.hok.fresh hsz
  have kk : ∀ b o, hp.get? b = some o → ((hp.push (PySem.W.kdv_tup us)).push (PySem.HandSPX.excO C hp.objs.size)).get? b = some o := fun b o e => Heap.get?_push_of_some _ (Heap.get?_push_of_some _ e)
  have hget : ((hp.push (PySem.W.kdv_tup us)).push (PySem.HandSPX.excO C hp.objs.size)).get? (hp.objs.size + 1) = some (PySem.HandSPX.excO C hp.objs.size) := by heap_get
  have I2 : Inv X pins σ (upd H1 (hp.objs.size + 1) (exo (hp.objs.size + 1) C none)) ⟨(hp.push (PySem.W.kdv_tup us)).push (PySem.HandSPX.excO C hp.objs.size), g, dr, tk, os⟩ :=
    I1.laid (t' := tk) (a := hp.objs.size + 1) (o := exo (hp.objs.size + 1) C none) (h' := (hp.push (PySem.W.kdv_tup us)).push (PySem.HandSPX.excO C hp.objs.size)) kk hsz (exo_ok hget)
  have r2 : Vals [V.ref (hp.objs.size + 1), v] (Value.ref (hp.objs.size + 1) :: us) := .cons rfl r1
  have hus : us.length ≤ sizeLine := by
    rw [← Paired.length r1, sizeLine_eq]
    show 1 ≤ 16777216
    decide
  have hq : spXI C f [V.ref (hp.objs.size + 1), v] (upd H1 (hp.objs.size + 1) (exo (hp.objs.size + 1) C none)) (fun v' H2 => v' = .non ∧ ∃ (d : Addr) (fs : List (Str × V)), H2 (hp.objs.size + 1) = some (exo (hp.objs.size + 1) C (some d)) ∧ H2 d = some (exd d fs) ∧ H1 d = none ∧ Q (.ref C) (some d) (upd (del H2 (hp.objs.size + 1)) d (.xd fs))) E0 := by
    refine ⟨_, v, rfl, upd_same, fun dx n ne => ⟨rfl, dx, [(f, v)], upd_same, ?_, ?_, ?_⟩⟩
    · rw [upd_ne ne, upd_same]
    · rw [upd_ne ne] at n; exact n
    · have e : upd (del (upd (upd (upd H1 (hp.objs.size + 1) (exo (hp.objs.size + 1) C none)) dx (exd dx [(f, v)])) (hp.objs.size + 1) (exo (hp.objs.size + 1) C (some dx))) (hp.objs.size + 1)) dx (.xd [(f, v)]) = upd H1 dx (.xd [(f, v)]) := by
        funext b
        by_cases hb : b = dx
        · rw [hb, upd_same, upd_same]
        · rw [upd_ne hb, upd_ne hb]
          by_cases ha : b = hp.objs.size + 1
          · rw [ha, del_same, hn]
          · rw [del_ne ha, upd_ne ha, upd_ne hb, upd_ne ha]
      rw [e]
      rw [upd_ne ne] at n
      exact q1 dx n
  refine wpAny_call (PySem.HandSPX.call_own F.excBase_ValueError (fun Y => PySem.HandSPX.refsVE_contains Y bm hbm) (I1.kIn _ _ hC) (PySem.W.looks_findIn I1.kIn iC) (fun self => PySem.W.bind_fn I1.kIn self tI) hus
    (codeAny_mono (F1 _ X.stack _ _ (Value.ref (hp.objs.size + 1) :: us) _ _ E0 (hr.make C us []) (I2.env0.make C us []) r2 hq) fun r s' hq' => ?_))
  cases r with
  | error er => exact passE0 (X := X) pins σ _ _ er s' I2 hq'
  | ok fl =>
    cases fl with
    | ret u =>
      obtain ⟨v', H2, os2, bare2, un2, hok2, rv, ev, d, fs, ea, ed, hd1, q2⟩ := hq'
      subst ev
      obtain ⟨h2, g2, d2, t2, os'⟩ := s'
      obtain ⟨t0, G, J, kG, ge, hoe, na⟩ := mk_end0 (d2 := d2) (t2 := t2) I1 hsz kk un2 hok2 os2 bare2 ea ed hd1
      exact ⟨rv, ⟨_, _, _, ⟨G, g2, d2, t2, os'⟩, _, .ref C, some d, rfl, J, kG, ge, hoe, ⟨rfl, rfl, fun vs e => by cases e; rfl⟩, rfl, rfl, na, rfl, bare2, raises_own T.exC T.tyC, q2⟩⟩
    | next => exact False.elim hq'
    | brk => exact False.elim hq'
    | cont => exact False.elim hq'
/-- raise X(e) -/
def tRs (C : Addr) (f : Str) (W : WX) (ta : TA) : TS := fun _ σ H => tMkX C f ta σ H fun cls d H' => W cls d σ H'
theorem ps_rs (R : Rse X.prog X.w X.K X.mg X.base x f) (hr : Room 2 X.A) (hc : X.calm = true) (tk : L2N.Takes X W) (hg : Gl X x) (ha : PA X (e :: es) ta)
    (hdb : (x == ("__debug__" : Str)) = false := by decide) (he : starEach (e :: es) X.env = (false, eval e X.env) :: starEach es X.env := by rfl) (hpl : (backTo pos (starEach es X.env)).any (·.1) = false := by rfl) :
    PS X (.Raise (some (.Call (.Name x p) (e :: es) [] pos)) none pos') (tRs (He.ga X.K x) f W ta) := L2N.ps_raise hc tk (pmk_x R hr hg ha hdb he hpl)
end
/-! ### a call within a try's body: what is let out goes to the clause at the slots of now -/
def tClS (sp : Sp) (E : L2.St → XK) (t : TA) : TE := fun σ H Q => t σ H fun vs H1 => sp vs H1 Q (E σ)
section
variable {X : Cx} {k j : Nat} {f C : Addr} {sp : Sp} {E : L2.St → XK} {x m : Str} {p pos apos : Pos} {e o : Expr} {es : List Expr} {ta : TE} {t : TA}
theorem run_S {CX : CXT} {pins : List (Addr × Obj)} {σ : L2.St} {H : Hp} {s : Shared} {Q : VK} {us : List Value} {vs : List V} (F : FnR X.prog X.w X.K X.mg X.base CX k f sp) (hr : Room k X.A) (hx : PassesAt CX X σ (E σ))
    (I : Inv X pins σ H s) (r : Vals vs us) (h : sp vs H Q (E σ)) : wpAny (model X.prog X.w) X.A (call (.ref f) us) (EP X pins σ Q) X.xe s := by
  refine wpAny_call (codeAny_mono (F X.A X.stack s H us vs Q (E σ) hr I.env0 r h) fun r s' hq => ?_)
  cases r with
  | error e => exact hx pins H s e s' I hq
  | ok fl =>
    cases fl with
    | ret u => exact I.after hq
    | next => exact False.elim hq
    | brk => exact False.elim hq
    | cont => exact False.elim hq
theorem pe_clS (c : Cal X.prog X.w X.K X.mg X.base k x sp) (hr : Room j X.A) (hk : k ≤ j) (hg : Gl X x) (hx : ∀ σ, PassesAt (L2N.CX X.prog X.w) X σ (E σ)) (ha : PA X (e :: es) t) (hd : (x == ("__debug__" : Str)) = false := by decide)
    (he : starEach (e :: es) X.env = (false, eval e X.env) :: starEach es X.env := by rfl) (hpl : (backTo pos (starEach es X.env)).any (·.1) = false := by rfl) :
    PE X (.Call (.Name x p) (e :: es) [] pos) (tClS sp E t) := by
  refine ⟨fun pins s σ H Q I h => ?_⟩
  refine wpAny_Call_Name_kw (ld_glob I hg c.at_ ?_ hd)
  refine PySem.W.callWith_K (h₀ := X.base) I.ok.mod.kin c.kp (thn (ha.run pos pins s σ H _ I h) fun us s1 ⟨vs, H1, I1, r, q⟩ => ⟨I1.kIn, ?_⟩) he hpl
  exact run_S c.fn (hr.mono hk) (hx σ) I1 r q
end
end TH
set_option Elab.async false
set_option linter.all false
set_option maxRecDepth 100000
set_option maxHeartbeats 2000000
/-! a def that is handed the error which a suite holds; isinstance and fields of it -/
namespace TH
open PySem PySem.Spec PyProof.Rows L2
open L2H (RoomH Hot1 PinOk HotC cxH inv_startH)
/-- sp p: its promise, p the error that is handled -/
def FnP (P : Program) (w : World) (K : PySem.W.Frag) (mg : Str → Option Value) (base : Heap) (CX : CXT) (k : Nat) (f : Addr) (sp : Addr × Obj → Sp) : Prop :=
  ∀ (A : Around) (outer : List Env) (s : Shared) (H : Hp) (us : List Value) (vs : List V) (Q : VK) (E : XK) (p : Addr × Obj), RoomH k A → Hot1 A p → PinOk outer H s p → Env0 P w K mg base A outer s H → Vals vs us → sp p vs H Q E →
    codeAny (model P w) A (.call (.ref f) ⟨us, []⟩) (CR CX outer P w H s Q E) s
theorem fnP_of {CX : CXT} {P : Program} {w : World} {K : PySem.W.Frag} {mg : Str → Option Value} {base : Heap} {k : Nat} {f : Addr} {x q : Str} {st : Stmt} {N ps : List Str} {sp : Addr × Obj → Sp} (F : FD K x q st [] f) (S : FnScope N ps (defScope st))
    (hb : ∀ (kV doc pm : Value) (an : Option Addr) (cdv ct : Value) (us : List Value), us.length = ps.length → bindArgs (PySem.W.fnOf x q (defArgs st) (defBody st) (defScope st) .none kV doc pm an cdv ct) ⟨us, []⟩ = pure (ps.zip us))
    (len : ∀ p vs H Q E, sp p vs H Q E → vs.length = ps.length)
    (hbody : ∀ (cdv : Value) (A : Around) (outer : List Env) (s : Shared) (H : Hp) (vs : List V) (Q : VK) (E : XK) (p : Addr × Obj), Hot1 A p → RoomH k (A.deeper (envOfC q (defScope st) s.heap.objs.size f cdv)) → sp p vs H Q E →
      ∃ t, PSs (cxH CX P w K mg base N q (defScope st) f cdv A outer s H E p) (defBody st) t ∧ t { nx := fun _ H' => Q .non H', rt := Q } (L2.start N vs) H) : FnP P w K mg base CX (k + 1) f sp := by
  obtain ⟨fd, F⟩ := F
  obtain ⟨oc, od, dV, kV, doc, pm, an, cdv, ct, osl, rfl, lk, hcd, hD, _⟩ := F.ex
  have hD' : dV = .none := by
    rcases hD with ⟨_, e⟩ | ⟨e, _⟩
    · exact e
    · exact absurd rfl e
  subst hD'
  intro A outer s H us vs Q E p hr hot hpin e0 r hsp
  have hl := len _ _ _ _ _ hsp
  have KX : K.In s.heap := e0.mod.kin.keeps fun b o e => (e0.bs b o e).1
  have lim : s.heap.NoLimit := e0.mod.nolimit.keeps fun b o e => (e0.bs b o e).1
  have hkind : ∀ y ∈ ps.zip us, (defScope st).names.lookup y.1 = some .local ∨ ((defScope st).names.lookup y.1 = some .cell ∧ ((cellsFrom (s.heap.objs.size + 1) (defScope st).names []).lookup y.1).isSome = true) := fun ⟨n, v⟩ hy => by
    rcases S.par n (List.of_mem_zip hy).1 with q | q
    · exact .inl q
    · exact .inr ⟨q, PySem.W.cellsFrom_some _ _ _ (.inl q)⟩
  refine codeAny_call_function hr.depth (KX _ _ lk) rfl S.co S.gen rfl (PySem.W.codeRec_of KX hcd) ((BindsTo.of_eq (hb kV doc pm an cdv ct us (by rw [← r.length]; exact hl))) _ _ _ _ ?_)
  refine wpAny_newFunctionEnv_cells S.kind hkind fun env he s1 x => ?_
  subst he
  refine ⟨lim.keeps x.toInCall.keep, codeAny_func ?_⟩
  obtain ⟨t, ht, hq⟩ := hbody cdv A outer s H vs Q E p hot (hr.deeper _) hsp
  have I : Inv (cxH CX P w K mg base N q (defScope st) f cdv A outer s H E p) [] (L2.start N vs) H s1 := inv_startH S hpin e0 hl r x
  refine wpAny_mono (ht.run [] s1 (L2.start N vs) H _ I hq) (fun fl s' hs => ?_) fun e s' hs => hs
  have fin : ∀ {σ' : L2.St} {H' : Hp} {v : V} {u : Value}, Inv (cxH CX P w K mg base N q (defScope st) f cdv A outer s H E p) [] σ' H' s' → RelV v u → Q v H' → CE outer P w H s Q u s' :=
    fun {σ' H' v u} J rv q => ⟨v, H', J.os, J.bare, J.base, J.hok, rv, q⟩
  cases fl with
  | ret u =>
    obtain ⟨v, σ', H', J, rv, q⟩ := hs
    exact fin J rv q
  | next =>
    obtain ⟨σ', H', J, q⟩ := hs
    exact fin (v := V.non) (u := Value.none) J rfl q
  | brk =>
    obtain ⟨_, _, _, q⟩ := hs
    exact False.elim q
  | cont =>
    obtain ⟨_, _, _, q⟩ := hs
    exact False.elim q
structure CalP (P : Program) (w : World) (K : PySem.W.Frag) (mg : Str → Option Value) (base : Heap) (k : Nat) (x : Str) (sp : Addr × Obj → Sp) : Prop where
  fn : FnP P w K mg base (L2N.CX P w) k (He.ga K x) sp
  kp : PySem.W.keepIn K (.ref (He.ga K x)) = true
  at_ : mg x = some (.ref (He.ga K x))
theorem hot_suite {X : Cx} {a : Addr} {oe : Obj} {pn : List (Addr × Obj)} {cls : Value} {d : Option Addr} (hz : L2N.Zn cls d oe) (hf : ∃ vs, oe.data = .fields vs) : Hot1 (X.suite a ((a, oe) :: pn)).A (a, oe) := by
  obtain ⟨vs, hv⟩ := hf
  exact ⟨rfl, vs, hv, hz.2.2 vs hv⟩
def tClP (p : Addr × Obj) (sp : Addr × Obj → Sp) (E : XK) (t : TA) : TE := fun σ H Q => t σ H fun vs H1 => sp p vs H1 Q E
section
variable {X : Cx} {k j : Nat} {x : Str} {p pos : Pos} {e : Expr} {es : List Expr} {t : TA} {sp : Addr × Obj → Sp} {E : XK} {q : Addr × Obj}
theorem pe_clP (c : CalP X.prog X.w X.K X.mg X.base k x sp) (hr : RoomH j X.A) (hk : k ≤ j) (hot : Hot1 X.A q) (hq : q ∈ X.pn) (hg : Gl X x) (hx : Passes (L2N.CX X.prog X.w) X E) (ha : PA X (e :: es) t) (hd : (x == ("__debug__" : Str)) = false := by decide)
    (he : starEach (e :: es) X.env = (false, eval e X.env) :: starEach es X.env := by rfl) (hpl : (backTo pos (starEach es X.env)).any (·.1) = false := by rfl) :
    PE X (.Call (.Name x p) (e :: es) [] pos) (tClP q sp E t) := by
  refine ⟨fun pins s σ H Q I h => ?_⟩
  refine wpAny_Call_Name_kw (ld_glob I hg c.at_ ?_ hd)
  refine PySem.W.callWith_K (h₀ := X.base) I.ok.mod.kin c.kp (thn (ha.run pos pins s σ H _ I h) fun us s1 ⟨vs, H1, I1, r, q1⟩ => ⟨I1.kIn, ?_⟩) he hpl
  have P1 := I1.pin q (List.mem_append_left _ hq)
  have pk : PinOk X.stack H1 s1 q := ⟨P1.1, P1.2.1, fun hm => by
    rcases List.mem_cons.mp (I1.stkSub q.1 hm) with z | z
    · exact P1.2.2.1 z
    · exact P1.2.2.2.1 z, P1.2.2.2.2⟩
  refine wpAny_call (codeAny_mono (c.fn X.A X.stack s1 H1 us vs Q E q (hr.mono hk) hot pk I1.env0 r q1) fun r s' hq => ?_)
  cases r with
  | error er => exact hx pins σ H1 s1 er s' I1 hq
  | ok fl =>
    cases fl with
    | ret u => exact I1.after hq
    | next => exact False.elim hq
    | brk => exact False.elim hq
    | cont => exact False.elim hq
end
/-! ### isinstance of the error, its fields -/
section
open PySem.W
variable {prog : Program} {w : World} {A : Around} {E : Value → Shared → Prop} {s : Shared} {K : Frag} {x D : Addr} {ox : Obj}
theorem kin_classX {Q : Option Value → Shared → Prop} {od : Obj} (C : ExcC K D) (X : K.In s.heap) (I : InstAt s.heap x ox D (some od)) (h : Q (some (.ref D)) { s with toks := s.toks + 1 }) : wpAny (model prog w) A (getAttr? (.ref x) "__class__") Q E s := by
  obtain ⟨hga, hgt, hsub, hdct, ha, hn, htk, hm⟩ := C
  have hf : findObj K D (some od) "__class__" = some (.bind (.builtin "getset_descriptor.__get__") (.builtin "object.__class__")) := findObj_data (by obtain ⟨cd, hc, _⟩ := any_some hdct; rw [hc]; rfl) ha hn htk
  obtain ⟨hp, g, d, t, os⟩ := s
  have L0 := I.type (M := model prog w)
  have L1 := looks_findIn (M := model prog w) X hga
  have L2 := looks_findIn (M := model prog w) X hgt
  have L3 := looks_find (M := model prog w) X I hf
  have sub : Looks (model prog w) hp (isInstance (.ref x) (.type "BaseException")) true := L0.andThen (looks_subIn X hsub)
  have hx0 : (false && onTheHeap (Value.builtin "BaseException.__getattribute__")) = false := rfl
  have hx2 : (Value.builtin "BaseException.__getattribute__" == Value.builtin "object.__getattribute__") = false := by decide +kernel
  have hx1 : (onTheHeap (Value.ref D) && Value.builtin "BaseException.__getattribute__" == Value.builtin "object.__getattribute__") = false := by rw [hx2]; rfl
  unfold getAttr? getAttrBy? getAttrBy
  refine wpAny_bind (wpAny_mkText (wpAny_bind (wpAny_attempt (wpAny_holding (wpAny_bind (L0.at (wpAny_bind (L1.at ?_))))))))
  show wpAny _ _ (if (onTheHeap (Value.ref D) && Value.builtin "BaseException.__getattribute__" == Value.builtin "object.__getattribute__") = true then _ else _) _ _ _
  rw [hx1, if_neg Bool.false_ne_true]
  unfold getAttrByItsOwn hookBefore
  refine wpAny_bind ?_
  rw [if_pos (show onTheHeap (Value.ref D) = true from rfl)]
  refine L2.at ?_
  refine wpAny_bind (wpAny_attempt (wpAny_holding ?_))
  unfold callGetattribute
  rw [hx0, if_neg Bool.false_ne_true]
  unfold boundAndCalled
  rw [PySem.F.excAttr_ValueError.ga.bind (.ref x)]
  refine wpAny_bind (wpAny_pure ?_)
  show wpAny _ _ (call (.builtin "BaseException.__getattribute__") [.ref x, .str "__class__" t]) _ _ _
  refine wpAny_call (codeAny_call_builtin PySem.F.excAttr_ValueError.ga.plain PySem.F.entry_bexc_ga ?_)
  refine @check_slot (model prog w) _ _ ⟨hp, g, d, t + 1, os⟩ "BaseException.__getattribute__" "BaseException" "__getattribute__" (.ref x) [.str "__class__" t] [] _ (by decide +kernel) (by decide +kernel) sub (PySem.F.args_bexc_ga (.ref x) (.str "__class__" t)) ?_
  unfold Builtin.«object.__getattribute__»
  refine wpAny_bind (wpAny_of_eq (a := ((Value.ref x : Value), [Value.str "__class__" t])) (by first | rfl | (simp only [slotArgs]; rfl)) ?_)
  refine wpAny_bind (wpAny_pure (wpAny_bind (L0.at (wpAny_bind (L3.at ?_)))))
  show wpAny _ _ (holding [Value.builtin "object.__class__"] (call (.builtin "getset_descriptor.__get__") [.builtin "object.__class__", .ref x, .ref D]) >>= ret) _ _ _
  refine wpAny_bind (wpAny_holding (wpAny_call (class_get (s := ⟨hp, g, d, t + 1, os⟩) (ox := ox) (od := some od) X I hm ?_)))
  refine wpAny_pure ?_
  show wpAny _ _ (handedOut (.ref D)) _ _ _
  rw [handedOut_of (v := .ref D) rfl]
  first
    | exact wpAny_pure (wpAny_pure h)
    | exact wpAny_pure h
    | exact wpAny_pure (wpAny_bind (wpAny_pure (wpAny_pure h)))
theorem kitx_excX (C : ExcC K D) : KitX K (.ref x) (.ref D) (fun h => ∃ od, InstAt h x ox D (some od)) where
  ty := fun _ _ _ ⟨_, I⟩ => I.type
  it := fun _ _ X _ => by
    obtain ⟨cdD, hcD, _⟩ := any_some C.hd
    unfold clsIn at hcD
    split at hcD
    · rename_i c' d' cd' sl' ho
      intro A' Q' E' s' k q
      unfold isType loadHead
      exact wpAny_bind (wpAny_loadPart (k _ _ (X _ _ ho)) (wpAny_pure q))
    · cases hcD
  ne := fun h tp dd its n sl X htp => by
    obtain ⟨cdD, hcD, _⟩ := any_some C.hd
    refine Bool.eq_false_iff.mpr fun q => ?_
    have e : D = tp := Value.ref.inj (beq_iff_eq.mp q)
    subst e
    unfold clsIn at hcD
    split at hcD
    · rename_i c' d' cd' sl' ho
      have z := (X _ _ ho).symm.trans htp
      cases z
    · cases hcD
  ca := fun X ⟨_, I⟩ k => kin_classX C X I k
end
/-- the error at p.1: of the class D, its own dict at d -/
structure ErrAt (p : Addr × Obj) (D d : Addr) : Prop where
  z : Zc (.ref D) (some d) p.2
  f : ∃ vs, p.2.data = .fields vs
theorem ErrAt.inst {X : Cx} {pins : List (Addr × Obj)} {σ : St} {H : Hp} {s : Shared} {p : Addr × Obj} {D d : Addr} {fs : List (Str × V)} (e : ErrAt p D d) (I : Inv X pins σ H s) (hp : p ∈ X.pn) (hd : H d = some (.xd fs)) :
    ∃ od, PySem.W.InstAt s.heap p.1 p.2 D (some od) ∧ ∀ n v, fs.lookup n = some v → ∃ u, PySem.W.lookIn n od = some (some u) ∧ RelV v u := by
  obtain ⟨hget, _⟩ := I.pin p (List.mem_append.mpr (.inl hp))
  obtain ⟨vs, hv⟩ := e.f
  have hx : ObjOk X.prog X.w H s.heap d (.xd fs) := I.hok d _ hd
  obtain ⟨mA, hns, hr⟩ := hx
  obtain ⟨od, ho, hl⟩ := lookIn_ns hns
  refine ⟨od, ⟨hget, e.z.1, by unfold PySem.W.notCls; rw [hv] <;> rfl, by rw [e.z.2]; exact ho⟩, fun n v l => ?_⟩
  obtain ⟨u, hu, ru⟩ := RelO.some_of (v := v) (o := mA n) (by rw [← l]; exact hr n)
  exact ⟨u, by rw [hl, hu], ru⟩
/-- isinstance(error, C) -/
def rIsP (K : PySem.W.Frag) (p : Addr × Obj) : List V → Hp → VK → Prop := fun xs H Q => ∃ (D d : Addr) (fs : List (Str × V)) (c : V) (cv : Value) (b : Bool), xs = [.ref p.1, c] ∧ ErrAt p D d ∧ ExcC K D ∧ H d = some (.xd fs) ∧ ClsV c cv ∧ PySem.W.kitOne K (.ref D) cv = some b ∧ Q (.bl b) H
theorem call_isP {X : Cx} {p : Addr × Obj} (hp : p ∈ X.pn) : CallR X (.builtin "isinstance") (rIsP X.K p) := by
  intro pins s σ H xs us Q I r h
  obtain ⟨D, d, fs, c, cv, b, rfl, e, hC, hd, k, kt, q⟩ := h
  cases r with
  | cons rx rr =>
    cases rr with
    | cons rt rr =>
      cases rr
      cases rx
      have ec := k.eq rt
      subst ec
      obtain ⟨od, J, _⟩ := e.inst I hp hd
      exact PySem.W.kia_one (kitx_excX (ox := p.2) hC) I.kIn ⟨od, J⟩ kt (fun z => nomatch z) fun tk => ⟨.bl b, H, I.kept (t' := tk) fun _ _ z => z, rfl, q⟩
/-- error.n -/
def tXP (K : PySem.W.Frag) (p : Addr × Obj) (n : Str) (te : TE) : TE := fun σ H Q => te σ H fun x H1 => ∃ (D d : Addr) (fs : List (Str × V)) (v : V), x = .ref p.1 ∧ ErrAt p D d ∧ XfC K D ∧ PySem.W.findIn K (.ref D) n = some none ∧ H1 d = some (.xd fs) ∧ fs.lookup n = some v ∧ Q v H1
theorem pe_xp {X : Cx} {p : Addr × Obj} {e : Expr} {te : TE} {pos : Pos} {n : Str} (hp : p ∈ X.pn) (he : PE X e te) (hb : attributeBase e n X.env (eval e X.env) = eval e X.env := by rfl) : PE X (.Attribute e n pos) (tXP X.K p n te) := by
  refine ⟨fun pins s σ H Q I h => ?_⟩
  refine attr_of hb (thn (he.run pins s σ H _ I h) fun u s1 hh => ?_)
  obtain ⟨x, H1, I1, rx, D, d, fs, v, ex, er, T, no, hd, hl, q⟩ := hh
  subst ex
  obtain rfl : u = Value.ref p.1 := rx
  obtain ⟨od, J, lk⟩ := er.inst I1 hp hd
  obtain ⟨u, hu, ru⟩ := lk n v hl
  exact PySem.HandSPX.exc_get I1.kIn J T.ga T.gg T.exC (PySem.W.findObj_own T.hdC no rfl hu) (handed_of ru) ⟨v, H1, I1.tok _, ru, q⟩
end TH
set_option Elab.async false
set_option linter.all false
set_option maxRecDepth 100000
set_option maxHeartbeats 2000000
/-! a property; steps of readings -/
namespace TH
open PySem PySem.Spec PyProof.Rows L2
theorem cx0 {P : Program} {w : World} {o : List Env} {H : Hp} {s : Shared} {e : Value} {s' : Shared} (h : L2N.CX P w o H s E0 e s') : False := by
  obtain ⟨_, _, _, _, _, _, _, _, _, _, _, _, e⟩ := h
  exact e
section
variable {X : Cx} {k j : Nat} {C p g : Addr} {f : Str} {sp : Sp} {E : XK} {e : Expr} {ta : TE} {pos : Pos}
/-- o.f, a property whose getter lets nothing out -/
def tPrR (C : Addr) (sp : Sp) (ta : TE) : TE := fun σ H Q => ta σ H fun x H1 => ∃ a dx fs, x = .ref a ∧ H1 a = some (.ins C dx fs) ∧ sp [.ref a] H1 Q E0
theorem pe_prR (he : PE X e ta) (c : Cls X.K C) (hp : PropOf X.K C f p g) (F : FnT X.prog X.w X.K X.mg X.base k g sp) (hr : Room j X.A) (hk : k + 1 ≤ j)
    (hab : attributeBase e f X.env (eval e X.env) = eval e X.env := by rfl) : PE X (.Attribute e f pos) (tPrR C sp ta) := by
  refine ⟨fun pins s σ H Q I h => ?_⟩
  refine attr_of hab (thn (he.run pins s σ H _ I h) fun u s1 ⟨x, H1, I1, rx, a, dx, fs, ex, ea, q⟩ => ?_)
  subst ex
  obtain rfl : u = Value.ref a := rx
  obtain ⟨od, J⟩ := ins_inst I1 ea
  obtain ⟨rest, hrec⟩ := hp.rec_
  have I2 := I1.tok (s1.toks + 1)
  have hc : (PySem.W.clsIn X.K C).isSome = true := by
    obtain ⟨cd, hc, _⟩ := PySem.W.any_some c.hd
    rw [hc]
    rfl
  have hr' : Room (k + 1) X.A := hr.mono hk
  refine PySem.W.get_bind I1.kIn J (PySem.W.plainGet_of (c.get f)).1 (PySem.W.findObj_data hc hp.at_ hp.get hp.tak) (PySem.W.plainGet_of (c.get f)).2 (wpAny_call (PySem.W.prop_get (s := { s1 with toks := s1.toks + 1 }) I1.kIn hrec ?_))
  refine codeAny_mono (F X.A.in1 X.stack { s1 with toks := s1.toks + 1 } H1 [.ref a] [.ref a] Q E0 hr'.in1 I2.env0.in1 (.cons rfl .nil) q) fun r s' hq => ?_
  cases r with
  | error er => exact (cx0 hq).elim
  | ok fl =>
    cases fl with
    | ret u =>
      obtain ⟨v, H', I3, rv, q3⟩ := I2.after hq
      show wpAny _ _ (handedOut u) _ _ _
      rw [PySem.W.handedOut_of (handed_of rv)]
      exact wpAny_pure ⟨v, H', I3, rv, q3⟩
    | next => exact False.elim hq
    | brk => exact False.elim hq
    | cont => exact False.elim hq
/-- o == y asked of scalars, or of data at any depth -/
theorem PE.or {t t' : TE} (h : PE X e t) (h' : PE X e t') : PE X e (fun σ H Q => t σ H Q ∨ t' σ H Q) :=
  ⟨fun pins s σ H Q I q => q.elim (h.run pins s σ H Q I) (h'.run pins s σ H Q I)⟩
end
/-! ### steps -/
section
variable {σ : St} {H : Hp} {Q : VK} {K : PySem.W.Frag} {ta tb tc te : TE} {v x y : V} {D : Ends} {i : Nat} {t u : TS} {tt tu : TT} {R : Bool → Hp → Prop} {RA : List V → Hp → Prop} {tA tr : TA}
theorem r_var (h : σ[i]? = some (some v)) (k : Q v H) : tVar i σ H Q := ⟨v, h, k⟩
theorem r_c (k : Q v H) : tC v σ H Q := k
theorem r_op {r : R2} (k : ta σ H fun x H1 => tb σ H1 fun y H2 => r x y H2 Q) : tOp r ta tb σ H Q := k
theorem r_un {r : V → Hp → VK → Prop} (k : ta σ H fun x H1 => r x H1 Q) : tUn r ta σ H Q := k
theorem r_test (k : te σ H fun x H' => ∃ k, x = .bl k ∧ R k H') : tTest te σ H R := k
theorem r_tB (k : te σ H fun x H' => ∃ k, x = .bl k ∧ R k H') : tB te σ H R := k
theorem r_bl {b : Bool} (k : R b H) : ∃ c, V.bl b = .bl c ∧ R c H := ⟨b, rfl, k⟩
theorem r_and (k : tt σ H fun c H1 => if c = true then tu σ H1 R else R false H1) : tAnd tt tu σ H R := k
theorem r_or (k : tt σ H fun c H1 => if c = true then R true H1 else tu σ H1 R) : tOr tt tu σ H R := k
theorem r_not (k : tt σ H fun c H1 => R (!c) H1) : tNot tt σ H R := k
theorem r_andV (k : ta σ H fun x H1 => ∃ c, x = .bl c ∧ if c = true then tb σ H1 Q else Q (.bl false) H1) : tAndV ta tb σ H Q := k
theorem r_orV (k : ta σ H fun x H1 => ∃ c, x = .bl c ∧ if c = true then Q (.bl true) H1 else tb σ H1 Q) : tOrV ta tb σ H Q := k
theorem r_notV (k : ta σ H fun x H1 => ∃ c, x = .bl c ∧ Q (.bl (!c)) H1) : tNotV ta σ H Q := k
theorem r_bb {b : Bool} {P : Bool → Prop} (k : P b) : ∃ c, V.bl b = .bl c ∧ P c := ⟨b, rfl, k⟩
theorem r_ifE (k : tt σ H fun c H1 => if c = true then ta σ H1 Q else tb σ H1 Q) : tIf tt ta tb σ H Q := k
theorem r_seq (k : t { D with nx := u D } σ H) : tSeq t u D σ H := k
theorem r_next (k : D.nx σ H) : tNext D σ H := k
theorem r_brk (k : D.bk σ H) : tBreak D σ H := k
theorem r_ct (k : D.ct σ H) : tCont D σ H := k
theorem r_drop (k : te σ H fun _ H1 => D.nx σ H1) : tDrop te D σ H := k
theorem r_ret (k : te σ H D.rt) : tRet te D σ H := k
theorem r_retN (k : D.rt .non H) : tRetN D σ H := k
theorem r_if (k : tt σ H fun b H1 => if b = true then t D σ H1 else u D σ H1) : tIfS tt t u D σ H := k
theorem r_asg {g : TG} (k : te σ H fun x H1 => g x σ H1 D.nx) : tAsg te g D σ H := k
theorem r_gname {Qs : St → Hp → Prop} (k : Qs (σ.set i (some v)) H) : gName i v σ H Qs := k
theorem r_gsub {to ti : TE} {s : TSet} {Qs : St → Hp → Prop} (k : to σ H fun o H1 => ti σ H1 fun i H2 => s o i v H2 fun H3 => Qs σ H3) : gSub to ti s v σ H Qs := k
theorem r_nil (k : RA [] H) : tNil σ H RA := k
theorem r_cons (k : ta σ H fun x H1 => tr σ H1 fun xs H2 => RA (x :: xs) H2) : tCons ta tr σ H RA := k
theorem r_tup (k : tA σ H fun xs H1 => xs.length ≤ sizeLine ∧ ∀ p, H1 p = none → Q (.ref p) (upd H1 p (.tup xs))) : tTup tA σ H Q := k
theorem r_lst (k : tA σ H fun xs H1 => xs.length ≤ sizeLine ∧ ∀ p, H1 p = none → Q (.ref p) (upd H1 p (.lst xs))) : tLst tA σ H Q := k
theorem r_cb {r : List V → Hp → VK → Prop} (k : tA σ H fun vs H1 => r vs H1 Q) : tCB r tA σ H Q := k
theorem r_cl {sp : Sp} {E : XK} (k : tA σ H fun vs H1 => sp vs H1 Q E) : tCl sp E tA σ H Q := k
theorem r_clS {sp : Sp} {E : St → XK} (k : tA σ H fun vs H1 => sp vs H1 Q (E σ)) : tClS sp E tA σ H Q := k
theorem r_part {to : TE} {RO : Option Int → Hp → Prop} (k : to σ H fun x H1 => ∃ i, x = .int i ∧ RO (some i) H1) : tPart to σ H RO := k
theorem r_nopart {RO : Option Int → Hp → Prop} (k : RO none H) : tNoPart σ H RO := k
theorem r_int {j : Int} {P : Int → Prop} (k : P j) : ∃ i, V.int j = .int i ∧ P i := ⟨j, rfl, k⟩
theorem r_sl {r : V → Option Int → Option Int → Hp → VK → Prop} {tl th : TO} (k : te σ H fun x H1 => tl σ H1 fun l H2 => th σ H2 fun u H3 => r x l u H3 Q) : tSl r te tl th σ H Q := k
theorem r_chain {r r' : R2} (k : ta σ H fun x H1 => tb σ H1 fun y H2 => r x y H2 fun z H3 => ∃ k, z = .bl k ∧ (if k = true then tc σ H3 fun w' H4 => r' y w' H4 Q else Q (.bl false) H3)) : tChain r r' ta tb tc σ H Q := k
theorem r_I0 {g : Int → Int → V} {a b : Int} (k : Q (g a b) H) : rI0 g (.int a) (.int b) H Q := ⟨a, b, rfl, rfl, k⟩
theorem r_I {C : Int → Int → Prop} {g : Int → Int → V} {a b : Int} (c : C a b) (k : Q (g a b) H) : rI C g (.int a) (.int b) H Q := ⟨a, b, rfl, rfl, c, k⟩
theorem r_U {g : Int → V} {a : Int} (k : Q (g a) H) : rU g (.int a) H Q := ⟨a, rfl, k⟩
theorem r_eqI {a b : Int} (k : Q (.bl (decide (a = b))) H) : rEq (.int a) (.int b) H Q := ⟨rfl, (show decide (V.int a = V.int b) = decide (a = b) by simp) ▸ k⟩
theorem r_neI {a b : Int} (k : Q (.bl (!decide (a = b))) H) : rNe (.int a) (.int b) H Q := ⟨rfl, (show decide (V.int a = V.int b) = decide (a = b) by simp) ▸ k⟩
theorem r_eqS {a b : Str} (k : Q (.bl (decide (a = b))) H) : rEq (.str a) (.str b) H Q := ⟨rfl, (show decide (V.str a = V.str b) = decide (a = b) by simp) ▸ k⟩
theorem r_neB {a b : Bool} (k : Q (.bl (!decide (a = b))) H) : rNe (.bl a) (.bl b) H Q := ⟨rfl, (show decide (V.bl a = V.bl b) = decide (a = b) by simp) ▸ k⟩
theorem r_eqB {a b : Bool} (k : Q (.bl (decide (a = b))) H) : rEq (.bl a) (.bl b) H Q := ⟨rfl, (show decide (V.bl a = V.bl b) = decide (a = b) by simp) ▸ k⟩
theorem r_eqX (s : scal x y = true) (k : Q (.bl (decide (x = y))) H) : rEq x y H Q := ⟨s, k⟩
/-- an if whose test is a decided thing -/
theorem iteD {c : Prop} [Decidable c] {A B : Prop} (h1 : c → A) (h2 : ¬ c → B) : if decide c = true then A else B := by
  by_cases h : c
  · rw [if_pos (decide_eq_true h)]; exact h1 h
  · rw [if_neg (by rw [decide_eq_false h]; exact Bool.false_ne_true)]; exact h2 h
theorem iteDn {c : Prop} [Decidable c] {A B : Prop} (h1 : ¬ c → A) (h2 : c → B) : if (!decide c) = true then A else B := by
  by_cases h : c
  · rw [decide_eq_true h]; exact iteF (h2 h)
  · rw [decide_eq_false h]; exact iteT (h1 h)
theorem iteB {b : Bool} {A B : Prop} (h1 : b = true → A) (h2 : b = false → B) : if b = true then A else B := by
  cases b with
  | true => exact iteT (h1 rfl)
  | false => exact iteF (h2 rfl)
theorem iteBn {b : Bool} {A B : Prop} (h1 : b = false → A) (h2 : b = true → B) : if (!b) = true then A else B := by
  cases b with
  | true => exact iteF (h2 rfl)
  | false => exact iteT (h1 rfl)
end
end TH
set_option Elab.async false
set_option linter.all false
set_option maxRecDepth 100000
set_option maxHeartbeats 2000000
/-! calls within a try's body of makers, methods, instances; defaults; fields of the context -/
namespace TH
open PySem PySem.Spec PyProof.Rows L2
def tMkS (C : Addr) (sp : Sp) (E : L2.St → XK) (t : TA) : TE := fun σ H Q => t σ H fun vs H1 => ∀ x dx, H1 x = Option.none → H1 dx = Option.none → dx ≠ x →
  sp (V.ref x :: vs) (upd (upd H1 dx (.own x)) x (.ins C dx [])) (fun v H2 => v = .non ∧ Q (.ref x) H2) (E σ)
def tMethT (C : Addr) (m : Str) (sp : Sp) (E : L2.St → XK) (ta : TE) (t : TA) : TE := fun σ H Q => ta σ H fun x H1 => ∃ a dx fs, x = .ref a ∧ H1 a = some (.ins C dx fs) ∧ fs.lookup m = none ∧ t σ H1 fun vs H2 => sp (x :: vs) H2 Q (E σ)
def tCallT (C : Addr) (sp : Sp) (E : L2.St → XK) (tf : TE) (t : TA) : TE := fun σ H Q => tf σ H fun y H1 => ∃ a, y = V.ref a ∧ t σ H1 fun vs H2 => (∃ dx fs, H2 a = some (.ins C dx fs)) ∧ sp (V.ref a :: vs) H2 Q (E σ)
def tIxT (C : Addr) (sp : Sp) (E : L2.St → XK) (ta tb : TE) : TE := fun σ H Q => ta σ H fun x H1 => tb σ H1 fun y H2 => ∃ a dx fs, x = .ref a ∧ H2 a = some (.ins C dx fs) ∧ sp [.ref a, y] H2 Q (E σ)
section
variable {X : Cx} {k : Nat} {f : Addr} {sp : Sp} {E : L2.St → XK} {pins : List (Addr × Obj)} {σ : L2.St} {H : Hp} {s : Shared} {Q : VK} {us : List Value} {vs : List V}
theorem run_SC {CX : CXT} (F : FnR X.prog X.w X.K X.mg X.base CX k f sp) (hr : Room k X.A) (hx : PassesAt CX X σ (E σ))
    (I : Inv X pins σ H s) (r : Vals vs us) (h : sp vs H Q (E σ)) : codeAny (model X.prog X.w) X.A (.call (.ref f) ⟨us, []⟩) (fun r s' => match r with | .ok (.ret v) => EP X pins σ Q v s' | .ok _ => False | .error e => X.xe e s') s := by
  refine codeAny_mono (F X.A X.stack s H us vs Q (E σ) hr I.env0 r h) fun r s' hq => ?_
  cases r with
  | error e => exact hx pins H s e s' I hq
  | ok fl =>
    cases fl with
    | ret u => exact I.after hq
    | next => exact False.elim hq
    | brk => exact False.elim hq
    | cont => exact False.elim hq
theorem run_S1 {CX : CXT} {R : Value → Shared → Prop} (F : FnR X.prog X.w X.K X.mg X.base CX k f sp) (hr : Room (k + 1) X.A) (hx : PassesAt CX X σ (E σ)) (I : Inv X pins σ H s) (r : Vals vs us) (h : sp vs H Q (E σ))
    (hR : ∀ u s', EP X pins σ Q u s' → R u s') : wpAny (model X.prog X.w) X.A.in1 (call (.ref f) us) R X.xe s := by
  refine wpAny_call (codeAny_mono (F X.A.in1 X.stack s H us vs Q (E σ) hr.in1 I.env0.in1 r h) fun r s' hq => ?_)
  cases r with
  | error e => exact hx pins H s e s' I hq
  | ok fl =>
    cases fl with
    | ret u => exact hR _ _ (I.after hq)
    | next => exact False.elim hq
    | brk => exact False.elim hq
    | cont => exact False.elim hq
end
section
variable {X : Cx} {k j : Nat} {f g C : Addr} {sp : Sp} {E : L2.St → XK} {x m : Str} {p pos apos : Pos} {e o fe a b : Expr} {es : List Expr} {ta tb tf : TE} {t : TA}
theorem pe_mkS (M : Mk X.K C f) (F : FnT X.prog X.w X.K X.mg X.base k f sp) (hr : Room j X.A) (hk : k + 1 ≤ j) (hg : Gl X x) (hm : X.mg x = some (.ref C)) (hx : ∀ σ, PassesAt (L2N.CX X.prog X.w) X σ (E σ)) (ha : PA X (e :: es) t) (hdb : (x == ("__debug__" : Str)) = false := by decide)
    (he : starEach (e :: es) X.env = (false, eval e X.env) :: starEach es X.env := by rfl) (hpl : (backTo pos (starEach es X.env)).any (·.1) = false := by rfl) : PE X (.Call (.Name x p) (e :: es) [] pos) (tMkS C sp E t) := by
  refine ⟨fun pins s σ H Q I h => ?_⟩
  refine wpAny_Call_Name_kw (ld_glob I hg hm ?_ hdb)
  refine PySem.W.callWith_K (h₀ := X.base) I.ok.mod.kin M.kp (thn (ha.run pos pins s σ H _ I h) fun us s1 ⟨vs, H1, I1, r, q⟩ => ⟨I1.kIn, ?_⟩) he hpl
  have hq := q (s1.heap.objs.size + 1) s1.heap.objs.size (I1.hok.fresh (Nat.le_succ _)) (I1.hok.fresh (Nat.le_refl _)) (Nat.ne_of_lt (Nat.lt_succ_self _))
  have I2 := Inv.made (C := C) I1
  have r2 : Vals (V.ref (s1.heap.objs.size + 1) :: vs) (Value.ref (s1.heap.objs.size + 1) :: us) := .cons rfl r
  refine wpAny_call (make_map (f := f) I1.kIn M.makes M.init (beq_iff_eq.mp M.fn) (codeAny_mono (F _ X.stack _ _ (Value.ref (s1.heap.objs.size + 1) :: us) _ _ (E σ) ((hr.mono hk).make C us []) (I2.env0.make C us []) r2 hq) fun r s' hq' => ?_))
  cases r with
  | error e => exact hx σ pins _ _ e s' I2 hq'
  | ok fl =>
    cases fl with
    | ret u =>
      obtain ⟨v, H', I3, rv, ev, q3⟩ := I2.after hq'
      subst ev
      exact ⟨rv, ⟨V.ref (s1.heap.objs.size + 1), H', I3, rfl, q3⟩⟩
    | next => exact False.elim hq'
    | brk => exact False.elim hq'
    | cont => exact False.elim hq'
theorem pe_methT {pl : Sem Bool} (he : PE X o ta) (c : Cls X.K C) (hm : Meth X.K C m f)
    (F : FnT X.prog X.w X.K X.mg X.base k f sp) (hr : Room j X.A) (hk : k ≤ j) (hx : ∀ σ, PassesAt (L2N.CX X.prog X.w) X σ (E σ)) (ha : PA X (e :: es) t)
    (hst : starEach (e :: es) X.env = (false, eval e X.env) :: starEach es X.env := by rfl) (hpl : (backTo pos (starEach es X.env)).any (·.1) = false := by rfl)
    (ht : eval (.Call (.Attribute o m apos) (e :: es) [] pos) X.env = (do
      let ov ← eval o X.env
      standAt apos.atName
      let (f, first) ← holding [ov] (getMethod ov m pl)
      callWith pos f first (backTo pos (starEach (e :: es) X.env)) (backToKw pos (keywordEach [] X.env))) := by rfl) :
    PE X (.Call (.Attribute o m apos) (e :: es) [] pos) (tMethT C m sp E ta t) := by
  refine ⟨fun pins s σ H Q I h => ?_⟩
  refine PySem.W.methodCall_KW (pl := pl) (thn (he.run pins s σ H _ I h) fun u s1 ⟨x, H1, I1, rx, a, dx, fs, ex, ea, l, q⟩ => ?_) ht
  subst ex
  obtain rfl : u = Value.ref a := rx
  refine getmeth_ok I1 ea c hm l ?_
  refine PySem.W.callWith_K (first := [.ref a]) (h₀ := X.base) I.ok.mod.kin hm.kp (thn (ha.run pos pins s1 σ H1 _ I1 q) fun us s2 ⟨vs, H2, I2, r, q2⟩ => ⟨I2.kIn, ?_⟩) hst hpl
  exact run_S (us := .ref a :: us) (vs := .ref a :: vs) F (hr.mono hk) (hx σ) I2 (.cons rfl r) q2
theorem pe_callT (hf : PE X fe tf) (c : StX.CallO X.K C g) (F : FnT X.prog X.w X.K X.mg X.base k g sp) (hr : Room j X.A) (hk : k ≤ j) (hx : ∀ σ, PassesAt (L2N.CX X.prog X.w) X σ (E σ)) (ha : PA X (e :: es) t)
    (ht : eval (.Call fe (e :: es) [] pos) X.env = (do callWith pos (← eval fe X.env) [] (backTo pos (starEach (e :: es) X.env)) (backToKw pos (keywordEach [] X.env))) := by rfl)
    (he : starEach (e :: es) X.env = (false, eval e X.env) :: starEach es X.env := by rfl) (hpl : (backTo pos (starEach es X.env)).any (·.1) = false := by rfl) : PE X (.Call fe (e :: es) [] pos) (tCallT C sp E tf t) := by
  refine ⟨fun pins s σ H Q I h => ?_⟩
  refine Call_ (thn (hf.run pins s σ H _ I h) fun u s1 ⟨y, H1, I1, ry, a, ey, q⟩ => ?_) ht
  subst ey
  obtain rfl : u = Value.ref a := ry
  refine StX.callO_with (thn (ha.run pos pins s1 σ H1 _ I1 q) fun us s2 ⟨vs, H2, I2, r, hi, q2⟩ => ?_) he hpl
  obtain ⟨ox, od, J, hd⟩ := StX.insC_at (C := C) I2 (.inr hi)
  exact ⟨⟨C, ox, od, J, hd⟩, wpAny_call (PySem.W.kco_code I2.kIn J hd c.at_ c.fn c.fi (run_SC (us := .ref a :: us) (vs := .ref a :: vs) F (hr.mono hk) (hx σ) I2 (.cons rfl r) q2))⟩
theorem pe_ixT (S : Spc X.K C "__getitem__" f) (F : FnT X.prog X.w X.K X.mg X.base k f sp) (hr : Room j X.A) (hk : k + 1 ≤ j) (hx : ∀ σ, PassesAt (L2N.CX X.prog X.w) X σ (E σ)) (ha : PE X a ta) (hb : PE X b tb)
    (hsl : ∀ x i, subscripted b true x i = runValue (.builtin "lifetime.subscript" ⟨[x, i], []⟩) := by intro _ _; with_unfolding_all rfl) : PE X (.Subscript a b pos) (tIxT C sp E ta tb) := by
  refine ⟨fun pins s σ H Q I h => ?_⟩
  refine Subscript_ (thn (ha.run pins s σ H _ I h) fun v s1 ⟨x, H1, I1, r1, q1⟩ => ?_)
  refine thn (hb.run pins s1 σ H1 _ I1 q1) fun u s2 ⟨y, H2, I2, r2, a, dx, fs, ex, ea, q⟩ => ?_
  subst ex
  cases r1
  obtain ⟨od, J⟩ := ins_inst I2 ea
  obtain ⟨m, hF⟩ := I2.fr
  exact PySem.W.sub_K hF I2.ok.mod.kin J S.at_ S.fi S.fn (run_S1 (us := [.ref a, u]) (vs := [.ref a, y]) F (hr.mono hk) (hx σ) I2 (.cons rfl (.cons r2 .nil)) q fun u s' hu => hu) (hsl _ _)
end
/-! ### a suite that holds for whatever object the error is -/
theorem pss_all {X : Cx} {ss : List Stmt} {oe : Obj} {C : Obj → Prop} {t : Obj → TS} (hC : C oe) (h : PSs X ss (t oe)) : PSs X ss (fun D σ H => ∀ o, C o → t o D σ H) :=
  ⟨fun pins s σ H D I q => h.run pins s σ H D I (q oe hC)⟩
def Held (cls : Value) (d : Option Addr) (o : Obj) : Prop := L2N.Zn cls d o ∧ ∃ vs, o.data = .fields vs
/-! ### s.index(y), y within s -/
def rIndexF : V → List V → Hp → VK → Prop := fun x xs H Q => ∃ (a b : Str) (k : Nat), x = .str a ∧ xs = [.str b] ∧ Txt.index0 a b = some k ∧ Q (.int (k : Nat)) H
theorem mt_indexF {X : Cx} : MtR X "str.index" rIndexF := by
  intro pins s σ H x xs v us Q I rx rs h
  obtain ⟨a, b, k0, rfl, rfl, hk, w⟩ := h
  obtain ⟨t, rfl⟩ := rx
  obtain ⟨u1, rfl, u, rfl⟩ := vals1 rs
  cases q : Builtin.Str.occurrences a b 0 a.length 1 with
  | nil => unfold Txt.index0 at hk; rw [q] at hk; cases hk
  | cons k rest =>
    unfold Txt.index0 at hk
    rw [q] at hk
    cases hk
    exact PySem.SC.index q ⟨.int (k0 : Nat), H, I.tok _, ⟨_, rfl⟩, w⟩
/-! ### a def with defaults -/
section
variable {P : Program} {w : World} {K : PySem.W.Frag} {mg : Str → Option Value} {base : Heap}
theorem fnT_ofD {x q : Str} {st : Stmt} {dvs : List V} {f : Addr} {N ps : List Str} {k n j : Nat} {sp : Sp} (F : FD K x q st dvs f) (S : FnScope N ps (defScope st)) (hd : dvs ≠ []) (hn : n + (dvs.length - j) = ps.length)
    (hb : ∀ (T : Addr) (kV doc pm : Value) (an : Option Addr) (cdv ct : Value) (us its : List Value), us.length = n → its.length = dvs.length →
      ∃ k, bindArgs (PySem.W.fnOf x q (defArgs st) (defBody st) (defScope st) (.ref T) kV doc pm an cdv ct) ⟨us, []⟩ = seqItems? (.ref T) >>= k ∧ k (some its.toArray) = pure (ps.zip (us ++ its.drop j)))
    (len : ∀ vs H Q E, sp vs H Q E → vs.length = ps.length)
    (hbody : ∀ (cdv : Value) (A : Around) (outer : List Env) (s : Shared) (H : Hp) (vs : List V) (Q : VK) (E : XK), Room k (A.deeper (envOfC q (defScope st) s.heap.objs.size f cdv)) → sp vs H Q E →
      ∃ t, PSs (cxOf (L2N.CX P w) P w K mg base N q (defScope st) f cdv A outer s H E) (defBody st) t ∧ t { nx := fun _ H' => Q .non H', rt := Q } (start N vs) H) : FnT P w K mg base (k + 1) f (fun vs H Q E => sp (vs ++ dvs.drop j) H Q E) := by
  obtain ⟨fd, F⟩ := F
  have G : FnOk P w K mg base (L2N.CX P w) (k + 1) f fd ps sp := F.ok S len hbody
  obtain ⟨ds, rd, b⟩ := F.binds1 n j hd hn hb
  exact G.raw b rd
end
/-- what a test by isinstance with an own class must have of the class -/
structure IsO (K : PySem.W.Frag) (C : Addr) : Prop where
  cl : Cls K C
  ha : PySem.W.findIn K (.ref C) "__class__" = some (some (.builtin "object.__class__"))
  hn : PySem.W.specialIn K (.builtin "object.__class__") "__get__" = some (some (.builtin "getset_descriptor.__get__"))
  htk : PySem.W.takesIn K (.builtin "object.__class__") = some true
  hm : PySem.W.mroIn K C (.type "object") = some true
  yes : PySem.W.kitOne K (.ref C) (.ref C) = some true
  no : ∀ t ∈ tys, PySem.W.kitOne K (.type t) (.ref C) = some false
def rIsO (C : Addr) : List V → Hp → VK → Prop := fun xs H Q => ∃ x, xs = [x, .ref C] ∧ ((tyN H x ≠ "" ∧ Q (.bl false) H) ∨ ∃ a dx fs, x = .ref a ∧ H a = some (.ins C dx fs) ∧ Q (.bl true) H)
theorem call_isO {X : Cx} {C : Addr} (o : IsO X.K C) (hc : ClsV (.ref C) (.ref C)) : CallR X (.builtin "isinstance") (rIsO C) := by
  intro pins s σ H xs us Q I r h
  obtain ⟨x, rfl, h⟩ := h
  rcases h with ⟨hx, q⟩ | ⟨a, dx, fs, rfl, e, q⟩
  · obtain ⟨ty, tm⟩ := tyN_tyX (K := X.K) hx
    exact call_isi pins s σ H _ us Q I r ⟨x, _, _, _, _, rfl, hc, ty, o.no _ tm, q⟩
  · exact call_isi pins s σ H _ us Q I r ⟨_, _, _, _, _, rfl, hc, .base (.ins e o.cl o.ha o.hn o.htk o.hm), o.yes, q⟩
end TH
set_option Elab.async false
set_option linter.all false
set_option maxRecDepth 100000
set_option maxHeartbeats 2000000
/-! named rules; data and what stands for it; steps at the leaves -/
namespace TH
open PySem PySem.Spec PyProof.Rows L2
def rLtS : R2 := fun x y H Q => ∃ i j, x = .str i ∧ y = .str j ∧ Q (.bl (decide (i.cps.toList < j.cps.toList))) H
def rLeS : R2 := fun x y H Q => ∃ i j, x = .str i ∧ y = .str j ∧ Q (.bl (!decide (j.cps.toList < i.cps.toList))) H
theorem op_ltS {X : Cx} : OpR X (compareOp .Lt) rLtS := op_lt_str
theorem op_leS {X : Cx} : OpR X (compareOp .LtE) rLeS := op_le_str
def rInt1 : List V → Hp → VK → Prop := fun xs H Q => (∃ i, xs = [.int i] ∧ Q (.int i) H) ∨ ∃ k, xs = [.bl k] ∧ Q (.int (if k then 1 else 0)) H
theorem call_int1n {X : Cx} : CallR X (.type "int") rInt1 := call_int1
def rAbs1 : List V → Hp → VK → Prop := fun xs H Q => ∃ i, xs = [.int i] ∧ Q (.int (if i < 0 then -i else i)) H
theorem call_absn {X : Cx} : CallR X (.builtin "abs") rAbs1 := call_abs
def rTupOf (K : PySem.W.Frag) : List V → Hp → VK → Prop := fun xs H Q => ∃ p ys, xs = [.ref p] ∧ ((SqL K H p ys ∧ ∀ l, H l = none → Q (.ref l) (upd H l (.tup ys))) ∨ (SqT K H p ys ∧ Q (.ref p) H))
theorem call_tupOf {X : Cx} : CallR X (.type "tuple") (rTupOf X.K) := call_tuple_of
section
variable {σ : St} {H : Hp} {Q : VK} {K : PySem.W.Frag} {v x y : V} {D : Ends} {i : Nat} {te : TE} {ti : TIp}
theorem r_ltS {a b : Str} (k : Q (.bl (decide (a.cps.toList < b.cps.toList))) H) : rLtS (.str a) (.str b) H Q := ⟨a, b, rfl, rfl, k⟩
theorem r_leS {a b : Str} (k : Q (.bl (!decide (b.cps.toList < a.cps.toList))) H) : rLeS (.str a) (.str b) H Q := ⟨a, b, rfl, rfl, k⟩
theorem r_int1 {a : Int} (k : Q (.int a) H) : rInt1 [.int a] H Q := .inl ⟨a, rfl, k⟩
theorem r_abs1 {a : Int} (k : Q (.int (if a < 0 then -a else a)) H) : rAbs1 [.int a] H Q := ⟨a, rfl, k⟩
theorem r_tupL {p : Addr} {ys : List V} (h : H p = some (.lst ys)) (k : ∀ l, H l = none → Q (.ref l) (upd H l (.tup ys))) : rTupOf K [.ref p] H Q := ⟨p, ys, rfl, .inl ⟨.inl (.inl h), k⟩⟩
theorem r_tupT {p : Addr} {ys : List V} (h : H p = some (.tup ys)) (k : Q (.ref p) H) : rTupOf K [.ref p] H Q := ⟨p, ys, rfl, .inr ⟨.inl (.inl h), k⟩⟩
theorem r_ixL {p : Addr} {ys : List V} {j : Int} (h : H p = some (.lst ys)) (e : atI ys j = some v) (k : Q v H) : rIxL K (.ref p) (.int j) H Q := ⟨p, ys, j, v, rfl, rfl, .inl (.inl h), e, k⟩
theorem r_ixT {p : Addr} {ys : List V} {j : Int} (h : H p = some (.tup ys)) (e : atI ys j = some v) (k : Q v H) : rIxT K (.ref p) (.int j) H Q := ⟨p, ys, j, v, rfl, rfl, .inl (.inl h), e, k⟩
theorem r_ixSL {p : Addr} {ys : List V} {j : Int} (h : H p = some (.lst ys)) (e : atI ys j = some v) (k : Q v H) : L2.rIx K (.ref p) (.int j) H Q := .inl (r_ixL h e k)
theorem r_ixST {p : Addr} {ys : List V} {j : Int} (h : H p = some (.tup ys)) (e : atI ys j = some v) (k : Q v H) : L2.rIx K (.ref p) (.int j) H Q := .inr (.inl (r_ixT h e k))
theorem r_lenL {p : Addr} {ys : List V} (h : H p = some (.lst ys)) (k : Q (.int ys.length) H) : L2.rLen K [.ref p] H Q := ⟨_, _, rfl, .inl ⟨ys, .inl (.inl h), rfl⟩, k⟩
theorem r_lenT {p : Addr} {ys : List V} (h : H p = some (.tup ys)) (k : Q (.int ys.length) H) : L2.rLen K [.ref p] H Q := ⟨_, _, rfl, .inr ⟨ys, .inl (.inl h), rfl⟩, k⟩
theorem r_lenS {z : Str} (h : z.length ≤ sizeLine) (k : Q (.int z.length) H) : L2.rLen K [.str z] H Q := ⟨_, _, rfl, ⟨h, rfl⟩, k⟩
theorem r_aug (h : σ[i]? = some (some x)) (k : te σ H fun y H1 => ti x y H1 fun z H2 => D.nx (σ.set i (some z)) H2) : tAug i te ti D σ H := ⟨x, h, k⟩
theorem r_ipI {f : Int → Int → Int} {a b : Int} (k : Q (.int (f a b)) H) : ipI f (.int a) (.int b) H Q := ⟨a, b, rfl, rfl, k⟩
theorem r_setL {p : Addr} {ys : List V} {j : Int} {n : Nat} {Qs : Hp → Prop} (h : H p = some (.lst ys)) (e : ixN ys.length j = some n) (k : Qs (upd H p (.lst (ys.set n v)))) : rSetL (.ref p) (.int j) v H Qs := ⟨p, ys, j, n, rfl, rfl, h, e, k⟩
/-- isinstance of a scalar, of a data value -/
theorem r_isF {T s : String} {b : Bool} (e : (tyN H x, s != "", isB s T, ["int", "bool", "str", "list", "tuple", "dict"].contains T) = (s, true, b, true)) (k : Q (.bl b) H) : rIs [x, .ty T] H Q := by
  simp only [Prod.mk.injEq] at e
  obtain ⟨e1, e2, e3, e4⟩ := e
  refine ⟨x, T, rfl, ?_, by simpa using e4, ?_⟩
  · rw [e1]; simpa using e2
  · rw [e1, e3]; exact k
theorem r_isG {T s : String} (e : tyN H x = s) (n : s ≠ "") (m : T ∈ ["int", "bool", "str", "list", "tuple", "dict"]) (k : Q (.bl (isB s T)) H) : rIs [x, .ty T] H Q := by
  refine ⟨x, T, rfl, ?_, m, ?_⟩
  · rw [e]; exact n
  · rw [e]; exact k
end
/-! ### data -/
inductive Dat where
  | non | bl (b : Bool) | int (i : Int) | str (z : Str) | lst (l : List Dat) | tup (l : List Dat)
/-- its type's name -/
def Dat.ty : Dat → String
  | .non => "NoneType" | .bl _ => "bool" | .int _ => "int" | .str _ => "str" | .lst _ => "list" | .tup _ => "tuple"
mutual
/-- the value v stands for the data d, its lists at fp -/
def DF (H : Hp) : Dat → V → List Addr → Prop
  | .non, v, fp => v = .non ∧ fp = []
  | .bl b, v, fp => v = .bl b ∧ fp = []
  | .int i, v, fp => v = .int i ∧ fp = []
  | .str z, v, fp => v = .str z ∧ fp = []
  | .lst l, v, fp => l.length ≤ 1000 ∧ ∃ a xs f, v = .ref a ∧ fp = a :: f ∧ H a = some (.lst xs) ∧ DFs H l xs f
  | .tup l, v, fp => l.length ≤ 1000 ∧ ∃ a xs, v = .ref a ∧ H a = some (.tup xs) ∧ DFs H l xs fp
def DFs (H : Hp) : List Dat → List V → List Addr → Prop
  | [], xs, fp => xs = [] ∧ fp = []
  | d :: l, xs, fp => ∃ x ys f g, xs = x :: ys ∧ fp = f ++ g ∧ DF H d x f ∧ DFs H l ys g
end
theorem DF.ty {H : Hp} {d : Dat} {v : V} {fp : List Addr} (h : DF H d v fp) : tyN H v = d.ty := by
  cases d <;> simp only [DF] at h
  · rw [h.1]; rfl
  · rw [h.1]; rfl
  · rw [h.1]; rfl
  · rw [h.1]; rfl
  · obtain ⟨_, a, xs, f, rfl, _, e, _⟩ := h; simp only [tyN, e]; rfl
  · obtain ⟨_, a, xs, rfl, e, _⟩ := h; simp only [tyN, e]; rfl
theorem Dat.tyne (d : Dat) : d.ty ≠ "" := by cases d <;> simp [Dat.ty]
theorem DFs.len {H : Hp} : ∀ {l : List Dat} {xs : List V} {fp : List Addr}, DFs H l xs fp → xs.length = l.length
  | [], xs, fp, h => by simp only [DFs] at h; rw [h.1]; rfl
  | d :: l, xs, fp, h => by
    simp only [DFs] at h
    obtain ⟨x, ys, f, g, rfl, rfl, _, h2⟩ := h
    simp [DFs.len h2]
/-- what tuples and lists of H stay in H' -/
def Kp (S : Addr → Prop) (H H' : Hp) : Prop := ∀ b o, ¬ S b → H b = some o → H' b = some o
mutual
theorem DF.frame {H H' : Hp} (ht : ∀ a xs, H a = some (.tup xs) → H' a = some (.tup xs)) : ∀ {d : Dat} {v : V} {fp : List Addr}, (∀ a ∈ fp, ∀ xs, H a = some (.lst xs) → H' a = some (.lst xs)) → DF H d v fp → DF H' d v fp
  | .non, v, fp, _, h => by simp only [DF] at h ⊢; exact h
  | .bl b, v, fp, _, h => by simp only [DF] at h ⊢; exact h
  | .int i, v, fp, _, h => by simp only [DF] at h ⊢; exact h
  | .str z, v, fp, _, h => by simp only [DF] at h ⊢; exact h
  | .lst l, v, fp, hf, h => by
    simp only [DF] at h ⊢
    obtain ⟨hl, a, xs, f, rfl, rfl, e, hs⟩ := h
    exact ⟨hl, a, xs, f, rfl, rfl, hf a List.mem_cons_self _ e, DFs.frame ht (fun b hb => hf b (List.mem_cons_of_mem _ hb)) hs⟩
  | .tup l, v, fp, hf, h => by
    simp only [DF] at h ⊢
    obtain ⟨hl, a, xs, rfl, e, hs⟩ := h
    exact ⟨hl, a, xs, rfl, ht _ _ e, DFs.frame ht hf hs⟩
theorem DFs.frame {H H' : Hp} (ht : ∀ a xs, H a = some (.tup xs) → H' a = some (.tup xs)) : ∀ {l : List Dat} {xs : List V} {fp : List Addr}, (∀ a ∈ fp, ∀ xs, H a = some (.lst xs) → H' a = some (.lst xs)) → DFs H l xs fp → DFs H' l xs fp
  | [], xs, fp, _, h => by simp only [DFs] at h ⊢; exact h
  | d :: l, xs, fp, hf, h => by
    simp only [DFs] at h ⊢
    obtain ⟨x, ys, f, g, rfl, rfl, h1, h2⟩ := h
    exact ⟨x, ys, f, g, rfl, rfl, DF.frame ht (fun b hb => hf b (List.mem_append_left _ hb)) h1, DFs.frame ht (fun b hb => hf b (List.mem_append_right _ hb)) h2⟩
end
theorem DF.same {H H' : Hp} {d : Dat} {v : V} {fp : List Addr} (h : DF H d v fp) (s : Same H H') : DF H' d v fp := DF.frame (fun _ _ e => s _ _ e) (fun _ _ _ e => s _ _ e) h
theorem DFs.same {H H' : Hp} {d : List Dat} {v : List V} {fp : List Addr} (h : DFs H d v fp) (s : Same H H') : DFs H' d v fp := DFs.frame (fun _ _ e => s _ _ e) (fun _ _ _ e => s _ _ e) h
theorem DF.but {H H' : Hp} {d : Dat} {v : V} {fp : List Addr} {dr : Addr} {ys : List V} (h : DF H d v fp) (s : But dr H H') (hd : H dr = some (.lst ys)) (n : dr ∉ fp) : DF H' d v fp :=
  DF.frame (fun a xs e => s _ _ (fun q => by subst q; rw [hd] at e; cases e) e) (fun a m xs e => s _ _ (fun q => n (q ▸ m)) e) h
theorem DFs.but {H H' : Hp} {d : List Dat} {v : List V} {fp : List Addr} {dr : Addr} {ys : List V} (h : DFs H d v fp) (s : But dr H H') (hd : H dr = some (.lst ys)) (n : dr ∉ fp) : DFs H' d v fp :=
  DFs.frame (fun a xs e => s _ _ (fun q => by subst q; rw [hd] at e; cases e) e) (fun a m xs e => s _ _ (fun q => n (q ▸ m)) e) h
theorem r_isD {H : Hp} {Q : VK} {d : Dat} {v : V} {fp : List Addr} {T : String} (h : DF H d v fp) (m : T ∈ ["int", "bool", "str", "list", "tuple", "dict"]) (k : Q (.bl (isB d.ty T)) H) : rIs [v, .ty T] H Q := r_isG h.ty d.tyne m k
theorem iteT' {c : Bool} {A B : Prop} (h : c = true) (k : A) : if c = true then A else B := by rw [if_pos h]; exact k
theorem iteF' {c : Bool} {A B : Prop} (h : c = false) (k : B) : if c = true then A else B := by rw [h]; exact iteF k
/-- the lists of data that stand are there -/
theorem DFs.get {H : Hp} : ∀ {l : List Dat} {xs : List V} {fp : List Addr} (i : Nat) {d : Dat}, DFs H l xs fp → l[i]? = some d → ∃ x f, xs[i]? = some x ∧ DF H d x f ∧ ∀ a ∈ f, a ∈ fp
  | [], _, _, _, _, _, e => by simp at e
  | d :: l, xs, fp, i, d', h, e => by
    simp only [DFs] at h
    obtain ⟨x, ys, f, g, rfl, rfl, h1, h2⟩ := h
    cases i with
    | zero =>
      have : d = d' := by simpa using e
      subst this
      exact ⟨x, f, rfl, h1, fun a m => List.mem_append_left _ m⟩
    | succ i =>
      obtain ⟨x', f', e1, e2, e3⟩ := DFs.get i h2 (by simpa using e)
      exact ⟨x', f', by simpa using e1, e2, fun a m => List.mem_append_right _ (e3 a m)⟩
mutual
theorem DF.stands {H : Hp} : ∀ {d : Dat} {v : V} {fp : List Addr}, DF H d v fp → ∀ a ∈ fp, H a ≠ none
  | .non, v, fp, h, a, m => by simp only [DF] at h; rw [h.2] at m; cases m
  | .bl b, v, fp, h, a, m => by simp only [DF] at h; rw [h.2] at m; cases m
  | .int i, v, fp, h, a, m => by simp only [DF] at h; rw [h.2] at m; cases m
  | .str z, v, fp, h, a, m => by simp only [DF] at h; rw [h.2] at m; cases m
  | .lst l, v, fp, h, a, m => by
    simp only [DF] at h
    obtain ⟨hl, b, xs, f, rfl, rfl, e, hs⟩ := h
    rcases List.mem_cons.mp m with z | z
    · rw [z, e]; exact fun z => nomatch z
    · exact DFs.stands hs a z
  | .tup l, v, fp, h, a, m => by
    simp only [DF] at h
    obtain ⟨hl, b, xs, rfl, e, hs⟩ := h
    exact DFs.stands hs a m
theorem DFs.stands {H : Hp} : ∀ {l : List Dat} {xs : List V} {fp : List Addr}, DFs H l xs fp → ∀ a ∈ fp, H a ≠ none
  | [], xs, fp, h, a, m => by simp only [DFs] at h; rw [h.2] at m; cases m
  | d :: l, xs, fp, h, a, m => by
    simp only [DFs] at h
    obtain ⟨x, ys, f, g, rfl, rfl, h1, h2⟩ := h
    rcases List.mem_append.mp m with z | z
    · exact DF.stands h1 a z
    · exact DFs.stands h2 a z
end
theorem DFs.snoc {H : Hp} {d : Dat} {x : V} {f : List Addr} (hx : DF H d x f) : ∀ {l : List Dat} {xs : List V} {fp : List Addr}, DFs H l xs fp → DFs H (l ++ [d]) (xs ++ [x]) (fp ++ f)
  | [], xs, fp, h => by
    simp only [DFs] at h
    obtain ⟨rfl, rfl⟩ := h
    simp only [List.nil_append, DFs]
    exact ⟨x, [], f, [], rfl, by simp, hx, rfl, rfl⟩
  | d0 :: l, xs, fp, h => by
    simp only [DFs] at h
    obtain ⟨x0, ys, f0, g, rfl, rfl, h1, h2⟩ := h
    simp only [List.cons_append, DFs]
    exact ⟨x0, ys ++ [x], f0, g ++ f, rfl, by rw [List.append_assoc], h1, DFs.snoc hx h2⟩
end TH
set_option Elab.async false
set_option linter.all false
set_option maxRecDepth 100000
set_option maxHeartbeats 2000000
/-! loops and comprehensions -/
namespace TH
open PySem PySem.Spec PyProof.Rows L2
theorem same_updD {H1 H : Hp} {D : Addr} {o : HO} (s : Same H1 H) (n : H1 D = none) : Same H1 (upd H D o) := fun b u e => keep2 (ne_of_none e n) (s b u e)
theorem but_updD {H1 H : Hp} {d D : Addr} {o : HO} (s : But d H1 H) (n : H1 D = none) : But d H1 (upd H D o) := fun b u nb e => keep2 (ne_of_none e n) (s b u nb e)
theorem same_new {H : Hp} {a : Addr} {o : HO} (n : H a = none) : Same H (upd H a o) := same_upd (Same.refl H) n
theorem DF.updD {H : Hp} {D : Addr} {d : Dat} {v : V} {fp : List Addr} {ys : List V} {o : HO} (h : DF H d v fp) (hd : H D = some (.lst ys)) (n : D ∉ fp) : DF (upd H D o) d v fp :=
  h.but (dr := D) (fun b u nb e => keep2 nb e) hd n
theorem DFs.updD {H : Hp} {D : Addr} {d : List Dat} {v : List V} {fp : List Addr} {ys : List V} {o : HO} (h : DFs H d v fp) (hd : H D = some (.lst ys)) (n : D ∉ fp) : DFs (upd H D o) d v fp :=
  h.but (dr := D) (fun b u nb e => keep2 nb e) hd n
theorem ne_of_some {H : Hp} {a b : Addr} {o : HO} (h : H a = some o) (n : H b = none) : a ≠ b := ne_of_none h n
section
variable {J : It} {n : Nat} {G : Hp → Prop} {xs ys : List V} {K : PySem.W.Frag} {σ : St} {H H1 : Hp} {te : TE} {tb : TS} {D : Ends} {Q : VK} {k : Nat} {σ' : V → St} {wi : TI}
theorem r_for {g : TG} (k : wi σ H fun J H1 => ∃ W : Nat → Nat → St → Hp → Prop, (∃ m, W 0 m σ H1) ∧ ∀ i m σ H, W i m σ H →
  (J.stop i H ∧ D.nx σ H) ∨ (J.go i H ∧ ∃ N : St → Hp → Prop, (∀ σ' H', N σ' H' → ∃ m', m' < m ∧ W (i + 1) m' σ' H') ∧ ∀ x H', J.yld i H x H' → g x σ H' fun σ2 H2 => tb { D with nx := N, ct := N, bk := D.nx } σ2 H2)) : tFor wi g tb D σ H := k
theorem r_lc {g : TG} {tt : TT} {vs : List Nat} (k : wi σ H fun J H1 => ∀ D, H1 D = none → ∃ W : Nat → Nat → Hp → Prop, (∃ m, W 0 m (upd H1 D (.lst []))) ∧ ∀ i m H, W i m H →
  (J.stop i H ∧ Q (.ref D) H) ∨ (J.go i H ∧ ∃ Nx : Hp → Prop, (∀ H', Nx H' → ∃ m', m' < m ∧ W (i + 1) m' H') ∧ ∀ x H', J.yld i H x H' → g x (wipe σ vs) H' fun σ2 H2 => wipe σ2 vs = wipe σ vs ∧ tt σ2 H2 fun b H3 =>
    if b = true then te σ2 H3 fun y H4 => ∃ acc, H4 D = some (.lst acc) ∧ acc.length < sizeLine ∧ Nx (upd H4 D (.lst (acc ++ [y]))) else Nx H3)) : tLc wi g tt te vs σ H Q := k
theorem r_src {tl : TE} {R : It → Hp → Prop} (k : tl σ H fun x H1 => (∃ a xs, x = .ref a ∧ SqL K H1 a xs ∧ R (Itl K a) H1) ∨ (∃ a xs, x = .ref a ∧ SqT K H1 a xs ∧ R (Itt K a) H1) ∨ ∃ z, x = .str z ∧ R (Its z) H1) : iSrc K tl σ H R := k
theorem srcL {a : Addr} {R : It → Hp → Prop} (h : H a = some (.lst xs)) (k : R (Itl K a) H) : (∃ b xs, V.ref a = .ref b ∧ SqL K H b xs ∧ R (Itl K b) H) ∨ (∃ b xs, V.ref a = .ref b ∧ SqT K H b xs ∧ R (Itt K b) H) ∨ ∃ z, V.ref a = .str z ∧ R (Its z) H := .inl ⟨a, xs, rfl, .inl (.inl h), k⟩
theorem srcT {a : Addr} {R : It → Hp → Prop} (h : H a = some (.tup xs)) (k : R (Itt K a) H) : (∃ b xs, V.ref a = .ref b ∧ SqL K H b xs ∧ R (Itl K b) H) ∨ (∃ b xs, V.ref a = .ref b ∧ SqT K H b xs ∧ R (Itt K b) H) ∨ ∃ z, V.ref a = .str z ∧ R (Its z) H := .inr (.inl ⟨a, xs, rfl, .inl (.inl h), k⟩)
theorem srcS {z : Str} {R : It → Hp → Prop} (k : R (Its z) H) : (∃ b xs, V.str z = .ref b ∧ SqL K H b xs ∧ R (Itl K b) H) ∨ (∃ b xs, V.str z = .ref b ∧ SqT K H b xs ∧ R (Itt K b) H) ∨ ∃ y, V.str z = .str y ∧ R (Its y) H := .inr (.inr ⟨z, rfl, k⟩)
theorem s1000 {n : Nat} (h : n ≤ 1000) : n ≤ sizeLine := Nat.le_of_lt (small1000 h)
theorem r_ln {A : Prop} {xs : List V} (h : xs.length ≤ 1000) (k : A) : xs.length ≤ sizeLine ∧ A := ⟨s1000 h, k⟩
theorem r_isT2 {v : V} {p : Addr} {T1 T2 : String} (hp : H p = some (.tup [.ty T1, .ty T2])) (n : tyN H v ≠ "") (h1 : T1 ∈ ["int", "bool", "str", "list", "tuple", "dict"]) (h2 : T2 ∈ ["int", "bool", "str", "list", "tuple", "dict"]) (k : Q (.bl (isB (tyN H v) T1 || isB (tyN H v) T2)) H) : rIsT [v, .ref p] H Q := by
  refine ⟨v, p, [T1, T2], rfl, hp, n, fun T hT => ?_, ?_⟩
  · rcases List.mem_cons.mp hT with e | hT
    · rw [e]; exact h1
    · rw [List.mem_singleton.mp hT]; exact h2
  · simpa using k
theorem r_rng1 {n : Int} {ta : TA} {R : It → Hp → Prop} (k : ta σ H fun vs H1 => ∃ j : Int, vs = [.int j] ∧ -(2 ^ 62) ≤ j ∧ j < 2 ^ 62 ∧ R (Itr 0 j.toNat) H1) : iRng1 ta σ H R := k
theorem r_yes {R : Bool → Hp → Prop} (k : R true H) : tYes σ H R := k
theorem walk_strS {z : Str} : Walk (Its z) (signs z).length (fun _ => True) (YAt (signs z)) := by
  have e : (signs z).length = z.cps.size := by simp [signs]
  rw [e]
  refine walk_str.mono (fun _ h => h) fun i H x H' hi _ y => ⟨y.1, ?_⟩
  obtain ⟨_, c, hc, rfl⟩ := y
  rw [signs, List.getElem?_map, Array.getElem?_toList, hc]; rfl
theorem walk_rangeS {lo : Int} {n : Nat} : Walk (Itr lo n) ((List.range n).map fun i : Nat => V.int (lo + i)).length (fun _ => True) (YAt ((List.range n).map fun i : Nat => V.int (lo + i))) := by
  have e : ((List.range n).map fun i : Nat => V.int (lo + i)).length = n := by simp
  rw [e]
  refine walk_range.mono (fun _ h => h) fun i H x H' hi _ y => ⟨y.1, ?_⟩
  rw [List.getElem?_map, List.getElem?_range hi, y.2]; rfl
/-- a for by one name -/
theorem forG {W : TS} (w : Walk J n G (YAt xs)) (F : Nat → St → Hp → Prop) (h0 : F 0 σ H) (hG : ∀ i σ H, F i σ H → G H)
    (hs : ∀ i x σ H, i < n → xs[i]? = some x → F i σ H → tb { D with nx := F (i + 1), ct := F (i + 1), bk := D.nx } (σ.set k (some x)) H) (hd : ∀ σ H, F n σ H → D.nx σ H) :
    ∃ W : Nat → Nat → St → Hp → Prop, (∃ m, W 0 m σ H) ∧ ∀ i m σ H, W i m σ H →
  (J.stop i H ∧ D.nx σ H) ∨ (J.go i H ∧ ∃ N : St → Hp → Prop, (∀ σ' H', N σ' H' → ∃ m', m' < m ∧ W (i + 1) m' σ' H') ∧ ∀ x H', J.yld i H x H' → gName k x σ H' fun σ2 H2 => tb { D with nx := N, ct := N, bk := D.nx } σ2 H2) :=
  for_it w F h0 (fun i σ H _ h => hG i σ H h) (fun i x σ H H' hi hF y => by obtain ⟨rfl, e⟩ := y; exact hs i x σ H' hi e hF) hd
/-- a for over pairs by two names -/
theorem forP {k2 : Nat} {f1 f2 : Nat → Option V} (w : Walk J n G (YPair f1 f2)) (F : Nat → St → Hp → Prop) (h0 : F 0 σ H) (hG : ∀ i σ H, F i σ H → G H)
    (hs : ∀ i x y T σ H H', i < n → f1 i = some x → f2 i = some y → F i σ H → H T = none → H' = upd H T (.tup [x, y]) → tb { D with nx := F (i + 1), ct := F (i + 1), bk := D.nx } ((σ.set k (some x)).set k2 (some y)) H') (hd : ∀ σ H, F n σ H → D.nx σ H) :
    ∃ W : Nat → Nat → St → Hp → Prop, (∃ m, W 0 m σ H) ∧ ∀ i m σ H, W i m σ H →
  (J.stop i H ∧ D.nx σ H) ∨ (J.go i H ∧ ∃ N : St → Hp → Prop, (∀ σ' H', N σ' H' → ∃ m', m' < m ∧ W (i + 1) m' σ' H') ∧ ∀ x H', J.yld i H x H' → gTup K 2 (gCons (gName k) (gCons (gName k2) gNil)) x σ H' fun σ2 H2 => tb { D with nx := N, ct := N, bk := D.nx } σ2 H2) := by
  refine for_it w F h0 (fun i σ H _ h => hG i σ H h) (fun i v σ H H' hi hF y => ?_) hd
  obtain ⟨T, x, y, rfl, hT, rfl, e1, e2⟩ := y
  exact ⟨T, [x, y], rfl, .inl (.inl upd_same), rfl, x, [y], rfl, y, [], rfl, rfl, hs i x y T σ H _ hi e1 e2 hF hT rfl⟩
/-- a comprehension by one name -/
theorem lcG {Dd : Addr} {Qd : Hp → Prop} (w : Walk J n G (YAt xs)) (hle : n ≤ 1000) (nD : H1 Dd = none) (e1 : ∀ x, (wipe σ [k]).set k (some x) = σ' x) (e2 : ∀ x, wipe (σ' x) [k] = wipe σ [k])
    (F : Nat → List V → Hp → Prop) (h0 : F 0 [] (upd H1 Dd (.lst []))) (hG : ∀ i acc H, F i acc H → G H)
    (hs : ∀ i x acc H, i < n → xs[i]? = some x → H Dd = some (.lst acc) → F i acc H → ∀ Qn : VK, (∀ y H4, H4 Dd = some (.lst acc) → F (i + 1) (acc ++ [y]) (upd H4 Dd (.lst (acc ++ [y]))) → Qn y H4) → te (σ' x) H Qn)
    (hd : ∀ acc H, acc.length = n → H Dd = some (.lst acc) → F n acc H → Qd H) :
    ∃ W : Nat → Nat → Hp → Prop, (∃ m, W 0 m (upd H1 Dd (.lst []))) ∧ ∀ i m H, W i m H →
  (J.stop i H ∧ Qd H) ∨ (J.go i H ∧ ∃ Nx : Hp → Prop, (∀ H', Nx H' → ∃ m', m' < m ∧ W (i + 1) m' H') ∧ ∀ x H', J.yld i H x H' → gName k x (wipe σ [k]) H' fun σ2 H2 => wipe σ2 [k] = wipe σ [k] ∧ tYes σ2 H2 fun b H3 =>
    if b = true then te σ2 H3 fun y H4 => ∃ acc, H4 Dd = some (.lst acc) ∧ acc.length < sizeLine ∧ Nx (upd H4 Dd (.lst (acc ++ [y]))) else Nx H3) := by
  refine lc_it w (fun i H => ∃ acc, acc.length = i ∧ H Dd = some (.lst acc) ∧ F i acc H) ⟨[], rfl, upd_same, h0⟩ (fun i H _ ⟨acc, _, _, h⟩ => hG i acc H h) (fun i x H H' hi ⟨acc, hl, hD, hF⟩ y => ?_) (fun H ⟨acc, hl, hD, hF⟩ => hd acc H hl hD hF)
  obtain ⟨rfl, e⟩ := y
  show wipe ((wipe σ [k]).set k (some x)) [k] = wipe σ [k] ∧ _
  rw [e1]
  refine ⟨e2 x, ?_⟩
  refine r_yes (iteT ?_)
  refine (hs i x acc H' hi e hD hF _ fun v H4 h1 h2 => ?_)
  exact ⟨acc, h1, by have := sizeLine_eq; omega, acc ++ [v], by simp [hl], upd_same, h2⟩
/-- a comprehension by two names over pairs -/
theorem lcP {k2 : Nat} {f1 f2 : Nat → Option V} {σ' : V → V → St} {Dd : Addr} {Qd : Hp → Prop} (w : Walk J n G (YPair f1 f2)) (hle : n ≤ 1000) (nD : H1 Dd = none) (e1 : ∀ x y, ((wipe σ [k, k2]).set k (some x)).set k2 (some y) = σ' x y) (e2 : ∀ x y, wipe (σ' x y) [k, k2] = wipe σ [k, k2])
    (F : Nat → List V → Hp → Prop) (h0 : F 0 [] (upd H1 Dd (.lst []))) (hG : ∀ i acc H, F i acc H → G H)
    (hs : ∀ i x y T acc H H', i < n → f1 i = some x → f2 i = some y → H Dd = some (.lst acc) → F i acc H → H T = none → H' = upd H T (.tup [x, y]) → ∀ Qn : VK, (∀ z H4, H4 Dd = some (.lst acc) → F (i + 1) (acc ++ [z]) (upd H4 Dd (.lst (acc ++ [z]))) → Qn z H4) → te (σ' x y) H' Qn)
    (hd : ∀ acc H, acc.length = n → H Dd = some (.lst acc) → F n acc H → Qd H) :
    ∃ W : Nat → Nat → Hp → Prop, (∃ m, W 0 m (upd H1 Dd (.lst []))) ∧ ∀ i m H, W i m H →
  (J.stop i H ∧ Qd H) ∨ (J.go i H ∧ ∃ Nx : Hp → Prop, (∀ H', Nx H' → ∃ m', m' < m ∧ W (i + 1) m' H') ∧ ∀ x H', J.yld i H x H' → gTup K 2 (gCons (gName k) (gCons (gName k2) gNil)) x (wipe σ [k, k2]) H' fun σ2 H2 => wipe σ2 [k, k2] = wipe σ [k, k2] ∧ tYes σ2 H2 fun b H3 =>
    if b = true then te σ2 H3 fun y H4 => ∃ acc, H4 Dd = some (.lst acc) ∧ acc.length < sizeLine ∧ Nx (upd H4 Dd (.lst (acc ++ [y]))) else Nx H3) := by
  refine lc_it w (fun i H => ∃ acc, acc.length = i ∧ H Dd = some (.lst acc) ∧ F i acc H) ⟨[], rfl, upd_same, h0⟩ (fun i H _ ⟨acc, _, _, h⟩ => hG i acc H h) (fun i v H H' hi ⟨acc, hl, hD, hF⟩ y => ?_) (fun H ⟨acc, hl, hD, hF⟩ => hd acc H hl hD hF)
  obtain ⟨T, x, y, rfl, hT, rfl, q1, q2⟩ := y
  refine ⟨T, [x, y], rfl, .inl (.inl upd_same), rfl, x, [y], rfl, y, [], rfl, rfl, ?_⟩
  show wipe (((wipe σ [k, k2]).set k (some x)).set k2 (some y)) [k, k2] = wipe σ [k, k2] ∧ _
  rw [e1]
  refine ⟨e2 x y, ?_⟩
  refine r_yes (iteT ?_)
  refine (hs i x y T acc H _ hi q1 q2 hD hF hT rfl _ fun v H4 h1 h2 => ?_)
  exact ⟨acc, h1, by have := sizeLine_eq; omega, acc ++ [v], by simp [hl], upd_same, h2⟩
/-! ### comprehensions of truths, of data -/
/-- all of what it gives are truths p i; the heap only grows -/
theorem lcB {Dd : Addr} {Qd : Hp → Prop} (w : Walk J n G (YAt xs)) (hle : n ≤ 1000) (nD : H1 Dd = none) (e1 : ∀ x, (wipe σ [k]).set k (some x) = σ' x) (e2 : ∀ x, wipe (σ' x) [k] = wipe σ [k])
    (p : Nat → Bool) (hG : ∀ H, Same H1 H → G H) (hs : ∀ i x H, i < n → xs[i]? = some x → Same H1 H → ∀ Qn : VK, (∀ H4, Same H H4 → Qn (.bl (p i)) H4) → te (σ' x) H Qn)
    (hd : ∀ H, Same H1 H → H Dd = some (.lst (((List.range n).map p).map V.bl)) → Qd H) :
    ∃ W : Nat → Nat → Hp → Prop, (∃ m, W 0 m (upd H1 Dd (.lst []))) ∧ ∀ i m H, W i m H →
  (J.stop i H ∧ Qd H) ∨ (J.go i H ∧ ∃ Nx : Hp → Prop, (∀ H', Nx H' → ∃ m', m' < m ∧ W (i + 1) m' H') ∧ ∀ x H', J.yld i H x H' → gName k x (wipe σ [k]) H' fun σ2 H2 => wipe σ2 [k] = wipe σ [k] ∧ tYes σ2 H2 fun b H3 =>
    if b = true then te σ2 H3 fun y H4 => ∃ acc, H4 Dd = some (.lst acc) ∧ acc.length < sizeLine ∧ Nx (upd H4 Dd (.lst (acc ++ [y]))) else Nx H3) := by
  refine lcG (σ' := σ') w hle nD e1 e2 (fun i acc H => Same H1 H ∧ acc = ((List.range i).map p).map V.bl) ⟨same_updD (Same.refl _) nD, rfl⟩ (fun i acc H h => hG H h.1) (fun i x acc H hi hx hD hF Qn q => ?_) (fun acc H _ hD hF => hd H hF.1 (hF.2 ▸ hD))
  refine hs i x H hi hx hF.1 Qn fun H4 s => q _ H4 (s _ _ hD) ⟨same_updD (hF.1.trans s) nD, ?_⟩
  rw [hF.2, List.range_succ, List.map_append, List.map_append]; rfl
theorem lcPB {k2 : Nat} {f1 f2 : Nat → Option V} {σ' : V → V → St} {Dd : Addr} {Qd : Hp → Prop} (w : Walk J n G (YPair f1 f2)) (hle : n ≤ 1000) (nD : H1 Dd = none) (e1 : ∀ x y, ((wipe σ [k, k2]).set k (some x)).set k2 (some y) = σ' x y) (e2 : ∀ x y, wipe (σ' x y) [k, k2] = wipe σ [k, k2])
    (p : Nat → Bool) (hG : ∀ H, Same H1 H → G H) (hs : ∀ i x y H, i < n → f1 i = some x → f2 i = some y → Same H1 H → ∀ Qn : VK, (∀ H4, Same H H4 → Qn (.bl (p i)) H4) → te (σ' x y) H Qn)
    (hd : ∀ H, Same H1 H → H Dd = some (.lst (((List.range n).map p).map V.bl)) → Qd H) :
    ∃ W : Nat → Nat → Hp → Prop, (∃ m, W 0 m (upd H1 Dd (.lst []))) ∧ ∀ i m H, W i m H →
  (J.stop i H ∧ Qd H) ∨ (J.go i H ∧ ∃ Nx : Hp → Prop, (∀ H', Nx H' → ∃ m', m' < m ∧ W (i + 1) m' H') ∧ ∀ x H', J.yld i H x H' → gTup K 2 (gCons (gName k) (gCons (gName k2) gNil)) x (wipe σ [k, k2]) H' fun σ2 H2 => wipe σ2 [k, k2] = wipe σ [k, k2] ∧ tYes σ2 H2 fun b H3 =>
    if b = true then te σ2 H3 fun y H4 => ∃ acc, H4 Dd = some (.lst acc) ∧ acc.length < sizeLine ∧ Nx (upd H4 Dd (.lst (acc ++ [y]))) else Nx H3) := by
  refine lcP (σ' := σ') w hle nD e1 e2 (fun i acc H => Same H1 H ∧ acc = ((List.range i).map p).map V.bl) ⟨same_updD (Same.refl _) nD, rfl⟩ (fun i acc H h => hG H h.1) (fun i x y T acc H H' hi hx hy hD hF hT e Qn q => ?_) (fun acc H _ hD hF => hd H hF.1 (hF.2 ▸ hD))
  subst e
  have s1 : Same H1 (upd H T (.tup [x, y])) := same_upd hF.1 hT
  refine hs i x y _ hi hx hy s1 Qn fun H4 s => q _ H4 (s _ _ (keep1 hD hT)) ⟨same_updD (s1.trans s) nD, ?_⟩
  rw [hF.2, List.range_succ, List.map_append, List.map_append]; rfl
/-- new data of each -/
theorem lcD {Dd : Addr} {Qd : Hp → Prop} {ds : List Dat} {fp : List Addr} (w : Walk J xs.length G (YAt xs)) (hx : DFs H1 ds xs fp) (hle : xs.length ≤ 1000) (nD : H1 Dd = none) (e1 : ∀ x, (wipe σ [k]).set k (some x) = σ' x) (e2 : ∀ x, wipe (σ' x) [k] = wipe σ [k])
    (f : Dat → Dat) (hG : ∀ H, Same H1 H → G H)
    (hs : ∀ d x g H, d ∈ ds → DF H d x g → Same H1 H → ∀ Qn : VK, (∀ y h H4, Same H H4 → DF H4 (f d) y h → (∀ a ∈ h, H a = none) → h.Nodup → Qn y H4) → te (σ' x) H Qn)
    (hd : ∀ H ys fr, Same H1 H → H Dd = some (.lst ys) → DFs H (ds.map f) ys fr → (∀ a ∈ fr, H1 a = none ∧ a ≠ Dd) → fr.Nodup → Qd H) :
    ∃ W : Nat → Nat → Hp → Prop, (∃ m, W 0 m (upd H1 Dd (.lst []))) ∧ ∀ i m H, W i m H →
  (J.stop i H ∧ Qd H) ∨ (J.go i H ∧ ∃ Nx : Hp → Prop, (∀ H', Nx H' → ∃ m', m' < m ∧ W (i + 1) m' H') ∧ ∀ x H', J.yld i H x H' → gName k x (wipe σ [k]) H' fun σ2 H2 => wipe σ2 [k] = wipe σ [k] ∧ tYes σ2 H2 fun b H3 =>
    if b = true then te σ2 H3 fun y H4 => ∃ acc, H4 Dd = some (.lst acc) ∧ acc.length < sizeLine ∧ Nx (upd H4 Dd (.lst (acc ++ [y]))) else Nx H3) := by
  have hl : xs.length = ds.length := hx.len
  refine lcG (σ' := σ') w hle nD e1 e2 (fun i acc H => Same H1 H ∧ ∃ fr, DFs H ((ds.take i).map f) acc fr ∧ (∀ a ∈ fr, H1 a = none ∧ a ≠ Dd ∧ H a ≠ none) ∧ fr.Nodup)
    ⟨same_updD (Same.refl _) nD, [], by simp [DFs], fun a h => (by cases h), List.nodup_nil⟩ (fun i acc H h => hG H h.1) (fun i x acc H hi hx1 hD hF Qn q => ?_) (fun acc H hl2 hD hF => ?_)
  · obtain ⟨s0, fr, h1, h2, h3⟩ := hF
    have hi' : i < ds.length := by omega
    obtain ⟨x', f', e3, e4, _⟩ := DFs.get i hx (show ds[i]? = some ds[i] by simp [hi'])
    rw [hx1] at e3
    cases e3
    refine hs ds[i] x f' H (List.getElem_mem _) (e4.same s0) s0 Qn fun y h H4 s hy hn hnd => ?_
    have hD4 := s _ _ hD
    have nh : Dd ∉ h := fun m => by have := hn _ m; rw [hD] at this; cases this
    have nfr : Dd ∉ fr := fun m => (h2 _ m).2.1 rfl
    refine q _ H4 hD4 ⟨same_updD (s0.trans s) nD, fr ++ h, ?_, fun a m => ?_, ?_⟩
    · rw [List.take_succ, show ds[i]? = some ds[i] by simp [hi'], List.map_append]
      exact DFs.snoc (hy.updD hD4 nh) ((h1.same s).updD hD4 nfr)
    · rcases List.mem_append.mp m with m | m
      · obtain ⟨a1, a2, a3⟩ := h2 a m
        refine ⟨a1, a2, ?_⟩
        rw [upd_ne a2]
        cases e : H a with
        | none => exact absurd e a3
        | some o => rw [s _ _ e]; exact fun z => nomatch z
      · have a1 := hn a m
        have a2 : a ≠ Dd := fun z => nh (z ▸ m)
        refine ⟨s0.free a1, a2, ?_⟩
        rw [upd_ne a2]
        exact DF.stands hy a m
    · refine List.nodup_append.mpr ⟨h3, hnd, fun a ma b mb e => ?_⟩
      subst e
      exact (h2 a ma).2.2 (hn a mb)
  · obtain ⟨s0, fr, h1, h2, h3⟩ := hF
    rw [hl, List.take_length] at h1
    exact hd H acc fr s0 hD h1 (fun a m => ⟨(h2 a m).1, (h2 a m).2.1⟩) h3
end
/-- for over data that is a list or a tuple -/
theorem srcD {H : Hp} {K : PySem.W.Frag} {d : Dat} {l : List Dat} {v : V} {fp : List Addr} {R : It → Hp → Prop} (hd : d = .lst l ∨ d = .tup l) (h : DF H d v fp)
    (k : ∀ (a : Addr) (o : HO) (xs : List V) (f : List Addr) (J : It), v = .ref a → H a = some o → (∀ b ∈ f, b ∈ fp) → DFs H l xs f → l.length ≤ 1000 → Walk J xs.length (fun H' => H' a = some o) (YAt xs) → R J H) :
    (∃ a xs, v = .ref a ∧ SqL K H a xs ∧ R (Itl K a) H) ∨ (∃ a xs, v = .ref a ∧ SqT K H a xs ∧ R (Itt K a) H) ∨ ∃ z, v = .str z ∧ R (Its z) H := by
  rcases hd with rfl | rfl <;> simp only [DF] at h
  · obtain ⟨hl, a, xs, f, rfl, rfl, ha, hs⟩ := h
    exact srcL ha (k a _ xs f _ rfl ha (fun b m => List.mem_cons_of_mem _ m) hs hl (walk_list.mono (fun H' h => .inl (.inl h)) fun _ _ _ _ _ _ y => y))
  · obtain ⟨hl, a, xs, rfl, ha, hs⟩ := h
    exact srcT ha (k a _ xs fp _ rfl ha (fun b m => m) hs hl (walk_tup.mono (fun H' h => .inl (.inl h)) fun _ _ _ _ _ _ y => y))
section
variable {H H' : Hp} {K : PySem.W.Frag} {v : V} {xs : List V} {R : It → Hp → Prop} {tl : TE} {σ : St} {a : Addr}
theorem r_srcD {d : Dat} {l : List Dat} {fp : List Addr} (ht : ∀ Q' : VK, Q' v H' → tl σ H Q') (hd : d = .lst l ∨ d = .tup l) (h : DF H' d v fp)
    (k : ∀ (a : Addr) (o : HO) (xs : List V) (f : List Addr) (J : It), v = .ref a → H' a = some o → (∀ b ∈ f, b ∈ fp) → DFs H' l xs f → l.length ≤ 1000 → Walk J xs.length (fun H' => H' a = some o) (YAt xs) → R J H') : iSrc K tl σ H R :=
  ht _ (srcD (R := R) hd h k)
theorem r_srcL (ht : ∀ Q' : VK, Q' (.ref a) H' → tl σ H Q') (h : H' a = some (.lst xs)) (k : R (Itl K a) H') : iSrc K tl σ H R := ht _ (srcL (R := R) h k)
theorem r_srcT (ht : ∀ Q' : VK, Q' (.ref a) H' → tl σ H Q') (h : H' a = some (.tup xs)) (k : R (Itt K a) H') : iSrc K tl σ H R := ht _ (srcT (R := R) h k)
theorem r_srcS {z : Str} (ht : ∀ Q' : VK, Q' (.str z) H' → tl σ H Q') (k : R (Its z) H') : iSrc K tl σ H R := ht _ (srcS (R := R) k)
end
/-! ### depth; all tuples; all lists -/
mutual
def Dat.dp : Dat → Nat
  | .lst l => Dat.dps l + 1
  | .tup l => Dat.dps l + 1
  | _ => 0
def Dat.dps : List Dat → Nat
  | [] => 0
  | d :: l => max d.dp (Dat.dps l)
end
mutual
def Dat.tupD : Dat → Dat
  | .lst l => .tup (Dat.tupDs l)
  | .tup l => .tup (Dat.tupDs l)
  | d => d
def Dat.tupDs : List Dat → List Dat
  | [] => []
  | d :: l => d.tupD :: Dat.tupDs l
end
mutual
def Dat.listD : Dat → Dat
  | .lst l => .lst (Dat.listDs l)
  | .tup l => .lst (Dat.listDs l)
  | d => d
def Dat.listDs : List Dat → List Dat
  | [] => []
  | d :: l => d.listD :: Dat.listDs l
end
theorem Dat.tupDs_map : ∀ l, Dat.tupDs l = l.map Dat.tupD
  | [] => rfl
  | d :: l => by rw [Dat.tupDs, Dat.tupDs_map l]; rfl
theorem Dat.listDs_map : ∀ l, Dat.listDs l = l.map Dat.listD
  | [] => rfl
  | d :: l => by rw [Dat.listDs, Dat.listDs_map l]; rfl
theorem Dat.dp_mem : ∀ {l : List Dat} {d : Dat}, d ∈ l → d.dp ≤ Dat.dps l
  | d0 :: l, d, h => by
    rw [Dat.dps]
    rcases List.mem_cons.mp h with e | e
    · rw [e]; exact Nat.le_max_left _ _
    · exact Nat.le_trans (Dat.dp_mem e) (Nat.le_max_right _ _)
mutual
theorem DF.tup0 {H : Hp} : ∀ {d : Dat} {v : V} {fp : List Addr}, DF H d.tupD v fp → fp = []
  | .non, v, fp, h => by simp only [Dat.tupD, DF] at h; exact h.2
  | .bl b, v, fp, h => by simp only [Dat.tupD, DF] at h; exact h.2
  | .int i, v, fp, h => by simp only [Dat.tupD, DF] at h; exact h.2
  | .str z, v, fp, h => by simp only [Dat.tupD, DF] at h; exact h.2
  | .lst l, v, fp, h => by simp only [Dat.tupD, DF] at h; obtain ⟨_, a, xs, _, _, h2⟩ := h; exact DFs.tup0 h2
  | .tup l, v, fp, h => by simp only [Dat.tupD, DF] at h; obtain ⟨_, a, xs, _, _, h2⟩ := h; exact DFs.tup0 h2
theorem DFs.tup0 {H : Hp} : ∀ {l : List Dat} {xs : List V} {fp : List Addr}, DFs H (Dat.tupDs l) xs fp → fp = []
  | [], xs, fp, h => by simp only [Dat.tupDs, DFs] at h; exact h.2
  | d :: l, xs, fp, h => by
    simp only [Dat.tupDs, DFs] at h
    obtain ⟨x, ys, f, g, rfl, rfl, h1, h2⟩ := h
    rw [DF.tup0 h1, DFs.tup0 h2]; rfl
end
theorem DF.fp0 {H : Hp} {d : Dat} {v : V} {fp : List Addr} (h : DF H d v fp) (e : d.dp = 0) : fp = [] ∧ d.tupD = d ∧ d.listD = d := by
  cases d <;> simp only [DF, Dat.dp] at h e
  · exact ⟨h.2, rfl, rfl⟩
  · exact ⟨h.2, rfl, rfl⟩
  · exact ⟨h.2, rfl, rfl⟩
  · exact ⟨h.2, rfl, rfl⟩
  · omega
  · omega
end TH
set_option Elab.async false
set_option linter.all false
set_option maxRecDepth 100000
set_option maxHeartbeats 2000000
/-! texts as lists of signs -/
namespace TH
open PySem PySem.Spec PyProof.Rows L2
abbrev cp (z : Str) : List Nat := z.cps.toList
theorem len_cp (z : Str) : z.length = (cp z).length := by show z.cps.size = _; rw [Array.length_toList]
theorem cp_one (c : Nat) : cp ⟨#[c]⟩ = [c] := rfl
theorem cp_cat (a b : Str) : cp (a ++ b) = cp a ++ cp b := by show (a.cps ++ b.cps).toList = _; rw [Array.toList_append]
theorem cp_cut (z : Str) (lo hi : Option Int) : cp (cutS z lo hi) = ((cp z).drop (HT.sIx (cp z).length 0 lo)).take (HT.sIx (cp z).length (cp z).length hi - HT.sIx (cp z).length 0 lo) := by
  rw [← len_cp]; rfl
theorem cp_from (z : Str) (k : Nat) : cp (cutS z (some (k : Int)) none) = (cp z).drop k := by
  rw [cp_cut, HT.sIx_none, HT.sIx_nat]
  by_cases h : k ≤ (cp z).length
  · rw [Nat.min_eq_left h]; exact List.take_of_length_le (by rw [List.length_drop]; exact Nat.le_refl _)
  · rw [Nat.min_eq_right (by omega), List.drop_length, List.drop_of_length_le (by omega), List.take_nil]
theorem cp_to (z : Str) (k : Nat) : cp (cutS z none (some (k : Int))) = (cp z).take k := by
  rw [cp_cut, HT.sIx_none, HT.sIx_nat, List.drop_zero, Nat.sub_zero]
  by_cases h : k ≤ (cp z).length
  · rw [Nat.min_eq_left h]
  · rw [Nat.min_eq_right (by omega), List.take_of_length_le (Nat.le_refl _), List.take_of_length_le (by omega)]
theorem signs_cp (z : Str) : signs z = (cp z).map fun c => V.str ⟨#[c]⟩ := rfl
theorem signs_at {z : Str} {i : Nat} {x : V} (h : (signs z)[i]? = some x) : x = .str ⟨#[(cp z).getD i 0]⟩ ∧ i < (cp z).length := by
  rw [signs_cp, List.getElem?_map] at h
  cases e : (cp z)[i]? with
  | none => rw [e] at h; cases h
  | some c => rw [e] at h; cases h; exact ⟨by rw [List.getD_eq_getElem?_getD, e]; rfl, (List.getElem?_eq_some_iff.mp e).1⟩
theorem signs_len (z : Str) : (signs z).length = (cp z).length := by rw [signs_cp, List.length_map]
theorem le_a (c : Nat) : (!decide ((⟨#[c]⟩ : Str).cps.toList < (Str.ofString "a").cps.toList)) = decide (97 ≤ c) := by
  rw [show (Str.ofString "a").cps.toList = [97] from rfl, show (⟨#[c]⟩ : Str).cps.toList = [c] from rfl]
  rw [Bool.eq_iff_iff]; simp [List.cons_lt_cons_iff]
theorem le_z (c : Nat) : (!decide ((Str.ofString "z").cps.toList < (⟨#[c]⟩ : Str).cps.toList)) = decide (c ≤ 122) := by
  rw [show (Str.ofString "z").cps.toList = [122] from rfl, show (⟨#[c]⟩ : Str).cps.toList = [c] from rfl]
  rw [Bool.eq_iff_iff]; simp [List.cons_lt_cons_iff]
theorem lt_1 (c e : Nat) : decide ((⟨#[c]⟩ : Str).cps.toList < (⟨#[e]⟩ : Str).cps.toList) = decide (c < e) := by
  rw [show (⟨#[c]⟩ : Str).cps.toList = [c] from rfl, show (⟨#[e]⟩ : Str).cps.toList = [e] from rfl]
  rw [Bool.eq_iff_iff]; simp [List.cons_lt_cons_iff]
section
variable {H : Hp} {Q : VK} {K : PySem.W.Frag} {σ : St}
theorem r_all {D : Addr} {bs : List Bool} (h : H D = some (.lst (bs.map V.bl))) (k : Q (.bl (bs.all id)) H) : L2.rAll K [.ref D] H Q := ⟨D, bs, rfl, .inl (.inl h), k⟩
theorem r_zipG {a b : Src} {xs ys : List V} {ta : TA} {H' : Hp} {R : It → Hp → Prop} (ht : ∀ Q' : List V → Hp → Prop, Q' [a.v, b.v] H' → ta σ H Q') (ha : a.has K H' xs) (hb : b.has K H' ys) (k : R (Itzg K a b) H') : iZipG K ta σ H R := ht _ ⟨a, b, xs, ys, rfl, ha, hb, k⟩
theorem r_enumG {a : Src} {xs : List V} {ta : TA} {H' : Hp} {R : It → Hp → Prop} (ht : ∀ Q' : List V → Hp → Prop, Q' [a.v] H' → ta σ H Q') (ha : a.has K H' xs) (k : R (Iteg K a) H') : iEnumG K ta σ H R := ht _ ⟨a, xs, rfl, ha, k⟩
theorem r_slS {z : Str} {lo hi : Option Int} (h : z.length ≤ sizeLine) (k : Q (.str (cutS z lo hi)) H) : rSlS (.str z) lo hi H Q := ⟨z, rfl, h, k⟩
theorem r_addS {a b : Str} (h : a.length + b.length ≤ sizeLine) (k : Q (.str (a ++ b)) H) : L2.rAddS (.str a) (.str b) H Q := ⟨a, b, rfl, rfl, h, k⟩
theorem walk_zipS {a b : Str} {n : Nat} (hn : n = min (cp a).length (cp b).length) : Walk (Itzg K (.str a) (.str b)) n (fun _ => True) (YPair (fun i => (signs a)[i]?) (fun i => (signs b)[i]?)) := by
  subst hn
  have := walk_zipG (K := K) (a := .str a) (b := .str b) (xs := signs a) (ys := signs b)
  rw [signs_len, signs_len] at this
  exact this.mono (fun H _ => ⟨rfl, rfl⟩) fun i H x H' _ _ y => y
theorem r_rs {C : Addr} {f : Str} {W : WX} {ta : TA} {D : Ends} (k : ta σ H fun vs H1 => ∃ v, vs = [v] ∧ ∀ d, H1 d = none → W (.ref C) (some d) σ (upd H1 d (.xd [(f, v)]))) : tRs C f W ta D σ H := k
theorem r_notInS {c : Nat} {z : Str} (k : Q (.bl (!decide (c ∈ cp z))) H) : rNotInS (.str ⟨#[c]⟩) (.str z) H Q := ⟨c, z, rfl, rfl, k⟩
theorem r_inS {c : Nat} {z : Str} (k : Q (.bl (decide (c ∈ cp z))) H) : rInS (.str ⟨#[c]⟩) (.str z) H Q := ⟨c, z, rfl, rfl, k⟩
theorem r_isN {x : V} (k : Q (.bl (decide (x = .non))) H) : L2.rIsN x .non H Q := ⟨rfl, k⟩
theorem r_notN {x : V} (k : Q (.bl (!decide (x = .non))) H) : L2.rNotN x .non H Q := ⟨rfl, k⟩
theorem walk_enumS {z : Str} {n : Nat} (hn : n = (cp z).length) : Walk (Iteg K (.str z)) n (fun _ => True) (YPair (fun i => some (.int (i : Nat))) (fun i => (signs z)[i]?)) := by
  subst hn
  have := walk_enumG (K := K) (src := .str z) (xs := signs z)
  rw [signs_len] at this
  exact this.mono (fun H _ => rfl) fun i H x H' _ _ y => y
theorem iteSp {c : Bool} {A B : Prop} (h1 : c = true → A) (h2 : c = false → B) : if c = true then A else B := iteB h1 h2
end
end TH
set_option Elab.async false
set_option linter.all false
set_option maxRecDepth 100000
set_option maxHeartbeats 2000000
namespace TH
open PySem PySem.Spec PyProof.Rows L2
section
variable {σ : L2.St} {H H1 : Hp} {Q : VK} {K : PySem.W.Frag} {D : Ends} {ta tv td ty tb : TE} {tA : TA} {f : Str}
theorem r_sfld (k : tv σ H fun y H1 => ta σ H1 fun x H2 => ∃ a C dx fs, x = .ref a ∧ H2 a = some (.ins C dx fs) ∧ Cls K C ∧ NoAttr K C f ∧ fs.length < 1000 ∧ D.nx σ (upd H2 a (.ins C dx (putF f y fs)))) : sFld K ta tv f D σ H := k
theorem r_fld (k : ta σ H fun x H1 => ∃ a C dx fs v, x = .ref a ∧ H1 a = some (.ins C dx fs) ∧ Cls K C ∧ NoAttr K C f ∧ fs.lookup f = some v ∧ Q v H1) : tFld K ta f σ H Q := k
theorem r_dnew (k : ∀ p, H p = none → Q (.ref p) (upd H p (.dK []))) : tDNewK σ H Q := k
theorem r_dput (k : tv σ H fun v H1 => td σ H1 fun x H2 => ty σ H2 fun y H3 => ∃ a H4, x = .ref a ∧ DPut H3 a y v H4 ∧ D.nx σ H4) : sDPut td ty tv D σ H := k
theorem r_dget (k : td σ H fun x H1 => ty σ H1 fun y H2 => ∃ a v, x = .ref a ∧ DGet H2 a y (some v) ∧ Q v H2) : tDGet td ty σ H Q := k
theorem r_bm {T : String} {r : V → List V → Hp → VK → Prop} (k : ta σ H fun x H1 => tyV K T x H1 ∧ tA σ H1 fun xs H2 => r x xs H2 Q) : tBM K T r ta tA σ H Q := k
theorem tyL {a : Addr} {xs : List V} {B : Prop} (h : H a = some (.lst xs)) (k : B) : tyV K "list" (.ref a) H ∧ B := ⟨.inl ⟨rfl, xs, .inl (.inl h)⟩, k⟩
theorem r_app {a : Addr} {xs : List V} {y : V} (h : H a = some (.lst xs)) (n : xs.length ≤ 1000) (k : Q .non (upd H a (.lst (xs ++ [y])))) : rAppend (.ref a) [y] H Q := ⟨a, xs, y, rfl, rfl, h, small1000 n, k⟩
/-- values g i of each; the heap only grows -/
theorem lcV {J : It} {n k : Nat} {G : Hp → Prop} {xs : List V} {σ' : V → L2.St} {te : TE} {Dd : Addr} {Qd : Hp → Prop} (w : Walk J n G (YAt xs)) (hle : n ≤ 1000) (nD : H1 Dd = none) (e1 : ∀ x, (wipe σ [k]).set k (some x) = σ' x) (e2 : ∀ x, wipe (σ' x) [k] = wipe σ [k])
    (g : Nat → V) (hG : ∀ H, Same H1 H → G H) (hs : ∀ i x H, i < n → xs[i]? = some x → Same H1 H → ∀ Qn : VK, (∀ H4, Same H H4 → Qn (g i) H4) → te (σ' x) H Qn)
    (hd : ∀ H, Same H1 H → H Dd = some (.lst ((List.range n).map g)) → Qd H) :
    ∃ W : Nat → Nat → Hp → Prop, (∃ m, W 0 m (upd H1 Dd (.lst []))) ∧ ∀ i m H, W i m H →
  (J.stop i H ∧ Qd H) ∨ (J.go i H ∧ ∃ Nx : Hp → Prop, (∀ H', Nx H' → ∃ m', m' < m ∧ W (i + 1) m' H') ∧ ∀ x H', J.yld i H x H' → gName k x (wipe σ [k]) H' fun σ2 H2 => wipe σ2 [k] = wipe σ [k] ∧ tYes σ2 H2 fun b H3 =>
    if b = true then te σ2 H3 fun y H4 => ∃ acc, H4 Dd = some (.lst acc) ∧ acc.length < sizeLine ∧ Nx (upd H4 Dd (.lst (acc ++ [y]))) else Nx H3) := by
  refine lcG (σ' := σ') w hle nD e1 e2 (fun i acc H => Same H1 H ∧ acc = (List.range i).map g) ⟨same_updD (Same.refl _) nD, rfl⟩ (fun i acc H h => hG H h.1) (fun i x acc H hi hx hD hF Qn q => ?_) (fun acc H _ hD hF => hd H hF.1 (hF.2 ▸ hD))
  refine hs i x H hi hx hF.1 Qn fun H4 s => q _ H4 (s _ _ hD) ⟨same_updD (hF.1.trans s) nD, ?_⟩
  rw [hF.2, List.range_succ, List.map_append]; rfl
end
theorem range_map {α β : Type} (l : List α) (d : α) (f : α → β) : (List.range l.length).map (fun i => f (l.getD i d)) = l.map f := by
  refine List.ext_getElem? fun i => ?_
  rw [List.getElem?_map, List.getElem?_map]
  by_cases h : i < l.length
  · rw [List.getElem?_range h]; simp [List.getD_eq_getElem?_getD, h]
  · rw [List.getElem?_eq_none (by simpa using h), List.getElem?_eq_none (by simpa using h)]; rfl
theorem putK_len {κ : Type} [DecidableEq κ] (kvs : List (κ × V)) (k : κ) (v : V) : (putK kvs k v).length ≤ kvs.length + 1 := by
  unfold putK
  split
  · rw [List.length_map]; omega
  · rw [List.length_append]; exact Nat.le_refl _
end TH
set_option Elab.async false
set_option linter.all false
set_option maxRecDepth 100000
set_option maxHeartbeats 2000000
namespace TH
open PySem PySem.Spec PyProof.Rows L2
section
variable {σ : L2.St} {H : Hp} {Q : VK} {K : PySem.W.Frag} {D : Ends} {ta tb tf : TE} {t : TA} {C : Addr} {m : Str} {sp : Sp} {E : XK} {ES : L2.St → XK} {X : Cx} {f : Str}
theorem r_meth (k : ta σ H fun x H1 => ∃ a dx fs, x = .ref a ∧ H1 a = some (.ins C dx fs) ∧ fs.lookup m = none ∧ t σ H1 fun vs H2 => sp (x :: vs) H2 Q E) : L2.tMethR C m sp E ta t σ H Q := k
theorem r_callO (k : tf σ H fun y H1 => ∃ a, y = V.ref a ∧ t σ H1 fun vs H2 => StX.InsC X H2 a C ∧ sp (V.ref a :: vs) H2 Q E) : StX.tCallO X C sp E tf t σ H Q := k
theorem r_make (k : t σ H fun vs H1 => ∀ x dx, H1 x = Option.none → H1 dx = Option.none → dx ≠ x → sp (V.ref x :: vs) (upd (upd H1 dx (.own x)) x (.ins C dx [])) (fun v H2 => v = .non ∧ Q (.ref x) H2) E) : StX.tMakeR C sp E t σ H Q := k
theorem r_methT (k : ta σ H fun x H1 => ∃ a dx fs, x = .ref a ∧ H1 a = some (.ins C dx fs) ∧ fs.lookup m = none ∧ t σ H1 fun vs H2 => sp (x :: vs) H2 Q (ES σ)) : tMethT C m sp ES ta t σ H Q := k
theorem r_callT (k : tf σ H fun y H1 => ∃ a, y = V.ref a ∧ t σ H1 fun vs H2 => (∃ dx fs, H2 a = some (.ins C dx fs)) ∧ sp (V.ref a :: vs) H2 Q (ES σ)) : tCallT C sp ES tf t σ H Q := k
theorem r_ixT' (k : ta σ H fun x H1 => tb σ H1 fun y H2 => ∃ a dx fs, x = .ref a ∧ H2 a = some (.ins C dx fs) ∧ sp [.ref a, y] H2 Q (ES σ)) : tIxT C sp ES ta tb σ H Q := k
theorem r_mkS (k : t σ H fun vs H1 => ∀ x dx, H1 x = Option.none → H1 dx = Option.none → dx ≠ x → sp (V.ref x :: vs) (upd (upd H1 dx (.own x)) x (.ins C dx [])) (fun v H2 => v = .non ∧ Q (.ref x) H2) (ES σ)) : tMkS C sp ES t σ H Q := k
theorem r_pr (k : ta σ H fun x H1 => ∃ a dx fs, x = .ref a ∧ H1 a = some (.ins C dx fs) ∧ sp [.ref a] H1 Q E0) : tPrR C sp ta σ H Q := k
end
theorem getD_mem' {α : Type} {l : List α} {i : Nat} {d : α} (h : i < l.length) : l.getD i d ∈ l := by
  rw [List.getD_eq_getElem?_getD, List.getElem?_eq_getElem h]
  exact List.getElem_mem h
theorem getD_at {α : Type} {l : List α} {i : Nat} {d : α} (h : i < l.length) : l.getD i d = l[i] := by
  rw [List.getD_eq_getElem?_getD, List.getElem?_eq_getElem h]
  rfl
end TH
set_option Elab.async false
set_option linter.all false
set_option maxRecDepth 100000
set_option maxHeartbeats 2000000
/-! the draw of a law -/
namespace TH
open PySem PySem.Spec PyProof.Rows L2
theorem r_cut {t : TS} {D : Ends} {σ : L2.St} {H : Hp} (F : L2.St → Hp → Prop) (k : ∀ R : L2.St → Hp → Prop, (∀ σ H, F σ H → R σ H) → t { D with nx := R } σ H) (rest : ∀ σ H, F σ H → D.nx σ H) : t D σ H := k D.nx rest
theorem sfH {R : Hp → Prop} {H : Hp} {a : Addr} {o : HO} (k : ∀ G, But a H G → G a = some o → R G) : R (upd H a o) := k _ (fun b u n e => keep2 n e) upd_same
theorem r_rg1 {σ : L2.St} {H : Hp} {ta : TA} {R : It → Hp → Prop} (k : ta σ H fun vs H1 => ∃ j : Int, vs = [.int j] ∧ -(2 ^ 62) ≤ j ∧ j < 2 ^ 62 ∧ R (Itr 0 j.toNat) H1) : iRng1 ta σ H R := k
theorem r_rg2 {σ : L2.St} {H : Hp} {ta : TA} {R : It → Hp → Prop} (k : ta σ H fun vs H1 => ∃ i j : Int, vs = [.int i, .int j] ∧ (-(2 ^ 62) ≤ i ∧ i < 2 ^ 62 ∧ -(2 ^ 62) ≤ j ∧ j < 2 ^ 62) ∧ R (Itr i (j - i).toNat) H1) : iRng2 ta σ H R := k
theorem r_m1 {σ : L2.St} {H : Hp} {Q : VK} {r : V → List V → Hp → VK → Prop} {to te : TE} (k : to σ H fun x H1 => (∃ a, x = .str a) ∧ te σ H1 fun y H2 => r x [y] H2 Q) : tM1 r to te σ H Q := k
theorem r_m0 {σ : L2.St} {H : Hp} {Q : VK} {r : V → List V → Hp → VK → Prop} {to : TE} (k : to σ H fun x H1 => (∃ a, x = .str a) ∧ r x [] H1 Q) : tM0 r to σ H Q := k
theorem r_isS {z : Str} {B : Prop} (k : B) : (∃ a, V.str z = .str a) ∧ B := ⟨⟨z, rfl⟩, k⟩
theorem log_lt {n p : Nat} (h : n < 2 ^ p) (hp : 0 < p) : n.log2 < p := by
  by_cases e : n = 0
  · subst e; simpa using hp
  · exact (Nat.log2_lt e).mpr h
theorem cmul {i j : Int} (h1 : i.natAbs < 2 ^ 400) (h2 : j.natAbs < 2 ^ 400) : CMulV i j := by
  have a := log_lt h1 (by decide)
  have b := log_lt h2 (by decide)
  unfold CMulV
  omega
theorem cmulW {i j : Int} (h1 : i.natAbs.log2 < 2 ^ 22) (h2 : j.natAbs < 2 ^ 400) : CMulV i j := by
  have b := log_lt h2 (by decide)
  unfold CMulV
  omega
theorem log_add {i j : Int} {n : Nat} (h : i.natAbs.log2 < n) (h2 : j.natAbs < 2 ^ n) : (i + j).natAbs.log2 < n + 1 := by
  refine log_lt ?_ (Nat.succ_pos n)
  have h1 : i.natAbs < 2 ^ n := by
    by_cases e : i.natAbs = 0
    · rw [e]; exact Nat.two_pow_pos n
    · exact (Nat.log2_lt e).mp h
  rw [Nat.pow_succ]
  omega
/-- the draw's record: cells zs at cl; numbers a b c e g -/
structure DrS (H : Hp) (dr cl : Addr) (zs : List Int) (a b c e g : Int) : Prop where
  d : H dr = some (.lst [.ref cl, .int a, .int b, .int c, .int e, .int g])
  l : H cl = some (.lst (zs.map V.int))
  ne : cl ≠ dr
/-- it stands, and N more picks are within reach -/
def Dr (cl : Addr) (N : Nat) (H : Hp) (dr : Addr) : Prop := ∃ zs a b c e g, DrS H dr cl zs a b c e g ∧ zs.length ≤ 63 ∧ (∀ z ∈ zs, z.natAbs.log2 < 2 ^ 21) ∧ (0 ≤ a ∧ a ≤ 63) ∧ 0 ≤ b ∧ (0 ≤ c ∧ c ≤ 5) ∧ (0 ≤ e ∧ e + N ≤ 2 ^ 60) ∧ (0 ≤ g ∧ g < 2 ^ 40)
theorem Dr.le {cl : Addr} {N M : Nat} {H : Hp} {dr : Addr} (h : Dr cl N H dr) (le : M ≤ N) : Dr cl M H dr := by
  obtain ⟨zs, a, b, c, e, g, h1, h2, h3, h4, h5, h6, h7, h8⟩ := h
  exact ⟨zs, a, b, c, e, g, h1, h2, h3, h4, h5, h6, ⟨h7.1, by omega⟩, h8⟩
theorem Dr.lst {cl : Addr} {N : Nat} {H : Hp} {dr : Addr} (h : Dr cl N H dr) : ∃ ys, H dr = some (.lst ys) := by
  obtain ⟨zs, a, b, c, e, g, h1, _⟩ := h
  exact ⟨_, h1.d⟩
theorem Dr.cls {cl : Addr} {N : Nat} {H : Hp} {dr : Addr} (h : Dr cl N H dr) : ∃ ys, H cl = some (.lst ys) := by
  obtain ⟨zs, a, b, c, e, g, h1, _⟩ := h
  exact ⟨_, h1.l⟩
theorem Dr.same {cl : Addr} {N : Nat} {H H' : Hp} {dr : Addr} (h : Dr cl N H dr) (s : Same H H') : Dr cl N H' dr := by
  obtain ⟨zs, a, b, c, e, g, h1, h2⟩ := h
  exact ⟨zs, a, b, c, e, g, ⟨s _ _ h1.d, s _ _ h1.l, h1.ne⟩, h2⟩
/-- it stands where neither list is touched -/
theorem Dr.at {cl : Addr} {N : Nat} {H H' : Hp} {dr : Addr} (h : Dr cl N H dr) (h1 : ∀ o, H dr = some o → H' dr = some o) (h2 : ∀ o, H cl = some o → H' cl = some o) : Dr cl N H' dr := by
  obtain ⟨zs, a, b, c, e, g, k1, k2⟩ := h
  exact ⟨zs, a, b, c, e, g, ⟨h1 _ k1.d, h2 _ k1.l, k1.ne⟩, k2⟩
theorem Dr.upd {cl : Addr} {N : Nat} {H : Hp} {dr D : Addr} {o : HO} (h : Dr cl N H dr) (n1 : D ≠ dr) (n2 : D ≠ cl) : Dr cl N (L2.upd H D o) dr := h.at (fun _ e => keep2 n1.symm e) (fun _ e => keep2 n2.symm e)
theorem map_eraseIdx {α β : Type} (f : α → β) : ∀ (l : List α) (k : Nat), (l.map f).eraseIdx k = (l.eraseIdx k).map f
  | [], _ => rfl
  | a :: l, 0 => rfl
  | a :: l, k + 1 => by simp only [List.map_cons, List.eraseIdx_cons_succ, map_eraseIdx f l k]
end TH
set_option Elab.async false
set_option linter.all false
set_option maxRecDepth 100000
set_option maxHeartbeats 2000000
/-! the head: facts of the text, told by one run -/
namespace TH
open PySem PySem.Spec PyProof.Rows L2
theorem band {a b : Bool} (h : (a && b) = true) : a = true ∧ b = true := Bool.and_eq_true_iff.mp h
/-- a def: where it stands (by the written part), its name, .., its defaults -/
structure DefY where
  ad : PySem.W.Frag → Addr
  name : Str
  qual : Str
  params : Arguments
  body : List Stmt
  scope : Scope
  dfl : List He.Dv := []
def fnY (K : PySem.W.Frag) (a : Addr) : He.FnW := match K.lookup a with
  | some ⟨_, _, .func fd, _⟩ => some (fd.name, fd.qualname, fd.params, fd.body, fd.scope, fd.globals, fd.closure, fd.builtins)
  | _ => none
def DefY.val (d : DefY) : He.FnW := some (d.name, d.qual, d.params, .stmts d.body, d.scope, mainGlobals, [], builtinsNs)
def DefY.dvs (K : PySem.W.Frag) (d : DefY) : List V := d.dfl.map (He.Dv.v K)
def DefY.ok (K : PySem.W.Frag) (d : DefY) : Bool := PySem.W.keepIn K (.ref (d.ad K)) && (match K.lookup (d.ad K) with
  | some ⟨_, _, .func fd, _⟩ => PySem.W.codeIn K fd.code d.qual && He.dflB K fd.defaults (d.dvs K)
  | _ => false)
theorem DefY.funD {K : PySem.W.Frag} {d : DefY} (e : fnY K (d.ad K) = d.val) (c : d.ok K = true) : ∃ fd, FunD K d.name d.qual d.params d.body d.scope (d.dvs K) [] (d.ad K) fd := by
  obtain ⟨kp, c2⟩ := band c
  unfold fnY at e
  cases q : K.lookup (d.ad K) with
  | none => rw [q] at c2; cases c2
  | some o =>
    obtain ⟨oc, od, dt, osl⟩ := o
    rw [q] at c2 e
    cases dt with
    | func fd =>
      obtain ⟨n1, n2, n3, n4, n5, n6, n7, n8, n9, n10, n11, n12, n13, n14, n15⟩ := fd
      have e2 : (some (n1, n2, n3, n4, n5, n6, n7, n15) : He.FnW) = some (d.name, d.qual, d.params, .stmts d.body, d.scope, mainGlobals, [], builtinsNs) := e
      simp only [Option.some.injEq, Prod.mk.injEq] at e2
      obtain ⟨h1, h2, h3, h4, h5, h6, h7, h8⟩ := e2
      subst h1 h2 h3 h4 h5 h6 h7 h8
      have c3 : (PySem.W.codeIn K n13 d.qual && He.dflB K n8 (d.dvs K)) = true := c2
      obtain ⟨k1, k2⟩ := band c3
      exact ⟨_, ⟨oc, od, n8, n9, n10, n11, n12, n13, n14, osl, rfl, q, k1, He.dflB_ok k2, .inl rfl⟩, kp⟩
    | _ => cases c2
/-- what the module's names reach in n steps -/
def asY (g : Addr → Option Obj) : Nat → List Addr
  | 0 => [mainGlobals, cStatics]
  | n + 1 => He.growD g (asY g n)
abbrev AlY : Type := Bool × List He.FnW
abbrev FaY : Type := PySem.W.Frag → Bool
def obsY (fa : List FaY) (fn : List DefY) (K : PySem.W.Frag) : AlY := ((fa.all fun f => f K) && fn.all fun d => d.ok K, fn.map fun d => fnY K (d.ad K))
def valY (fn : List DefY) : AlY := (true, fn.map DefY.val)
def SaysY (fa : List FaY) (fn : List DefY) (K : PySem.W.Frag) : Prop := obsY fa fn K = valY fn
def obsYG (n : Nat) (fa : List FaY) (fn : List DefY) (g : Addr → Option Obj) : AlY := obsY fa fn (He.frG g (asY g n))
def hookY (n : Nat) (fa : List FaY) (fn : List DefY) : PySem.W.Hook where
  α := AlY
  obs := fun s => obsYG n fa fn s.heap.get?
  val := fun _ => valY fn
  says := fun _ h => ∃ K : PySem.W.Frag, K.In h ∧ SaysY fa fn K
  of := fun _ _ e => ⟨_, He.frG_in, e⟩
  keeps := fun _ _ _ ⟨K, hK, c⟩ k => ⟨K, PySem.W.Frag.In.keeps hK k, c⟩
theorem obsYG_eq {n : Nat} {fa : List FaY} {fn : List DefY} {g : Addr → Option Obj} {s : Shared} (h : ∀ a, g a = s.heap.get? a) : obsYG n fa fn g = (hookY n fa fn).obs s := by
  have e : g = s.heap.get? := funext h
  rw [e] <;> rfl
section
variable {fa : List FaY} {fn : List DefY} {K : PySem.W.Frag}
theorem SaysY.fact (c : SaysY fa fn K) (i : Nat) {f : FaY} (h : fa[i]? = some f := by rfl) : f K = true := by
  have c1 := (band (show ((fa.all fun f => f K) && fn.all fun d => d.ok K) = true from congrArg (fun z : AlY => z.1) c)).1
  exact List.all_eq_true.mp c1 f (List.mem_of_getElem? h)
theorem SaysY.def_ (c : SaysY fa fn K) (i : Nat) {d : DefY} (h : fn[i]? = some d := by rfl) : ∃ fd, FunD K d.name d.qual d.params d.body d.scope (d.dvs K) [] (d.ad K) fd := by
  have c2 := (band (show ((fa.all fun f => f K) && fn.all fun d => d.ok K) = true from congrArg (fun z : AlY => z.1) c)).2
  have e : fn.map (fun d => fnY K (d.ad K)) = fn.map DefY.val := congrArg (fun z : AlY => z.2) c
  have e2 : (fn.map fun d => fnY K (d.ad K))[i]? = (fn.map DefY.val)[i]? := by rw [e]
  rw [List.getElem?_map, List.getElem?_map, h] at e2
  exact DefY.funD (Option.some.inj e2) (List.all_eq_true.mp c2 d (List.mem_of_getElem? h))
end
/-! ### own facts -/
section
variable {K : PySem.W.Frag}
def findB (K : PySem.W.Frag) (C : Addr) (m : Str) (o : Option Value) : Bool := decide (PySem.W.findIn K (.ref C) m = some o)
theorem findB_ok {C : Addr} {m : Str} {o : Option Value} (h : findB K C m o = true) : PySem.W.findIn K (.ref C) m = some o := of_decide_eq_true h
def isoB (K : PySem.W.Frag) (C : Addr) : Bool := findB K C "__class__" (some (.builtin "object.__class__")) && (decide (PySem.W.specialIn K (.builtin "object.__class__") "__get__" = some (some (.builtin "getset_descriptor.__get__"))) &&
  (decide (PySem.W.takesIn K (.builtin "object.__class__") = some true) && (decide (PySem.W.mroIn K C (.type "object") = some true) && (decide (PySem.W.kitOne K (.ref C) (.ref C) = some true) && tys.all fun t => decide (PySem.W.kitOne K (.type t) (.ref C) = some false)))))
theorem isoB_ok {C : Addr} (c : Cls K C) (h : isoB K C = true) : IsO K C := by
  obtain ⟨h1, h⟩ := band h
  obtain ⟨h2, h⟩ := band h
  obtain ⟨h3, h⟩ := band h
  obtain ⟨h4, h⟩ := band h
  obtain ⟨h5, h6⟩ := band h
  exact ⟨c, findB_ok h1, of_decide_eq_true h2, of_decide_eq_true h3, of_decide_eq_true h4, of_decide_eq_true h5, fun t m => of_decide_eq_true (List.all_eq_true.mp h6 t m)⟩
def spcB (K : PySem.W.Frag) (C : Addr) (m : Str) (f : Addr) : Bool := findB K C m (some (.ref f)) && (PySem.W.isFn K (.ref f) && PySem.W.fnIn K f)
theorem spcB_ok {C f : Addr} {m : Str} (h : spcB K C m f = true) : Spc K C m f := by
  obtain ⟨h1, h⟩ := band h
  obtain ⟨h2, h3⟩ := band h
  exact ⟨findB_ok h1, h2, h3⟩
theorem callB_ok {C f : Addr} (h : spcB K C "__call__" f = true) : StX.CallO K C f := by
  obtain ⟨h1, h⟩ := band h
  obtain ⟨h2, h3⟩ := band h
  exact ⟨findB_ok h1, h2, h3⟩
/-- the getter of the property at p -/
def pgetter (K : PySem.W.Frag) (p : Addr) : Addr := match PySem.W.recIn K p "property" with | some (.ref g :: _) => g | _ => 0
def propB (K : PySem.W.Frag) (C : Addr) (f : Str) (p : Addr) : Bool := findB K C f (some (.ref p)) && (decide (PySem.W.specialIn K (.ref p) "__get__" = some (some (.builtin "property.__get__"))) && (decide (PySem.W.takesIn K (.ref p) = some true) &&
  (match PySem.W.recIn K p "property" with | some (.ref _ :: _) => true | _ => false)))
theorem propB_ok {C p : Addr} {f : Str} (h : propB K C f p = true) : PropOf K C f p (pgetter K p) := by
  obtain ⟨h1, h⟩ := band h
  obtain ⟨h2, h⟩ := band h
  obtain ⟨h3, h4⟩ := band h
  refine ⟨findB_ok h1, of_decide_eq_true h2, of_decide_eq_true h3, ?_⟩
  unfold pgetter
  split at h4
  · rename_i g r e
    rw [e]
    exact ⟨r, rfl⟩
  · cases h4
def excB (K : PySem.W.Frag) (C : Addr) : Bool := findB K C "__getattribute__" (some (.builtin "BaseException.__getattribute__")) && (findB K C "__getattr__" none && (decide (PySem.W.subIn K (.ref C) (.type "BaseException") = some true) && (PySem.W.hasDictIn K C &&
  (findB K C "__class__" (some (.builtin "object.__class__")) && (decide (PySem.W.specialIn K (.builtin "object.__class__") "__get__" = some (some (.builtin "getset_descriptor.__get__"))) && (decide (PySem.W.takesIn K (.builtin "object.__class__") = some true) && decide (PySem.W.mroIn K C (.type "object") = some true)))))))
theorem excB_ok {C : Addr} (h : excB K C = true) : ExcC K C := by
  obtain ⟨h1, h⟩ := band h
  obtain ⟨h2, h⟩ := band h
  obtain ⟨h3, h⟩ := band h
  obtain ⟨h4, h⟩ := band h
  obtain ⟨h5, h⟩ := band h
  obtain ⟨h6, h⟩ := band h
  obtain ⟨h7, h8⟩ := band h
  exact ⟨findB_ok h1, findB_ok h2, of_decide_eq_true h3, h4, findB_ok h5, of_decide_eq_true h6, of_decide_eq_true h7, of_decide_eq_true h8⟩
def ownExcB (K : PySem.W.Frag) (C : Addr) : Bool := match K.lookup C with
  | some ⟨.type "type", _, .cls cd, sl⟩ => (match cd.mro, sl.toList with
    | .ref C' :: bm, [_, _, _, _, some (.builtin n), _] => C' == C && (n == "ValueError.__new__" && (!cd.hasDel && (cd.hasDict && PySem.HandSPX.refsVE bm)))
    | _, _ => false)
  | _ => false
def oexB (K : PySem.W.Frag) (C : Addr) : Bool := ownExcB K C && (findB K C "__setattr__" (some (.builtin "object.__setattr__")) && (decide (PySem.W.subIn K (.ref C) (.type "BaseException") = some true) && (decide (PySem.W.typeIn K (.ref C) = some (.type "type")) && PySem.W.keepIn K (.ref C))))
theorem oexB_ok {C : Addr} (h : oexB K C = true) : OexC K C := by
  obtain ⟨h1, h⟩ := band h
  obtain ⟨h2, h⟩ := band h
  obtain ⟨h3, h⟩ := band h
  obtain ⟨h4, h5⟩ := band h
  refine ⟨?_, findB_ok h2, of_decide_eq_true h3, of_decide_eq_true h4, h5⟩
  unfold ownExcB at h1
  split at h1
  · rename_i dd cd sl ho
    split at h1
    · rename_i C' bm k0 k1 k2 k3 n k5 hm hs
      simp only [Bool.and_eq_true, beq_iff_eq, Bool.not_eq_true'] at h1
      obtain ⟨rfl, rfl, hdel, hdct, hbm⟩ := h1
      obtain ⟨nm, bs, mro, ns, qn, hd, sn, sub, ab, col, del⟩ := cd
      dsimp only at hm hdel hdct
      subst hm hdel hdct
      have hsl : sl = #[k0, k1, k2, k3, some (.builtin "ValueError.__new__"), k5] := by
        obtain ⟨l⟩ := sl
        simp only at hs
        rw [hs]
      subst hsl
      exact ⟨nm, qn, ns, bs, bm, sn, sub, ab, col, dd, k0, k1, k2, k3, k5, ho, hbm⟩
    · cases h1
  · cases h1
def initB (K : PySem.W.Frag) (C f : Addr) : Bool := findB K C "__init__" (some (.ref f)) && decide (PySem.W.typeIn K (.ref f) = some (.type "function"))
theorem initB_ok {C f : Addr} (h : initB K C f = true) : PySem.W.findIn K (.ref C) "__init__" = some (some (.ref f)) ∧ PySem.W.typeIn K (.ref f) = some (.type "function") := by
  obtain ⟨h1, h2⟩ := band h
  exact ⟨findB_ok h1, of_decide_eq_true h2⟩
def kitB' (K : PySem.W.Frag) (a b : Value) (r : Bool) : Bool := decide (PySem.W.kitOne K a b = some r)
def exmB (K : PySem.W.Frag) (a b : Value) (r : Bool) : Bool := decide (PySem.W.exmOne K a b = some r)
/-- an int constant of the class, read of the class -/
def creadB (K : PySem.W.Frag) (C : Addr) (mc : Value) (f : Str) (i : Int) : Bool := PySem.W.readsIn K C mc && (decide (PySem.W.specialIn K (.ref C) "__getattribute__" = some (some (.builtin "type.__getattribute__"))) &&
  (match PySem.W.findCls K (.ref C) mc f with | some (.val (.int j _)) => decide (j = i) | _ => false))
theorem creadB_ok {C : Addr} {mc : Value} {f : Str} {i : Int} (h : creadB K C mc f i = true) : ∃ u, ClX.CRead K C mc ∧ ClX.CVal K C mc f (.int i) u := by
  obtain ⟨h1, h⟩ := band h
  obtain ⟨h2, h3⟩ := band h
  split at h3
  · rename_i j t e
    have ej : j = i := of_decide_eq_true h3
    subst ej
    exact ⟨_, ⟨h1, of_decide_eq_true h2⟩, ⟨e, ⟨t, rfl⟩⟩⟩
  · cases h3
/-- .. of an instance -/
def conB (K : PySem.W.Frag) (C : Addr) (f : Str) (i : Int) : Bool := match PySem.W.findIn K (.ref C) f with
  | some (some (.int j t)) => decide (j = i) && (decide (PySem.W.specialIn K (.int j t) "__get__" = some none) && !PySem.W.copiedNames.contains f)
  | _ => false
theorem conB_ok {C : Addr} {f : Str} {i : Int} (h : conB K C f i = true) : ∃ u, L2.Con K C f (.int i) u := by
  unfold conB at h
  split at h
  · rename_i j t e
    obtain ⟨h1, h⟩ := band h
    obtain ⟨h2, h3⟩ := band h
    have ej : j = i := of_decide_eq_true h1
    subst ej
    exact ⟨_, ⟨e, ⟨t, rfl⟩, of_decide_eq_true h2, by simpa using h3⟩⟩
  · cases h
end
/-! ### the end -/
theorem walk_ofY {l : PySem.W.OpenLaw} {n k : Nat} {q : Program} {loose : List Str} {XP : (Str → Option Value) → Heap → Prop} {YP : World → Heap → Prop} {d : DefRec} {CX : World → CXT} {x : Str}
    (hn : l.most = some n) (hn2 : n ≤ sizeLine) (hdf : d.params.defaults = []) (hr : Room k callerA)
    (F : ∀ (w : World) (mg : Str → Option Value) (fa : Addr) (h : Heap), YP w h → h.Ns mainGlobals mg → mg d.name = some (.ref fa) →
      ∃ (K : PySem.W.Frag) (fd : FuncData) (sp : Sp), K.In h ∧ (∀ (s : Shared) (u : Value), BindsTo s fd ⟨[u], []⟩ [(x, u)]) ∧
        (∀ (H : Hp) (a : Addr) (ns : List Int), ns.length ≤ n → (∀ z ∈ ns, Builtin.Int.intBits z ≤ 1048576) → SqL K H a (ns.map V.int) → sp [.ref a] H (fun v _ => v = .bl true) fun _ _ _ => False) ∧
        ∀ base : Heap, K.In base → base.Ns mainGlobals mg → FnOk l.prog w K mg base (CX w) k fa fd [x] sp)
    (hCX : ∀ (w : World) (H : Hp) (s : Shared) (e : Value) (s' : Shared), CX w [] H s (fun _ _ _ => False) e s' → False) :
    PySem.W.WalkO q loose XP YP l.row.toRowW d [] (fun f vs => PySem.call f vs) := by
  refine Att.attach_callB hn hdf fun w s₀ s₁ mg mb fa o pm cd doc a vs ns G Y ho hd hcd hmg hobj hints hlen hbits hg => ?_
  obtain ⟨K, fd, sp, KX, hb, hsp, hF⟩ := F w mg fa _ Y G.T.g hmg
  exact law_call KX G.T.g G.T.b G.T.builtins G.T.nolimit hg hobj hints (Nat.le_trans hlen hn2) hr hF hb (fun H hO hS => hsp H a ns hlen hbits hS) fun H e s' => hCX w H s₁ e s'
end TH
set_option Elab.async false
set_option linter.all false
set_option maxRecDepth 100000
set_option maxHeartbeats 2000000
namespace K
open PySem PySem.Spec PyProof.Rows L2 TH
abbrev topS (i : Nat) : Stmt := PySem.Challenge.pw_tailheard_k01_drills_led.main.body.getD i (.Pass ⟨0, 0, 0, 0⟩)
def pgt (K : PySem.W.Frag) (p : Addr) : Addr := match PySem.W.recIn K p "property" with | some (.ref g :: _) => g | _ => 0
structure Txt (K : PySem.W.Frag) (mg : Str → Option Value) : Prop where
  f_ValueError : mg "ValueError" = none
  f_abs : mg "abs" = none
  f_all : mg "all" = none
  f_bool : mg "bool" = none
  f_enumerate : mg "enumerate" = none
  f_int : mg "int" = none
  f_isinstance : mg "isinstance" = none
  f_len : mg "len" = none
  f_list : mg "list" = none
  f_range : mg "range" = none
  f_sorted : mg "sorted" = none
  f_str : mg "str" = none
  f_sum : mg "sum" = none
  f_tuple : mg "tuple" = none
  f_zip : mg "zip" = none
  g_TailError : mg "TailError" = some (.ref (He.ga K "TailError"))
  g_BadWords : mg "BadWords" = some (.ref (He.ga K "BadWords"))
  g_BadStanding : mg "BadStanding" = some (.ref (He.ga K "BadStanding"))
  g_BadCalling : mg "BadCalling" = some (.ref (He.ga K "BadCalling"))
  g_NoStanding : mg "NoStanding" = some (.ref (He.ga K "NoStanding"))
  g_Drill : mg "Drill" = some (.ref (He.ga K "Drill"))
  c_Drill : Cls K (He.ga K "Drill")
  n_Drill_words : NoAttr K (He.ga K "Drill") "words"
  n_Drill_standings : NoAttr K (He.ga K "Drill") "standings"
  n_Drill_signs : NoAttr K (He.ga K "Drill") "signs"
  n_Drill_strides : NoAttr K (He.ga K "Drill") "strides"
  n_Drill_bodies : NoAttr K (He.ga K "Drill") "bodies"
  n_Drill_leads : NoAttr K (He.ga K "Drill") "leads"
  o_Drill : IsO K (He.ga K "Drill")
  m_Drill : Mk K (He.ga K "Drill") (He.fAd K ("Drill", some "__init__"))
  p_Drill_is_steady : PropOf K (He.ga K "Drill") "is_steady" (He.fAd K ("Drill", some "is_steady")) (pgt K (He.fAd K ("Drill", some "is_steady")))
  q_Drill_check_standing : Meth K (He.ga K "Drill") "check_standing" (He.fAd K ("Drill", some "check_standing"))
  k_Drill : StX.CallO K (He.ga K "Drill") (He.fAd K ("Drill", some "__call__"))
  q_Drill_walk : Meth K (He.ga K "Drill") "walk" (He.fAd K ("Drill", some "walk"))
  S_Drill_Xlen : Spc K (He.ga K "Drill") "__len__" (He.fAd K ("Drill", some "__len__"))
  S_Drill_Xgetitem : Spc K (He.ga K "Drill") "__getitem__" (He.fAd K ("Drill", some "__getitem__"))
  i_Drill : OwnIt K mg (He.ga K "Drill") "standings" (He.fAd K ("Drill", some "__iter__")) "Drill.__iter__" (inClass (topS 15) 8)
  S_Drill_Xeq : Spc K (He.ga K "Drill") "__eq__" (He.fAd K ("Drill", some "__eq__"))
abbrev s_is_integer : Stmt := (topS 7)
abbrev N_is_integer : List Str := ["thing", "low", "high"]
abbrev P_is_integer : List Str := ["thing", "low", "high"]
theorem sc_is_integer : FnScope N_is_integer P_is_integer (defScope s_is_integer) := ⟨rfl, rfl, rfl, by decide +kernel, rfl, by decide +kernel, by decide +kernel⟩
noncomputable def tm_is_integer {P : Program} {w : World} {K : PySem.W.Frag} {mg : Str → Option Value} {base : Heap} (T : Txt K mg) {j : Nat}  {f : Addr} {cdv : Value} {A : Around} {outer : List Env} {s : Shared} {H : Hp} {E : XK} (hr : Room j (A.deeper (envOfC "is_integer" (defScope s_is_integer) s.heap.objs.size f cdv))) :
    { t : TS // PSs (cxOf (L2N.CX P w) P w K mg base N_is_integer "is_integer" (defScope s_is_integer) f cdv A outer s H E) (defBody s_is_integer) t } :=
  have tk : L2N.Takes (cxOf (L2N.CX P w) P w K mg base N_is_integer "is_integer" (defScope s_is_integer) f cdv A outer s H E) (fun cls d _ H => E cls d H) := L2N.takes_of rfl rfl rfl rfl
  ⟨_, (pss_one (ps_ret (pe_and (pe_callB call_is (by rfl) T.f_isinstance (by decide +kernel) (pa_cons (pv 0) (pa_cons (pe_bltn (v := .ty "int") (u := .type "int") (by rfl) T.f_int (by decide +kernel) rfl) pa_nil))) (pe_and (pe_not (pe_callB call_is (by rfl) T.f_isinstance (by decide +kernel) (pa_cons (pv 0) (pa_cons (pe_bltn (v := .ty "bool") (u := .type "bool") (by rfl) T.f_bool (by decide +kernel) rfl) pa_nil)))) (pe_one (pe_chain op_le op_le (pv 1) (pv 0) (pv 2)))))))⟩
abbrev s_deep : Stmt := (topS 8)
abbrev N_deep : List Str := ["thing", "left", "part"]
abbrev P_deep : List Str := ["thing", "left"]
theorem sc_deep : FnScope N_deep P_deep (defScope s_deep) := ⟨rfl, rfl, rfl, by decide +kernel, rfl, by decide +kernel, by decide +kernel⟩
noncomputable def tm_deep {P : Program} {w : World} {K : PySem.W.Frag} {mg : Str → Option Value} {base : Heap} (T : Txt K mg) {j : Nat} {k_deep : Nat} {sp_deep : Sp} (C_deep : Cal P w K mg base k_deep "deep" sp_deep) (h_deep : k_deep ≤ j) {f : Addr} {cdv : Value} {A : Around} {outer : List Env} {s : Shared} {H : Hp} {E : XK} (hr : Room j (A.deeper (envOfC "deep" (defScope s_deep) s.heap.objs.size f cdv))) :
    { t : TS // PSs (cxOf (L2N.CX P w) P w K mg base N_deep "deep" (defScope s_deep) f cdv A outer s H E) (defBody s_deep) t } :=
  have tk : L2N.Takes (cxOf (L2N.CX P w) P w K mg base N_deep "deep" (defScope s_deep) f cdv A outer s H E) (fun cls d _ H => E cls d H) := L2N.takes_of rfl rfl rfl rfl
  ⟨_, (pss_cons (ps_if (PW.pt (pw_and (pt_cmpR op_gt (pv 1) pe_int (nomark _)) (pw_and1 (pt_val (pe_callB call_isT (by rfl) T.f_isinstance (by decide +kernel) (pa_cons (pv 0) (pa_cons (pe_tup (pa_cons (pe_bltn (v := .ty "list") (u := .type "list") (by rfl) T.f_list (by decide +kernel) rfl) (pa_cons (pe_bltn (v := .ty "tuple") (u := .type "tuple") (by rfl) T.f_tuple (by decide +kernel) rfl) pa_nil))) pa_nil))))))) (pss_one (ps_ret (pe_callTy (r := rTupOf K) call_tupOf (by rfl) T.f_tuple (by decide +kernel) (pa_cons (pe_lc (own := [("part", 2)]) (g := (gName 2)) (tt := tYes) rfl sc_deep.nd (pi_src (pv 0)) (blkOk_by (own := [("part", 2)]) (N := N_deep) (sc := defScope s_deep) (by decide +kernel)) (fun _ _ _ _ _ => (pg_name (i := 2) sc_deep.nd rfl (Or.inl rfl))) (fun _ _ _ _ _ => pts_nil) (fun _ _ _ _ _ => (pe_cl C_deep hr h_deep rfl passE0 (pa_cons (pv 2) (pa_cons (pe_op op_sub (pv 1) pe_int) pa_nil))))) pa_nil)))) pss_nil)
      (pss_one (ps_ret (pv 0))))⟩
abbrev s_is_lot : Stmt := (topS 9)
abbrev N_is_lot : List Str := ["thing", "letter", "one", "two"]
abbrev P_is_lot : List Str := ["thing"]
theorem sc_is_lot : FnScope N_is_lot P_is_lot (defScope s_is_lot) := ⟨rfl, rfl, rfl, by decide +kernel, rfl, by decide +kernel, by decide +kernel⟩
noncomputable def tm_is_lot {P : Program} {w : World} {K : PySem.W.Frag} {mg : Str → Option Value} {base : Heap} (T : Txt K mg) {j : Nat}  {f : Addr} {cdv : Value} {A : Around} {outer : List Env} {s : Shared} {H : Hp} {E : XK} (hr : Room j (A.deeper (envOfC "is_lot" (defScope s_is_lot) s.heap.objs.size f cdv))) :
    { t : TS // PSs (cxOf (L2N.CX P w) P w K mg base N_is_lot "is_lot" (defScope s_is_lot) f cdv A outer s H E) (defBody s_is_lot) t } :=
  have tk : L2N.Takes (cxOf (L2N.CX P w) P w K mg base N_is_lot "is_lot" (defScope s_is_lot) f cdv A outer s H E) (fun cls d _ H => E cls d H) := L2N.takes_of rfl rfl rfl rfl
  ⟨_, (pss_cons (ps_if (PW.pt (pw_or (pt_not (pt_val (pe_callB call_is (by rfl) T.f_isinstance (by decide +kernel) (pa_cons (pv 0) (pa_cons (pe_bltn (v := .ty "str") (u := .type "str") (by rfl) T.f_str (by decide +kernel) rfl) pa_nil))))) (pw_or1 (pt_not (pt_val (pe_callB (cr_all rfl) (by rfl) T.f_all (by decide +kernel) (pa_cons (pe_lc (own := [("letter", 1)]) (g := (gName 1)) (tt := tYes) rfl sc_is_lot.nd (pi_src (pv 0)) (blkOk_by (own := [("letter", 1)]) (N := N_is_lot) (sc := defScope s_is_lot) (by decide +kernel)) (fun _ _ _ _ _ => (pg_name (i := 1) sc_is_lot.nd rfl (Or.inl rfl))) (fun _ _ _ _ _ => pts_nil) (fun _ _ _ _ _ => (pe_chain op_leS op_leS pe_str (pv 1) pe_str))) pa_nil))))))) (pss_one (ps_ret pe_bl)) pss_nil)
      (pss_one (ps_ret (pe_callB (cr_all rfl) (by rfl) T.f_all (by decide +kernel) (pa_cons (pe_lc (own := [("one", 2), ("two", 3)]) (g := (gTup K 2 (gCons (gName 2) (gCons (gName 3) gNil)))) (tt := tYes) rfl sc_is_lot.nd (pi_zipG rfl T.f_zip (pa_cons (pv 0) (pa_cons (pe_slice sl_str (pv 0) (po_some pe_int) po_none) pa_nil))) (blkOk_by (own := [("one", 2), ("two", 3)]) (N := N_is_lot) (sc := defScope s_is_lot) (by decide +kernel)) (fun _ _ _ _ _ => (pg_tup rfl (pgs_cons (pg_name (i := 2) sc_is_lot.nd rfl (Or.inl rfl)) (pgs_cons (pg_name (i := 3) sc_is_lot.nd rfl (Or.inl rfl)) pgs_nil)))) (fun _ _ _ _ _ => pts_nil) (fun _ _ _ _ _ => (pe_cmpR op_ltS (pv 2) (pv 3) (nomark _)))) pa_nil)))))⟩
abbrev s_is_words : Stmt := (topS 10)
abbrev N_is_words : List Str := ["thing"]
abbrev P_is_words : List Str := ["thing"]
theorem sc_is_words : FnScope N_is_words P_is_words (defScope s_is_words) := ⟨rfl, rfl, rfl, by decide +kernel, rfl, by decide +kernel, by decide +kernel⟩
noncomputable def tm_is_words {P : Program} {w : World} {K : PySem.W.Frag} {mg : Str → Option Value} {base : Heap} (T : Txt K mg) {j : Nat} {k_is_lot : Nat} {sp_is_lot : Sp} (C_is_lot : Cal P w K mg base k_is_lot "is_lot" sp_is_lot) (h_is_lot : k_is_lot ≤ j) {f : Addr} {cdv : Value} {A : Around} {outer : List Env} {s : Shared} {H : Hp} {E : XK} (hr : Room j (A.deeper (envOfC "is_words" (defScope s_is_words) s.heap.objs.size f cdv))) :
    { t : TS // PSs (cxOf (L2N.CX P w) P w K mg base N_is_words "is_words" (defScope s_is_words) f cdv A outer s H E) (defBody s_is_words) t } :=
  have tk : L2N.Takes (cxOf (L2N.CX P w) P w K mg base N_is_words "is_words" (defScope s_is_words) f cdv A outer s H E) (fun cls d _ H => E cls d H) := L2N.takes_of rfl rfl rfl rfl
  ⟨_, (pss_one (ps_ret (pe_and (pe_cl C_is_lot hr h_is_lot rfl (passE tk) (pa_cons (pv 0) pa_nil)) (pe_one (pe_chain op_le op_le pe_int (pe_callB (r := L2.rLen K) call_len (by rfl) T.f_len (by decide +kernel) (pa_cons (pv 0) pa_nil)) pe_int)))))⟩
abbrev s_check_calling : Stmt := (topS 11)
abbrev N_check_calling : List Str := ["signs", "calling", "most", "at", "sign"]
abbrev P_check_calling : List Str := ["signs", "calling", "most"]
theorem sc_check_calling : FnScope N_check_calling P_check_calling (defScope s_check_calling) := ⟨rfl, rfl, rfl, by decide +kernel, rfl, by decide +kernel, by decide +kernel⟩
noncomputable def tm_check_calling {P : Program} {w : World} {K : PySem.W.Frag} {mg : Str → Option Value} {base : Heap} (T : Txt K mg) {j : Nat} (h2 : 2 ≤ j) (R_BadCalling : Rse P w K mg base "BadCalling" "number") {f : Addr} {cdv : Value} {A : Around} {outer : List Env} {s : Shared} {H : Hp} {E : XK} (hr : Room j (A.deeper (envOfC "check_calling" (defScope s_check_calling) s.heap.objs.size f cdv))) :
    { t : TS // PSs (cxOf (L2N.CX P w) P w K mg base N_check_calling "check_calling" (defScope s_check_calling) f cdv A outer s H E) (defBody s_check_calling) t } :=
  have tk : L2N.Takes (cxOf (L2N.CX P w) P w K mg base N_check_calling "check_calling" (defScope s_check_calling) f cdv A outer s H E) (fun cls d _ H => E cls d H) := L2N.takes_of rfl rfl rfl rfl
  ⟨_, (pss_cons (ps_if (PW.pt (pw_or (pt_not (pt_val (pe_callB call_is (by rfl) T.f_isinstance (by decide +kernel) (pa_cons (pv 1) (pa_cons (pe_bltn (v := .ty "str") (u := .type "str") (by rfl) T.f_str (by decide +kernel) rfl) pa_nil))))) (pw_or1 (pt_cmpR op_gt (pe_callB (r := L2.rLen K) call_len (by rfl) T.f_len (by decide +kernel) (pa_cons (pv 1) pa_nil)) (pv 2) (nomark _))))) (pss_one (ps_rs R_BadCalling (hr.mono h2) rfl tk rfl (pa_cons (pe_un un_neg pe_int) pa_nil))) pss_nil)
      (pss_one (ps_for (passes_of rfl) rfl (pi_enumG rfl T.f_enumerate (pa_cons (pv 1) pa_nil)) (pg_tup rfl (pgs_cons (pg_name (i := 3) sc_check_calling.nd rfl (Or.inl rfl)) (pgs_cons (pg_name (i := 4) sc_check_calling.nd rfl (Or.inl rfl)) pgs_nil))) (pss_one (ps_if (pt_cmpR op_notInS (pv 4) (pv 0) rfl) (pss_one (ps_rs R_BadCalling (hr.mono h2) rfl tk rfl (pa_cons (pv 3) pa_nil))) pss_nil)))))⟩
abbrev s_is_standing : Stmt := (topS 13)
abbrev N_is_standing : List Str := ["words", "many", "thing", "number"]
abbrev P_is_standing : List Str := ["words", "many", "thing"]
theorem sc_is_standing : FnScope N_is_standing P_is_standing (defScope s_is_standing) := ⟨rfl, rfl, rfl, by decide +kernel, rfl, by decide +kernel, by decide +kernel⟩
noncomputable def tm_is_standing {P : Program} {w : World} {K : PySem.W.Frag} {mg : Str → Option Value} {base : Heap} (T : Txt K mg) {j : Nat} {k_is_integer : Nat} {sp_is_integer : Sp} (C_is_integer : Cal P w K mg base k_is_integer "is_integer" sp_is_integer) (h_is_integer : k_is_integer ≤ j) {f : Addr} {cdv : Value} {A : Around} {outer : List Env} {s : Shared} {H : Hp} {E : XK} (hr : Room j (A.deeper (envOfC "is_standing" (defScope s_is_standing) s.heap.objs.size f cdv))) :
    { t : TS // PSs (cxOf (L2N.CX P w) P w K mg base N_is_standing "is_standing" (defScope s_is_standing) f cdv A outer s H E) (defBody s_is_standing) t } :=
  have tk : L2N.Takes (cxOf (L2N.CX P w) P w K mg base N_is_standing "is_standing" (defScope s_is_standing) f cdv A outer s H E) (fun cls d _ H => E cls d H) := L2N.takes_of rfl rfl rfl rfl
  ⟨_, (pss_cons (ps_if (PW.pt (pw_or (pt_not (pt_val (pe_callB call_is (by rfl) T.f_isinstance (by decide +kernel) (pa_cons (pv 2) (pa_cons (pe_bltn (v := .ty "tuple") (u := .type "tuple") (by rfl) T.f_tuple (by decide +kernel) rfl) pa_nil))))) (pw_or1 (pt_cmpR op_ne (pe_callB (r := L2.rLen K) call_len (by rfl) T.f_len (by decide +kernel) (pa_cons (pv 2) pa_nil)) pe_int (nomark _))))) (pss_one (ps_ret pe_bl)) pss_nil)
      (pss_cons (ps_if (PW.pt (pw_or (pt_not (pt_val (pe_cl C_is_integer hr h_is_integer rfl (passE tk) (pa_cons (pe_ix (r := rIxT K) ix_tup (pv 2) pe_int (fun _ _ => rfl)) (pa_cons (pe_un un_neg pe_int) (pa_cons pe_int pa_nil)))))) (pw_or1 (pt_not (pt_val (pe_cl C_is_integer hr h_is_integer rfl (passE tk) (pa_cons (pe_ix (r := rIxT K) ix_tup (pv 2) pe_int (fun _ _ => rfl)) (pa_cons pe_int (pa_cons pe_int pa_nil))))))))) (pss_one (ps_ret pe_bl)) pss_nil)
      (pss_cons (ps_if (PW.pt (pw_or (pt_not (pt_val (pe_callB call_is (by rfl) T.f_isinstance (by decide +kernel) (pa_cons (pe_ix (r := rIxT K) ix_tup (pv 2) pe_int (fun _ _ => rfl)) (pa_cons (pe_bltn (v := .ty "tuple") (u := .type "tuple") (by rfl) T.f_tuple (by decide +kernel) rfl) pa_nil))))) (pw_or1 (pt_cmpR op_ne (pe_callB (r := L2.rLen K) call_len (by rfl) T.f_len (by decide +kernel) (pa_cons (pe_ix (r := rIxT K) ix_tup (pv 2) pe_int (fun _ _ => rfl)) pa_nil)) (pe_op op_add (pe_callB (r := L2.rLen K) call_len (by rfl) T.f_len (by decide +kernel) (pa_cons (pv 0) pa_nil)) pe_int) (nomark _))))) (pss_one (ps_ret pe_bl)) pss_nil)
      (pss_one (ps_ret (pe_callB (cr_all rfl) (by rfl) T.f_all (by decide +kernel) (pa_cons (pe_lc (own := [("number", 3)]) (g := (gName 3)) (tt := tYes) rfl sc_is_standing.nd (pi_src (pe_ix (r := rIxT K) ix_tup (pv 2) pe_int (fun _ _ => rfl))) (blkOk_by (own := [("number", 3)]) (N := N_is_standing) (sc := defScope s_is_standing) (by decide +kernel)) (fun _ _ _ _ _ => (pg_name (i := 3) sc_is_standing.nd rfl (Or.inl rfl))) (fun _ _ _ _ _ => pts_nil) (fun _ _ _ _ _ => (pe_cl C_is_integer hr h_is_integer rfl passE0 (pa_cons (pv 3) (pa_cons pe_int (pa_cons (pe_op op_sub (pv 1) pe_int) pa_nil)))))) pa_nil)))))))⟩
abbrev s_bad_standing : Stmt := (topS 14)
abbrev N_bad_standing : List Str := ["words", "standings", "number", "standing"]
abbrev P_bad_standing : List Str := ["words", "standings"]
theorem sc_bad_standing : FnScope N_bad_standing P_bad_standing (defScope s_bad_standing) := ⟨rfl, rfl, rfl, by decide +kernel, rfl, by decide +kernel, by decide +kernel⟩
noncomputable def tm_bad_standing {P : Program} {w : World} {K : PySem.W.Frag} {mg : Str → Option Value} {base : Heap} (T : Txt K mg) {j : Nat} {k_is_standing : Nat} {sp_is_standing : Sp} (C_is_standing : Cal P w K mg base k_is_standing "is_standing" sp_is_standing) (h_is_standing : k_is_standing ≤ j) {f : Addr} {cdv : Value} {A : Around} {outer : List Env} {s : Shared} {H : Hp} {E : XK} (hr : Room j (A.deeper (envOfC "bad_standing" (defScope s_bad_standing) s.heap.objs.size f cdv))) :
    { t : TS // PSs (cxOf (L2N.CX P w) P w K mg base N_bad_standing "bad_standing" (defScope s_bad_standing) f cdv A outer s H E) (defBody s_bad_standing) t } :=
  have tk : L2N.Takes (cxOf (L2N.CX P w) P w K mg base N_bad_standing "bad_standing" (defScope s_bad_standing) f cdv A outer s H E) (fun cls d _ H => E cls d H) := L2N.takes_of rfl rfl rfl rfl
  ⟨_, (pss_cons (ps_if (PW.pt (pw_or (pt_not (pt_val (pe_callB call_is (by rfl) T.f_isinstance (by decide +kernel) (pa_cons (pv 1) (pa_cons (pe_bltn (v := .ty "tuple") (u := .type "tuple") (by rfl) T.f_tuple (by decide +kernel) rfl) pa_nil))))) (pw_or1 (pt_not (pt_chain op_le op_le pe_int (pe_callB (r := L2.rLen K) call_len (by rfl) T.f_len (by decide +kernel) (pa_cons (pv 1) pa_nil)) pe_int))))) (pss_one (ps_ret (pe_un un_neg pe_int))) pss_nil)
      (pss_cons (ps_for (passes_of rfl) rfl (pi_enumG rfl T.f_enumerate (pa_cons (pv 1) pa_nil)) (pg_tup rfl (pgs_cons (pg_name (i := 2) sc_bad_standing.nd rfl (Or.inl rfl)) (pgs_cons (pg_name (i := 3) sc_bad_standing.nd rfl (Or.inl rfl)) pgs_nil))) (pss_cons (ps_if (pt_not (pt_val (pe_cl C_is_standing hr h_is_standing rfl (passE tk) (pa_cons (pv 0) (pa_cons (pe_callB (r := L2.rLen K) call_len (by rfl) T.f_len (by decide +kernel) (pa_cons (pv 1) pa_nil)) (pa_cons (pv 3) pa_nil)))))) (pss_one (ps_ret (pv 2))) pss_nil)
      (pss_one (ps_if (PW.pt (pw_and (pt_cmpR op_eq (pv 2) pe_int (nomark _)) (pw_and1 (PW.pt (pw_or (pt_cmpR op_ne (pe_ix (r := rIxT K) ix_tup (pv 3) pe_int (fun _ _ => rfl)) pe_int (nomark _)) (pw_or1 (pt_cmpR op_ne (pe_ix (r := rIxT K) ix_tup (pe_ix (r := rIxT K) ix_tup (pv 3) pe_int (fun _ _ => rfl)) pe_int (fun _ _ => rfl)) pe_int (nomark _)))))))) (pss_one (ps_ret pe_int)) pss_nil))))
      (pss_one (ps_ret pe_non))))⟩
abbrev s_Drill_Xinit : Stmt := (inClass (topS 15) 1)
abbrev N_Drill_Xinit : List Str := ["self", "words", "standings", "rows", "number", "leads", "row", "lead", "sign"]
abbrev P_Drill_Xinit : List Str := ["self", "words", "standings"]
theorem sc_Drill_Xinit : FnScope N_Drill_Xinit P_Drill_Xinit (defScope s_Drill_Xinit) := ⟨rfl, rfl, rfl, by decide +kernel, rfl, by decide +kernel, by decide +kernel⟩
noncomputable def tm_Drill_Xinit {P : Program} {w : World} {K : PySem.W.Frag} {mg : Str → Option Value} {base : Heap} (T : Txt K mg) {j : Nat} {k_bad_standing : Nat} {sp_bad_standing : Sp} (C_bad_standing : Cal P w K mg base k_bad_standing "bad_standing" sp_bad_standing) (h_bad_standing : k_bad_standing ≤ j) {k_deep : Nat} {sp_deep : Sp} (C_deep : Cal P w K mg base k_deep "deep" sp_deep) (h_deep : k_deep ≤ j) {k_is_words : Nat} {sp_is_words : Sp} (C_is_words : Cal P w K mg base k_is_words "is_words" sp_is_words) (h_is_words : k_is_words ≤ j) (h2 : 2 ≤ j) (R_BadStanding : Rse P w K mg base "BadStanding" "number") (R_BadWords : Rse P w K mg base "BadWords" "words") {f : Addr} {cdv : Value} {A : Around} {outer : List Env} {s : Shared} {H : Hp} {E : XK} (hr : Room j (A.deeper (envOfC "Drill.__init__" (defScope s_Drill_Xinit) s.heap.objs.size f cdv))) :
    { t : TS // PSs (cxOf (L2N.CX P w) P w K mg base N_Drill_Xinit "Drill.__init__" (defScope s_Drill_Xinit) f cdv A outer s H E) (defBody s_Drill_Xinit) t } :=
  have tk : L2N.Takes (cxOf (L2N.CX P w) P w K mg base N_Drill_Xinit "Drill.__init__" (defScope s_Drill_Xinit) f cdv A outer s H E) (fun cls d _ H => E cls d H) := L2N.takes_of rfl rfl rfl rfl
  ⟨_, (pss_cons (ps_if (pt_not (pt_val (pe_cl C_is_words hr h_is_words rfl (passE tk) (pa_cons (pv 1) pa_nil)))) (pss_one (ps_rs R_BadWords (hr.mono h2) rfl tk rfl (pa_cons (pv 1) pa_nil))) pss_nil)
      (pss_cons (ps_set (i := 3) sc_Drill_Xinit.nd rfl (Or.inl rfl) (pe_cl C_deep hr h_deep rfl (passE tk) (pa_cons (pv 2) pa_nil)))
      (pss_cons (ps_set (i := 4) sc_Drill_Xinit.nd rfl (Or.inl rfl) (pe_cl C_bad_standing hr h_bad_standing rfl (passE tk) (pa_cons (pv 1) (pa_cons (pv 3) pa_nil))))
      (pss_cons (ps_if (pt_cmpR op_notN1 (pv 4) pe_non (nomark _)) (pss_one (ps_rs R_BadStanding (hr.mono h2) rfl tk rfl (pa_cons (pv 4) pa_nil))) pss_nil)
      (pss_cons (ps_fld (pv 0) (pv 1) rfl)
      (pss_cons (ps_fld (pv 0) (pv 3) rfl)
      (pss_cons (ps_fld (pv 0) (pe_op (r := L2.rAddS) op_add_str pe_str (pv 1)) rfl)
      (pss_cons (ps_fld (pv 0) (pe_callTy (r := rTupOf K) call_tupOf (by rfl) T.f_tuple (by decide +kernel) (pa_cons (pe_lc (own := [("row", 6)]) (g := (gName 6)) (tt := tYes) rfl sc_Drill_Xinit.nd (pi_src (pv 3)) (blkOk_by (own := [("row", 6)]) (N := N_Drill_Xinit) (sc := defScope s_Drill_Xinit) (by decide +kernel)) (fun _ _ _ _ _ => (pg_name (i := 6) sc_Drill_Xinit.nd rfl (Or.inl rfl))) (fun _ _ _ _ _ => pts_nil) (fun _ _ _ _ _ => (pe_ix (r := rIxT K) ix_tup (pv 6) pe_int (fun _ _ => rfl)))) pa_nil)) rfl)
      (pss_cons (ps_fld (pv 0) (pe_callTy (r := rTupOf K) call_tupOf (by rfl) T.f_tuple (by decide +kernel) (pa_cons (pe_lc (own := [("row", 6)]) (g := (gName 6)) (tt := tYes) rfl sc_Drill_Xinit.nd (pi_src (pv 3)) (blkOk_by (own := [("row", 6)]) (N := N_Drill_Xinit) (sc := defScope s_Drill_Xinit) (by decide +kernel)) (fun _ _ _ _ _ => (pg_name (i := 6) sc_Drill_Xinit.nd rfl (Or.inl rfl))) (fun _ _ _ _ _ => pts_nil) (fun _ _ _ _ _ => (pe_ix (r := rIxT K) ix_tup (pv 6) pe_int (fun _ _ => rfl)))) pa_nil)) rfl)
      (pss_cons (ps_set (i := 5) sc_Drill_Xinit.nd rfl (Or.inl rfl) (pe_lst pa_nil))
      (pss_cons (ps_for (passes_of rfl) rfl (pi_src (pv 3)) (pg_name (i := 6) sc_Drill_Xinit.nd rfl (Or.inl rfl)) (pss_cons (ps_set (i := 7) sc_Drill_Xinit.nd rfl (Or.inl rfl) pe_dnewK)
      (pss_cons (ps_for (passes_of rfl) rfl (pi_zipG rfl T.f_zip (pa_cons (pe_fld (pv 0) rfl) (pa_cons (pe_ix (r := rIxT K) ix_tup (pv 6) pe_int (fun _ _ => rfl)) pa_nil))) (pg_tup rfl (pgs_cons (pg_name (i := 8) sc_Drill_Xinit.nd rfl (Or.inl rfl)) (pgs_cons (pg_name (i := 4) sc_Drill_Xinit.nd rfl (Or.inl rfl)) pgs_nil))) (pss_one (ps_dput (hu_of hr) (pv 7) (pv 8) (pv 4) rfl)))
      (pss_one (ps_expr (pe_bm PySem.F.plainAttrs_list PySem.F.slot_list_append PySem.F.type_list_append mt_append (pv 5) (pa_cons (pv 7) pa_nil)))))))
      (pss_one (ps_fld (pv 0) (pe_callTy (r := rTupOf K) call_tupOf (by rfl) T.f_tuple (by decide +kernel) (pa_cons (pv 5) pa_nil)) rfl)))))))))))))⟩
abbrev s_Drill_is_steady : Stmt := (inClass (topS 15) 2)
abbrev N_Drill_is_steady : List Str := ["self", "number", "row"]
abbrev P_Drill_is_steady : List Str := ["self"]
theorem sc_Drill_is_steady : FnScope N_Drill_is_steady P_Drill_is_steady (defScope s_Drill_is_steady) := ⟨rfl, rfl, rfl, by decide +kernel, rfl, by decide +kernel, by decide +kernel⟩
noncomputable def tm_Drill_is_steady {P : Program} {w : World} {K : PySem.W.Frag} {mg : Str → Option Value} {base : Heap} (T : Txt K mg) {j : Nat}  {f : Addr} {cdv : Value} {A : Around} {outer : List Env} {s : Shared} {H : Hp} {E : XK} (hr : Room j (A.deeper (envOfC "Drill.is_steady" (defScope s_Drill_is_steady) s.heap.objs.size f cdv))) :
    { t : TS // PSs (cxOf (L2N.CX P w) P w K mg base N_Drill_is_steady "Drill.is_steady" (defScope s_Drill_is_steady) f cdv A outer s H E) (defBody s_Drill_is_steady) t } :=
  have tk : L2N.Takes (cxOf (L2N.CX P w) P w K mg base N_Drill_is_steady "Drill.is_steady" (defScope s_Drill_is_steady) f cdv A outer s H E) (fun cls d _ H => E cls d H) := L2N.takes_of rfl rfl rfl rfl
  ⟨_, (pss_one (ps_ret (pe_callB (cr_all rfl) (by rfl) T.f_all (by decide +kernel) (pa_cons (pe_lc (own := [("number", 1), ("row", 2)]) (g := (gTup K 2 (gCons (gName 1) (gCons (gName 2) gNil)))) (tt := tYes) rfl sc_Drill_is_steady.nd (pi_enumG rfl T.f_enumerate (pa_cons (pe_fld (pv 0) rfl) pa_nil)) (blkOk_by (own := [("number", 1), ("row", 2)]) (N := N_Drill_is_steady) (sc := defScope s_Drill_is_steady) (by decide +kernel)) (fun _ _ _ _ _ => (pg_tup rfl (pgs_cons (pg_name (i := 1) sc_Drill_is_steady.nd rfl (Or.inl rfl)) (pgs_cons (pg_name (i := 2) sc_Drill_is_steady.nd rfl (Or.inl rfl)) pgs_nil)))) (fun _ _ _ _ _ => pts_nil) (fun _ _ _ _ _ => (pe_cmpR op_eq (pe_ix (r := rIxT K) ix_tup (pe_ix (r := rIxT K) ix_tup (pv 2) pe_int (fun _ _ => rfl)) pe_int (fun _ _ => rfl)) (pv 1) (nomark _)))) pa_nil))))⟩
abbrev s_Drill_check_standing : Stmt := (inClass (topS 15) 3)
abbrev N_Drill_check_standing : List Str := ["self", "standing"]
abbrev P_Drill_check_standing : List Str := ["self", "standing"]
theorem sc_Drill_check_standing : FnScope N_Drill_check_standing P_Drill_check_standing (defScope s_Drill_check_standing) := ⟨rfl, rfl, rfl, by decide +kernel, rfl, by decide +kernel, by decide +kernel⟩
noncomputable def tm_Drill_check_standing {P : Program} {w : World} {K : PySem.W.Frag} {mg : Str → Option Value} {base : Heap} (T : Txt K mg) {j : Nat} {k_is_integer : Nat} {sp_is_integer : Sp} (C_is_integer : Cal P w K mg base k_is_integer "is_integer" sp_is_integer) (h_is_integer : k_is_integer ≤ j) (h2 : 2 ≤ j) (R_NoStanding : Rse P w K mg base "NoStanding" "standing") {f : Addr} {cdv : Value} {A : Around} {outer : List Env} {s : Shared} {H : Hp} {E : XK} (hr : Room j (A.deeper (envOfC "Drill.check_standing" (defScope s_Drill_check_standing) s.heap.objs.size f cdv))) :
    { t : TS // PSs (cxOf (L2N.CX P w) P w K mg base N_Drill_check_standing "Drill.check_standing" (defScope s_Drill_check_standing) f cdv A outer s H E) (defBody s_Drill_check_standing) t } :=
  have tk : L2N.Takes (cxOf (L2N.CX P w) P w K mg base N_Drill_check_standing "Drill.check_standing" (defScope s_Drill_check_standing) f cdv A outer s H E) (fun cls d _ H => E cls d H) := L2N.takes_of rfl rfl rfl rfl
  ⟨_, (pss_one (ps_if (pt_not (pt_val (pe_cl C_is_integer hr h_is_integer rfl (passE tk) (pa_cons (pv 1) (pa_cons pe_int (pa_cons (pe_op op_sub (pe_callB (r := L2.rLen K) call_len (by rfl) T.f_len (by decide +kernel) (pa_cons (pe_fld (pv 0) rfl) pa_nil)) pe_int) pa_nil)))))) (pss_one (ps_rs R_NoStanding (hr.mono h2) rfl tk rfl (pa_cons (pv 1) pa_nil))) pss_nil))⟩
abbrev s_Drill_Xcall : Stmt := (inClass (topS 15) 4)
abbrev N_Drill_Xcall : List Str := ["self", "standing", "calling", "sign"]
abbrev P_Drill_Xcall : List Str := ["self", "standing", "calling"]
theorem sc_Drill_Xcall : FnScope N_Drill_Xcall P_Drill_Xcall (defScope s_Drill_Xcall) := ⟨rfl, rfl, rfl, by decide +kernel, rfl, by decide +kernel, by decide +kernel⟩
noncomputable def tm_Drill_Xcall {P : Program} {w : World} {K : PySem.W.Frag} {mg : Str → Option Value} {base : Heap} (T : Txt K mg) {j : Nat} {k_check_calling : Nat} {sp_check_calling : Sp} (C_check_calling : Cal P w K mg base k_check_calling "check_calling" sp_check_calling) (h_check_calling : k_check_calling ≤ j) {k_Drill_check_standing : Nat} {sp_Drill_check_standing : Sp} (F_Drill_check_standing : FnT P w K mg base k_Drill_check_standing (He.fAd K ("Drill", some "check_standing")) sp_Drill_check_standing) (h_Drill_check_standing : k_Drill_check_standing ≤ j) {f : Addr} {cdv : Value} {A : Around} {outer : List Env} {s : Shared} {H : Hp} {E : XK} (hr : Room j (A.deeper (envOfC "Drill.__call__" (defScope s_Drill_Xcall) s.heap.objs.size f cdv))) :
    { t : TS // PSs (cxOf (L2N.CX P w) P w K mg base N_Drill_Xcall "Drill.__call__" (defScope s_Drill_Xcall) f cdv A outer s H E) (defBody s_Drill_Xcall) t } :=
  have tk : L2N.Takes (cxOf (L2N.CX P w) P w K mg base N_Drill_Xcall "Drill.__call__" (defScope s_Drill_Xcall) f cdv A outer s H E) (fun cls d _ H => E cls d H) := L2N.takes_of rfl rfl rfl rfl
  ⟨_, (pss_cons (ps_expr (pe_methR (pv 0) T.c_Drill T.q_Drill_check_standing F_Drill_check_standing (hr.mono h_Drill_check_standing) (passE tk) (pa_cons (pv 1) pa_nil)))
      (pss_cons (ps_expr (pe_cl C_check_calling hr h_check_calling rfl (passE tk) (pa_cons (pe_fld (pv 0) rfl) (pa_cons (pv 2) pa_nil))))
      (pss_cons (ps_for (passes_of rfl) rfl (pi_src (pv 2)) (pg_name (i := 3) sc_Drill_Xcall.nd rfl (Or.inl rfl)) (pss_one (ps_set (i := 1) sc_Drill_Xcall.nd rfl (Or.inl rfl) (pe_dget (hu_of hr) (pe_ix (r := rIxT K) ix_tup (pe_fld (pv 0) rfl) (pv 1) (fun _ _ => rfl)) (pv 3) (fun _ _ => rfl)))))
      (pss_one (ps_ret (pv 1))))))⟩
abbrev s_Drill_walk : Stmt := (inClass (topS 15) 5)
abbrev N_Drill_walk : List Str := ["self", "standing", "calling", "paces", "sign"]
abbrev P_Drill_walk : List Str := ["self", "standing", "calling"]
theorem sc_Drill_walk : FnScope N_Drill_walk P_Drill_walk (defScope s_Drill_walk) := ⟨rfl, rfl, rfl, by decide +kernel, rfl, by decide +kernel, by decide +kernel⟩
noncomputable def tm_Drill_walk {P : Program} {w : World} {K : PySem.W.Frag} {mg : Str → Option Value} {base : Heap} (T : Txt K mg) {j : Nat} {k_check_calling : Nat} {sp_check_calling : Sp} (C_check_calling : Cal P w K mg base k_check_calling "check_calling" sp_check_calling) (h_check_calling : k_check_calling ≤ j) {k_Drill_check_standing : Nat} {sp_Drill_check_standing : Sp} (F_Drill_check_standing : FnT P w K mg base k_Drill_check_standing (He.fAd K ("Drill", some "check_standing")) sp_Drill_check_standing) (h_Drill_check_standing : k_Drill_check_standing ≤ j) {f : Addr} {cdv : Value} {A : Around} {outer : List Env} {s : Shared} {H : Hp} {E : XK} (hr : Room j (A.deeper (envOfC "Drill.walk" (defScope s_Drill_walk) s.heap.objs.size f cdv))) :
    { t : TS // PSs (cxOf (L2N.CX P w) P w K mg base N_Drill_walk "Drill.walk" (defScope s_Drill_walk) f cdv A outer s H E) (defBody s_Drill_walk) t } :=
  have tk : L2N.Takes (cxOf (L2N.CX P w) P w K mg base N_Drill_walk "Drill.walk" (defScope s_Drill_walk) f cdv A outer s H E) (fun cls d _ H => E cls d H) := L2N.takes_of rfl rfl rfl rfl
  ⟨_, (pss_cons (ps_expr (pe_methR (pv 0) T.c_Drill T.q_Drill_check_standing F_Drill_check_standing (hr.mono h_Drill_check_standing) (passE tk) (pa_cons (pv 1) pa_nil)))
      (pss_cons (ps_expr (pe_cl C_check_calling hr h_check_calling rfl (passE tk) (pa_cons (pe_fld (pv 0) rfl) (pa_cons (pv 2) pa_nil))))
      (pss_cons (ps_set (i := 3) sc_Drill_walk.nd rfl (Or.inl rfl) pe_int)
      (pss_cons (ps_for (passes_of rfl) rfl (pi_src (pv 2)) (pg_name (i := 4) sc_Drill_walk.nd rfl (Or.inl rfl)) (pss_cons (ps_set (i := 1) sc_Drill_walk.nd rfl (Or.inl rfl) (pe_dget (hu_of hr) (pe_ix (r := rIxT K) ix_tup (pe_fld (pv 0) rfl) (pv 1) (fun _ _ => rfl)) (pv 4) (fun _ _ => rfl)))
      (pss_one (ps_aug (i := 3) sc_Drill_walk.nd rfl (Or.inl rfl) (pe_ix (r := rIxT K) ix_tup (pe_fld (pv 0) rfl) (pv 1) (fun _ _ => rfl)) ip_add))))
      (pss_one (ps_ret (pv 3)))))))⟩
abbrev s_Drill_Xlen : Stmt := (inClass (topS 15) 6)
abbrev N_Drill_Xlen : List Str := ["self"]
abbrev P_Drill_Xlen : List Str := ["self"]
theorem sc_Drill_Xlen : FnScope N_Drill_Xlen P_Drill_Xlen (defScope s_Drill_Xlen) := ⟨rfl, rfl, rfl, by decide +kernel, rfl, by decide +kernel, by decide +kernel⟩
noncomputable def tm_Drill_Xlen {P : Program} {w : World} {K : PySem.W.Frag} {mg : Str → Option Value} {base : Heap} (T : Txt K mg) {j : Nat}  {f : Addr} {cdv : Value} {A : Around} {outer : List Env} {s : Shared} {H : Hp} {E : XK} (hr : Room j (A.deeper (envOfC "Drill.__len__" (defScope s_Drill_Xlen) s.heap.objs.size f cdv))) :
    { t : TS // PSs (cxOf (L2N.CX P w) P w K mg base N_Drill_Xlen "Drill.__len__" (defScope s_Drill_Xlen) f cdv A outer s H E) (defBody s_Drill_Xlen) t } :=
  have tk : L2N.Takes (cxOf (L2N.CX P w) P w K mg base N_Drill_Xlen "Drill.__len__" (defScope s_Drill_Xlen) f cdv A outer s H E) (fun cls d _ H => E cls d H) := L2N.takes_of rfl rfl rfl rfl
  ⟨_, (pss_one (ps_ret (pe_callB (r := L2.rLen K) call_len (by rfl) T.f_len (by decide +kernel) (pa_cons (pe_fld (pv 0) rfl) pa_nil))))⟩
abbrev s_Drill_Xgetitem : Stmt := (inClass (topS 15) 7)
abbrev N_Drill_Xgetitem : List Str := ["self", "standing"]
abbrev P_Drill_Xgetitem : List Str := ["self", "standing"]
theorem sc_Drill_Xgetitem : FnScope N_Drill_Xgetitem P_Drill_Xgetitem (defScope s_Drill_Xgetitem) := ⟨rfl, rfl, rfl, by decide +kernel, rfl, by decide +kernel, by decide +kernel⟩
noncomputable def tm_Drill_Xgetitem {P : Program} {w : World} {K : PySem.W.Frag} {mg : Str → Option Value} {base : Heap} (T : Txt K mg) {j : Nat} {k_is_integer : Nat} {sp_is_integer : Sp} (C_is_integer : Cal P w K mg base k_is_integer "is_integer" sp_is_integer) (h_is_integer : k_is_integer ≤ j) (h2 : 2 ≤ j) (R_NoStanding : Rse P w K mg base "NoStanding" "standing") {f : Addr} {cdv : Value} {A : Around} {outer : List Env} {s : Shared} {H : Hp} {E : XK} (hr : Room j (A.deeper (envOfC "Drill.__getitem__" (defScope s_Drill_Xgetitem) s.heap.objs.size f cdv))) :
    { t : TS // PSs (cxOf (L2N.CX P w) P w K mg base N_Drill_Xgetitem "Drill.__getitem__" (defScope s_Drill_Xgetitem) f cdv A outer s H E) (defBody s_Drill_Xgetitem) t } :=
  have tk : L2N.Takes (cxOf (L2N.CX P w) P w K mg base N_Drill_Xgetitem "Drill.__getitem__" (defScope s_Drill_Xgetitem) f cdv A outer s H E) (fun cls d _ H => E cls d H) := L2N.takes_of rfl rfl rfl rfl
  ⟨_, (pss_cons (ps_if (pt_not (pt_val (pe_cl C_is_integer hr h_is_integer rfl (passE tk) (pa_cons (pv 1) (pa_cons pe_int (pa_cons (pe_op op_sub (pe_callB (r := L2.rLen K) call_len (by rfl) T.f_len (by decide +kernel) (pa_cons (pe_fld (pv 0) rfl) pa_nil)) pe_int) pa_nil)))))) (pss_one (ps_rs R_NoStanding (hr.mono h2) rfl tk rfl (pa_cons (pv 1) pa_nil))) pss_nil)
      (pss_one (ps_ret (pe_ix (r := rIxT K) ix_tup (pe_fld (pv 0) rfl) (pv 1) (fun _ _ => rfl)))))⟩
abbrev s_Drill_Xeq : Stmt := (inClass (topS 15) 9)
abbrev N_Drill_Xeq : List Str := ["self", "other"]
abbrev P_Drill_Xeq : List Str := ["self", "other"]
theorem sc_Drill_Xeq : FnScope N_Drill_Xeq P_Drill_Xeq (defScope s_Drill_Xeq) := ⟨rfl, rfl, rfl, by decide +kernel, rfl, by decide +kernel, by decide +kernel⟩
noncomputable def tm_Drill_Xeq {P : Program} {w : World} {K : PySem.W.Frag} {mg : Str → Option Value} {base : Heap} (T : Txt K mg) {j : Nat}  {f : Addr} {cdv : Value} {A : Around} {outer : List Env} {s : Shared} {H : Hp} {E : XK} (hr : Room j (A.deeper (envOfC "Drill.__eq__" (defScope s_Drill_Xeq) s.heap.objs.size f cdv))) :
    { t : TS // PSs (cxOf (L2N.CX P w) P w K mg base N_Drill_Xeq "Drill.__eq__" (defScope s_Drill_Xeq) f cdv A outer s H E) (defBody s_Drill_Xeq) t } :=
  have tk : L2N.Takes (cxOf (L2N.CX P w) P w K mg base N_Drill_Xeq "Drill.__eq__" (defScope s_Drill_Xeq) f cdv A outer s H E) (fun cls d _ H => E cls d H) := L2N.takes_of rfl rfl rfl rfl
  ⟨_, (pss_cons (ps_if (pt_not (pt_val (pe_callB (call_isO T.o_Drill (ClsV.own _)) (by rfl) T.f_isinstance (by decide +kernel) (pa_cons (pv 1) (pa_cons (pe_glob (v := .ref (He.ga K "Drill")) rfl T.g_Drill rfl) pa_nil))))) (pss_one (ps_ret pe_bl)) pss_nil)
      (pss_one (ps_ret (pe_and (pe_cmpR op_eq (pe_fld (pv 0) rfl) (pe_fld (pv 1) rfl) (nomark _)) (pe_one (pe_cmpR (op_eqD hr.units) (pe_fld (pv 0) rfl) (pe_fld (pv 1) rfl) (nomark _)))))))⟩
abbrev s_l_draw : Stmt := (topS 17)
abbrev N_l_draw : List Str := ["_law_script", "_law_cells", "_law_cell"]
abbrev P_l_draw : List Str := ["_law_script"]
theorem sc_l_draw : FnScope N_l_draw P_l_draw (defScope s_l_draw) := ⟨rfl, rfl, rfl, by decide +kernel, rfl, by decide +kernel, by decide +kernel⟩
noncomputable def tm_l_draw {P : Program} {w : World} {K : PySem.W.Frag} {mg : Str → Option Value} {base : Heap} (T : Txt K mg) {j : Nat}  {f : Addr} {cdv : Value} {A : Around} {outer : List Env} {s : Shared} {H : Hp} {E : XK} (hr : Room j (A.deeper (envOfC "_law_draw" (defScope s_l_draw) s.heap.objs.size f cdv))) :
    { t : TS // PSs (cxOf (L2N.CX P w) P w K mg base N_l_draw "_law_draw" (defScope s_l_draw) f cdv A outer s H E) (defBody s_l_draw) t } :=
  have tk : L2N.Takes (cxOf (L2N.CX P w) P w K mg base N_l_draw "_law_draw" (defScope s_l_draw) f cdv A outer s H E) (fun cls d _ H => E cls d H) := L2N.takes_of rfl rfl rfl rfl
  ⟨_, (pss_cons (ps_setLc (i := 1) (own := [("_law_cell", 2)]) (g := (gName 2)) (tt := tYes) rfl sc_l_draw.nd rfl rfl (sw_true rfl rfl rfl (by decide +kernel)) (pi_src (pv 0)) (blkOk_by (own := [("_law_cell", 2)]) (N := N_l_draw) (sc := defScope s_l_draw) (by decide +kernel)) (fun _ _ _ _ _ => (pg_name (i := 2) sc_l_draw.nd rfl (Or.inl rfl))) (fun _ _ _ _ _ => pts_nil) (fun _ _ _ _ _ => (pv 2)))
      (pss_one (ps_ret (pe_lst (pa_cons (pv 1) (pa_cons pe_int (pa_cons pe_int (pa_cons pe_int (pa_cons pe_int (pa_cons (pe_op op_add (pe_op op_mod (pe_callTy call_int1n (by rfl) T.f_int (by decide +kernel) (pa_cons (pe_callB (cr_sum rfl) (by rfl) T.f_sum (by decide +kernel) (pa_cons (pv 1) pa_nil)) pa_nil)) pe_int) (pe_op op_mulV pe_int (pe_callB (r := L2.rLen K) call_len (by rfl) T.f_len (by decide +kernel) (pa_cons (pv 1) pa_nil)))) pa_nil))))))))))⟩
abbrev s_l_mix : Stmt := (topS 18)
abbrev N_l_mix : List Str := ["_law_cell", "_law_turn", "_law_one", "_law_two"]
abbrev P_l_mix : List Str := ["_law_cell", "_law_turn"]
theorem sc_l_mix : FnScope N_l_mix P_l_mix (defScope s_l_mix) := ⟨rfl, rfl, rfl, by decide +kernel, rfl, by decide +kernel, by decide +kernel⟩
noncomputable def tm_l_mix {P : Program} {w : World} {K : PySem.W.Frag} {mg : Str → Option Value} {base : Heap} (T : Txt K mg) {j : Nat}  {f : Addr} {cdv : Value} {A : Around} {outer : List Env} {s : Shared} {H : Hp} {E : XK} (hr : Room j (A.deeper (envOfC "_law_mix" (defScope s_l_mix) s.heap.objs.size f cdv))) :
    { t : TS // PSs (cxOf (L2N.CX P w) P w K mg base N_l_mix "_law_mix" (defScope s_l_mix) f cdv A outer s H E) (defBody s_l_mix) t } :=
  have tk : L2N.Takes (cxOf (L2N.CX P w) P w K mg base N_l_mix "_law_mix" (defScope s_l_mix) f cdv A outer s H E) (fun cls d _ H => E cls d H) := L2N.takes_of rfl rfl rfl rfl
  ⟨_, (pss_cons (ps_set (i := 2) sc_l_mix.nd rfl (Or.inl rfl) (pe_op op_mod (pe_callTy call_int1n (by rfl) T.f_int (by decide +kernel) (pa_cons (pe_op op_add (pe_op op_add (pe_op op_mulV (pv 0) pe_int) (pe_op op_mulV (pv 1) pe_int)) pe_int) pa_nil)) pe_int))
      (pss_cons (ps_set (i := 3) sc_l_mix.nd rfl (Or.inl rfl) (pe_op op_mod (pe_callTy call_int1n (by rfl) T.f_int (by decide +kernel) (pa_cons (pe_op op_add (pe_op op_add (pe_op op_mulV (pv 2) (pv 2)) (pe_op op_mulV (pv 1) pe_int)) (pv 0)) pa_nil)) pe_int))
      (pss_cons (ps_set (i := 3) sc_l_mix.nd rfl (Or.inl rfl) (pe_op op_mod (pe_callTy call_int1n (by rfl) T.f_int (by decide +kernel) (pa_cons (pe_op op_add (pe_op op_mulV (pv 3) (pv 3)) (pv 2)) pa_nil)) pe_int))
      (pss_one (ps_ret (pe_op op_fdiv (pv 3) pe_int))))))⟩
abbrev s_l_pick : Stmt := (topS 19)
abbrev N_l_pick : List Str := ["_law_draw_here", "_law_many", "_law_cell", "_law_digit", "_law_found"]
abbrev P_l_pick : List Str := ["_law_draw_here", "_law_many"]
theorem sc_l_pick : FnScope N_l_pick P_l_pick (defScope s_l_pick) := ⟨rfl, rfl, rfl, by decide +kernel, rfl, by decide +kernel, by decide +kernel⟩
noncomputable def tm_l_pick {P : Program} {w : World} {K : PySem.W.Frag} {mg : Str → Option Value} {base : Heap} (T : Txt K mg) {j : Nat} {k_l_mix : Nat} {sp_l_mix : Sp} (C_l_mix : Cal P w K mg base k_l_mix "_law_mix" sp_l_mix) (h_l_mix : k_l_mix ≤ j) {f : Addr} {cdv : Value} {A : Around} {outer : List Env} {s : Shared} {H : Hp} {E : XK} (hr : Room j (A.deeper (envOfC "_law_pick" (defScope s_l_pick) s.heap.objs.size f cdv))) :
    { t : TS // PSs (cxOf (L2N.CX P w) P w K mg base N_l_pick "_law_pick" (defScope s_l_pick) f cdv A outer s H E) (defBody s_l_pick) t } :=
  have tk : L2N.Takes (cxOf (L2N.CX P w) P w K mg base N_l_pick "_law_pick" (defScope s_l_pick) f cdv A outer s H E) (fun cls d _ H => E cls d H) := L2N.takes_of rfl rfl rfl rfl
  ⟨_, (pss_cons (ps_if (pt_cmpR op_lt (pv 1) pe_int (nomark _)) (pss_one (ps_ret pe_int)) pss_nil)
      (pss_cons (ps_if (PW.pt (pw_and (pt_cmpR op_eq (pe_ix (r := rIxL K) ix_list (pv 0) pe_int (fun _ _ => rfl)) pe_int (nomark _)) (pw_and (pt_cmpR op_lt (pe_ix (r := rIxL K) ix_list (pv 0) pe_int (fun _ _ => rfl)) (pe_callB (r := L2.rLen K) call_len (by rfl) T.f_len (by decide +kernel) (pa_cons (pe_ix (r := rIxL K) ix_list (pv 0) pe_int (fun _ _ => rfl)) pa_nil)) (nomark _)) (pw_and1 (pt_cmpR op_eq (pe_ix (r := rIxL K) ix_list (pv 0) pe_int (fun _ _ => rfl)) pe_int (nomark _)))))) (pss_cons (ps_set (i := 2) sc_l_pick.nd rfl (Or.inl rfl) (pe_ix (r := rIxL K) ix_list (pe_ix (r := rIxL K) ix_list (pv 0) pe_int (fun _ _ => rfl)) (pe_ix (r := rIxL K) ix_list (pv 0) pe_int (fun _ _ => rfl)) (fun _ _ => rfl)))
      (pss_one (ps_if (PW.pt (pw_or (pt_cmpR op_ge (pv 2) (pe_op op_pow pe_int pe_int) (nomark _)) (pw_or1 (pt_cmpR op_le (pv 2) (pe_un un_neg (pe_op op_pow pe_int pe_int)) (nomark _))))) (pss_cons (ps_asg (pe_op op_mod (pe_callTy call_int1n (by rfl) T.f_int (by decide +kernel) (pa_cons (pe_callB call_absn (by rfl) T.f_abs (by decide +kernel) (pa_cons (pv 2) pa_nil)) pa_nil)) (pe_op op_powW (pe_op op_pow pe_int pe_int) pe_int)) (pg_sub (pv 0) pe_int set_list))
      (pss_one (ps_asg (pe_op op_add (pe_ix (r := rIxL K) ix_list (pv 0) pe_int (fun _ _ => rfl)) pe_int) (pg_sub (pv 0) pe_int set_list)))) pss_nil))) pss_nil)
      (pss_cons (ps_if (pt_cmpR op_gt (pe_ix (r := rIxL K) ix_list (pv 0) pe_int (fun _ _ => rfl)) pe_int (nomark _)) (pss_cons (ps_set (i := 3) sc_l_pick.nd rfl (Or.inl rfl) (pe_op op_mod (pe_callTy call_int1n (by rfl) T.f_int (by decide +kernel) (pa_cons (pe_ix (r := rIxL K) ix_list (pv 0) pe_int (fun _ _ => rfl)) pa_nil)) (pv 1)))
      (pss_cons (ps_asg (pe_op op_fdiv (pe_ix (r := rIxL K) ix_list (pv 0) pe_int (fun _ _ => rfl)) (pv 1)) (pg_sub (pv 0) pe_int set_list))
      (pss_one (ps_ret (pv 3))))) pss_nil)
      (pss_cons (ps_if (pt_cmpR op_lt (pe_ix (r := rIxL K) ix_list (pv 0) pe_int (fun _ _ => rfl)) (pe_callB (r := L2.rLen K) call_len (by rfl) T.f_len (by decide +kernel) (pa_cons (pe_ix (r := rIxL K) ix_list (pv 0) pe_int (fun _ _ => rfl)) pa_nil)) (nomark _)) (pss_cons (ps_set (i := 2) sc_l_pick.nd rfl (Or.inl rfl) (pe_ix (r := rIxL K) ix_list (pe_ix (r := rIxL K) ix_list (pv 0) pe_int (fun _ _ => rfl)) (pe_ix (r := rIxL K) ix_list (pv 0) pe_int (fun _ _ => rfl)) (fun _ _ => rfl)))
      (pss_cons (ps_asg (pe_op op_add (pe_ix (r := rIxL K) ix_list (pv 0) pe_int (fun _ _ => rfl)) pe_int) (pg_sub (pv 0) pe_int set_list))
      (pss_cons (ps_set (i := 4) sc_l_pick.nd rfl (Or.inl rfl) (pe_op op_mod (pe_callTy call_int1n (by rfl) T.f_int (by decide +kernel) (pa_cons (pe_cl C_l_mix hr h_l_mix rfl (passE tk) (pa_cons (pe_op op_add (pv 2) (pe_op op_mulV pe_int (pe_ix (r := rIxL K) ix_list (pv 0) pe_int (fun _ _ => rfl)))) (pa_cons (pe_ix (r := rIxL K) ix_list (pv 0) pe_int (fun _ _ => rfl)) pa_nil))) pa_nil)) (pv 1)))
      (pss_cons (ps_if (pt_cmpR op_eq (pe_ix (r := rIxL K) ix_list (pv 0) pe_int (fun _ _ => rfl)) pe_int (nomark _)) (pss_cons (ps_asg pe_int (pg_sub (pv 0) pe_int set_list))
      (pss_one (ps_asg (pe_op op_add (pe_ix (r := rIxL K) ix_list (pv 0) pe_int (fun _ _ => rfl)) pe_int) (pg_sub (pv 0) pe_int set_list)))) pss_nil)
      (pss_one (ps_ret (pv 4))))))) pss_nil)
      (pss_cons (ps_asg (pe_op op_add (pe_ix (r := rIxL K) ix_list (pv 0) pe_int (fun _ _ => rfl)) pe_int) (pg_sub (pv 0) pe_int set_list))
      (pss_one (ps_ret (pe_op op_mod (pe_callTy call_int1n (by rfl) T.f_int (by decide +kernel) (pa_cons (pe_cl C_l_mix hr h_l_mix rfl (passE tk) (pa_cons (pe_ix (r := rIxL K) ix_list (pv 0) pe_int (fun _ _ => rfl)) (pa_cons (pe_op op_add (pe_ix (r := rIxL K) ix_list (pv 0) pe_int (fun _ _ => rfl)) pe_int) pa_nil))) pa_nil)) (pv 1)))))))))⟩
abbrev s_l_listed : Stmt := (topS 20)
abbrev N_l_listed : List Str := ["_law_thing", "_law_part"]
abbrev P_l_listed : List Str := ["_law_thing"]
theorem sc_l_listed : FnScope N_l_listed P_l_listed (defScope s_l_listed) := ⟨rfl, rfl, rfl, by decide +kernel, rfl, by decide +kernel, by decide +kernel⟩
noncomputable def tm_l_listed {P : Program} {w : World} {K : PySem.W.Frag} {mg : Str → Option Value} {base : Heap} (T : Txt K mg) {j : Nat} {k_l_listed : Nat} {sp_l_listed : Sp} (C_l_listed : Cal P w K mg base k_l_listed "_law_listed" sp_l_listed) (h_l_listed : k_l_listed ≤ j) {f : Addr} {cdv : Value} {A : Around} {outer : List Env} {s : Shared} {H : Hp} {E : XK} (hr : Room j (A.deeper (envOfC "_law_listed" (defScope s_l_listed) s.heap.objs.size f cdv))) :
    { t : TS // PSs (cxOf (L2N.CX P w) P w K mg base N_l_listed "_law_listed" (defScope s_l_listed) f cdv A outer s H E) (defBody s_l_listed) t } :=
  have tk : L2N.Takes (cxOf (L2N.CX P w) P w K mg base N_l_listed "_law_listed" (defScope s_l_listed) f cdv A outer s H E) (fun cls d _ H => E cls d H) := L2N.takes_of rfl rfl rfl rfl
  ⟨_, (pss_cons (ps_if (PW.pt (pw_or (pt_val (pe_callB call_is (by rfl) T.f_isinstance (by decide +kernel) (pa_cons (pv 0) (pa_cons (pe_bltn (v := .ty "tuple") (u := .type "tuple") (by rfl) T.f_tuple (by decide +kernel) rfl) pa_nil)))) (pw_or1 (pt_val (pe_callB call_is (by rfl) T.f_isinstance (by decide +kernel) (pa_cons (pv 0) (pa_cons (pe_bltn (v := .ty "list") (u := .type "list") (by rfl) T.f_list (by decide +kernel) rfl) pa_nil))))))) (pss_one (ps_ret (pe_lc (own := [("_law_part", 1)]) (g := (gName 1)) (tt := tYes) rfl sc_l_listed.nd (pi_src (pv 0)) (blkOk_by (own := [("_law_part", 1)]) (N := N_l_listed) (sc := defScope s_l_listed) (by decide +kernel)) (fun _ _ _ _ _ => (pg_name (i := 1) sc_l_listed.nd rfl (Or.inl rfl))) (fun _ _ _ _ _ => pts_nil) (fun _ _ _ _ _ => (pe_cl C_l_listed hr h_l_listed rfl passE0 (pa_cons (pv 1) pa_nil)))))) pss_nil)
      (pss_one (ps_ret (pv 0))))⟩
abbrev s_l_tupled : Stmt := (topS 21)
abbrev N_l_tupled : List Str := ["_law_thing", "_law_part"]
abbrev P_l_tupled : List Str := ["_law_thing"]
theorem sc_l_tupled : FnScope N_l_tupled P_l_tupled (defScope s_l_tupled) := ⟨rfl, rfl, rfl, by decide +kernel, rfl, by decide +kernel, by decide +kernel⟩
noncomputable def tm_l_tupled {P : Program} {w : World} {K : PySem.W.Frag} {mg : Str → Option Value} {base : Heap} (T : Txt K mg) {j : Nat} {k_l_tupled : Nat} {sp_l_tupled : Sp} (C_l_tupled : Cal P w K mg base k_l_tupled "_law_tupled" sp_l_tupled) (h_l_tupled : k_l_tupled ≤ j) {f : Addr} {cdv : Value} {A : Around} {outer : List Env} {s : Shared} {H : Hp} {E : XK} (hr : Room j (A.deeper (envOfC "_law_tupled" (defScope s_l_tupled) s.heap.objs.size f cdv))) :
    { t : TS // PSs (cxOf (L2N.CX P w) P w K mg base N_l_tupled "_law_tupled" (defScope s_l_tupled) f cdv A outer s H E) (defBody s_l_tupled) t } :=
  have tk : L2N.Takes (cxOf (L2N.CX P w) P w K mg base N_l_tupled "_law_tupled" (defScope s_l_tupled) f cdv A outer s H E) (fun cls d _ H => E cls d H) := L2N.takes_of rfl rfl rfl rfl
  ⟨_, (pss_cons (ps_if (PW.pt (pw_or (pt_val (pe_callB call_is (by rfl) T.f_isinstance (by decide +kernel) (pa_cons (pv 0) (pa_cons (pe_bltn (v := .ty "tuple") (u := .type "tuple") (by rfl) T.f_tuple (by decide +kernel) rfl) pa_nil)))) (pw_or1 (pt_val (pe_callB call_is (by rfl) T.f_isinstance (by decide +kernel) (pa_cons (pv 0) (pa_cons (pe_bltn (v := .ty "list") (u := .type "list") (by rfl) T.f_list (by decide +kernel) rfl) pa_nil))))))) (pss_one (ps_ret (pe_callTy (r := rTupOf K) call_tupOf (by rfl) T.f_tuple (by decide +kernel) (pa_cons (pe_lc (own := [("_law_part", 1)]) (g := (gName 1)) (tt := tYes) rfl sc_l_tupled.nd (pi_src (pv 0)) (blkOk_by (own := [("_law_part", 1)]) (N := N_l_tupled) (sc := defScope s_l_tupled) (by decide +kernel)) (fun _ _ _ _ _ => (pg_name (i := 1) sc_l_tupled.nd rfl (Or.inl rfl))) (fun _ _ _ _ _ => pts_nil) (fun _ _ _ _ _ => (pe_cl C_l_tupled hr h_l_tupled rfl passE0 (pa_cons (pv 1) pa_nil)))) pa_nil)))) pss_nil)
      (pss_one (ps_ret (pv 0))))⟩
abbrev s_l_words : Stmt := (topS 22)
abbrev N_l_words : List Str := ["_law_draw_here", "_law_many", "_law_pool", "_law_found", "_law_turn", "_law_letter"]
abbrev P_l_words : List Str := ["_law_draw_here", "_law_many"]
theorem sc_l_words : FnScope N_l_words P_l_words (defScope s_l_words) := ⟨rfl, rfl, rfl, by decide +kernel, rfl, by decide +kernel, by decide +kernel⟩
noncomputable def tm_l_words {P : Program} {w : World} {K : PySem.W.Frag} {mg : Str → Option Value} {base : Heap} (T : Txt K mg) {j : Nat} {k_l_pick : Nat} {sp_l_pick : Sp} (C_l_pick : Cal P w K mg base k_l_pick "_law_pick" sp_l_pick) (h_l_pick : k_l_pick ≤ j) {f : Addr} {cdv : Value} {A : Around} {outer : List Env} {s : Shared} {H : Hp} {E : XK} (hr : Room j (A.deeper (envOfC "_law_words" (defScope s_l_words) s.heap.objs.size f cdv))) :
    { t : TS // PSs (cxOf (L2N.CX P w) P w K mg base N_l_words "_law_words" (defScope s_l_words) f cdv A outer s H E) (defBody s_l_words) t } :=
  have tk : L2N.Takes (cxOf (L2N.CX P w) P w K mg base N_l_words "_law_words" (defScope s_l_words) f cdv A outer s H E) (fun cls d _ H => E cls d H) := L2N.takes_of rfl rfl rfl rfl
  ⟨_, (pss_cons (ps_setLc (i := 2) (own := [("_law_letter", 5)]) (g := (gName 5)) (tt := tYes) rfl sc_l_words.nd rfl rfl (sw_true rfl rfl rfl (by decide +kernel)) (pi_src pe_str) (blkOk_by (own := [("_law_letter", 5)]) (N := N_l_words) (sc := defScope s_l_words) (by decide +kernel)) (fun _ _ _ _ _ => (pg_name (i := 5) sc_l_words.nd rfl (Or.inl rfl))) (fun _ _ _ _ _ => pts_nil) (fun _ _ _ _ _ => (pv 5)))
      (pss_cons (ps_set (i := 3) sc_l_words.nd rfl (Or.inl rfl) (pe_lst pa_nil))
      (pss_cons (ps_for (passes_of rfl) rfl (pi_range1 rfl T.f_range (pa_cons (pv 1) pa_nil)) (pg_name (i := 4) sc_l_words.nd rfl (Or.inl rfl)) (pss_one (ps_expr (pe_bm PySem.F.plainAttrs_list PySem.F.slot_list_append PySem.F.type_list_append mt_append (pv 3) (pa_cons (pe_bm PySem.F.plainAttrs_list PySem.F.slot_list_pop PySem.F.type_list_pop mt_popAt (pv 2) (pa_cons (pe_cl C_l_pick hr h_l_pick rfl (passE tk) (pa_cons (pv 0) (pa_cons (pe_callB (r := L2.rLen K) call_len (by rfl) T.f_len (by decide +kernel) (pa_cons (pv 2) pa_nil)) pa_nil))) pa_nil)) pa_nil)))))
      (pss_one (ps_ret (pe_join pe_str (pe_callB cr_sortedS (by rfl) T.f_sorted (by decide +kernel) (pa_cons (pv 3) pa_nil))))))))⟩
abbrev s_l_same : Stmt := (topS 23)
abbrev N_l_same : List Str := ["_law_one", "_law_two", "_law_at"]
abbrev P_l_same : List Str := ["_law_one", "_law_two"]
theorem sc_l_same : FnScope N_l_same P_l_same (defScope s_l_same) := ⟨rfl, rfl, rfl, by decide +kernel, rfl, by decide +kernel, by decide +kernel⟩
noncomputable def tm_l_same {P : Program} {w : World} {K : PySem.W.Frag} {mg : Str → Option Value} {base : Heap} (T : Txt K mg) {j : Nat} {k_l_same : Nat} {sp_l_same : Sp} (C_l_same : Cal P w K mg base k_l_same "_law_same" sp_l_same) (h_l_same : k_l_same ≤ j) {f : Addr} {cdv : Value} {A : Around} {outer : List Env} {s : Shared} {H : Hp} {E : XK} (hr : Room j (A.deeper (envOfC "_law_same" (defScope s_l_same) s.heap.objs.size f cdv))) :
    { t : TS // PSs (cxOf (L2N.CX P w) P w K mg base N_l_same "_law_same" (defScope s_l_same) f cdv A outer s H E) (defBody s_l_same) t } :=
  have tk : L2N.Takes (cxOf (L2N.CX P w) P w K mg base N_l_same "_law_same" (defScope s_l_same) f cdv A outer s H E) (fun cls d _ H => E cls d H) := L2N.takes_of rfl rfl rfl rfl
  ⟨_, (pss_cons (ps_if (PW.pt (pw_or (PW.pt (pw_and (pt_val (pe_callB call_is (by rfl) T.f_isinstance (by decide +kernel) (pa_cons (pv 0) (pa_cons (pe_bltn (v := .ty "tuple") (u := .type "tuple") (by rfl) T.f_tuple (by decide +kernel) rfl) pa_nil)))) (pw_and1 (pt_val (pe_callB call_is (by rfl) T.f_isinstance (by decide +kernel) (pa_cons (pv 1) (pa_cons (pe_bltn (v := .ty "tuple") (u := .type "tuple") (by rfl) T.f_tuple (by decide +kernel) rfl) pa_nil))))))) (pw_or1 (PW.pt (pw_and (pt_val (pe_callB call_is (by rfl) T.f_isinstance (by decide +kernel) (pa_cons (pv 0) (pa_cons (pe_bltn (v := .ty "list") (u := .type "list") (by rfl) T.f_list (by decide +kernel) rfl) pa_nil)))) (pw_and1 (pt_val (pe_callB call_is (by rfl) T.f_isinstance (by decide +kernel) (pa_cons (pv 1) (pa_cons (pe_bltn (v := .ty "list") (u := .type "list") (by rfl) T.f_list (by decide +kernel) rfl) pa_nil)))))))))) (pss_one (ps_ret (pe_and (pe_cmpR op_eq (pe_callB (r := L2.rLen K) call_len (by rfl) T.f_len (by decide +kernel) (pa_cons (pv 0) pa_nil)) (pe_callB (r := L2.rLen K) call_len (by rfl) T.f_len (by decide +kernel) (pa_cons (pv 1) pa_nil)) (nomark _)) (pe_one (pe_callB (cr_all rfl) (by rfl) T.f_all (by decide +kernel) (pa_cons (pe_lc (own := [("_law_at", 2)]) (g := (gName 2)) (tt := tYes) rfl sc_l_same.nd (pi_range1 rfl T.f_range (pa_cons (pe_callB (r := L2.rLen K) call_len (by rfl) T.f_len (by decide +kernel) (pa_cons (pv 0) pa_nil)) pa_nil)) (blkOk_by (own := [("_law_at", 2)]) (N := N_l_same) (sc := defScope s_l_same) (by decide +kernel)) (fun _ _ _ _ _ => (pg_name (i := 2) sc_l_same.nd rfl (Or.inl rfl))) (fun _ _ _ _ _ => pts_nil) (fun _ _ _ _ _ => (pe_cl C_l_same hr h_l_same rfl passE0 (pa_cons (pe_ix (r := L2.rIx K) ix_seq (pv 0) (pv 2) (fun _ _ => rfl)) (pa_cons (pe_ix (r := L2.rIx K) ix_seq (pv 1) (pv 2) (fun _ _ => rfl)) pa_nil))))) pa_nil)))))) pss_nil)
      (pss_cons (ps_if (pt_cmpR op_ne (pe_callB call_is (by rfl) T.f_isinstance (by decide +kernel) (pa_cons (pv 0) (pa_cons (pe_bltn (v := .ty "bool") (u := .type "bool") (by rfl) T.f_bool (by decide +kernel) rfl) pa_nil))) (pe_callB call_is (by rfl) T.f_isinstance (by decide +kernel) (pa_cons (pv 1) (pa_cons (pe_bltn (v := .ty "bool") (u := .type "bool") (by rfl) T.f_bool (by decide +kernel) rfl) pa_nil))) (nomark _)) (pss_one (ps_ret pe_bl)) pss_nil)
      (pss_one (ps_ret (pe_or (pe_and (pe_callB call_isT (by rfl) T.f_isinstance (by decide +kernel) (pa_cons (pv 0) (pa_cons (pe_tup (pa_cons (pe_bltn (v := .ty "int") (u := .type "int") (by rfl) T.f_int (by decide +kernel) rfl) (pa_cons (pe_bltn (v := .ty "str") (u := .type "str") (by rfl) T.f_str (by decide +kernel) rfl) pa_nil))) pa_nil))) (pe_one (pe_cmpR op_eq (pv 0) (pv 1) (nomark _)))) (pe_one (pe_and (pe_cmpR op_isN1 (pv 0) pe_non (nomark _)) (pe_one (pe_cmpR op_isN1 (pv 1) pe_non (nomark _))))))))))⟩
abbrev s_l_rows : Stmt := (topS 24)
abbrev N_l_rows : List Str := ["_law_draw_here", "_law_words_here", "_law_many", "_law_kind", "_law_rows_here", "_law_number", "_law_nexts", "_law_sign"]
abbrev P_l_rows : List Str := ["_law_draw_here", "_law_words_here", "_law_many"]
theorem sc_l_rows : FnScope N_l_rows P_l_rows (defScope s_l_rows) := ⟨rfl, rfl, rfl, by decide +kernel, rfl, by decide +kernel, by decide +kernel⟩
noncomputable def tm_l_rows {P : Program} {w : World} {K : PySem.W.Frag} {mg : Str → Option Value} {base : Heap} (T : Txt K mg) {j : Nat} {k_l_pick : Nat} {sp_l_pick : Sp} (C_l_pick : Cal P w K mg base k_l_pick "_law_pick" sp_l_pick) (h_l_pick : k_l_pick ≤ j) {f : Addr} {cdv : Value} {A : Around} {outer : List Env} {s : Shared} {H : Hp} {E : XK} (hr : Room j (A.deeper (envOfC "_law_rows" (defScope s_l_rows) s.heap.objs.size f cdv))) :
    { t : TS // PSs (cxOf (L2N.CX P w) P w K mg base N_l_rows "_law_rows" (defScope s_l_rows) f cdv A outer s H E) (defBody s_l_rows) t } :=
  have tk : L2N.Takes (cxOf (L2N.CX P w) P w K mg base N_l_rows "_law_rows" (defScope s_l_rows) f cdv A outer s H E) (fun cls d _ H => E cls d H) := L2N.takes_of rfl rfl rfl rfl
  ⟨_, (pss_cons (ps_set (i := 3) sc_l_rows.nd rfl (Or.inl rfl) (pe_cl C_l_pick hr h_l_pick rfl (passE tk) (pa_cons (pv 0) (pa_cons pe_int pa_nil))))
      (pss_cons (ps_set (i := 4) sc_l_rows.nd rfl (Or.inl rfl) (pe_lst pa_nil))
      (pss_cons (ps_for (passes_of rfl) rfl (pi_range1 rfl T.f_range (pa_cons (pv 2) pa_nil)) (pg_name (i := 5) sc_l_rows.nd rfl (Or.inl rfl)) (pss_cons (ps_setLc (i := 6) (own := [("_law_sign", 7)]) (g := (gName 7)) (tt := tYes) rfl sc_l_rows.nd rfl rfl (sw_true rfl rfl rfl (by decide +kernel)) (pi_src (pe_op (r := L2.rAddS) op_add_str pe_str (pv 1))) (blkOk_by (own := [("_law_sign", 7)]) (N := N_l_rows) (sc := defScope s_l_rows) (by decide +kernel)) (fun _ _ _ _ _ => (pg_name (i := 7) sc_l_rows.nd rfl (Or.inl rfl))) (fun _ _ _ _ _ => pts_nil) (fun _ _ _ _ _ => (pe_cl C_l_pick hr h_l_pick rfl passE0 (pa_cons (pv 0) (pa_cons (pv 2) pa_nil)))))
      (pss_cons (ps_if (pt_cmpR op_lt (pv 3) pe_int (nomark _)) (pss_one (ps_asg (pv 5) (pg_sub (pv 6) pe_int set_list))) pss_nil)
      (pss_one (ps_expr (pe_bm PySem.F.plainAttrs_list PySem.F.slot_list_append PySem.F.type_list_append mt_append (pv 4) (pa_cons (pe_lst (pa_cons (pe_op op_sub (pe_cl C_l_pick hr h_l_pick rfl (passE tk) (pa_cons (pv 0) (pa_cons pe_int pa_nil))) pe_int) (pa_cons (pe_op op_add pe_int (pe_cl C_l_pick hr h_l_pick rfl (passE tk) (pa_cons (pv 0) (pa_cons pe_int pa_nil)))) (pa_cons (pv 6) pa_nil)))) pa_nil)))))))
      (pss_cons (ps_if (pt_cmpR op_eq (pv 3) pe_int (nomark _)) (pss_one (ps_asg (pe_cl C_l_pick hr h_l_pick rfl (passE tk) (pa_cons (pv 0) (pa_cons (pv 2) pa_nil))) (pg_sub (pe_ix (r := rIxL K) ix_list (pe_ix (r := rIxL K) ix_list (pv 4) (pe_cl C_l_pick hr h_l_pick rfl (passE tk) (pa_cons (pv 0) (pa_cons (pv 2) pa_nil))) (fun _ _ => rfl)) pe_int (fun _ _ => rfl)) pe_int set_list))) pss_nil)
      (pss_cons (ps_asg pe_int (pg_sub (pe_ix (r := rIxL K) ix_list (pv 4) pe_int (fun _ _ => rfl)) pe_int set_list))
      (pss_cons (ps_asg pe_int (pg_sub (pe_ix (r := rIxL K) ix_list (pe_ix (r := rIxL K) ix_list (pv 4) pe_int (fun _ _ => rfl)) pe_int (fun _ _ => rfl)) pe_int set_list))
      (pss_one (ps_ret (pv 4)))))))))⟩
abbrev s_l_handed : Stmt := (topS 25)
abbrev N_l_handed : List Str := ["_law_draw_here", "_law_rows_here", "_law_kind", "_law_row"]
abbrev P_l_handed : List Str := ["_law_draw_here", "_law_rows_here"]
theorem sc_l_handed : FnScope N_l_handed P_l_handed (defScope s_l_handed) := ⟨rfl, rfl, rfl, by decide +kernel, rfl, by decide +kernel, by decide +kernel⟩
noncomputable def tm_l_handed {P : Program} {w : World} {K : PySem.W.Frag} {mg : Str → Option Value} {base : Heap} (T : Txt K mg) {j : Nat} {k_l_listed : Nat} {sp_l_listed : Sp} (C_l_listed : Cal P w K mg base k_l_listed "_law_listed" sp_l_listed) (h_l_listed : k_l_listed ≤ j) {k_l_tupled : Nat} {sp_l_tupled : Sp} (C_l_tupled : Cal P w K mg base k_l_tupled "_law_tupled" sp_l_tupled) (h_l_tupled : k_l_tupled ≤ j) {k_l_pick : Nat} {sp_l_pick : Sp} (C_l_pick : Cal P w K mg base k_l_pick "_law_pick" sp_l_pick) (h_l_pick : k_l_pick ≤ j) {f : Addr} {cdv : Value} {A : Around} {outer : List Env} {s : Shared} {H : Hp} {E : XK} (hr : Room j (A.deeper (envOfC "_law_handed" (defScope s_l_handed) s.heap.objs.size f cdv))) :
    { t : TS // PSs (cxOf (L2N.CX P w) P w K mg base N_l_handed "_law_handed" (defScope s_l_handed) f cdv A outer s H E) (defBody s_l_handed) t } :=
  have tk : L2N.Takes (cxOf (L2N.CX P w) P w K mg base N_l_handed "_law_handed" (defScope s_l_handed) f cdv A outer s H E) (fun cls d _ H => E cls d H) := L2N.takes_of rfl rfl rfl rfl
  ⟨_, (pss_cons (ps_set (i := 2) sc_l_handed.nd rfl (Or.inl rfl) (pe_cl C_l_pick hr h_l_pick rfl (passE tk) (pa_cons (pv 0) (pa_cons pe_int pa_nil))))
      (pss_cons (ps_if (pt_cmpR op_eq (pv 2) pe_int (nomark _)) (pss_one (ps_ret (pe_cl C_l_tupled hr h_l_tupled rfl (passE tk) (pa_cons (pv 1) pa_nil)))) pss_nil)
      (pss_cons (ps_if (pt_cmpR op_eq (pv 2) pe_int (nomark _)) (pss_one (ps_ret (pe_cl C_l_listed hr h_l_listed rfl (passE tk) (pa_cons (pv 1) pa_nil)))) pss_nil)
      (pss_cons (ps_if (pt_cmpR op_eq (pv 2) pe_int (nomark _)) (pss_one (ps_ret (pe_callTy (r := rTupOf K) call_tupOf (by rfl) T.f_tuple (by decide +kernel) (pa_cons (pe_lc (own := [("_law_row", 3)]) (g := (gName 3)) (tt := tYes) rfl sc_l_handed.nd (pi_src (pv 1)) (blkOk_by (own := [("_law_row", 3)]) (N := N_l_handed) (sc := defScope s_l_handed) (by decide +kernel)) (fun _ _ _ _ _ => (pg_name (i := 3) sc_l_handed.nd rfl (Or.inl rfl))) (fun _ _ _ _ _ => pts_nil) (fun _ _ _ _ _ => (pe_cl C_l_listed hr h_l_listed rfl passE0 (pa_cons (pv 3) pa_nil)))) pa_nil)))) pss_nil)
      (pss_one (ps_ret (pe_lc (own := [("_law_row", 3)]) (g := (gName 3)) (tt := tYes) rfl sc_l_handed.nd (pi_src (pv 1)) (blkOk_by (own := [("_law_row", 3)]) (N := N_l_handed) (sc := defScope s_l_handed) (by decide +kernel)) (fun _ _ _ _ _ => (pg_name (i := 3) sc_l_handed.nd rfl (Or.inl rfl))) (fun _ _ _ _ _ => pts_nil) (fun _ _ _ _ _ => (pe_tup (pa_cons (pe_ix (r := rIxL K) ix_list (pv 3) pe_int (fun _ _ => rfl)) (pa_cons (pe_ix (r := rIxL K) ix_list (pv 3) pe_int (fun _ _ => rfl)) (pa_cons (pe_cl C_l_listed hr h_l_listed rfl passE0 (pa_cons (pe_ix (r := rIxL K) ix_list (pv 3) pe_int (fun _ _ => rfl)) pa_nil)) pa_nil))))))))))))⟩
abbrev s_l_spoil : Stmt := (topS 26)
abbrev N_l_spoil : List Str := ["_law_thing", "_law_part"]
abbrev P_l_spoil : List Str := ["_law_thing"]
theorem sc_l_spoil : FnScope N_l_spoil P_l_spoil (defScope s_l_spoil) := ⟨rfl, rfl, rfl, by decide +kernel, rfl, by decide +kernel, by decide +kernel⟩
noncomputable def tm_l_spoil {P : Program} {w : World} {K : PySem.W.Frag} {mg : Str → Option Value} {base : Heap} (T : Txt K mg) {j : Nat} {k_l_spoil : Nat} {sp_l_spoil : Sp} (C_l_spoil : Cal P w K mg base k_l_spoil "_law_spoil" sp_l_spoil) (h_l_spoil : k_l_spoil ≤ j) {f : Addr} {cdv : Value} {A : Around} {outer : List Env} {s : Shared} {H : Hp} {E : XK} (hr : Room j (A.deeper (envOfC "_law_spoil" (defScope s_l_spoil) s.heap.objs.size f cdv))) :
    { t : TS // PSs (cxOf (L2N.CX P w) P w K mg base N_l_spoil "_law_spoil" (defScope s_l_spoil) f cdv A outer s H E) (defBody s_l_spoil) t } :=
  have tk : L2N.Takes (cxOf (L2N.CX P w) P w K mg base N_l_spoil "_law_spoil" (defScope s_l_spoil) f cdv A outer s H E) (fun cls d _ H => E cls d H) := L2N.takes_of rfl rfl rfl rfl
  ⟨_, (pss_cons (ps_if (PW.pt (pw_or (pt_val (pe_callB call_is (by rfl) T.f_isinstance (by decide +kernel) (pa_cons (pv 0) (pa_cons (pe_bltn (v := .ty "list") (u := .type "list") (by rfl) T.f_list (by decide +kernel) rfl) pa_nil)))) (pw_or1 (pt_val (pe_callB call_is (by rfl) T.f_isinstance (by decide +kernel) (pa_cons (pv 0) (pa_cons (pe_bltn (v := .ty "tuple") (u := .type "tuple") (by rfl) T.f_tuple (by decide +kernel) rfl) pa_nil))))))) (pss_one (ps_for (passes_of rfl) rfl (pi_src (pv 0)) (pg_name (i := 1) sc_l_spoil.nd rfl (Or.inl rfl)) (pss_one (ps_expr (pe_cl C_l_spoil hr h_l_spoil rfl (passE tk) (pa_cons (pv 1) pa_nil)))))) pss_nil)
      (pss_one (ps_if (pt_val (pe_callB call_is (by rfl) T.f_isinstance (by decide +kernel) (pa_cons (pv 0) (pa_cons (pe_bltn (v := .ty "list") (u := .type "list") (by rfl) T.f_list (by decide +kernel) rfl) pa_nil)))) (pss_cons (ps_expr (pe_bm PySem.F.plainAttrs_list PySem.F.slot_list_append PySem.F.type_list_append mt_append (pv 0) (pa_cons pe_int pa_nil)))
      (pss_one (ps_asg pe_int (pg_sub (pv 0) pe_int set_list)))) pss_nil)))⟩
abbrev s_l_went : Stmt := (topS 27)
abbrev N_l_went : List Str := ["_law_rows_here", "_law_words_here", "_law_standing", "_law_calling_here", "_law_paces", "_law_sign"]
abbrev P_l_went : List Str := ["_law_rows_here", "_law_words_here", "_law_standing", "_law_calling_here"]
theorem sc_l_went : FnScope N_l_went P_l_went (defScope s_l_went) := ⟨rfl, rfl, rfl, by decide +kernel, rfl, by decide +kernel, by decide +kernel⟩
noncomputable def tm_l_went {P : Program} {w : World} {K : PySem.W.Frag} {mg : Str → Option Value} {base : Heap} (T : Txt K mg) {j : Nat}  {f : Addr} {cdv : Value} {A : Around} {outer : List Env} {s : Shared} {H : Hp} {E : XK} (hr : Room j (A.deeper (envOfC "_law_went" (defScope s_l_went) s.heap.objs.size f cdv))) :
    { t : TS // PSs (cxOf (L2N.CX P w) P w K mg base N_l_went "_law_went" (defScope s_l_went) f cdv A outer s H E) (defBody s_l_went) t } :=
  have tk : L2N.Takes (cxOf (L2N.CX P w) P w K mg base N_l_went "_law_went" (defScope s_l_went) f cdv A outer s H E) (fun cls d _ H => E cls d H) := L2N.takes_of rfl rfl rfl rfl
  ⟨_, (pss_cons (ps_set (i := 4) sc_l_went.nd rfl (Or.inl rfl) pe_int)
      (pss_cons (ps_for (passes_of rfl) rfl (pi_src (pv 3)) (pg_name (i := 5) sc_l_went.nd rfl (Or.inl rfl)) (pss_cons (ps_set (i := 2) sc_l_went.nd rfl (Or.inl rfl) (pe_ix (r := rIxL K) ix_list (pe_ix (r := rIxL K) ix_list (pe_ix (r := rIxL K) ix_list (pv 0) (pv 2) (fun _ _ => rfl)) pe_int (fun _ _ => rfl)) (pe_bm PySem.F.plainAttrs_str PySem.F.slot_str_index PySem.F.type_str_index mt_indexF (pe_op (r := L2.rAddS) op_add_str pe_str (pv 1)) (pa_cons (pv 5) pa_nil)) (fun _ _ => rfl)))
      (pss_one (ps_set (i := 4) sc_l_went.nd rfl (Or.inl rfl) (pe_op op_add (pv 4) (pe_ix (r := rIxL K) ix_list (pe_ix (r := rIxL K) ix_list (pv 0) (pv 2) (fun _ _ => rfl)) pe_int (fun _ _ => rfl)))))))
      (pss_one (ps_ret (pe_tup (pa_cons (pv 2) (pa_cons (pv 4) pa_nil)))))))⟩
abbrev s_l_walks : Stmt := (topS 28)
abbrev N_l_walks : List Str := ["_law_drill", "_law_words_here", "_law_rows_here", "_law_calling_here", "_law_standing", "_law_after", "_law_paces"]
abbrev P_l_walks : List Str := ["_law_drill", "_law_words_here", "_law_rows_here", "_law_calling_here"]
theorem sc_l_walks : FnScope N_l_walks P_l_walks (defScope s_l_walks) := ⟨rfl, rfl, rfl, by decide +kernel, rfl, by decide +kernel, by decide +kernel⟩
noncomputable def tm_l_walks {P : Program} {w : World} {K : PySem.W.Frag} {mg : Str → Option Value} {base : Heap} (T : Txt K mg) {j : Nat} {k_l_same : Nat} {sp_l_same : Sp} (C_l_same : Cal P w K mg base k_l_same "_law_same" sp_l_same) (h_l_same : k_l_same ≤ j) {k_Drill_walk : Nat} {sp_Drill_walk : Sp} (F_Drill_walk : FnT P w K mg base k_Drill_walk (He.fAd K ("Drill", some "walk")) sp_Drill_walk) (h_Drill_walk : k_Drill_walk ≤ j) {k_Drill_Xcall : Nat} {sp_Drill_Xcall : Sp} (F_Drill_Xcall : FnT P w K mg base k_Drill_Xcall (He.fAd K ("Drill", some "__call__")) sp_Drill_Xcall) (h_Drill_Xcall : k_Drill_Xcall ≤ j) {k_l_went : Nat} {sp_l_went : Sp} (C_l_went : Cal P w K mg base k_l_went "_law_went" sp_l_went) (h_l_went : k_l_went ≤ j) {f : Addr} {cdv : Value} {A : Around} {outer : List Env} {s : Shared} {H : Hp} {E : XK} (hr : Room j (A.deeper (envOfC "_law_walks" (defScope s_l_walks) s.heap.objs.size f cdv))) :
    { t : TS // PSs (cxOf (L2N.CX P w) P w K mg base N_l_walks "_law_walks" (defScope s_l_walks) f cdv A outer s H E) (defBody s_l_walks) t } :=
  have tk : L2N.Takes (cxOf (L2N.CX P w) P w K mg base N_l_walks "_law_walks" (defScope s_l_walks) f cdv A outer s H E) (fun cls d _ H => E cls d H) := L2N.takes_of rfl rfl rfl rfl
  ⟨_, (pss_cons (ps_for (passes_of rfl) rfl (pi_range1 rfl T.f_range (pa_cons (pe_callB (r := L2.rLen K) call_len (by rfl) T.f_len (by decide +kernel) (pa_cons (pv 2) pa_nil)) pa_nil)) (pg_name (i := 4) sc_l_walks.nd rfl (Or.inl rfl)) (pss_cons (ps_asg (pe_cl C_l_went hr h_l_went rfl (passE tk) (pa_cons (pv 2) (pa_cons (pv 1) (pa_cons (pv 4) (pa_cons (pv 3) pa_nil))))) (pg_tup rfl (pgs_cons (pg_name (i := 5) sc_l_walks.nd rfl (Or.inl rfl)) (pgs_cons (pg_name (i := 6) sc_l_walks.nd rfl (Or.inl rfl)) pgs_nil))))
      (pss_cons (ps_if (pt_not (pt_val (pe_cl C_l_same hr h_l_same rfl (passE tk) (pa_cons (StX.pe_callO (pv 0) T.k_Drill F_Drill_Xcall (hr.mono h_Drill_Xcall) (passE tk) (pa_cons (pv 4) (pa_cons (pv 3) pa_nil))) (pa_cons (pv 5) pa_nil))))) (pss_one (ps_ret pe_bl)) pss_nil)
      (pss_one (ps_if (pt_not (pt_val (pe_cl C_l_same hr h_l_same rfl (passE tk) (pa_cons (pe_methR (pv 0) T.c_Drill T.q_Drill_walk F_Drill_walk (hr.mono h_Drill_walk) (passE tk) (pa_cons (pv 4) (pa_cons (pv 3) pa_nil))) (pa_cons (pv 6) pa_nil))))) (pss_one (ps_ret pe_bl)) pss_nil)))))
      (pss_one (ps_ret pe_bl)))⟩
abbrev s_l_shown : Stmt := (topS 29)
abbrev N_l_shown : List Str := ["_law_drill", "_law_words_here", "_law_rows_here", "_law_standing", "_law_steady", "_law_row", "_law_number"]
abbrev P_l_shown : List Str := ["_law_drill", "_law_words_here", "_law_rows_here"]
theorem sc_l_shown : FnScope N_l_shown P_l_shown (defScope s_l_shown) := ⟨rfl, rfl, rfl, by decide +kernel, rfl, by decide +kernel, by decide +kernel⟩
noncomputable def tm_l_shown {P : Program} {w : World} {K : PySem.W.Frag} {mg : Str → Option Value} {base : Heap} (T : Txt K mg) {j : Nat} {k_l_same : Nat} {sp_l_same : Sp} (C_l_same : Cal P w K mg base k_l_same "_law_same" sp_l_same) (h_l_same : k_l_same ≤ j) {k_Drill_is_steady : Nat} {sp_Drill_is_steady : Sp} (F_Drill_is_steady : FnT P w K mg base k_Drill_is_steady (pgt K (He.fAd K ("Drill", some "is_steady"))) sp_Drill_is_steady) (h_Drill_is_steady : k_Drill_is_steady + 1 ≤ j) {k_Drill_Xgetitem : Nat} {sp_Drill_Xgetitem : Sp} (F_Drill_Xgetitem : FnT P w K mg base k_Drill_Xgetitem (He.fAd K ("Drill", some "__getitem__")) sp_Drill_Xgetitem) (h_Drill_Xgetitem : k_Drill_Xgetitem + 1 ≤ j) {k_Drill_Xlen : Nat} {sp_Drill_Xlen : Sp} (F_Drill_Xlen : FnT P w K mg base k_Drill_Xlen (He.fAd K ("Drill", some "__len__")) sp_Drill_Xlen) (h_Drill_Xlen : k_Drill_Xlen + 1 ≤ j) (h2 : 2 ≤ j) {f : Addr} {cdv : Value} {A : Around} {outer : List Env} {s : Shared} {H : Hp} {E : XK} (hr : Room j (A.deeper (envOfC "_law_shown" (defScope s_l_shown) s.heap.objs.size f cdv))) :
    { t : TS // PSs (cxOf (L2N.CX P w) P w K mg base N_l_shown "_law_shown" (defScope s_l_shown) f cdv A outer s H E) (defBody s_l_shown) t } :=
  have tk : L2N.Takes (cxOf (L2N.CX P w) P w K mg base N_l_shown "_law_shown" (defScope s_l_shown) f cdv A outer s H E) (fun cls d _ H => E cls d H) := L2N.takes_of rfl rfl rfl rfl
  ⟨_, (pss_cons (ps_if (PW.pt (pw_or (pt_not (pt_val (pe_cl C_l_same hr h_l_same rfl (passE tk) (pa_cons (pe_fld (pv 0) rfl) (pa_cons (pv 1) pa_nil))))) (pw_or1 (pt_not (pt_val (pe_cl C_l_same hr h_l_same rfl (passE tk) (pa_cons (pe_fld (pv 0) rfl) (pa_cons (pv 2) pa_nil)))))))) (pss_one (ps_ret pe_bl)) pss_nil)
      (pss_cons (ps_if (PW.pt (pw_or (pt_cmpR op_ne (pe_callB (call_lenO T.S_Drill_Xlen F_Drill_Xlen hr h_Drill_Xlen (passE tk)) (by rfl) T.f_len (by decide +kernel) (pa_cons (pv 0) pa_nil)) (pe_callB (r := L2.rLen K) call_len (by rfl) T.f_len (by decide +kernel) (pa_cons (pv 2) pa_nil)) (nomark _)) (pw_or1 (pt_not (pt_val (pe_cl C_l_same hr h_l_same rfl (passE tk) (pa_cons (pe_callTy (r := rTupOf K) call_tupOf (by rfl) T.f_tuple (by decide +kernel) (pa_cons (pe_lc (own := [("_law_row", 5)]) (g := (gName 5)) (tt := tYes) rfl sc_l_shown.nd (pi_own T.i_Drill (hr.mono h2) (pv 0)) (blkOk_by (own := [("_law_row", 5)]) (N := N_l_shown) (sc := defScope s_l_shown) (by decide +kernel)) (fun _ _ _ _ _ => (pg_name (i := 5) sc_l_shown.nd rfl (Or.inl rfl))) (fun _ _ _ _ _ => pts_nil) (fun _ _ _ _ _ => (pv 5))) pa_nil)) (pa_cons (pv 2) pa_nil)))))))) (pss_one (ps_ret pe_bl)) pss_nil)
      (pss_cons (ps_for (passes_of rfl) rfl (pi_range1 rfl T.f_range (pa_cons (pe_callB (r := L2.rLen K) call_len (by rfl) T.f_len (by decide +kernel) (pa_cons (pv 2) pa_nil)) pa_nil)) (pg_name (i := 3) sc_l_shown.nd rfl (Or.inl rfl)) (pss_one (ps_if (pt_not (pt_val (pe_cl C_l_same hr h_l_same rfl (passE tk) (pa_cons (pe_ixO T.S_Drill_Xgetitem F_Drill_Xgetitem hr h_Drill_Xgetitem (passE tk) (pv 0) (pv 3)) (pa_cons (pe_ix (r := rIxT K) ix_tup (pv 2) (pv 3) (fun _ _ => rfl)) pa_nil))))) (pss_one (ps_ret pe_bl)) pss_nil)))
      (pss_cons (ps_set (i := 4) sc_l_shown.nd rfl (Or.inl rfl) (pe_callB (cr_all rfl) (by rfl) T.f_all (by decide +kernel) (pa_cons (pe_lc (own := [("_law_number", 6)]) (g := (gName 6)) (tt := tYes) rfl sc_l_shown.nd (pi_range1 rfl T.f_range (pa_cons (pe_callB (r := L2.rLen K) call_len (by rfl) T.f_len (by decide +kernel) (pa_cons (pv 2) pa_nil)) pa_nil)) (blkOk_by (own := [("_law_number", 6)]) (N := N_l_shown) (sc := defScope s_l_shown) (by decide +kernel)) (fun _ _ _ _ _ => (pg_name (i := 6) sc_l_shown.nd rfl (Or.inl rfl))) (fun _ _ _ _ _ => pts_nil) (fun _ _ _ _ _ => (pe_cmpR op_eq (pe_ix (r := rIxT K) ix_tup (pe_ix (r := rIxT K) ix_tup (pe_ix (r := rIxT K) ix_tup (pv 2) (pv 6) (fun _ _ => rfl)) pe_int (fun _ _ => rfl)) pe_int (fun _ _ => rfl)) (pv 6) (nomark _)))) pa_nil)))
      (pss_cons (ps_if (pt_not (pt_val (pe_cl C_l_same hr h_l_same rfl (passE tk) (pa_cons (pe_prR (pv 0) T.c_Drill T.p_Drill_is_steady F_Drill_is_steady hr h_Drill_is_steady) (pa_cons (pv 4) pa_nil))))) (pss_one (ps_ret pe_bl)) pss_nil)
      (pss_one (ps_ret (pe_and (pe_cl C_l_same hr h_l_same rfl (passE tk) (pa_cons (ClX.pe_cval (pe_glob (v := .ref (He.ga K "Drill")) rfl T.g_Drill rfl)) (pa_cons pe_int pa_nil))) (pe_one (pe_cl C_l_same hr h_l_same rfl (passE tk) (pa_cons (pe_con (pv 0) rfl) (pa_cons pe_int pa_nil))))))))))))⟩
abbrev s_l_calling : Stmt := (topS 30)
abbrev N_l_calling : List Str := ["_law_draw_here", "_law_signs", "_law_block", "_law_kind", "_law_turn"]
abbrev P_l_calling : List Str := ["_law_draw_here", "_law_signs"]
theorem sc_l_calling : FnScope N_l_calling P_l_calling (defScope s_l_calling) := ⟨rfl, rfl, rfl, by decide +kernel, rfl, by decide +kernel, by decide +kernel⟩
noncomputable def tm_l_calling {P : Program} {w : World} {K : PySem.W.Frag} {mg : Str → Option Value} {base : Heap} (T : Txt K mg) {j : Nat} {k_l_pick : Nat} {sp_l_pick : Sp} (C_l_pick : Cal P w K mg base k_l_pick "_law_pick" sp_l_pick) (h_l_pick : k_l_pick ≤ j) {f : Addr} {cdv : Value} {A : Around} {outer : List Env} {s : Shared} {H : Hp} {E : XK} (hr : Room j (A.deeper (envOfC "_law_calling" (defScope s_l_calling) s.heap.objs.size f cdv))) :
    { t : TS // PSs (cxOf (L2N.CX P w) P w K mg base N_l_calling "_law_calling" (defScope s_l_calling) f cdv A outer s H E) (defBody s_l_calling) t } :=
  have tk : L2N.Takes (cxOf (L2N.CX P w) P w K mg base N_l_calling "_law_calling" (defScope s_l_calling) f cdv A outer s H E) (fun cls d _ H => E cls d H) := L2N.takes_of rfl rfl rfl rfl
  ⟨_, (pss_cons (ps_set (i := 2) sc_l_calling.nd rfl (Or.inl rfl) (pe_join pe_str (pe_lc (own := [("_law_turn", 4)]) (g := (gName 4)) (tt := tYes) rfl sc_l_calling.nd (pi_range1 rfl T.f_range (pa_cons (pe_op op_add pe_int (pe_cl C_l_pick hr h_l_pick rfl (passE tk) (pa_cons (pv 0) (pa_cons pe_int pa_nil)))) pa_nil)) (blkOk_by (own := [("_law_turn", 4)]) (N := N_l_calling) (sc := defScope s_l_calling) (by decide +kernel)) (fun _ _ _ _ _ => (pg_name (i := 4) sc_l_calling.nd rfl (Or.inl rfl))) (fun _ _ _ _ _ => pts_nil) (fun _ _ _ _ _ => (pe_ix (r := rIxS) ix_str (pv 1) (pe_cl C_l_pick hr h_l_pick rfl passE0 (pa_cons (pv 0) (pa_cons (pe_callB (r := L2.rLen K) call_len (by rfl) T.f_len (by decide +kernel) (pa_cons (pv 1) pa_nil)) pa_nil))) (fun _ _ => rfl))))))
      (pss_cons (ps_set (i := 3) sc_l_calling.nd rfl (Or.inl rfl) (pe_cl C_l_pick hr h_l_pick rfl (passE tk) (pa_cons (pv 0) (pa_cons pe_int pa_nil))))
      (pss_cons (ps_if (pt_cmpR op_eq (pv 3) pe_int (nomark _)) (pss_one (ps_ret (pe_slice sl_str (pe_op op_mulS (pv 2) pe_int) po_none (po_some (pe_op op_add pe_int (pe_cl C_l_pick hr h_l_pick rfl (passE tk) (pa_cons (pv 0) (pa_cons pe_int pa_nil)))))))) pss_nil)
      (pss_cons (ps_if (pt_cmpR op_eq (pv 3) pe_int (nomark _)) (pss_one (ps_ret pe_str)) pss_nil)
      (pss_one (ps_ret (pv 2)))))))⟩
abbrev s_l_told : Stmt := (topS 31)
abbrev N_l_told : List Str := ["_law_fault", "_law_found"]
abbrev P_l_told : List Str := ["_law_fault"]
theorem sc_l_told : FnScope N_l_told P_l_told (defScope s_l_told) := ⟨rfl, rfl, rfl, by decide +kernel, rfl, by decide +kernel, by decide +kernel⟩
noncomputable def tm_l_told {P : Program} {w : World} {K : PySem.W.Frag} {mg : Str → Option Value} {base : Heap} (T : Txt K mg)  {j : Nat} {f : Addr} {cdv : Value} {A : Around} {outer : List Env} {s : Shared} {H : Hp} {E : XK} {p : Addr × Obj} (hp : p ∈ (L2H.cxH (L2N.CX P w) P w K mg base N_l_told "_law_told" (defScope s_l_told) f cdv A outer s H E p).pn) :
    { t : TS // PSs (L2H.cxH (L2N.CX P w) P w K mg base N_l_told "_law_told" (defScope s_l_told) f cdv A outer s H E p) (defBody s_l_told) t } := ⟨_, (pss_cons (ps_set (i := 1) sc_l_told.nd rfl (Or.inl rfl) (pe_lst pa_nil))
      (pss_cons (ps_if (pt_val (pe_callB (call_isP hp) (by rfl) T.f_isinstance (by decide +kernel) (pa_cons (pv 0) (pa_cons (pe_glob (v := .ref (He.ga K "BadWords")) rfl T.g_BadWords rfl) pa_nil)))) (pss_one (ps_expr (pe_bm PySem.F.plainAttrs_list PySem.F.slot_list_append PySem.F.type_list_append mt_append (pv 1) (pa_cons (pe_tup (pa_cons pe_str (pa_cons (pe_xp hp (pv 0)) pa_nil))) pa_nil)))) pss_nil)
      (pss_cons (ps_if (pt_val (pe_callB (call_isP hp) (by rfl) T.f_isinstance (by decide +kernel) (pa_cons (pv 0) (pa_cons (pe_glob (v := .ref (He.ga K "BadStanding")) rfl T.g_BadStanding rfl) pa_nil)))) (pss_one (ps_expr (pe_bm PySem.F.plainAttrs_list PySem.F.slot_list_append PySem.F.type_list_append mt_append (pv 1) (pa_cons (pe_tup (pa_cons pe_str (pa_cons (pe_xp hp (pv 0)) pa_nil))) pa_nil)))) pss_nil)
      (pss_cons (ps_if (pt_val (pe_callB (call_isP hp) (by rfl) T.f_isinstance (by decide +kernel) (pa_cons (pv 0) (pa_cons (pe_glob (v := .ref (He.ga K "NoStanding")) rfl T.g_NoStanding rfl) pa_nil)))) (pss_one (ps_expr (pe_bm PySem.F.plainAttrs_list PySem.F.slot_list_append PySem.F.type_list_append mt_append (pv 1) (pa_cons (pe_tup (pa_cons pe_str (pa_cons (pe_xp hp (pv 0)) pa_nil))) pa_nil)))) pss_nil)
      (pss_cons (ps_if (pt_val (pe_callB (call_isP hp) (by rfl) T.f_isinstance (by decide +kernel) (pa_cons (pv 0) (pa_cons (pe_glob (v := .ref (He.ga K "BadCalling")) rfl T.g_BadCalling rfl) pa_nil)))) (pss_one (ps_expr (pe_bm PySem.F.plainAttrs_list PySem.F.slot_list_append PySem.F.type_list_append mt_append (pv 1) (pa_cons (pe_tup (pa_cons pe_str (pa_cons (pe_xp hp (pv 0)) pa_nil))) pa_nil)))) pss_nil)
      (pss_cons (ps_if (PW.pt (pw_or (pt_cmpR op_ne (pe_callB (r := L2.rLen K) call_len (by rfl) T.f_len (by decide +kernel) (pa_cons (pv 1) pa_nil)) pe_int (nomark _)) (pw_or1 (pt_not (pt_val (pe_callB (call_isP hp) (by rfl) T.f_isinstance (by decide +kernel) (pa_cons (pv 0) (pa_cons (pe_bltn (v := .ty "ValueError") (u := .type "ValueError") (by rfl) T.f_ValueError (by decide +kernel) rfl) pa_nil)))))))) (pss_one (ps_ret (pe_tup (pa_cons pe_str (pa_cons (pe_callB (r := L2.rLen K) call_len (by rfl) T.f_len (by decide +kernel) (pa_cons (pv 1) pa_nil)) pa_nil))))) pss_nil)
      (pss_one (ps_ret (pe_ix (r := rIxL K) ix_list (pv 1) pe_int (fun _ _ => rfl))))))))))⟩
abbrev s_l_making : Stmt := (topS 32)
abbrev N_l_making : List Str := ["_law_words_here", "_law_thing", "_law_fault"]
abbrev P_l_making : List Str := ["_law_words_here", "_law_thing"]
theorem sc_l_making : FnScope N_l_making P_l_making (defScope s_l_making) := ⟨rfl, rfl, rfl, by decide +kernel, rfl, by decide +kernel, by decide +kernel⟩
noncomputable def tm_l_making {P : Program} {w : World} {K : PySem.W.Frag} {mg : Str → Option Value} {base : Heap} (T : Txt K mg) {j : Nat} {k_Drill : Nat} {sp_Drill : Sp} (F_Drill : FnT P w K mg base k_Drill (He.fAd K ("Drill", some "__init__")) sp_Drill) (h_Drill : k_Drill + 1 ≤ j) {k_l_told : Nat} {sp_l_told : Addr × Obj → Sp} (C_l_told : CalP P w K mg base k_l_told "_law_told" sp_l_told) (h_l_told : k_l_told ≤ j) {f : Addr} {cdv : Value} {A : Around} {outer : List Env} {s : Shared} {H : Hp} {E : XK} (hr : Room j (A.deeper (envOfC "_law_making" (defScope s_l_making) s.heap.objs.size f cdv))) :
    { t : TS // PSs (cxOf (L2N.CX P w) P w K mg base N_l_making "_law_making" (defScope s_l_making) f cdv A outer s H E) (defBody s_l_making) t } :=
  have tk : L2N.Takes (cxOf (L2N.CX P w) P w K mg base N_l_making "_law_making" (defScope s_l_making) f cdv A outer s H E) (fun cls d _ H => E cls d H) := L2N.takes_of rfl rfl rfl rfl
  ⟨_, (pss_cons (L2N.ps_try_as (i := 2) rfl rfl sc_l_making.nd rfl rfl ⟨rfl, by decide, Or.inl T.g_TailError⟩ tk (fun W pn xe tkT pxe => (pss_one (ps_expr (pe_mkS T.m_Drill F_Drill hr h_Drill rfl T.g_Drill (fun σ => L2N.passAt tkT σ) (pa_cons (pv 0) (pa_cons (pv 1) pa_nil)))))) (fun a oe cls d pn hz hf => pss_all (C := Held cls d) ⟨hz, hf⟩ (pss_one (ps_ret (pe_clP C_l_told (L2H.roomH_mark hr _) h_l_told (hot_suite hz hf) List.mem_cons_self rfl passE0 (pa_cons (pv 2) pa_nil))))))
      (pss_one (ps_ret (pe_tup (pa_cons pe_str pa_nil)))))⟩
abbrev s_l_asking : Stmt := (topS 33)
abbrev N_l_asking : List Str := ["_law_drill", "_law_way", "_law_standing", "_law_calling_here", "_law_fault"]
abbrev P_l_asking : List Str := ["_law_drill", "_law_way", "_law_standing", "_law_calling_here"]
theorem sc_l_asking : FnScope N_l_asking P_l_asking (defScope s_l_asking) := ⟨rfl, rfl, rfl, by decide +kernel, rfl, by decide +kernel, by decide +kernel⟩
noncomputable def tm_l_asking {P : Program} {w : World} {K : PySem.W.Frag} {mg : Str → Option Value} {base : Heap} (T : Txt K mg) {j : Nat} {k_Drill_walk : Nat} {sp_Drill_walk : Sp} (F_Drill_walk : FnT P w K mg base k_Drill_walk (He.fAd K ("Drill", some "walk")) sp_Drill_walk) (h_Drill_walk : k_Drill_walk ≤ j) {k_Drill_Xcall : Nat} {sp_Drill_Xcall : Sp} (F_Drill_Xcall : FnT P w K mg base k_Drill_Xcall (He.fAd K ("Drill", some "__call__")) sp_Drill_Xcall) (h_Drill_Xcall : k_Drill_Xcall ≤ j) {k_Drill_Xgetitem : Nat} {sp_Drill_Xgetitem : Sp} (F_Drill_Xgetitem : FnT P w K mg base k_Drill_Xgetitem (He.fAd K ("Drill", some "__getitem__")) sp_Drill_Xgetitem) (h_Drill_Xgetitem : k_Drill_Xgetitem + 1 ≤ j) {k_l_told : Nat} {sp_l_told : Addr × Obj → Sp} (C_l_told : CalP P w K mg base k_l_told "_law_told" sp_l_told) (h_l_told : k_l_told ≤ j) {f : Addr} {cdv : Value} {A : Around} {outer : List Env} {s : Shared} {H : Hp} {E : XK} (hr : Room j (A.deeper (envOfC "_law_asking" (defScope s_l_asking) s.heap.objs.size f cdv))) :
    { t : TS // PSs (cxOf (L2N.CX P w) P w K mg base N_l_asking "_law_asking" (defScope s_l_asking) f cdv A outer s H E) (defBody s_l_asking) t } :=
  have tk : L2N.Takes (cxOf (L2N.CX P w) P w K mg base N_l_asking "_law_asking" (defScope s_l_asking) f cdv A outer s H E) (fun cls d _ H => E cls d H) := L2N.takes_of rfl rfl rfl rfl
  ⟨_, (pss_one (L2N.ps_try_as (i := 4) rfl rfl sc_l_asking.nd rfl rfl ⟨rfl, by decide, Or.inl T.g_TailError⟩ tk (fun W pn xe tkT pxe => (pss_cons (ps_if (pt_cmpR op_eq (pv 1) pe_int (nomark _)) (pss_one (ps_ret (pe_tup (pa_cons pe_str (pa_cons (pe_ixT T.S_Drill_Xgetitem F_Drill_Xgetitem hr h_Drill_Xgetitem (fun σ => L2N.passAt tkT σ) (pv 0) (pv 2)) pa_nil))))) pss_nil)
      (pss_cons (ps_if (pt_cmpR op_eq (pv 1) pe_int (nomark _)) (pss_one (ps_ret (pe_tup (pa_cons pe_str (pa_cons (pe_callT (pv 0) T.k_Drill F_Drill_Xcall hr h_Drill_Xcall (fun σ => L2N.passAt tkT σ) (pa_cons (pv 2) (pa_cons (pv 3) pa_nil))) pa_nil))))) pss_nil)
      (pss_one (ps_ret (pe_tup (pa_cons pe_str (pa_cons (pe_methT (pv 0) T.c_Drill T.q_Drill_walk F_Drill_walk hr h_Drill_walk (fun σ => L2N.passAt tkT σ) (pa_cons (pv 2) (pa_cons (pv 3) pa_nil))) pa_nil)))))))) (fun a oe cls d pn hz hf => pss_all (C := Held cls d) ⟨hz, hf⟩ (pss_one (ps_ret (pe_clP C_l_told (L2H.roomH_mark hr _) h_l_told (hot_suite hz hf) List.mem_cons_self rfl passE0 (pa_cons (pv 4) pa_nil)))))))⟩
abbrev s_l_bad_words : Stmt := (topS 34)
abbrev N_l_bad_words : List Str := ["_law_draw_here", "_law_words_here", "_law_kind", "_law_at", "_law_letter"]
abbrev P_l_bad_words : List Str := ["_law_draw_here", "_law_words_here"]
theorem sc_l_bad_words : FnScope N_l_bad_words P_l_bad_words (defScope s_l_bad_words) := ⟨rfl, rfl, rfl, by decide +kernel, rfl, by decide +kernel, by decide +kernel⟩
noncomputable def tm_l_bad_words {P : Program} {w : World} {K : PySem.W.Frag} {mg : Str → Option Value} {base : Heap} (T : Txt K mg) {j : Nat} {k_l_words : Nat} {sp_l_words : Sp} (C_l_words : Cal P w K mg base k_l_words "_law_words" sp_l_words) (h_l_words : k_l_words ≤ j) {k_l_pick : Nat} {sp_l_pick : Sp} (C_l_pick : Cal P w K mg base k_l_pick "_law_pick" sp_l_pick) (h_l_pick : k_l_pick ≤ j) {f : Addr} {cdv : Value} {A : Around} {outer : List Env} {s : Shared} {H : Hp} {E : XK} (hr : Room j (A.deeper (envOfC "_law_bad_words" (defScope s_l_bad_words) s.heap.objs.size f cdv))) :
    { t : TS // PSs (cxOf (L2N.CX P w) P w K mg base N_l_bad_words "_law_bad_words" (defScope s_l_bad_words) f cdv A outer s H E) (defBody s_l_bad_words) t } :=
  have tk : L2N.Takes (cxOf (L2N.CX P w) P w K mg base N_l_bad_words "_law_bad_words" (defScope s_l_bad_words) f cdv A outer s H E) (fun cls d _ H => E cls d H) := L2N.takes_of rfl rfl rfl rfl
  ⟨_, (pss_cons (ps_set (i := 2) sc_l_bad_words.nd rfl (Or.inl rfl) (pe_cl C_l_pick hr h_l_pick rfl (passE tk) (pa_cons (pv 0) (pa_cons pe_int pa_nil))))
      (pss_cons (ps_set (i := 3) sc_l_bad_words.nd rfl (Or.inl rfl) (pe_cl C_l_pick hr h_l_pick rfl (passE tk) (pa_cons (pv 0) (pa_cons (pe_callB (r := L2.rLen K) call_len (by rfl) T.f_len (by decide +kernel) (pa_cons (pv 1) pa_nil)) pa_nil))))
      (pss_cons (ps_if (pt_cmpR op_eq (pv 2) pe_int (nomark _)) (pss_one (ps_ret (pe_op (r := L2.rAddS) op_add_str (pe_op (r := L2.rAddS) op_add_str (pe_slice sl_str (pv 1) po_none (po_some (pv 3))) (pe_upper (pe_ix (r := rIxS) ix_str (pv 1) (pv 3) (fun _ _ => rfl)))) (pe_slice sl_str (pv 1) (po_some (pe_op op_add (pv 3) pe_int)) po_none)))) pss_nil)
      (pss_cons (ps_if (pt_cmpR op_eq (pv 2) pe_int (nomark _)) (pss_one (ps_ret (pe_op (r := L2.rAddS) op_add_str (pe_op (r := L2.rAddS) op_add_str (pe_slice sl_str (pv 1) po_none (po_some (pv 3))) (pe_op op_mulS (pe_ix (r := rIxS) ix_str (pv 1) (pv 3) (fun _ _ => rfl)) pe_int)) (pe_slice sl_str (pv 1) (po_some (pe_op op_add (pv 3) pe_int)) po_none)))) pss_nil)
      (pss_cons (ps_if (pt_cmpR op_eq (pv 2) pe_int (nomark _)) (pss_one (ps_ret (pe_op op_mulS (pv 1) pe_int))) pss_nil)
      (pss_cons (ps_if (pt_cmpR op_eq (pv 2) pe_int (nomark _)) (pss_one (ps_ret (pe_op (r := L2.rAddS) op_add_str (pe_op (r := L2.rAddS) op_add_str (pe_slice sl_str (pv 1) po_none (po_some (pv 3))) pe_str) (pe_slice sl_str (pv 1) (po_some (pv 3)) po_none)))) pss_nil)
      (pss_cons (ps_if (pt_cmpR op_eq (pv 2) pe_int (nomark _)) (pss_one (ps_ret (pe_cl C_l_words hr h_l_words rfl (passE tk) (pa_cons (pv 0) (pa_cons pe_int pa_nil))))) pss_nil)
      (pss_cons (ps_if (pt_cmpR op_eq (pv 2) pe_int (nomark _)) (pss_one (ps_ret (pe_revS (pe_cl C_l_words hr h_l_words rfl (passE tk) (pa_cons (pv 0) (pa_cons pe_int pa_nil)))))) pss_nil)
      (pss_cons (ps_if (pt_cmpR op_eq (pv 2) pe_int (nomark _)) (pss_one (ps_ret (pe_op (r := L2.rAddS) op_add_str (pv 1) pe_str))) pss_nil)
      (pss_cons (ps_if (pt_cmpR op_eq (pv 2) pe_int (nomark _)) (pss_one (ps_ret (pe_lc (own := [("_law_letter", 4)]) (g := (gName 4)) (tt := tYes) rfl sc_l_bad_words.nd (pi_src (pv 1)) (blkOk_by (own := [("_law_letter", 4)]) (N := N_l_bad_words) (sc := defScope s_l_bad_words) (by decide +kernel)) (fun _ _ _ _ _ => (pg_name (i := 4) sc_l_bad_words.nd rfl (Or.inl rfl))) (fun _ _ _ _ _ => pts_nil) (fun _ _ _ _ _ => (pv 4))))) pss_nil)
      (pss_one (ps_ret (pe_ix (r := rIxL K) ix_list (pe_lst (pa_cons pe_str (pa_cons pe_non (pa_cons pe_int (pa_cons pe_bl (pa_cons (pe_tup (pa_cons (pv 1) pa_nil)) (pa_cons pe_str pa_nil))))))) (pe_op op_sub (pv 2) pe_int) (fun _ _ => rfl))))))))))))))⟩
abbrev s_l_bad_standing : Stmt := (topS 35)
abbrev N_l_bad_standing : List Str := ["_law_draw_here", "_law_words_here", "_law_many", "_law_row", "_law_number", "_law_stride", "_law_body", "_law_nexts", "_law_kind", "_law_at", "_law_other"]
abbrev P_l_bad_standing : List Str := ["_law_draw_here", "_law_words_here", "_law_many", "_law_row", "_law_number"]
theorem sc_l_bad_standing : FnScope N_l_bad_standing P_l_bad_standing (defScope s_l_bad_standing) := ⟨rfl, rfl, rfl, by decide +kernel, rfl, by decide +kernel, by decide +kernel⟩
noncomputable def tm_l_bad_standing {P : Program} {w : World} {K : PySem.W.Frag} {mg : Str → Option Value} {base : Heap} (T : Txt K mg) {j : Nat} {k_l_pick : Nat} {sp_l_pick : Sp} (C_l_pick : Cal P w K mg base k_l_pick "_law_pick" sp_l_pick) (h_l_pick : k_l_pick ≤ j) {f : Addr} {cdv : Value} {A : Around} {outer : List Env} {s : Shared} {H : Hp} {E : XK} (hr : Room j (A.deeper (envOfC "_law_bad_standing" (defScope s_l_bad_standing) s.heap.objs.size f cdv))) :
    { t : TS // PSs (cxOf (L2N.CX P w) P w K mg base N_l_bad_standing "_law_bad_standing" (defScope s_l_bad_standing) f cdv A outer s H E) (defBody s_l_bad_standing) t } :=
  have tk : L2N.Takes (cxOf (L2N.CX P w) P w K mg base N_l_bad_standing "_law_bad_standing" (defScope s_l_bad_standing) f cdv A outer s H E) (fun cls d _ H => E cls d H) := L2N.takes_of rfl rfl rfl rfl
  ⟨_, (pss_cons (ps_asg (pv 3) (pg_lst rfl (pgs_cons (pg_name (i := 5) sc_l_bad_standing.nd rfl (Or.inl rfl)) (pgs_cons (pg_name (i := 6) sc_l_bad_standing.nd rfl (Or.inl rfl)) (pgs_cons (pg_name (i := 7) sc_l_bad_standing.nd rfl (Or.inl rfl)) pgs_nil)))))
      (pss_cons (ps_set (i := 8) sc_l_bad_standing.nd rfl (Or.inl rfl) (pe_cl C_l_pick hr h_l_pick rfl (passE tk) (pa_cons (pv 0) (pa_cons pe_int pa_nil))))
      (pss_cons (ps_if (pt_cmpR op_eq (pv 8) pe_int (nomark _)) (pss_one (ps_ret (pe_lst (pa_cons (pe_ix (r := rIxL K) ix_list (pe_lst (pa_cons pe_int (pa_cons (pe_un un_neg pe_int) (pa_cons pe_bl (pa_cons pe_non (pa_cons pe_str (pa_cons (pe_op op_pow pe_int pe_int) pa_nil))))))) (pe_cl C_l_pick hr h_l_pick rfl (passE tk) (pa_cons (pv 0) (pa_cons pe_int pa_nil))) (fun _ _ => rfl)) (pa_cons (pv 6) (pa_cons (pv 7) pa_nil)))))) pss_nil)
      (pss_cons (ps_if (pt_cmpR op_eq (pv 8) pe_int (nomark _)) (pss_one (ps_ret (pe_lst (pa_cons (pv 5) (pa_cons (pe_ix (r := rIxL K) ix_list (pe_lst (pa_cons pe_int (pa_cons pe_int (pa_cons pe_bl (pa_cons (pe_un un_neg pe_int) (pa_cons pe_non (pa_cons pe_str pa_nil))))))) (pe_cl C_l_pick hr h_l_pick rfl (passE tk) (pa_cons (pv 0) (pa_cons pe_int pa_nil))) (fun _ _ => rfl)) (pa_cons (pv 7) pa_nil)))))) pss_nil)
      (pss_cons (ps_if (pt_cmpR op_eq (pv 8) pe_int (nomark _)) (pss_cons (ps_set (i := 9) sc_l_bad_standing.nd rfl (Or.inl rfl) (pe_cl C_l_pick hr h_l_pick rfl (passE tk) (pa_cons (pv 0) (pa_cons (pe_callB (r := L2.rLen K) call_len (by rfl) T.f_len (by decide +kernel) (pa_cons (pv 7) pa_nil)) pa_nil))))
      (pss_cons (ps_set (i := 10) sc_l_bad_standing.nd rfl (Or.inl rfl) (pe_ix (r := rIxL K) ix_list (pe_lst (pa_cons (pv 2) (pa_cons (pe_un un_neg pe_int) (pa_cons pe_bl (pa_cons pe_non (pa_cons pe_str (pa_cons pe_bl pa_nil))))))) (pe_cl C_l_pick hr h_l_pick rfl (passE tk) (pa_cons (pv 0) (pa_cons pe_int pa_nil))) (fun _ _ => rfl)))
      (pss_one (ps_ret (pe_lst (pa_cons (pv 5) (pa_cons (pv 6) (pa_cons (pe_op op_cat (pe_op op_cat (pe_slice sl_list (pv 7) po_none (po_some (pv 9))) (pe_lst (pa_cons (pv 10) pa_nil))) (pe_slice sl_list (pv 7) (po_some (pe_op op_add (pv 9) pe_int)) po_none)) pa_nil)))))))) pss_nil)
      (pss_cons (ps_if (pt_cmpR op_eq (pv 8) pe_int (nomark _)) (pss_one (ps_ret (pe_lst (pa_cons (pv 5) (pa_cons (pv 6) (pa_cons (pe_ix (r := rIxL K) ix_list (pe_lst (pa_cons (pe_op op_cat (pv 7) (pe_lst (pa_cons pe_int pa_nil))) (pa_cons (pe_slice sl_list (pv 7) (po_some pe_int) po_none) (pa_cons (pe_lst pa_nil) (pa_cons pe_non (pa_cons pe_int (pa_cons (pe_op op_mulS pe_str (pe_callB (r := L2.rLen K) call_len (by rfl) T.f_len (by decide +kernel) (pa_cons (pv 7) pa_nil))) pa_nil))))))) (pe_cl C_l_pick hr h_l_pick rfl (passE tk) (pa_cons (pv 0) (pa_cons pe_int pa_nil))) (fun _ _ => rfl)) pa_nil)))))) pss_nil)
      (pss_cons (ps_if (PW.pt (pw_or (pt_cmpR op_eq (pv 8) pe_int (nomark _)) (pw_or1 (pt_cmpR op_gt (pv 4) pe_int (nomark _))))) (pss_one (ps_ret (pe_ix (r := rIxL K) ix_list (pe_lst (pa_cons (pe_lst (pa_cons (pv 5) (pa_cons (pv 6) pa_nil))) (pa_cons (pe_lst (pa_cons (pv 5) (pa_cons (pv 6) (pa_cons (pv 7) (pa_cons pe_int pa_nil))))) (pa_cons (pe_lst pa_nil) (pa_cons pe_non (pa_cons pe_int (pa_cons pe_str pa_nil))))))) (pe_cl C_l_pick hr h_l_pick rfl (passE tk) (pa_cons (pv 0) (pa_cons pe_int pa_nil))) (fun _ _ => rfl)))) pss_nil)
      (pss_cons (ps_if (PW.pt (pw_and (pt_cmpR op_gt (pv 2) pe_int (nomark _)) (pw_and1 (pt_cmpR op_eq (pe_cl C_l_pick hr h_l_pick rfl (passE tk) (pa_cons (pv 0) (pa_cons pe_int pa_nil))) pe_int (nomark _))))) (pss_one (ps_ret (pe_lst (pa_cons pe_int (pa_cons (pv 6) (pa_cons (pe_op op_cat (pe_lst (pa_cons (pe_op op_add pe_int (pe_cl C_l_pick hr h_l_pick rfl (passE tk) (pa_cons (pv 0) (pa_cons (pe_op op_sub (pv 2) pe_int) pa_nil)))) pa_nil)) (pe_slice sl_list (pv 7) (po_some pe_int) po_none)) pa_nil)))))) pss_nil)
      (pss_one (ps_ret (pe_lst (pa_cons (pe_ix (r := rIxL K) ix_list (pe_lst (pa_cons pe_int (pa_cons (pe_un un_neg pe_int) (pa_cons pe_int (pa_cons (pe_un un_neg pe_int) pa_nil))))) (pe_cl C_l_pick hr h_l_pick rfl (passE tk) (pa_cons (pv 0) (pa_cons pe_int pa_nil))) (fun _ _ => rfl)) (pa_cons (pv 6) (pa_cons (pv 7) pa_nil))))))))))))))⟩
abbrev s_l_bad_standings : Stmt := (topS 36)
abbrev N_l_bad_standings : List Str := ["_law_draw_here", "_law_words_here", "_law_rows_here", "_law_many", "_law_other", "_law_menu", "_law_at", "_law_found", "_law_second", "_law_row"]
abbrev P_l_bad_standings : List Str := ["_law_draw_here", "_law_words_here", "_law_rows_here"]
theorem sc_l_bad_standings : FnScope N_l_bad_standings P_l_bad_standings (defScope s_l_bad_standings) := ⟨rfl, rfl, rfl, by decide +kernel, rfl, by decide +kernel, by decide +kernel⟩
noncomputable def tm_l_bad_standings {P : Program} {w : World} {K : PySem.W.Frag} {mg : Str → Option Value} {base : Heap} (T : Txt K mg) {j : Nat} {k_l_pick : Nat} {sp_l_pick : Sp} (C_l_pick : Cal P w K mg base k_l_pick "_law_pick" sp_l_pick) (h_l_pick : k_l_pick ≤ j) {k_l_tupled : Nat} {sp_l_tupled : Sp} (C_l_tupled : Cal P w K mg base k_l_tupled "_law_tupled" sp_l_tupled) (h_l_tupled : k_l_tupled ≤ j) {k_l_bad_standing : Nat} {sp_l_bad_standing : Sp} (C_l_bad_standing : Cal P w K mg base k_l_bad_standing "_law_bad_standing" sp_l_bad_standing) (h_l_bad_standing : k_l_bad_standing ≤ j) {k_l_listed : Nat} {sp_l_listed : Sp} (C_l_listed : Cal P w K mg base k_l_listed "_law_listed" sp_l_listed) (h_l_listed : k_l_listed ≤ j) {f : Addr} {cdv : Value} {A : Around} {outer : List Env} {s : Shared} {H : Hp} {E : XK} (hr : Room j (A.deeper (envOfC "_law_bad_standings" (defScope s_l_bad_standings) s.heap.objs.size f cdv))) :
    { t : TS // PSs (cxOf (L2N.CX P w) P w K mg base N_l_bad_standings "_law_bad_standings" (defScope s_l_bad_standings) f cdv A outer s H E) (defBody s_l_bad_standings) t } :=
  have tk : L2N.Takes (cxOf (L2N.CX P w) P w K mg base N_l_bad_standings "_law_bad_standings" (defScope s_l_bad_standings) f cdv A outer s H E) (fun cls d _ H => E cls d H) := L2N.takes_of rfl rfl rfl rfl
  ⟨_, (pss_cons (ps_set (i := 3) sc_l_bad_standings.nd rfl (Or.inl rfl) (pe_callB (r := L2.rLen K) call_len (by rfl) T.f_len (by decide +kernel) (pa_cons (pv 2) pa_nil)))
      (pss_cons (ps_if (pt_cmpR op_eq (pe_cl C_l_pick hr h_l_pick rfl (passE tk) (pa_cons (pv 0) (pa_cons pe_int pa_nil))) pe_int (nomark _)) (pss_cons (ps_set (i := 4) sc_l_bad_standings.nd rfl (Or.inl rfl) (pe_ix (r := rIxL K) ix_list (pv 2) (pe_cl C_l_pick hr h_l_pick rfl (passE tk) (pa_cons (pv 0) (pa_cons (pv 3) pa_nil))) (fun _ _ => rfl)))
      (pss_cons (ps_set (i := 5) sc_l_bad_standings.nd rfl (Or.inl rfl) (pe_lst (pa_cons (pe_lst pa_nil) (pa_cons (pe_tup pa_nil) (pa_cons (pe_slice sl_list (pe_op op_rep (pv 2) pe_int) po_none (po_some pe_int)) (pa_cons pe_non (pa_cons pe_int (pa_cons pe_str (pa_cons pe_bl (pa_cons (pe_op op_catA (pe_callTy (r := rTupOf K) call_tupOf (by rfl) T.f_tuple (by decide +kernel) (pa_cons (pv 2) pa_nil)) (pe_op op_repT (pe_tup (pa_cons (pv 4) pa_nil)) pe_int)) pa_nil))))))))))
      (pss_one (ps_ret (pe_tup (pa_cons (pe_ix (r := rIxL K) ix_list (pv 5) (pe_cl C_l_pick hr h_l_pick rfl (passE tk) (pa_cons (pv 0) (pa_cons pe_int pa_nil))) (fun _ _ => rfl)) (pa_cons (pe_un un_neg pe_int) pa_nil))))))) pss_nil)
      (pss_cons (ps_set (i := 6) sc_l_bad_standings.nd rfl (Or.inl rfl) (pe_cl C_l_pick hr h_l_pick rfl (passE tk) (pa_cons (pv 0) (pa_cons (pv 3) pa_nil))))
      (pss_cons (ps_setLc (i := 7) (own := [("_law_row", 9)]) (g := (gName 9)) (tt := tYes) rfl sc_l_bad_standings.nd rfl rfl (sw_true rfl rfl rfl (by decide +kernel)) (pi_src (pv 2)) (blkOk_by (own := [("_law_row", 9)]) (N := N_l_bad_standings) (sc := defScope s_l_bad_standings) (by decide +kernel)) (fun _ _ _ _ _ => (pg_name (i := 9) sc_l_bad_standings.nd rfl (Or.inl rfl))) (fun _ _ _ _ _ => pts_nil) (fun _ _ _ _ _ => (pe_cl C_l_listed hr h_l_listed rfl passE0 (pa_cons (pv 9) pa_nil))))
      (pss_cons (ps_asg (pe_cl C_l_bad_standing hr h_l_bad_standing rfl (passE tk) (pa_cons (pv 0) (pa_cons (pv 1) (pa_cons (pv 3) (pa_cons (pe_ix (r := rIxL K) ix_list (pv 2) (pv 6) (fun _ _ => rfl)) (pa_cons (pv 6) pa_nil)))))) (pg_sub (pv 7) (pv 6) set_list))
      (pss_cons (ps_set (i := 8) sc_l_bad_standings.nd rfl (Or.inl rfl) (pe_op op_add (pe_op op_add (pv 6) pe_int) (pe_cl C_l_pick hr h_l_pick rfl (passE tk) (pa_cons (pv 0) (pa_cons pe_int pa_nil)))))
      (pss_cons (ps_if (PW.pt (pw_and (pt_cmpR op_lt (pv 8) (pv 3) (nomark _)) (pw_and1 (pt_cmpR op_eq (pe_cl C_l_pick hr h_l_pick rfl (passE tk) (pa_cons (pv 0) (pa_cons pe_int pa_nil))) pe_int (nomark _))))) (pss_one (ps_asg (pe_cl C_l_bad_standing hr h_l_bad_standing rfl (passE tk) (pa_cons (pv 0) (pa_cons (pv 1) (pa_cons (pv 3) (pa_cons (pe_ix (r := rIxL K) ix_list (pv 2) (pv 8) (fun _ _ => rfl)) (pa_cons (pv 8) pa_nil)))))) (pg_sub (pv 7) (pv 8) set_list))) pss_nil)
      (pss_cons (ps_if (pt_cmpR op_eq (pe_cl C_l_pick hr h_l_pick rfl (passE tk) (pa_cons (pv 0) (pa_cons pe_int pa_nil))) pe_int (nomark _)) (pss_one (ps_ret (pe_tup (pa_cons (pe_cl C_l_tupled hr h_l_tupled rfl (passE tk) (pa_cons (pv 7) pa_nil)) (pa_cons (pv 6) pa_nil))))) pss_nil)
      (pss_one (ps_ret (pe_tup (pa_cons (pv 7) (pa_cons (pv 6) pa_nil)))))))))))))⟩
abbrev s_l_bad_calling : Stmt := (topS 37)
abbrev N_l_bad_calling : List Str := ["_law_draw_here", "_law_words_here", "_law_signs", "_law_text", "_law_letters", "_law_other", "_law_kind", "_law_at", "_law_last", "_law_turn", "_law_letter", "_law_sign"]
abbrev P_l_bad_calling : List Str := ["_law_draw_here", "_law_words_here"]
theorem sc_l_bad_calling : FnScope N_l_bad_calling P_l_bad_calling (defScope s_l_bad_calling) := ⟨rfl, rfl, rfl, by decide +kernel, rfl, by decide +kernel, by decide +kernel⟩
noncomputable def tm_l_bad_calling {P : Program} {w : World} {K : PySem.W.Frag} {mg : Str → Option Value} {base : Heap} (T : Txt K mg) {j : Nat} {k_l_pick : Nat} {sp_l_pick : Sp} (C_l_pick : Cal P w K mg base k_l_pick "_law_pick" sp_l_pick) (h_l_pick : k_l_pick ≤ j) {f : Addr} {cdv : Value} {A : Around} {outer : List Env} {s : Shared} {H : Hp} {E : XK} (hr : Room j (A.deeper (envOfC "_law_bad_calling" (defScope s_l_bad_calling) s.heap.objs.size f cdv))) :
    { t : TS // PSs (cxOf (L2N.CX P w) P w K mg base N_l_bad_calling "_law_bad_calling" (defScope s_l_bad_calling) f cdv A outer s H E) (defBody s_l_bad_calling) t } :=
  have tk : L2N.Takes (cxOf (L2N.CX P w) P w K mg base N_l_bad_calling "_law_bad_calling" (defScope s_l_bad_calling) f cdv A outer s H E) (fun cls d _ H => E cls d H) := L2N.takes_of rfl rfl rfl rfl
  ⟨_, (pss_cons (ps_set (i := 2) sc_l_bad_calling.nd rfl (Or.inr rfl) (pe_op (r := L2.rAddS) op_add_str pe_str (pv 1)))
      (pss_cons (ps_set (i := 3) sc_l_bad_calling.nd rfl (Or.inl rfl) (pe_join pe_str (pe_lc (own := [("_law_turn", 9)]) (g := (gName 9)) (tt := tYes) rfl sc_l_bad_calling.nd (pi_range1 rfl T.f_range (pa_cons (pe_op op_add pe_int (pe_cl C_l_pick hr h_l_pick rfl (passE tk) (pa_cons (pv 0) (pa_cons pe_int pa_nil)))) pa_nil)) (blkOk_by (own := [("_law_turn", 9)]) (N := N_l_bad_calling) (sc := defScope s_l_bad_calling) (by decide +kernel)) (fun _ _ _ _ _ => (pg_name (i := 9) sc_l_bad_calling.nd rfl (Or.inl rfl))) (fun _ _ _ _ _ => pts_nil) (fun _ _ _ _ _ => (pe_ix (r := rIxS) ix_str (pv 2) (pe_cl C_l_pick hr h_l_pick rfl passE0 (pa_cons (pv 0) (pa_cons (pe_callB (r := L2.rLen K) call_len (by rfl) T.f_len (by decide +kernel) (pa_cons (pv 2) pa_nil)) pa_nil))) (fun _ _ => rfl))))))
      (pss_cons (ps_setLc (i := 4) (own := [("_law_letter", 10)]) (g := (gName 10)) rfl sc_l_bad_calling.nd rfl rfl (sw_true rfl rfl rfl (by decide +kernel)) (pi_src pe_str) (blkOk_by (own := [("_law_letter", 10)]) (N := N_l_bad_calling) (sc := defScope s_l_bad_calling) (by decide +kernel)) (fun _ _ _ _ _ => (pg_name (i := 10) sc_l_bad_calling.nd rfl (Or.inl rfl))) (fun _ _ _ _ _ => (pts_one (pt_cmpR op_notInS (pv 10) (pv 1) rfl))) (fun _ _ _ _ _ => (pv 10)))
      (pss_cons (ps_set (i := 5) sc_l_bad_calling.nd rfl (Or.inl rfl) (pe_ix (r := rIxL K) ix_list (pv 4) (pe_cl C_l_pick hr h_l_pick rfl (passE tk) (pa_cons (pv 0) (pa_cons (pe_callB (r := L2.rLen K) call_len (by rfl) T.f_len (by decide +kernel) (pa_cons (pv 4) pa_nil)) pa_nil))) (fun _ _ => rfl)))
      (pss_cons (ps_set (i := 6) sc_l_bad_calling.nd rfl (Or.inl rfl) (pe_cl C_l_pick hr h_l_pick rfl (passE tk) (pa_cons (pv 0) (pa_cons pe_int pa_nil))))
      (pss_cons (ps_if (pt_cmpR op_eq (pv 6) pe_int (nomark _)) (pss_one (ps_ret (pe_tup (pa_cons (pe_ix (r := rIxL K) ix_list (pe_lst (pa_cons pe_non (pa_cons pe_int (pa_cons pe_bl (pa_cons (pe_lc (own := [("_law_sign", 11)]) (g := (gName 11)) (tt := tYes) rfl sc_l_bad_calling.nd (pi_src (pv 3)) (blkOk_by (own := [("_law_sign", 11)]) (N := N_l_bad_calling) (sc := defScope s_l_bad_calling) (by decide +kernel)) (fun _ _ _ _ _ => (pg_name (i := 11) sc_l_bad_calling.nd rfl (Or.inl rfl))) (fun _ _ _ _ _ => pts_nil) (fun _ _ _ _ _ => (pv 11))) (pa_cons (pe_tup (pa_cons (pv 3) pa_nil)) (pa_cons (pe_tup pa_nil) pa_nil))))))) (pe_cl C_l_pick hr h_l_pick rfl (passE tk) (pa_cons (pv 0) (pa_cons pe_int pa_nil))) (fun _ _ => rfl)) (pa_cons (pe_un un_neg pe_int) pa_nil))))) pss_nil)
      (pss_cons (ps_if (pt_cmpR op_eq (pv 6) pe_int (nomark _)) (pss_one (ps_ret (pe_tup (pa_cons (pe_slice sl_str (pe_op op_mulS (pv 3) pe_int) po_none (po_some (pe_op op_add pe_int (pe_cl C_l_pick hr h_l_pick rfl (passE tk) (pa_cons (pv 0) (pa_cons pe_int pa_nil)))))) (pa_cons (pe_un un_neg pe_int) pa_nil))))) pss_nil)
      (pss_cons (ps_set (i := 7) sc_l_bad_calling.nd rfl (Or.inl rfl) (pe_cl C_l_pick hr h_l_pick rfl (passE tk) (pa_cons (pv 0) (pa_cons (pe_callB (r := L2.rLen K) call_len (by rfl) T.f_len (by decide +kernel) (pa_cons (pv 3) pa_nil)) pa_nil))))
      (pss_cons (ps_if (pt_cmpR op_eq (pv 6) pe_int (nomark _)) (pss_one (ps_ret (pe_tup (pa_cons (pe_op (r := L2.rAddS) op_add_str (pe_op (r := L2.rAddS) op_add_str (pe_slice sl_str (pv 3) po_none (po_some (pv 7))) (pv 5)) (pe_slice sl_str (pe_op op_mulS (pv 3) pe_int) po_none (po_some (pe_op op_add pe_int (pe_cl C_l_pick hr h_l_pick rfl (passE tk) (pa_cons (pv 0) (pa_cons pe_int pa_nil))))))) (pa_cons (pe_un un_neg pe_int) pa_nil))))) pss_nil)
      (pss_cons (ps_if (pt_cmpR op_eq (pv 6) pe_int (nomark _)) (pss_one (ps_ret (pe_tup (pa_cons (pe_op (r := L2.rAddS) op_add_str (pe_slice sl_str (pe_op op_mulS (pv 3) pe_int) po_none (po_some pe_int)) (pv 5)) (pa_cons pe_int pa_nil))))) pss_nil)
      (pss_cons (ps_set (i := 8) sc_l_bad_calling.nd rfl (Or.inl rfl) (pe_ix (r := rIxL K) ix_list (pv 4) (pe_cl C_l_pick hr h_l_pick rfl (passE tk) (pa_cons (pv 0) (pa_cons (pe_callB (r := L2.rLen K) call_len (by rfl) T.f_len (by decide +kernel) (pa_cons (pv 4) pa_nil)) pa_nil))) (fun _ _ => rfl)))
      (pss_one (ps_ret (pe_tup (pa_cons (pe_op (r := L2.rAddS) op_add_str (pe_op (r := L2.rAddS) op_add_str (pe_op (r := L2.rAddS) op_add_str (pe_slice sl_str (pv 3) po_none (po_some (pv 7))) (pv 5)) (pe_slice sl_str (pv 3) (po_some (pv 7)) po_none)) (pe_ix (r := rIxL K) ix_list (pe_lst (pa_cons pe_str (pa_cons (pv 8) pa_nil))) (pe_cl C_l_pick hr h_l_pick rfl (passE tk) (pa_cons (pv 0) (pa_cons pe_int pa_nil))) (fun _ _ => rfl))) (pa_cons (pv 7) pa_nil))))))))))))))))⟩
abbrev s_l_refused : Stmt := (topS 38)
abbrev N_l_refused : List Str := ["_law_draw_here", "_law_drill", "_law_words_here", "_law_rows_here", "_law_many", "_law_signs", "_law_wrong", "_law_thing", "_law_number", "_law_handed_here", "_law_calling_here", "_law_index", "_law_good", "_law_way", "_law_text", "_law_standing", "_law_after", "_law_paces"]
abbrev P_l_refused : List Str := ["_law_draw_here", "_law_drill", "_law_words_here", "_law_rows_here"]
theorem sc_l_refused : FnScope N_l_refused P_l_refused (defScope s_l_refused) := ⟨rfl, rfl, rfl, by decide +kernel, rfl, by decide +kernel, by decide +kernel⟩
noncomputable def tm_l_refused {P : Program} {w : World} {K : PySem.W.Frag} {mg : Str → Option Value} {base : Heap} (T : Txt K mg) {j : Nat} {k_l_same : Nat} {sp_l_same : Sp} (C_l_same : Cal P w K mg base k_l_same "_law_same" sp_l_same) (h_l_same : k_l_same ≤ j) {k_l_asking : Nat} {sp_l_asking : Sp} (C_l_asking : Cal P w K mg base k_l_asking "_law_asking" sp_l_asking) (h_l_asking : k_l_asking ≤ j) {k_l_went : Nat} {sp_l_went : Sp} (C_l_went : Cal P w K mg base k_l_went "_law_went" sp_l_went) (h_l_went : k_l_went ≤ j) {k_l_pick : Nat} {sp_l_pick : Sp} (C_l_pick : Cal P w K mg base k_l_pick "_law_pick" sp_l_pick) (h_l_pick : k_l_pick ≤ j) {k_l_calling : Nat} {sp_l_calling : Sp} (C_l_calling : Cal P w K mg base k_l_calling "_law_calling" sp_l_calling) (h_l_calling : k_l_calling ≤ j) {k_l_bad_calling : Nat} {sp_l_bad_calling : Sp} (C_l_bad_calling : Cal P w K mg base k_l_bad_calling "_law_bad_calling" sp_l_bad_calling) (h_l_bad_calling : k_l_bad_calling ≤ j) {k_l_making : Nat} {sp_l_making : Sp} (C_l_making : Cal P w K mg base k_l_making "_law_making" sp_l_making) (h_l_making : k_l_making ≤ j) {k_l_listed : Nat} {sp_l_listed : Sp} (C_l_listed : Cal P w K mg base k_l_listed "_law_listed" sp_l_listed) (h_l_listed : k_l_listed ≤ j) {k_l_bad_standings : Nat} {sp_l_bad_standings : Sp} (C_l_bad_standings : Cal P w K mg base k_l_bad_standings "_law_bad_standings" sp_l_bad_standings) (h_l_bad_standings : k_l_bad_standings ≤ j) {k_l_bad_words : Nat} {sp_l_bad_words : Sp} (C_l_bad_words : Cal P w K mg base k_l_bad_words "_law_bad_words" sp_l_bad_words) (h_l_bad_words : k_l_bad_words ≤ j) {f : Addr} {cdv : Value} {A : Around} {outer : List Env} {s : Shared} {H : Hp} {E : XK} (hr : Room j (A.deeper (envOfC "_law_refused" (defScope s_l_refused) s.heap.objs.size f cdv))) :
    { t : TS // PSs (cxOf (L2N.CX P w) P w K mg base N_l_refused "_law_refused" (defScope s_l_refused) f cdv A outer s H E) (defBody s_l_refused) t } :=
  have tk : L2N.Takes (cxOf (L2N.CX P w) P w K mg base N_l_refused "_law_refused" (defScope s_l_refused) f cdv A outer s H E) (fun cls d _ H => E cls d H) := L2N.takes_of rfl rfl rfl rfl
  ⟨_, (pss_cons (ps_set (i := 4) sc_l_refused.nd rfl (Or.inl rfl) (pe_callB (r := L2.rLen K) call_len (by rfl) T.f_len (by decide +kernel) (pa_cons (pv 3) pa_nil)))
      (pss_cons (ps_set (i := 5) sc_l_refused.nd rfl (Or.inl rfl) (pe_op (r := L2.rAddS) op_add_str pe_str (pv 2)))
      (pss_cons (ps_set (i := 6) sc_l_refused.nd rfl (Or.inl rfl) (pe_cl C_l_bad_words hr h_l_bad_words rfl (passE tk) (pa_cons (pv 0) (pa_cons (pv 2) pa_nil))))
      (pss_cons (ps_asg (pe_cl C_l_bad_standings hr h_l_bad_standings rfl (passE tk) (pa_cons (pv 0) (pa_cons (pv 2) (pa_cons (pv 3) pa_nil)))) (pg_tup rfl (pgs_cons (pg_name (i := 7) sc_l_refused.nd rfl (Or.inl rfl)) (pgs_cons (pg_name (i := 8) sc_l_refused.nd rfl (Or.inl rfl)) pgs_nil))))
      (pss_cons (ps_set (i := 9) sc_l_refused.nd rfl (Or.inl rfl) (pe_ix (r := rIxL K) ix_list (pe_lst (pa_cons (pe_cl C_l_listed hr h_l_listed rfl (passE tk) (pa_cons (pv 3) pa_nil)) (pa_cons (pv 7) pa_nil))) (pe_cl C_l_pick hr h_l_pick rfl (passE tk) (pa_cons (pv 0) (pa_cons pe_int pa_nil))) (fun _ _ => rfl)))
      (pss_cons (ps_if (pt_not (pt_val (pe_cl C_l_same hr h_l_same rfl (passE tk) (pa_cons (pe_cl C_l_making hr h_l_making rfl (passE tk) (pa_cons (pv 6) (pa_cons (pv 9) pa_nil))) (pa_cons (pe_tup (pa_cons pe_str (pa_cons (pv 6) pa_nil))) pa_nil))))) (pss_one (ps_ret pe_bl)) pss_nil)
      (pss_cons (ps_if (pt_not (pt_val (pe_cl C_l_same hr h_l_same rfl (passE tk) (pa_cons (pe_cl C_l_making hr h_l_making rfl (passE tk) (pa_cons (pv 2) (pa_cons (pv 7) pa_nil))) (pa_cons (pe_tup (pa_cons pe_str (pa_cons (pv 8) pa_nil))) pa_nil))))) (pss_one (ps_ret pe_bl)) pss_nil)
      (pss_cons (ps_asg (pe_cl C_l_bad_calling hr h_l_bad_calling rfl (passE tk) (pa_cons (pv 0) (pa_cons (pv 2) pa_nil))) (pg_tup rfl (pgs_cons (pg_name (i := 10) sc_l_refused.nd rfl (Or.inl rfl)) (pgs_cons (pg_name (i := 11) sc_l_refused.nd rfl (Or.inl rfl)) pgs_nil))))
      (pss_cons (ps_set (i := 12) sc_l_refused.nd rfl (Or.inl rfl) (pe_cl C_l_calling hr h_l_calling rfl (passE tk) (pa_cons (pv 0) (pa_cons (pv 5) pa_nil))))
      (pss_cons (ps_set (i := 6) sc_l_refused.nd rfl (Or.inl rfl) (pe_ix (r := rIxL K) ix_list (pe_lst (pa_cons (pe_un un_neg pe_int) (pa_cons (pv 4) (pa_cons pe_bl (pa_cons pe_bl (pa_cons pe_non (pa_cons pe_str (pa_cons (pe_tup (pa_cons pe_int pa_nil)) (pa_cons (pe_lst (pa_cons pe_int pa_nil)) (pa_cons (pe_op op_pow pe_int pe_int) (pa_cons (pe_un un_neg (pv 4)) pa_nil))))))))))) (pe_cl C_l_pick hr h_l_pick rfl (passE tk) (pa_cons (pv 0) (pa_cons pe_int pa_nil))) (fun _ _ => rfl)))
      (pss_cons (ps_for (passes_of rfl) rfl (pi_range1 rfl T.f_range (pa_cons pe_int pa_nil)) (pg_name (i := 13) sc_l_refused.nd rfl (Or.inl rfl)) (pss_cons (ps_set (i := 14) sc_l_refused.nd rfl (Or.inl rfl) (pe_ix (r := rIxL K) ix_list (pe_lst (pa_cons (pv 12) (pa_cons (pv 10) pa_nil))) (pe_cl C_l_pick hr h_l_pick rfl (passE tk) (pa_cons (pv 0) (pa_cons pe_int pa_nil))) (fun _ _ => rfl)))
      (pss_one (ps_if (pt_not (pt_val (pe_cl C_l_same hr h_l_same rfl (passE tk) (pa_cons (pe_cl C_l_asking hr h_l_asking rfl (passE tk) (pa_cons (pv 1) (pa_cons (pv 13) (pa_cons (pv 6) (pa_cons (pv 14) pa_nil))))) (pa_cons (pe_tup (pa_cons pe_str (pa_cons (pv 6) pa_nil))) pa_nil))))) (pss_one (ps_ret pe_bl)) pss_nil))))
      (pss_cons (ps_set (i := 15) sc_l_refused.nd rfl (Or.inl rfl) (pe_cl C_l_pick hr h_l_pick rfl (passE tk) (pa_cons (pv 0) (pa_cons (pv 4) pa_nil))))
      (pss_cons (ps_for (passes_of rfl) rfl (pi_range2 rfl T.f_range (pa_cons pe_int (pa_cons pe_int pa_nil))) (pg_name (i := 13) sc_l_refused.nd rfl (Or.inl rfl)) (pss_one (ps_if (pt_not (pt_val (pe_cl C_l_same hr h_l_same rfl (passE tk) (pa_cons (pe_cl C_l_asking hr h_l_asking rfl (passE tk) (pa_cons (pv 1) (pa_cons (pv 13) (pa_cons (pv 15) (pa_cons (pv 10) pa_nil))))) (pa_cons (pe_tup (pa_cons pe_str (pa_cons (pv 11) pa_nil))) pa_nil))))) (pss_one (ps_ret pe_bl)) pss_nil)))
      (pss_cons (ps_asg (pe_cl C_l_went hr h_l_went rfl (passE tk) (pa_cons (pv 3) (pa_cons (pv 2) (pa_cons (pv 15) (pa_cons (pv 12) pa_nil))))) (pg_tup rfl (pgs_cons (pg_name (i := 16) sc_l_refused.nd rfl (Or.inl rfl)) (pgs_cons (pg_name (i := 17) sc_l_refused.nd rfl (Or.inl rfl)) pgs_nil))))
      (pss_cons (ps_if (pt_not (pt_val (pe_cl C_l_same hr h_l_same rfl (passE tk) (pa_cons (pe_cl C_l_asking hr h_l_asking rfl (passE tk) (pa_cons (pv 1) (pa_cons pe_int (pa_cons (pv 15) (pa_cons (pv 12) pa_nil))))) (pa_cons (pe_tup (pa_cons pe_str (pa_cons (pv 16) pa_nil))) pa_nil))))) (pss_one (ps_ret pe_bl)) pss_nil)
      (pss_one (ps_ret (pe_cl C_l_same hr h_l_same rfl (passE tk) (pa_cons (pe_cl C_l_asking hr h_l_asking rfl (passE tk) (pa_cons (pv 1) (pa_cons pe_int (pa_cons (pv 15) (pa_cons (pv 12) pa_nil))))) (pa_cons (pe_tup (pa_cons pe_str (pa_cons (pv 17) pa_nil))) pa_nil))))))))))))))))))))⟩
abbrev s_l_equals : Stmt := (topS 39)
abbrev N_l_equals : List Str := ["_law_draw_here", "_law_drill", "_law_words_here", "_law_rows_here", "_law_other", "_law_at", "_law_letters"]
abbrev P_l_equals : List Str := ["_law_draw_here", "_law_drill", "_law_words_here", "_law_rows_here"]
theorem sc_l_equals : FnScope N_l_equals P_l_equals (defScope s_l_equals) := ⟨rfl, rfl, rfl, by decide +kernel, rfl, by decide +kernel, by decide +kernel⟩
noncomputable def tm_l_equals {P : Program} {w : World} {K : PySem.W.Frag} {mg : Str → Option Value} {base : Heap} (T : Txt K mg) {j : Nat} {k_l_same : Nat} {sp_l_same : Sp} (C_l_same : Cal P w K mg base k_l_same "_law_same" sp_l_same) (h_l_same : k_l_same ≤ j) {k_Drill_Xeq : Nat} {sp_Drill_Xeq : Sp} (F_Drill_Xeq : FnT P w K mg base k_Drill_Xeq (He.fAd K ("Drill", some "__eq__")) sp_Drill_Xeq) (h_Drill_Xeq : k_Drill_Xeq ≤ j) {k_Drill : Nat} {sp_Drill : Sp} (F_Drill : FnT P w K mg base k_Drill (He.fAd K ("Drill", some "__init__")) sp_Drill) (h_Drill : k_Drill + 1 ≤ j) {k_l_handed : Nat} {sp_l_handed : Sp} (C_l_handed : Cal P w K mg base k_l_handed "_law_handed" sp_l_handed) (h_l_handed : k_l_handed ≤ j) {k_l_words : Nat} {sp_l_words : Sp} (C_l_words : Cal P w K mg base k_l_words "_law_words" sp_l_words) (h_l_words : k_l_words ≤ j) {k_l_pick : Nat} {sp_l_pick : Sp} (C_l_pick : Cal P w K mg base k_l_pick "_law_pick" sp_l_pick) (h_l_pick : k_l_pick ≤ j) {k_l_listed : Nat} {sp_l_listed : Sp} (C_l_listed : Cal P w K mg base k_l_listed "_law_listed" sp_l_listed) (h_l_listed : k_l_listed ≤ j) {f : Addr} {cdv : Value} {A : Around} {outer : List Env} {s : Shared} {H : Hp} {E : XK} (hr : Room j (A.deeper (envOfC "_law_equals" (defScope s_l_equals) s.heap.objs.size f cdv))) :
    { t : TS // PSs (cxOf (L2N.CX P w) P w K mg base N_l_equals "_law_equals" (defScope s_l_equals) f cdv A outer s H E) (defBody s_l_equals) t } :=
  have tk : L2N.Takes (cxOf (L2N.CX P w) P w K mg base N_l_equals "_law_equals" (defScope s_l_equals) f cdv A outer s H E) (fun cls d _ H => E cls d H) := L2N.takes_of rfl rfl rfl rfl
  ⟨_, (pss_cons (ps_set (i := 4) sc_l_equals.nd rfl (Or.inl rfl) (pe_cl C_l_listed hr h_l_listed rfl (passE tk) (pa_cons (pv 3) pa_nil)))
      (pss_cons (ps_set (i := 5) sc_l_equals.nd rfl (Or.inl rfl) (pe_cl C_l_pick hr h_l_pick rfl (passE tk) (pa_cons (pv 0) (pa_cons (pe_callB (r := L2.rLen K) call_len (by rfl) T.f_len (by decide +kernel) (pa_cons (pv 3) pa_nil)) pa_nil))))
      (pss_cons (ps_asg (pe_op op_add pe_int (pe_op op_mod (pe_callTy call_int1n (by rfl) T.f_int (by decide +kernel) (pa_cons (pe_ix (r := rIxL K) ix_list (pe_ix (r := rIxL K) ix_list (pv 3) (pv 5) (fun _ _ => rfl)) pe_int (fun _ _ => rfl)) pa_nil)) pe_int)) (pg_sub (pe_ix (r := rIxL K) ix_list (pv 4) (pv 5) (fun _ _ => rfl)) pe_int set_list))
      (pss_cons (ps_set (i := 6) sc_l_equals.nd rfl (Or.inl rfl) (pe_cl C_l_words hr h_l_words rfl (passE tk) (pa_cons (pv 0) (pa_cons (pe_callB (r := L2.rLen K) call_len (by rfl) T.f_len (by decide +kernel) (pa_cons (pv 2) pa_nil)) pa_nil))))
      (pss_cons (ps_if (pt_not (pt_val (pe_cl C_l_same hr h_l_same rfl (passE tk) (pa_cons (pe_cmpR (op_eqO T.S_Drill_Xeq F_Drill_Xeq hr h_Drill_Xeq (passE tk)) (pv 1) (StX.pe_makeR T.m_Drill F_Drill (hr.mono h_Drill) rfl T.g_Drill (passE tk) (pa_cons (pv 2) (pa_cons (pe_cl C_l_handed hr h_l_handed rfl (passE tk) (pa_cons (pv 0) (pa_cons (pv 3) pa_nil))) pa_nil))) (nomark _)) (pa_cons pe_bl pa_nil))))) (pss_one (ps_ret pe_bl)) pss_nil)
      (pss_cons (ps_if (pt_not (pt_val (pe_cl C_l_same hr h_l_same rfl (passE tk) (pa_cons (pe_cmpR (op_eqO T.S_Drill_Xeq F_Drill_Xeq hr h_Drill_Xeq (passE tk)) (pv 1) (StX.pe_makeR T.m_Drill F_Drill (hr.mono h_Drill) rfl T.g_Drill (passE tk) (pa_cons (pv 2) (pa_cons (pv 4) pa_nil))) (nomark _)) (pa_cons pe_bl pa_nil))))) (pss_one (ps_ret pe_bl)) pss_nil)
      (pss_cons (ps_if (pt_not (pt_val (pe_cl C_l_same hr h_l_same rfl (passE tk) (pa_cons (pe_cmpR (op_eqO T.S_Drill_Xeq F_Drill_Xeq hr h_Drill_Xeq (passE tk)) (pv 1) (StX.pe_makeR T.m_Drill F_Drill (hr.mono h_Drill) rfl T.g_Drill (passE tk) (pa_cons (pv 6) (pa_cons (pv 3) pa_nil))) (nomark _)) (pa_cons (pe_cmpR op_eq (pv 6) (pv 2) (nomark _)) pa_nil))))) (pss_one (ps_ret pe_bl)) pss_nil)
      (pss_one (ps_ret (pe_and (pe_cl C_l_same hr h_l_same rfl (passE tk) (pa_cons (pe_cmpR (op_eqO T.S_Drill_Xeq F_Drill_Xeq hr h_Drill_Xeq (passE tk)) (pv 1) (pv 3) (nomark _)) (pa_cons pe_bl pa_nil))) (pe_one (pe_cl C_l_same hr h_l_same rfl (passE tk) (pa_cons (pe_cmpR (op_eqO T.S_Drill_Xeq F_Drill_Xeq hr h_Drill_Xeq (passE tk)) (pv 1) pe_int (nomark _)) (pa_cons pe_bl pa_nil))))))))))))))⟩
abbrev s_law : Stmt := (topS 40)
abbrev N_law : List Str := ["_law_script", "_law_draw_here", "_law_worlds", "_law_drills", "_law_turn", "_law_words_here", "_law_rows_here", "_law_handed_here", "_law_drill", "_law_equal"]
abbrev P_law : List Str := ["_law_script"]
theorem sc_law : FnScope N_law P_law (defScope s_law) := ⟨rfl, rfl, rfl, by decide +kernel, rfl, by decide +kernel, by decide +kernel⟩
noncomputable def tm_law {P : Program} {w : World} {K : PySem.W.Frag} {mg : Str → Option Value} {base : Heap} (T : Txt K mg) {j : Nat} {k_l_walks : Nat} {sp_l_walks : Sp} (C_l_walks : Cal P w K mg base k_l_walks "_law_walks" sp_l_walks) (h_l_walks : k_l_walks ≤ j) {k_l_calling : Nat} {sp_l_calling : Sp} (C_l_calling : Cal P w K mg base k_l_calling "_law_calling" sp_l_calling) (h_l_calling : k_l_calling ≤ j) {k_l_shown : Nat} {sp_l_shown : Sp} (C_l_shown : Cal P w K mg base k_l_shown "_law_shown" sp_l_shown) (h_l_shown : k_l_shown ≤ j) {k_l_tupled : Nat} {sp_l_tupled : Sp} (C_l_tupled : Cal P w K mg base k_l_tupled "_law_tupled" sp_l_tupled) (h_l_tupled : k_l_tupled ≤ j) {k_l_refused : Nat} {sp_l_refused : Sp} (C_l_refused : Cal P w K mg base k_l_refused "_law_refused" sp_l_refused) (h_l_refused : k_l_refused ≤ j) {k_l_equals : Nat} {sp_l_equals : Sp} (C_l_equals : Cal P w K mg base k_l_equals "_law_equals" sp_l_equals) (h_l_equals : k_l_equals ≤ j) {k_l_same : Nat} {sp_l_same : Sp} (C_l_same : Cal P w K mg base k_l_same "_law_same" sp_l_same) (h_l_same : k_l_same ≤ j) {k_Drill_Xeq : Nat} {sp_Drill_Xeq : Sp} (F_Drill_Xeq : FnT P w K mg base k_Drill_Xeq (He.fAd K ("Drill", some "__eq__")) sp_Drill_Xeq) (h_Drill_Xeq : k_Drill_Xeq ≤ j) {k_l_spoil : Nat} {sp_l_spoil : Sp} (C_l_spoil : Cal P w K mg base k_l_spoil "_law_spoil" sp_l_spoil) (h_l_spoil : k_l_spoil ≤ j) {k_l_listed : Nat} {sp_l_listed : Sp} (C_l_listed : Cal P w K mg base k_l_listed "_law_listed" sp_l_listed) (h_l_listed : k_l_listed ≤ j) {k_Drill : Nat} {sp_Drill : Sp} (F_Drill : FnT P w K mg base k_Drill (He.fAd K ("Drill", some "__init__")) sp_Drill) (h_Drill : k_Drill + 1 ≤ j) {k_l_handed : Nat} {sp_l_handed : Sp} (C_l_handed : Cal P w K mg base k_l_handed "_law_handed" sp_l_handed) (h_l_handed : k_l_handed ≤ j) {k_l_rows : Nat} {sp_l_rows : Sp} (C_l_rows : Cal P w K mg base k_l_rows "_law_rows" sp_l_rows) (h_l_rows : k_l_rows ≤ j) {k_l_pick : Nat} {sp_l_pick : Sp} (C_l_pick : Cal P w K mg base k_l_pick "_law_pick" sp_l_pick) (h_l_pick : k_l_pick ≤ j) {k_l_words : Nat} {sp_l_words : Sp} (C_l_words : Cal P w K mg base k_l_words "_law_words" sp_l_words) (h_l_words : k_l_words ≤ j) {k_l_draw : Nat} {sp_l_draw : Sp} (C_l_draw : Cal P w K mg base k_l_draw "_law_draw" sp_l_draw) (h_l_draw : k_l_draw ≤ j) {f : Addr} {cdv : Value} {A : Around} {outer : List Env} {s : Shared} {H : Hp} {E : XK} (hr : Room j (A.deeper (envOfC "law" (defScope s_law) s.heap.objs.size f cdv))) :
    { t : TS // PSs (cxOf (L2N.CX P w) P w K mg base N_law "law" (defScope s_law) f cdv A outer s H E) (defBody s_law) t } :=
  have tk : L2N.Takes (cxOf (L2N.CX P w) P w K mg base N_law "law" (defScope s_law) f cdv A outer s H E) (fun cls d _ H => E cls d H) := L2N.takes_of rfl rfl rfl rfl
  ⟨_, (pss_cons (ps_set (i := 1) sc_law.nd rfl (Or.inl rfl) (pe_cl C_l_draw hr h_l_draw rfl (passE tk) (pa_cons (pv 0) pa_nil)))
      (pss_cons (ps_set (i := 2) sc_law.nd rfl (Or.inl rfl) (pe_lst pa_nil))
      (pss_cons (ps_set (i := 3) sc_law.nd rfl (Or.inl rfl) (pe_lst pa_nil))
      (pss_cons (ps_for (passes_of rfl) rfl (pi_range1 rfl T.f_range (pa_cons pe_int pa_nil)) (pg_name (i := 4) sc_law.nd rfl (Or.inl rfl)) (pss_cons (ps_set (i := 5) sc_law.nd rfl (Or.inl rfl) (pe_cl C_l_words hr h_l_words rfl (passE tk) (pa_cons (pv 1) (pa_cons (pe_op op_add pe_int (pe_cl C_l_pick hr h_l_pick rfl (passE tk) (pa_cons (pv 1) (pa_cons pe_int pa_nil)))) pa_nil))))
      (pss_cons (ps_set (i := 6) sc_law.nd rfl (Or.inl rfl) (pe_cl C_l_rows hr h_l_rows rfl (passE tk) (pa_cons (pv 1) (pa_cons (pv 5) (pa_cons (pe_op op_add pe_int (pe_cl C_l_pick hr h_l_pick rfl (passE tk) (pa_cons (pv 1) (pa_cons pe_int pa_nil)))) pa_nil)))))
      (pss_cons (ps_set (i := 7) sc_law.nd rfl (Or.inl rfl) (pe_cl C_l_handed hr h_l_handed rfl (passE tk) (pa_cons (pv 1) (pa_cons (pv 6) pa_nil))))
      (pss_cons (ps_expr (pe_bm PySem.F.plainAttrs_list PySem.F.slot_list_append PySem.F.type_list_append mt_append (pv 3) (pa_cons (StX.pe_makeR T.m_Drill F_Drill (hr.mono h_Drill) rfl T.g_Drill (passE tk) (pa_cons (pv 5) (pa_cons (pv 7) pa_nil))) pa_nil)))
      (pss_cons (ps_if (pt_not (pt_val (pe_cl C_l_same hr h_l_same rfl (passE tk) (pa_cons (pe_cl C_l_listed hr h_l_listed rfl (passE tk) (pa_cons (pv 7) pa_nil)) (pa_cons (pv 6) pa_nil))))) (pss_one (ps_ret pe_bl)) pss_nil)
      (pss_cons (ps_expr (pe_cl C_l_spoil hr h_l_spoil rfl (passE tk) (pa_cons (pv 7) pa_nil)))
      (pss_one (ps_expr (pe_bm PySem.F.plainAttrs_list PySem.F.slot_list_append PySem.F.type_list_append mt_append (pv 2) (pa_cons (pe_tup (pa_cons (pv 5) (pa_cons (pv 6) pa_nil))) pa_nil)))))))))))
      (pss_cons (ps_for (passes_of rfl) rfl (pi_range1 rfl T.f_range (pa_cons pe_int pa_nil)) (pg_name (i := 4) sc_law.nd rfl (Or.inl rfl)) (pss_one (ps_for (passes_of rfl) rfl (pi_zipG rfl T.f_zip (pa_cons (pv 3) (pa_cons (pv 2) pa_nil))) (pg_tup rfl (pgs_cons (pg_name (i := 8) sc_law.nd rfl (Or.inl rfl)) (pgs_cons (pg_tup rfl (pgs_cons (pg_name (i := 5) sc_law.nd rfl (Or.inl rfl)) (pgs_cons (pg_name (i := 6) sc_law.nd rfl (Or.inl rfl)) pgs_nil))) pgs_nil))) (pss_one (ps_if (pt_not (pt_val (pe_cl C_l_walks hr h_l_walks rfl (passE tk) (pa_cons (pv 8) (pa_cons (pv 5) (pa_cons (pv 6) (pa_cons (pe_cl C_l_calling hr h_l_calling rfl (passE tk) (pa_cons (pv 1) (pa_cons (pe_op (r := L2.rAddS) op_add_str pe_str (pv 5)) pa_nil))) pa_nil))))))) (pss_one (ps_ret pe_bl)) pss_nil)))))
      (pss_cons (ps_set (i := 9) sc_law.nd rfl (Or.inl rfl) (pe_cmpR (op_eqD hr.units) (pe_ix (r := rIxL K) ix_list (pv 2) pe_int (fun _ _ => rfl)) (pe_ix (r := rIxL K) ix_list (pv 2) pe_int (fun _ _ => rfl)) (nomark _)))
      (pss_cons (ps_if (PW.pt (pw_or (pt_not (pt_val (pe_cl C_l_same hr h_l_same rfl (passE tk) (pa_cons (pe_cmpR (op_eqO T.S_Drill_Xeq F_Drill_Xeq hr h_Drill_Xeq (passE tk)) (pe_ix (r := rIxL K) ix_list (pv 3) pe_int (fun _ _ => rfl)) (pe_ix (r := rIxL K) ix_list (pv 3) pe_int (fun _ _ => rfl)) (nomark _)) (pa_cons (pv 9) pa_nil))))) (pw_or1 (pt_not (pt_val (pe_cl C_l_same hr h_l_same rfl (passE tk) (pa_cons (pe_cmpR (op_eqO T.S_Drill_Xeq F_Drill_Xeq hr h_Drill_Xeq (passE tk)) (pe_ix (r := rIxL K) ix_list (pv 3) pe_int (fun _ _ => rfl)) (pe_ix (r := rIxL K) ix_list (pv 3) pe_int (fun _ _ => rfl)) (nomark _)) (pa_cons (pv 9) pa_nil)))))))) (pss_one (ps_ret pe_bl)) pss_nil)
      (pss_cons (ps_for (passes_of rfl) rfl (pi_zipG rfl T.f_zip (pa_cons (pv 3) (pa_cons (pv 2) pa_nil))) (pg_tup rfl (pgs_cons (pg_name (i := 8) sc_law.nd rfl (Or.inl rfl)) (pgs_cons (pg_tup rfl (pgs_cons (pg_name (i := 5) sc_law.nd rfl (Or.inl rfl)) (pgs_cons (pg_name (i := 6) sc_law.nd rfl (Or.inl rfl)) pgs_nil))) pgs_nil))) (pss_one (ps_if (PW.pt (pw_or (pt_not (pt_val (pe_cl C_l_shown hr h_l_shown rfl (passE tk) (pa_cons (pv 8) (pa_cons (pv 5) (pa_cons (pe_cl C_l_tupled hr h_l_tupled rfl (passE tk) (pa_cons (pv 6) pa_nil)) pa_nil)))))) (pw_or1 (pt_not (pt_val (pe_cl C_l_equals hr h_l_equals rfl (passE tk) (pa_cons (pv 1) (pa_cons (pv 8) (pa_cons (pv 5) (pa_cons (pv 6) pa_nil)))))))))) (pss_one (ps_ret pe_bl)) pss_nil)))
      (pss_cons (ps_for (passes_of rfl) rfl (pi_range1 rfl T.f_range (pa_cons pe_int pa_nil)) (pg_name (i := 4) sc_law.nd rfl (Or.inl rfl)) (pss_one (ps_for (passes_of rfl) rfl (pi_zipG rfl T.f_zip (pa_cons (pv 3) (pa_cons (pv 2) pa_nil))) (pg_tup rfl (pgs_cons (pg_name (i := 8) sc_law.nd rfl (Or.inl rfl)) (pgs_cons (pg_tup rfl (pgs_cons (pg_name (i := 5) sc_law.nd rfl (Or.inl rfl)) (pgs_cons (pg_name (i := 6) sc_law.nd rfl (Or.inl rfl)) pgs_nil))) pgs_nil))) (pss_one (ps_if (pt_not (pt_val (pe_cl C_l_refused hr h_l_refused rfl (passE tk) (pa_cons (pv 1) (pa_cons (pv 8) (pa_cons (pv 5) (pa_cons (pv 6) pa_nil))))))) (pss_one (ps_ret pe_bl)) pss_nil)))))
      (pss_cons (ps_for (passes_of rfl) rfl (pi_zipG rfl T.f_zip (pa_cons (pv 3) (pa_cons (pv 2) pa_nil))) (pg_tup rfl (pgs_cons (pg_name (i := 8) sc_law.nd rfl (Or.inl rfl)) (pgs_cons (pg_tup rfl (pgs_cons (pg_name (i := 5) sc_law.nd rfl (Or.inl rfl)) (pgs_cons (pg_name (i := 6) sc_law.nd rfl (Or.inl rfl)) pgs_nil))) pgs_nil))) (pss_cons (ps_if (pt_not (pt_val (pe_cl C_l_shown hr h_l_shown rfl (passE tk) (pa_cons (pv 8) (pa_cons (pv 5) (pa_cons (pe_cl C_l_tupled hr h_l_tupled rfl (passE tk) (pa_cons (pv 6) pa_nil)) pa_nil)))))) (pss_one (ps_ret pe_bl)) pss_nil)
      (pss_one (ps_if (pt_not (pt_val (pe_cl C_l_walks hr h_l_walks rfl (passE tk) (pa_cons (pv 8) (pa_cons (pv 5) (pa_cons (pv 6) (pa_cons (pe_cl C_l_calling hr h_l_calling rfl (passE tk) (pa_cons (pv 1) (pa_cons (pe_op (r := L2.rAddS) op_add_str pe_str (pv 5)) pa_nil))) pa_nil))))))) (pss_one (ps_ret pe_bl)) pss_nil))))
      (pss_one (ps_ret pe_bl))))))))))))⟩
end K
set_option Elab.async false
set_option linter.all false
set_option maxRecDepth 100000
set_option maxHeartbeats 2000000
namespace K
open PySem PySem.Spec PyProof.Rows L2 TH
local macro_rules | `(tactic| walk_at "rd1") => `(tactic| with_reducible (first
  | refine r_seq ?_ | refine r_if ?_ | refine r_ret ?_ | refine r_next ?_ | refine r_asg ?_ | refine r_drop ?_ | refine r_gname ?_ | refine r_retN ?_
  | refine r_var rfl ?_ | refine r_c ?_ | refine r_op ?_ | refine r_un ?_ | refine r_test ?_ | refine r_tB ?_ | refine r_bl ?_ | refine r_and ?_ | refine r_or ?_ | refine r_not ?_
  | refine r_andV ?_ | refine r_orV ?_ | refine r_notV ?_ | refine r_bb ?_ | refine r_ifE ?_ | refine r_gsub ?_ | refine r_nil ?_ | refine r_cons ?_ | refine r_cb ?_ | refine r_cl ?_ | refine r_clS ?_
  | refine r_part ?_ | refine r_nopart ?_ | refine r_int ?_ | refine r_sl ?_ | refine r_chain ?_ | refine r_I0 ?_ | refine r_U ?_ | refine r_eqI ?_ | refine r_neI ?_ | refine r_eqS ?_ | refine r_eqB ?_ | refine r_neB ?_ | refine r_int1 ?_ | refine r_abs1 ?_
  | refine iteT ?_ | refine iteF ?_ | refine r_isF rfl ?_ | refine r_isD (by assumption) (by decide) ?_ | refine r_brk ?_ | refine r_ct ?_ | refine r_ltS ?_ | refine r_leS ?_ | refine r_aug rfl ?_ | refine r_lc ?_ | refine r_meth ?_ | refine r_callO ?_ | refine r_make ?_ | refine r_methT ?_ | refine r_callT ?_ | refine r_ixT' ?_ | refine r_mkS ?_ | refine r_pr ?_ | refine r_sfld ?_ | refine r_fld ?_ | refine r_dnew ?_ | refine r_dput ?_ | refine r_dget ?_ | refine r_bm ?_ | refine r_rs ?_ | refine r_notInS ?_ | refine r_inS ?_ | refine r_isN ?_ | refine r_notN ?_ | refine r_for ?_ | refine r_rg1 ?_ | refine r_m1 ?_ | refine r_m0 ?_ | refine r_isS ?_ | refine r_rg2 ?_ | refine r_ipI ?_))
local macro_rules | `(tactic| walk_at "rd") => `(tactic| repeat (first | walk_at "rd1" | ((with_reducible apply r_var); (focus exact rfl)) | (with_reducible refine r_tup ?_) | (with_reducible refine r_lst ?_) | ((with_reducible refine r_ln ?_ ?_); focus (simp; done)) | ((with_reducible refine iteT' ?_ ?_); focus (simp [isB, Dat.ty, tyN]; done)) | ((with_reducible refine iteF' ?_ ?_); focus (simp [isB, Dat.ty, tyN]; done))))
local macro_rules | `(tactic| walk_at "hf") => `(tactic| first
  | assumption
  | exact upd_same
  | (refine keep1 ?_ (by assumption); walk_at "hf")
  | (refine keep2 (by assumption) ?_; walk_at "hf")
  | (refine (show Same _ _ by assumption) _ _ ?_; walk_at "hf")
  | (refine (show But _ _ _ by assumption) _ _ (by assumption) ?_; walk_at "hf"))
local macro_rules | `(tactic| walk_at "rx") => `(tactic| repeat (first | walk_at "rd1" | ((with_reducible apply r_ixL); (focus assumption); (focus exact rfl)) | ((with_reducible apply r_ixT); (focus assumption); (focus exact rfl)) | ((with_reducible apply r_lenL); (focus assumption)) | ((with_reducible apply r_lenT); (focus assumption)) | ((with_reducible apply r_var); (focus exact rfl)) | (with_reducible refine r_tup ?_) | (with_reducible refine r_lst ?_) | ((with_reducible refine r_ln ?_ ?_); focus (simp; done)) | ((with_reducible refine iteT' ?_ ?_); focus (simp [isB, Dat.ty, tyN]; done)) | ((with_reducible refine iteF' ?_ ?_); focus (simp [isB, Dat.ty, tyN]; done))))
local macro_rules | `(tactic| walk_at "rz") => `(tactic| repeat ((fail_if_success (with_reducible show tFor _ _ _ _ _ _)); (first | walk_at "rd1" | ((with_reducible apply r_ixL); (focus assumption); (focus exact rfl)) | ((with_reducible apply r_ixT); (focus assumption); (focus exact rfl)) | ((with_reducible apply r_lenL); (focus assumption)) | ((with_reducible apply r_lenT); (focus assumption)) | ((with_reducible apply r_var); (focus exact rfl)) | (with_reducible refine r_tup ?_) | (with_reducible refine r_lst ?_) | ((with_reducible refine r_ln ?_ ?_); focus (simp; done)) | ((with_reducible refine iteT' ?_ ?_); focus (simp [isB, Dat.ty, tyN]; done)) | ((with_reducible refine iteF' ?_ ?_); focus (simp [isB, Dat.ty, tyN]; done)))))
section
variable {P : Program} {w : World} {K : PySem.W.Frag} {mg : Str → Option Value} {base : Heap}
theorem fn_never {f : Addr} {sp : Sp} (h : ∀ vs H Q E, ¬ sp vs H Q E) {k : Nat} : FnT P w K mg base k f sp := fun A outer s H us vs Q E _ _ _ q => (h _ _ _ _ q).elim
end
section
variable {P : Program} {w : World} {K : PySem.W.Frag} {mg : Str → Option Value} {base : Heap} (T : Txt K mg)
include T
/-- whole numbers between -/
def isIn (d : Dat) (lo hi : Int) : Bool := match d with | .int i => decide (lo ≤ i) && decide (i ≤ hi) | _ => false
def sp_isin : Sp := fun vs H Q _ => ∃ d v fp lo hi, vs = [v, .int lo, .int hi] ∧ DF H d v fp ∧ Q (.bl (isIn d lo hi)) H
theorem ok_is_integer (F : FD K "is_integer" "is_integer" s_is_integer [] (He.ga K "is_integer")) : FnT P w K mg base 1 (He.ga K "is_integer") sp_isin := by
  refine fnT_of (k := 0) F sc_is_integer (fun _ _ _ _ _ _ us hl => match us, hl with | [_, _, _], _ => rfl) (fun vs H Q E h => by obtain ⟨d, v, fp, lo, hi, rfl, _⟩ := h; rfl) fun cdv A outer s H vs Q E hr h => ⟨_, (tm_is_integer T hr).2, ?_⟩
  obtain ⟨d, v, fp, lo, hi, rfl, hd, q⟩ := h
  unfold tm_is_integer
  cases d with
  | int i =>
    simp only [DF] at hd
    obtain ⟨rfl, rfl⟩ := hd
    walk_at "rd"
    walk_at "rd"
    refine iteD (fun h => ?_) (fun h => ?_)
    · walk_at "rd"
      simpa [isIn, h] using q
    · simpa [isIn, h] using q
  | _ => walk_at "rd"; exact q
def sp_deep (n : Nat) : Sp := fun vs H Q _ => ∃ d v fp m, vs = [v, .int m] ∧ DF H d v fp ∧ d.dp < n ∧ (d.dp : Int) ≤ m ∧ ∀ v' H', Same H H' → DF H' d.tupD v' [] → Q v' H'
theorem deep_body {n : Nat} (C : Cal P w K mg base n "deep" (sp_deep n)) {f : Addr} {cdv : Value} {A : Around} {outer : List Env} {s : Shared} {H : Hp} {E : XK} {vs : List V} {Q : VK}
    (hr : Room n (A.deeper (envOfC "deep" (defScope s_deep) s.heap.objs.size f cdv))) (h : sp_deep (n + 1) vs H Q E) : (tm_deep (E := E) (H := H) (outer := outer) T C (Nat.le_refl n) hr).1 { nx := fun _ H' => Q .non H', rt := Q } (L2.start N_deep vs) H := by
  obtain ⟨d, v, fp, m, rfl, hd, hdp, hm, q⟩ := h
  unfold tm_deep
  walk_at "rd"
  have sc : d.dp = 0 → ∀ H', Same H H' → Q v H' := fun e H' s => by
    obtain ⟨e1, e2, _⟩ := hd.fp0 e
    subst e1
    exact q v H' s (by rw [e2]; exact hd.same s)
  refine iteD (fun h0 => ?_) (fun h0 => ?_)
  · walk_at "rd"
    intro p np
    have s1 := same_new (o := .tup [V.ty "list", V.ty "tuple"]) np
    have hd1 := hd.same s1
    walk_at "rd"
    refine r_isT2 upd_same (by rw [hd1.ty]; exact d.tyne) (by decide) (by decide) ?_
    rw [hd1.ty]
    by_cases hc : ∃ l, d = .lst l ∨ d = .tup l
    · obtain ⟨l, hc⟩ := hc
      have ht : (isB d.ty "list" || isB d.ty "tuple") = true := by rcases hc with rfl | rfl <;> simp [Dat.ty, isB]
      have hdp2 : d.dp = Dat.dps l + 1 := by rcases hc with rfl | rfl <;> rfl
      have htd : d.tupD = .tup (Dat.tupDs l) := by rcases hc with rfl | rfl <;> rfl
      rw [ht]
      walk_at "rd"
      refine r_srcD (fun Q' q => r_var rfl q) hc hd1 fun a o xs f J ev ha _ hs hl hw => ?_
      intro D nD
      refine lcD (σ' := fun x => [some v, some (.int m), some x]) hw hs (by rw [hs.len]; exact hl) nD (fun _ => rfl) (fun _ => rfl) Dat.tupD (fun H s => s _ _ ha) (fun d' x g H2 hm' hdx s Qn k => ?_) fun H2 ys fr s2 hD hds hfr hnd => ?_
      · walk_at "rd"
        have := Dat.dp_mem hm'
        exact ⟨d', x, g, m - 1, rfl, hdx, by omega, by omega, fun v' H' s' h' => k v' [] H' s' h' (fun a m => by cases m) List.nodup_nil⟩
      · walk_at "rd"
        refine r_tupL hD fun T nT => ?_
        rw [← Dat.tupDs_map] at hds
        have e0 := hds.tup0
        subst e0
        refine q _ _ (same_upd (s1.trans s2) nT) ?_
        rw [htd]
        simp only [DF]
        exact ⟨by rw [Dat.tupDs_map, List.length_map]; exact hl, T, ys, rfl, upd_same, hds.same (same_new nT)⟩
    · have ht : (isB d.ty "list" || isB d.ty "tuple") = false := by
        cases d <;> simp [Dat.ty, isB] at hc ⊢
      rw [ht]
      walk_at "rd"
      refine sc ?_ _ s1
      cases d <;> simp [Dat.dp] at hc ⊢
  · walk_at "rd"
    exact sc (by omega) H (Same.refl H)
theorem ok_deep (F : FD K "deep" "deep" s_deep [.int 12] (He.ga K "deep")) (kp : PySem.W.keepIn K (.ref (He.ga K "deep")) = true) (at_ : mg "deep" = some (.ref (He.ga K "deep"))) : ∀ n, FnT P w K mg base n (He.ga K "deep") (sp_deep n)
  | 0 => fn_never fun vs H Q E h => by obtain ⟨d, v, fp, m, _, _, h, _⟩ := h; omega
  | n + 1 => by
    have C : Cal P w K mg base n "deep" (sp_deep n) := ⟨ok_deep F kp at_ n, kp, at_⟩
    have := fnT_ofD (P := P) (w := w) (mg := mg) (base := base) (k := n) (n := 2) (j := 1) (sp := sp_deep (n + 1)) F sc_deep (by simp) rfl (fun _ _ _ _ _ _ _ us its hl hi => match us, its, hl, hi with | [_, _], [_], _, _ => ⟨_, rfl, rfl⟩)
      (fun vs H Q E h => by obtain ⟨d, v, fp, m, rfl, _⟩ := h; rfl) fun cdv A outer s H vs Q E hr h => ⟨_, (tm_deep T C (Nat.le_refl n) hr).2, deep_body T C hr h⟩
    exact this.imp fun vs H Q E h => by simpa using h
theorem ok_deep1 (F : FD K "deep" "deep" s_deep [.int 12] (He.ga K "deep")) (kp : PySem.W.keepIn K (.ref (He.ga K "deep")) = true) (at_ : mg "deep" = some (.ref (He.ga K "deep"))) (n : Nat) : FnT P w K mg base (n + 1) (He.ga K "deep") (fun vs H Q E => sp_deep (n + 1) (vs ++ [.int 12]) H Q E) := by
  have C : Cal P w K mg base n "deep" (sp_deep n) := ⟨ok_deep T F kp at_ n, kp, at_⟩
  exact fnT_ofD (P := P) (w := w) (mg := mg) (base := base) (k := n) (n := 1) (j := 0) (sp := sp_deep (n + 1)) F sc_deep (by simp) rfl (fun _ _ _ _ _ _ _ us its hl hi => match us, its, hl, hi with | [_], [_], _, _ => ⟨_, rfl, rfl⟩)
      (fun vs H Q E h => by obtain ⟨d, v, fp, m, rfl, _⟩ := h; rfl) fun cdv A outer s H vs Q E hr h => ⟨_, (tm_deep T C (Nat.le_refl n) hr).2, deep_body T C hr h⟩
end
end K
set_option Elab.async false
set_option linter.all false
set_option maxRecDepth 100000
set_option maxHeartbeats 2000000
namespace K
open PySem PySem.Spec PyProof.Rows L2 TH
local macro_rules | `(tactic| walk_at "rd1") => `(tactic| with_reducible (first
  | refine r_seq ?_ | refine r_if ?_ | refine r_ret ?_ | refine r_next ?_ | refine r_asg ?_ | refine r_drop ?_ | refine r_gname ?_ | refine r_retN ?_
  | refine r_var rfl ?_ | refine r_c ?_ | refine r_op ?_ | refine r_un ?_ | refine r_test ?_ | refine r_tB ?_ | refine r_bl ?_ | refine r_and ?_ | refine r_or ?_ | refine r_not ?_
  | refine r_andV ?_ | refine r_orV ?_ | refine r_notV ?_ | refine r_bb ?_ | refine r_ifE ?_ | refine r_gsub ?_ | refine r_nil ?_ | refine r_cons ?_ | refine r_cb ?_ | refine r_cl ?_ | refine r_clS ?_
  | refine r_part ?_ | refine r_nopart ?_ | refine r_int ?_ | refine r_sl ?_ | refine r_chain ?_ | refine r_I0 ?_ | refine r_U ?_ | refine r_eqI ?_ | refine r_neI ?_ | refine r_eqS ?_ | refine r_eqB ?_ | refine r_neB ?_ | refine r_int1 ?_ | refine r_abs1 ?_
  | refine iteT ?_ | refine iteF ?_ | refine r_isF rfl ?_ | refine r_isD (by assumption) (by decide) ?_ | refine r_brk ?_ | refine r_ct ?_ | refine r_ltS ?_ | refine r_leS ?_ | refine r_aug rfl ?_ | refine r_lc ?_ | refine r_meth ?_ | refine r_callO ?_ | refine r_make ?_ | refine r_methT ?_ | refine r_callT ?_ | refine r_ixT' ?_ | refine r_mkS ?_ | refine r_pr ?_ | refine r_sfld ?_ | refine r_fld ?_ | refine r_dnew ?_ | refine r_dput ?_ | refine r_dget ?_ | refine r_bm ?_ | refine r_rs ?_ | refine r_notInS ?_ | refine r_inS ?_ | refine r_isN ?_ | refine r_notN ?_ | refine r_for ?_ | refine r_rg1 ?_ | refine r_m1 ?_ | refine r_m0 ?_ | refine r_isS ?_ | refine r_rg2 ?_ | refine r_ipI ?_))
local macro_rules | `(tactic| walk_at "rd") => `(tactic| repeat (first | walk_at "rd1" | ((with_reducible apply r_var); (focus exact rfl)) | (with_reducible refine r_tup ?_) | (with_reducible refine r_lst ?_) | ((with_reducible refine r_ln ?_ ?_); focus (simp; done)) | ((with_reducible refine iteT' ?_ ?_); focus (simp [isB, Dat.ty, tyN]; done)) | ((with_reducible refine iteF' ?_ ?_); focus (simp [isB, Dat.ty, tyN]; done))))
local macro_rules | `(tactic| walk_at "hf") => `(tactic| first
  | assumption
  | exact upd_same
  | (refine keep1 ?_ (by assumption); walk_at "hf")
  | (refine keep2 (by assumption) ?_; walk_at "hf")
  | (refine (show Same _ _ by assumption) _ _ ?_; walk_at "hf")
  | (refine (show But _ _ _ by assumption) _ _ (by assumption) ?_; walk_at "hf"))
local macro_rules | `(tactic| walk_at "rx") => `(tactic| repeat (first | walk_at "rd1" | ((with_reducible apply r_ixL); (focus assumption); (focus exact rfl)) | ((with_reducible apply r_ixT); (focus assumption); (focus exact rfl)) | ((with_reducible apply r_lenL); (focus assumption)) | ((with_reducible apply r_lenT); (focus assumption)) | ((with_reducible apply r_var); (focus exact rfl)) | (with_reducible refine r_tup ?_) | (with_reducible refine r_lst ?_) | ((with_reducible refine r_ln ?_ ?_); focus (simp; done)) | ((with_reducible refine iteT' ?_ ?_); focus (simp [isB, Dat.ty, tyN]; done)) | ((with_reducible refine iteF' ?_ ?_); focus (simp [isB, Dat.ty, tyN]; done))))
local macro_rules | `(tactic| walk_at "rz") => `(tactic| repeat ((fail_if_success (with_reducible show tFor _ _ _ _ _ _)); (first | walk_at "rd1" | ((with_reducible apply r_ixL); (focus assumption); (focus exact rfl)) | ((with_reducible apply r_ixT); (focus assumption); (focus exact rfl)) | ((with_reducible apply r_lenL); (focus assumption)) | ((with_reducible apply r_lenT); (focus assumption)) | ((with_reducible apply r_var); (focus exact rfl)) | (with_reducible refine r_tup ?_) | (with_reducible refine r_lst ?_) | ((with_reducible refine r_ln ?_ ?_); focus (simp; done)) | ((with_reducible refine iteT' ?_ ?_); focus (simp [isB, Dat.ty, tyN]; done)) | ((with_reducible refine iteF' ?_ ?_); focus (simp [isB, Dat.ty, tyN]; done)))))
section
variable {P : Program} {w : World} {K : PySem.W.Frag} {mg : Str → Option Value} {base : Heap} (T : Txt K mg)
include T
/-! lots of letters -/
def smallL (cs : List Nat) : Bool := ((List.range cs.length).map fun i => decide (97 ≤ cs.getD i 0) && decide (cs.getD i 0 ≤ 122)).all id
def riseL (cs : List Nat) : Bool := ((List.range (cs.length - 1)).map fun i => decide (cs.getD i 0 < cs.getD (i + 1) 0)).all id
def isLot (d : Dat) : Bool := match d with | .str z => smallL (cp z) && riseL (cp z) | _ => false
def isWords (d : Dat) : Bool := match d with | .str z => smallL (cp z) && riseL (cp z) && decide (1 ≤ (cp z).length) && decide ((cp z).length ≤ 4) | _ => false
def tl1000 (d : Dat) : Prop := match d with | .str z => (cp z).length ≤ 1000 | _ => True
def sp_lot : Sp := fun vs H Q _ => ∃ d v fp, vs = [v] ∧ DF H d v fp ∧ tl1000 d ∧ ∀ H', Same H H' → Q (.bl (isLot d)) H'
theorem ok_is_lot (F : FD K "is_lot" "is_lot" s_is_lot [] (He.ga K "is_lot")) : FnT P w K mg base 1 (He.ga K "is_lot") sp_lot := by
  refine fnT_of (k := 0) F sc_is_lot (fun _ _ _ _ _ _ us hl => match us, hl with | [_], _ => rfl) (fun vs H Q E h => by obtain ⟨d, v, fp, rfl, _⟩ := h; rfl) fun cdv A outer s H vs Q E hr h => ⟨_, (tm_is_lot T hr).2, ?_⟩
  obtain ⟨d, v, fp, rfl, hd, h1000, q⟩ := h
  unfold tm_is_lot
  cases d with
  | str z =>
    simp only [DF] at hd
    obtain ⟨rfl, rfl⟩ := hd
    have hz : (cp z).length ≤ 1000 := h1000
    walk_at "rd"
    refine r_srcS (fun Q' q => r_var rfl q) ?_
    intro D nD
    refine lcB (σ' := fun x => [some (.str z), some x, none, none]) walk_strS (by rw [signs_len]; exact hz) nD (fun _ => rfl) (fun _ => rfl) (fun i => decide (97 ≤ (cp z).getD i 0) && decide ((cp z).getD i 0 ≤ 122)) (fun H _ => trivial) (fun i x H2 hi hx s Qn k => ?_) fun H2 s hD => ?_
    · obtain ⟨rfl, hi⟩ := signs_at hx
      walk_at "rd"
      rw [le_a]
      refine iteD (fun h => ?_) fun h => ?_
      · walk_at "rd"
        rw [le_z]
        have := k H2 (Same.refl _)
        rw [decide_eq_true h, Bool.true_and] at this
        exact this
      · have := k H2 (Same.refl _)
        rw [decide_eq_false h, Bool.false_and] at this
        exact this
    · walk_at "rd"
      refine r_all hD ?_
      rw [signs_len]
      walk_at "rd"
      refine iteBn (fun h => ?_) fun h => ?_
      · have := q H2 s
        rw [show isLot (.str z) = (smallL (cp z) && riseL (cp z)) from rfl, show smallL (cp z) = false from h] at this
        walk_at "rd"
        exact this
      · walk_at "rd"
        refine r_zipG (a := .str z) (b := .str (cutS z (some 1) none)) (xs := signs z) (ys := signs (cutS z (some 1) none)) (H' := H2) (fun Q' q => ?_) rfl rfl ?_
        · walk_at "rd"
          refine r_slS (by rw [len_cp]; exact s1000 hz) ?_
          walk_at "rd"
          exact q
        intro D2 nD2
        have e1 : cp (cutS z (some 1) none) = (cp z).drop 1 := cp_from z 1
        refine lcPB (σ' := fun x y => [some (.str z), none, some x, some y]) (n := (cp z).length - 1) (walk_zipS (by rw [e1, List.length_drop]; omega)) (by omega) nD2 (fun _ _ => rfl) (fun _ _ => rfl) (fun i => decide ((cp z).getD i 0 < (cp z).getD (i + 1) 0)) (fun H _ => trivial) (fun i x y H3 hi hx hy s3 Qn k => ?_) fun H3 s3 hD3 => ?_
        · obtain ⟨rfl, _⟩ := signs_at hx
          obtain ⟨rfl, _⟩ := signs_at hy
          walk_at "rd"
          rw [lt_1, e1, show ((cp z).drop 1).getD i 0 = (cp z).getD (i + 1) 0 by simp [List.getD_eq_getElem?_getD, Nat.add_comm]]
          exact k H3 (Same.refl _)
        · walk_at "rd"
          refine r_all hD3 ?_
          have := q H3 (s.trans s3)
          rw [show isLot (.str z) = (smallL (cp z) && riseL (cp z)) from rfl, show smallL (cp z) = true from h, Bool.true_and] at this
          exact this
  | _ => walk_at "rd"; exact q H (Same.refl _)
def sp_words : Sp := fun vs H Q _ => ∃ d v fp, vs = [v] ∧ DF H d v fp ∧ tl1000 d ∧ ∀ H', Same H H' → Q (.bl (isWords d)) H'
theorem ok_is_words (C : Cal P w K mg base 1 "is_lot" sp_lot) (F : FD K "is_words" "is_words" s_is_words [] (He.ga K "is_words")) : FnT P w K mg base 2 (He.ga K "is_words") sp_words := by
  refine fnT_of (k := 1) F sc_is_words (fun _ _ _ _ _ _ us hl => match us, hl with | [_], _ => rfl) (fun vs H Q E h => by obtain ⟨d, v, fp, rfl, _⟩ := h; rfl) fun cdv A outer s H vs Q E hr h => ⟨_, (tm_is_words T C (Nat.le_refl _) hr).2, ?_⟩
  obtain ⟨d, v, fp, rfl, hd, h1000, q⟩ := h
  unfold tm_is_words
  walk_at "rd"
  refine ⟨d, v, fp, rfl, hd, h1000, fun H' s => ?_⟩
  walk_at "rd"
  refine iteB (fun h => ?_) fun h => ?_
  · cases d with
    | str z =>
      simp only [DF] at hd
      obtain ⟨rfl, rfl⟩ := hd
      have hz : (cp z).length ≤ 1000 := h1000
      walk_at "rd"
      refine r_lenS (by rw [len_cp]; exact s1000 hz) ?_
      walk_at "rd"
      have q1 := q H' s
      have h' : (smallL (cp z) && riseL (cp z)) = true := h
      simp only [isWords, h', Bool.true_and] at q1
      rw [len_cp]
      refine iteD (fun h2 => ?_) fun h2 => ?_
      · walk_at "rd"
        have e : decide (((cp z).length : Int) ≤ 4) = decide ((cp z).length ≤ 4) := by rw [Bool.eq_iff_iff]; simp; omega
        rw [decide_eq_true (show 1 ≤ (cp z).length by omega), Bool.true_and] at q1
        rw [e]
        exact q1
      · rw [decide_eq_false (show ¬ 1 ≤ (cp z).length by omega), Bool.false_and] at q1
        exact q1
    | _ => cases h
  · have e : isWords d = false := by
      cases d with
      | str z =>
        have h' : (smallL (cp z) && riseL (cp z)) = false := h
        simp only [isWords, h', Bool.false_and]
      | _ => rfl
    rw [← e]
    exact q H' s
end
end K
set_option Elab.async false
set_option linter.all false
set_option maxRecDepth 100000
set_option maxHeartbeats 2000000
namespace K
open PySem PySem.Spec PyProof.Rows L2 TH
local macro_rules | `(tactic| walk_at "rd1") => `(tactic| with_reducible (first
  | refine r_seq ?_ | refine r_if ?_ | refine r_ret ?_ | refine r_next ?_ | refine r_asg ?_ | refine r_drop ?_ | refine r_gname ?_ | refine r_retN ?_
  | refine r_var rfl ?_ | refine r_c ?_ | refine r_op ?_ | refine r_un ?_ | refine r_test ?_ | refine r_tB ?_ | refine r_bl ?_ | refine r_and ?_ | refine r_or ?_ | refine r_not ?_
  | refine r_andV ?_ | refine r_orV ?_ | refine r_notV ?_ | refine r_bb ?_ | refine r_ifE ?_ | refine r_gsub ?_ | refine r_nil ?_ | refine r_cons ?_ | refine r_cb ?_ | refine r_cl ?_ | refine r_clS ?_
  | refine r_part ?_ | refine r_nopart ?_ | refine r_int ?_ | refine r_sl ?_ | refine r_chain ?_ | refine r_I0 ?_ | refine r_U ?_ | refine r_eqI ?_ | refine r_neI ?_ | refine r_eqS ?_ | refine r_eqB ?_ | refine r_neB ?_ | refine r_int1 ?_ | refine r_abs1 ?_
  | refine iteT ?_ | refine iteF ?_ | refine r_isF rfl ?_ | refine r_isD (by assumption) (by decide) ?_ | refine r_brk ?_ | refine r_ct ?_ | refine r_ltS ?_ | refine r_leS ?_ | refine r_aug rfl ?_ | refine r_lc ?_ | refine r_meth ?_ | refine r_callO ?_ | refine r_make ?_ | refine r_methT ?_ | refine r_callT ?_ | refine r_ixT' ?_ | refine r_mkS ?_ | refine r_pr ?_ | refine r_sfld ?_ | refine r_fld ?_ | refine r_dnew ?_ | refine r_dput ?_ | refine r_dget ?_ | refine r_bm ?_ | refine r_rs ?_ | refine r_notInS ?_ | refine r_inS ?_ | refine r_isN ?_ | refine r_notN ?_ | refine r_for ?_ | refine r_rg1 ?_ | refine r_m1 ?_ | refine r_m0 ?_ | refine r_isS ?_ | refine r_rg2 ?_ | refine r_ipI ?_))
local macro_rules | `(tactic| walk_at "rd") => `(tactic| repeat (first | walk_at "rd1" | ((with_reducible apply r_var); (focus exact rfl)) | (with_reducible refine r_tup ?_) | (with_reducible refine r_lst ?_) | ((with_reducible refine r_ln ?_ ?_); focus (simp; done)) | ((with_reducible refine iteT' ?_ ?_); focus (simp [isB, Dat.ty, tyN]; done)) | ((with_reducible refine iteF' ?_ ?_); focus (simp [isB, Dat.ty, tyN]; done))))
local macro_rules | `(tactic| walk_at "hf") => `(tactic| first
  | assumption
  | exact upd_same
  | (refine keep1 ?_ (by assumption); walk_at "hf")
  | (refine keep2 (by assumption) ?_; walk_at "hf")
  | (refine (show Same _ _ by assumption) _ _ ?_; walk_at "hf")
  | (refine (show But _ _ _ by assumption) _ _ (by assumption) ?_; walk_at "hf"))
local macro_rules | `(tactic| walk_at "rx") => `(tactic| repeat (first | walk_at "rd1" | ((with_reducible apply r_ixL); (focus assumption); (focus exact rfl)) | ((with_reducible apply r_ixT); (focus assumption); (focus exact rfl)) | ((with_reducible apply r_lenL); (focus assumption)) | ((with_reducible apply r_lenT); (focus assumption)) | ((with_reducible apply r_var); (focus exact rfl)) | (with_reducible refine r_tup ?_) | (with_reducible refine r_lst ?_) | ((with_reducible refine r_ln ?_ ?_); focus (simp; done)) | ((with_reducible refine iteT' ?_ ?_); focus (simp [isB, Dat.ty, tyN]; done)) | ((with_reducible refine iteF' ?_ ?_); focus (simp [isB, Dat.ty, tyN]; done))))
local macro_rules | `(tactic| walk_at "rz") => `(tactic| repeat ((fail_if_success (with_reducible show tFor _ _ _ _ _ _)); (first | walk_at "rd1" | ((with_reducible apply r_ixL); (focus assumption); (focus exact rfl)) | ((with_reducible apply r_ixT); (focus assumption); (focus exact rfl)) | ((with_reducible apply r_lenL); (focus assumption)) | ((with_reducible apply r_lenT); (focus assumption)) | ((with_reducible apply r_var); (focus exact rfl)) | (with_reducible refine r_tup ?_) | (with_reducible refine r_lst ?_) | ((with_reducible refine r_ln ?_ ?_); focus (simp; done)) | ((with_reducible refine iteT' ?_ ?_); focus (simp [isB, Dat.ty, tyN]; done)) | ((with_reducible refine iteF' ?_ ?_); focus (simp [isB, Dat.ty, tyN]; done)))))
section
variable {P : Program} {w : World} {K : PySem.W.Frag} {mg : Str → Option Value} {base : Heap} (T : Txt K mg)
include T
def badCall (sg : List Nat) (d : Dat) : Option Int := match d with
  | .str z => if 400 < (cp z).length then some (-1) else ((List.range (cp z).length).find? fun i => !decide ((cp z).getD i 0 ∈ sg)).map fun i : Nat => (i : Int)
  | _ => some (-1)
/-- an own error with its one field -/
def RaisesN (K : PySem.W.Frag) (x f : Str) (v : V) (H : Hp) (E : XK) : Prop := ∀ dx H', Same H H' → H dx = none → H' dx = some (.xd [(f, v)]) → E (.ref (He.ga K x)) (some dx) H'
def sp_check : Sp := fun vs H Q E => ∃ sg d v fp, vs = [.str sg, v, .int 400] ∧ DF H d v fp ∧ tl1000 d ∧ (badCall (cp sg) d = none → ∀ H', Same H H' → Q .non H') ∧ ∀ k, badCall (cp sg) d = some k → RaisesN K "BadCalling" "number" (.int k) H E
theorem ok_check (R : Rse P w K mg base "BadCalling" "number") (F : FD K "check_calling" "check_calling" s_check_calling [.int 400] (He.ga K "check_calling")) : FnT P w K mg base 3 (He.ga K "check_calling") (fun vs H Q E => sp_check (K := K) (vs ++ [.int 400]) H Q E) := by
  refine fnT_ofD (P := P) (w := w) (mg := mg) (base := base) (k := 2) (n := 2) (j := 0) (sp := sp_check (K := K)) F sc_check_calling (by simp) rfl (fun _ _ _ _ _ _ _ us its hl hi => match us, its, hl, hi with | [_, _], [_], _, _ => ⟨_, rfl, rfl⟩)
    (fun vs H Q E h => by obtain ⟨sg, d, v, fp, rfl, _⟩ := h; rfl) fun cdv A outer s H vs Q E hr h => ⟨_, (tm_check_calling T (Nat.le_refl _) R hr).2, ?_⟩
  obtain ⟨sg, d, v, fp, rfl, hd, h1000, q, qe⟩ := h
  unfold tm_check_calling
  cases d with
  | str z =>
    simp only [DF] at hd
    obtain ⟨rfl, rfl⟩ := hd
    have hz : (cp z).length ≤ 1000 := h1000
    walk_at "rd"
    refine r_lenS (by rw [len_cp]; exact s1000 hz) ?_
    rw [len_cp]
    walk_at "rd"
    refine iteD (fun h => ?_) fun h => ?_
    · walk_at "rd"
      refine ⟨_, rfl, fun dx nx => ?_⟩
      exact qe (-1) (by simp only [badCall]; rw [if_pos (by omega)]) dx _ (same_new nx) nx upd_same
    · have hb : badCall (cp sg) (.str z) = ((List.range (cp z).length).find? fun i => !decide ((cp z).getD i 0 ∈ cp sg)).map fun i : Nat => (i : Int) := by simp only [badCall]; rw [if_neg (by omega)]
      walk_at "rd"
      refine r_enumG (a := .str z) (xs := signs z) (H' := H) (fun Q' q => ?_) rfl ?_
      · walk_at "rd"
        exact q
      refine forP (n := (cp z).length) (walk_enumS rfl) (fun i σ H' => Same H H' ∧ (∀ j < i, (cp z).getD j 0 ∈ cp sg) ∧ ∃ x y, σ = [some (.str sg), some (.str z), some (.int 400), x, y]) ⟨Same.refl _, fun j h => absurd h (Nat.not_lt_zero _), none, none, rfl⟩ (fun _ _ _ _ => trivial) (fun i x y T1 σ H1 H2 hi hx hy hF nT e => ?_) fun σ H1 hF => ?_
      · obtain ⟨s1, hin, x0, y0, rfl⟩ := hF
        obtain rfl : x = .int (i : Nat) := by cases hx; rfl
        obtain ⟨rfl, _⟩ := signs_at hy
        subst e
        walk_at "rd"
        refine iteDn (fun h => ?_) fun h => ?_
        · walk_at "rd"
          refine ⟨_, rfl, fun dx nx => ?_⟩
          have s2 := same_upd s1 nT (o := .tup [.int (i : Nat), .str ⟨#[(cp z).getD i 0]⟩])
          refine qe (i : Nat) ?_ dx _ (same_upd s2 nx) (s2.free nx) upd_same
          rw [hb, List.find?_range_eq_some.mpr ⟨by simpa using h, by simpa using hi, fun j hj => by simpa using hin j hj⟩]
          rfl
        · walk_at "rd"
          exact ⟨same_upd s1 nT, fun j hj => by
            rcases Nat.lt_succ_iff_lt_or_eq.mp hj with h' | h'
            · exact hin j h'
            · rw [h']; exact h, _, _, rfl⟩
      · obtain ⟨s1, hin, _⟩ := hF
        refine q ?_ H1 s1
        rw [hb, List.find?_range_eq_none.mpr fun j hj => by simpa using hin j hj]
        rfl
  | _ =>
    walk_at "rd"
    refine ⟨_, rfl, fun dx nx => ?_⟩
    exact qe (-1) rfl dx _ (same_new nx) nx upd_same
end
end K
set_option Elab.async false
set_option linter.all false
set_option maxRecDepth 100000
set_option maxHeartbeats 2000000
namespace K
open PySem PySem.Spec PyProof.Rows L2 TH
local macro_rules | `(tactic| walk_at "rd1") => `(tactic| with_reducible (first
  | refine r_seq ?_ | refine r_if ?_ | refine r_ret ?_ | refine r_next ?_ | refine r_asg ?_ | refine r_drop ?_ | refine r_gname ?_ | refine r_retN ?_
  | refine r_var rfl ?_ | refine r_c ?_ | refine r_op ?_ | refine r_un ?_ | refine r_test ?_ | refine r_tB ?_ | refine r_bl ?_ | refine r_and ?_ | refine r_or ?_ | refine r_not ?_
  | refine r_andV ?_ | refine r_orV ?_ | refine r_notV ?_ | refine r_bb ?_ | refine r_ifE ?_ | refine r_gsub ?_ | refine r_nil ?_ | refine r_cons ?_ | refine r_cb ?_ | refine r_cl ?_ | refine r_clS ?_
  | refine r_part ?_ | refine r_nopart ?_ | refine r_int ?_ | refine r_sl ?_ | refine r_chain ?_ | refine r_I0 ?_ | refine r_U ?_ | refine r_eqI ?_ | refine r_neI ?_ | refine r_eqS ?_ | refine r_eqB ?_ | refine r_neB ?_ | refine r_int1 ?_ | refine r_abs1 ?_
  | refine iteT ?_ | refine iteF ?_ | refine r_isF rfl ?_ | refine r_isD (by assumption) (by decide) ?_ | refine r_brk ?_ | refine r_ct ?_ | refine r_ltS ?_ | refine r_leS ?_ | refine r_aug rfl ?_ | refine r_lc ?_ | refine r_meth ?_ | refine r_callO ?_ | refine r_make ?_ | refine r_methT ?_ | refine r_callT ?_ | refine r_ixT' ?_ | refine r_mkS ?_ | refine r_pr ?_ | refine r_sfld ?_ | refine r_fld ?_ | refine r_dnew ?_ | refine r_dput ?_ | refine r_dget ?_ | refine r_bm ?_ | refine r_rs ?_ | refine r_notInS ?_ | refine r_inS ?_ | refine r_isN ?_ | refine r_notN ?_ | refine r_for ?_ | refine r_rg1 ?_ | refine r_m1 ?_ | refine r_m0 ?_ | refine r_isS ?_ | refine r_rg2 ?_ | refine r_ipI ?_))
local macro_rules | `(tactic| walk_at "rd") => `(tactic| repeat (first | walk_at "rd1" | ((with_reducible apply r_var); (focus exact rfl)) | (with_reducible refine r_tup ?_) | (with_reducible refine r_lst ?_) | ((with_reducible refine r_ln ?_ ?_); focus (simp; done)) | ((with_reducible refine iteT' ?_ ?_); focus (simp [isB, Dat.ty, tyN]; done)) | ((with_reducible refine iteF' ?_ ?_); focus (simp [isB, Dat.ty, tyN]; done))))
local macro_rules | `(tactic| walk_at "hf") => `(tactic| first
  | assumption
  | exact upd_same
  | (refine keep1 ?_ (by assumption); walk_at "hf")
  | (refine keep2 (by assumption) ?_; walk_at "hf")
  | (refine (show Same _ _ by assumption) _ _ ?_; walk_at "hf")
  | (refine (show But _ _ _ by assumption) _ _ (by assumption) ?_; walk_at "hf"))
local macro_rules | `(tactic| walk_at "rx") => `(tactic| repeat (first | walk_at "rd1" | ((with_reducible apply r_ixL); (focus assumption); (focus exact rfl)) | ((with_reducible apply r_ixT); (focus assumption); (focus exact rfl)) | ((with_reducible apply r_lenL); (focus assumption)) | ((with_reducible apply r_lenT); (focus assumption)) | ((with_reducible apply r_var); (focus exact rfl)) | (with_reducible refine r_tup ?_) | (with_reducible refine r_lst ?_) | ((with_reducible refine r_ln ?_ ?_); focus (simp; done)) | ((with_reducible refine iteT' ?_ ?_); focus (simp [isB, Dat.ty, tyN]; done)) | ((with_reducible refine iteF' ?_ ?_); focus (simp [isB, Dat.ty, tyN]; done))))
local macro_rules | `(tactic| walk_at "rz") => `(tactic| repeat ((fail_if_success (with_reducible show tFor _ _ _ _ _ _)); (first | walk_at "rd1" | ((with_reducible apply r_ixL); (focus assumption); (focus exact rfl)) | ((with_reducible apply r_ixT); (focus assumption); (focus exact rfl)) | ((with_reducible apply r_lenL); (focus assumption)) | ((with_reducible apply r_lenT); (focus assumption)) | ((with_reducible apply r_var); (focus exact rfl)) | (with_reducible refine r_tup ?_) | (with_reducible refine r_lst ?_) | ((with_reducible refine r_ln ?_ ?_); focus (simp; done)) | ((with_reducible refine iteT' ?_ ?_); focus (simp [isB, Dat.ty, tyN]; done)) | ((with_reducible refine iteF' ?_ ?_); focus (simp [isB, Dat.ty, tyN]; done)))))
theorem range_all {α : Type} (l : List α) (d : α) (f : α → Bool) : ((List.range l.length).map fun i => f (l.getD i d)).all id = l.all f := by
  rw [Bool.eq_iff_iff]
  simp only [List.all_map, List.all_eq_true, List.mem_range, Function.comp, id]
  constructor
  · intro h x hx
    obtain ⟨i, hi, rfl⟩ := List.mem_iff_getElem.mp hx
    have := h i hi
    simpa [List.getD_eq_getElem?_getD, hi] using this
  · intro h i hi
    simpa [List.getD_eq_getElem?_getD, hi] using h _ (List.getElem_mem hi)
theorem DFs.ints {H : Hp} : ∀ {cs : List Int} {xs : List V} {f : List Addr}, DFs H (cs.map Dat.int) xs f → xs = cs.map V.int ∧ f = []
  | [], xs, f, h => by simpa [DFs] using h
  | c :: cs, xs, f, h => by
    simp only [List.map_cons, DFs, DF] at h
    obtain ⟨x, ys, f1, g, rfl, rfl, ⟨rfl, rfl⟩, h2⟩ := h
    obtain ⟨rfl, rfl⟩ := DFs.ints h2
    exact ⟨rfl, rfl⟩
theorem DFs.ofInts {H : Hp} : ∀ (cs : List Int), DFs H (cs.map Dat.int) (cs.map V.int) []
  | [] => by simp [DFs]
  | c :: cs => by
    simp only [List.map_cons, DFs, DF]
    exact ⟨_, _, [], [], rfl, rfl, ⟨rfl, rfl⟩, DFs.ofInts cs⟩
theorem isIn_ints {lo hi : Int} : ∀ {l : List Dat}, l.all (fun d => isIn d lo hi) = true → ∃ cs : List Int, l = cs.map Dat.int ∧ ∀ c ∈ cs, lo ≤ c ∧ c ≤ hi
  | [], _ => ⟨[], rfl, fun c h => by cases h⟩
  | d :: l, h => by
    simp only [List.all_cons, Bool.and_eq_true] at h
    obtain ⟨cs, rfl, hc⟩ := isIn_ints h.2
    cases d <;> simp [isIn] at h
    rename_i i
    exact ⟨i :: cs, rfl, fun c m => by
      rcases List.mem_cons.mp m with e | e
      · rw [e]; exact h.1
      · exact hc c e⟩
section
variable {P : Program} {w : World} {K : PySem.W.Frag} {mg : Str → Option Value} {base : Heap} (T : Txt K mg)
include T
def isSt (n : Nat) (many : Int) (d : Dat) : Bool := match d with
  | .tup [a, b, .tup ns] => isIn a (-3) 3 && isIn b 1 12 && decide (ns.length = n + 1) && ns.all fun d => isIn d 0 (many - 1)
  | _ => false
def sp_st : Sp := fun vs H Q _ => ∃ ws many d v fp, vs = [.str ws, .int many, v] ∧ DF H d v fp ∧ (cp ws).length ≤ 1000 ∧ ∀ H', Same H H' → Q (.bl (isSt (cp ws).length many d)) H'
theorem ok_is_standing (C : Cal P w K mg base 1 "is_integer" sp_isin) (F : FD K "is_standing" "is_standing" s_is_standing [] (He.ga K "is_standing")) : FnT P w K mg base 2 (He.ga K "is_standing") sp_st := by
  refine fnT_of (k := 1) F sc_is_standing (fun _ _ _ _ _ _ us hl => match us, hl with | [_, _, _], _ => rfl) (fun vs H Q E h => by obtain ⟨ws, many, d, v, fp, rfl, _⟩ := h; rfl) fun cdv A outer s H vs Q E hr h => ⟨_, (tm_is_standing T C (Nat.le_refl _) hr).2, ?_⟩
  obtain ⟨ws, many, d, v, fp, rfl, hd, hw, q⟩ := h
  unfold tm_is_standing
  cases d with
  | tup l =>
    have hd0 := hd
    simp only [DF] at hd
    obtain ⟨hl, a, xs, rfl, ha, hs⟩ := hd
    walk_at "rd"
    refine r_lenT ha ?_
    rw [hs.len]
    walk_at "rd"
    refine iteDn (fun h => ?_) fun h => ?_
    · walk_at "rd"
      have : isSt (cp ws).length many (.tup l) = false := by
        unfold isSt
        split
        · rename_i e
          cases e
          exact absurd rfl h
        · rfl
      rw [← this]
      exact q H (Same.refl _)
    · match l, h, hs with
      | [d0, d1, d2], _, hs =>
        have hs0 := hs
        simp only [DFs] at hs
        obtain ⟨x0, ys0, f0, g0, rfl, rfl, h0, x1, ys1, f1, g1, rfl, rfl, h1, x2, ys2, f2, g2, rfl, rfl, h2, rfl, rfl⟩ := hs
        walk_at "rd"
        refine r_ixT ha rfl ?_
        walk_at "rd"
        refine ⟨d0, x0, _, _, _, rfl, h0, ?_⟩
        walk_at "rd"
        refine iteBn (fun e0 => ?_) fun e0 => ?_
        · walk_at "rd"
          have : isSt (cp ws).length many (.tup [d0, d1, d2]) = false := by
            unfold isSt
            split
            · rename_i e
              cases e
              rw [e0]; rfl
            · rfl
          rw [← this]
          exact q H (Same.refl _)
        walk_at "rd"
        refine r_ixT ha rfl ?_
        walk_at "rd"
        refine ⟨d1, x1, _, _, _, rfl, h1, ?_⟩
        walk_at "rd"
        refine iteBn (fun e1 => ?_) fun e1 => ?_
        · walk_at "rd"
          have : isSt (cp ws).length many (.tup [d0, d1, d2]) = false := by
            unfold isSt
            split
            · rename_i e
              cases e
              rw [e0, e1]; rfl
            · rfl
          rw [← this]
          exact q H (Same.refl _)
        walk_at "rd"
        refine r_ixT ha rfl ?_
        cases d2 with
        | tup ns =>
          have h2' := h2
          simp only [DF] at h2
          obtain ⟨hl2, a2, zs, rfl, ha2, hs2⟩ := h2
          walk_at "rd"
          refine r_ixT ha rfl ?_
          walk_at "rd"
          refine r_lenT ha2 ?_
          walk_at "rd"
          refine r_lenS (by rw [len_cp]; exact s1000 hw) ?_
          rw [hs2.len, len_cp]
          walk_at "rd"
          refine iteDn (fun e2 => ?_) fun e2 => ?_
          · walk_at "rd"
            have : isSt (cp ws).length many (.tup [d0, d1, .tup ns]) = false := by
              simp only [isSt]
              rw [decide_eq_false (show ¬ ns.length = (cp ws).length + 1 by omega)]
              simp
            rw [← this]
            exact q H (Same.refl _)
          · walk_at "rd"
            refine r_srcT (xs := zs) (a := a2) (H' := H) (fun Q' q => ?_) ha2 ?_
            · walk_at "rd"
              refine r_ixT ha rfl ?_
              walk_at "rd"
              exact q
            intro D nD
            refine lcB (σ' := fun x => [some (.str ws), some (.int many), some (.ref a), some x]) walk_tup (by rw [hs2.len]; exact hl2) nD (fun _ => rfl) (fun _ => rfl) (fun i => isIn (ns.getD i .non) 0 (many - 1)) (fun H s => .inl (.inl (s _ _ ha2))) (fun i x H2 hi hx s Qn k => ?_) fun H2 s hD => ?_
            · have hi' : i < ns.length := by rw [← hs2.len]; exact hi
              obtain ⟨x', f', ex, hx', _⟩ := DFs.get i hs2 (show ns[i]? = some ns[i] by simp [hi'])
              rw [hx] at ex
              cases ex
              walk_at "rd"
              refine ⟨ns[i], x, _, _, _, rfl, hx'.same s, ?_⟩
              have := k H2 (Same.refl _)
              rw [show ns.getD i .non = ns[i] by simp [List.getD_eq_getElem?_getD, hi']] at this
              exact this
            · walk_at "rd"
              refine r_all hD ?_
              rw [hs2.len, range_all ns .non fun d => isIn d 0 (many - 1)]
              have := q H2 s
              simp only [isSt] at this
              rw [e0, e1, decide_eq_true (show ns.length = (cp ws).length + 1 by omega)] at this
              simpa using this
        | _ =>
          walk_at "rd"
          exact q H (Same.refl _)
  | _ =>
    walk_at "rd"
    exact q H (Same.refl _)
end
end K
set_option Elab.async false
set_option linter.all false
set_option maxRecDepth 100000
set_option maxHeartbeats 2000000
namespace K
open PySem PySem.Spec PyProof.Rows L2 TH
local macro_rules | `(tactic| walk_at "rd1") => `(tactic| with_reducible (first
  | refine r_seq ?_ | refine r_if ?_ | refine r_ret ?_ | refine r_next ?_ | refine r_asg ?_ | refine r_drop ?_ | refine r_gname ?_ | refine r_retN ?_
  | refine r_var rfl ?_ | refine r_c ?_ | refine r_op ?_ | refine r_un ?_ | refine r_test ?_ | refine r_tB ?_ | refine r_bl ?_ | refine r_and ?_ | refine r_or ?_ | refine r_not ?_
  | refine r_andV ?_ | refine r_orV ?_ | refine r_notV ?_ | refine r_bb ?_ | refine r_ifE ?_ | refine r_gsub ?_ | refine r_nil ?_ | refine r_cons ?_ | refine r_cb ?_ | refine r_cl ?_ | refine r_clS ?_
  | refine r_part ?_ | refine r_nopart ?_ | refine r_int ?_ | refine r_sl ?_ | refine r_chain ?_ | refine r_I0 ?_ | refine r_U ?_ | refine r_eqI ?_ | refine r_neI ?_ | refine r_eqS ?_ | refine r_eqB ?_ | refine r_neB ?_ | refine r_int1 ?_ | refine r_abs1 ?_
  | refine iteT ?_ | refine iteF ?_ | refine r_isF rfl ?_ | refine r_isD (by assumption) (by decide) ?_ | refine r_brk ?_ | refine r_ct ?_ | refine r_ltS ?_ | refine r_leS ?_ | refine r_aug rfl ?_ | refine r_lc ?_ | refine r_meth ?_ | refine r_callO ?_ | refine r_make ?_ | refine r_methT ?_ | refine r_callT ?_ | refine r_ixT' ?_ | refine r_mkS ?_ | refine r_pr ?_ | refine r_sfld ?_ | refine r_fld ?_ | refine r_dnew ?_ | refine r_dput ?_ | refine r_dget ?_ | refine r_bm ?_ | refine r_rs ?_ | refine r_notInS ?_ | refine r_inS ?_ | refine r_isN ?_ | refine r_notN ?_ | refine r_for ?_ | refine r_rg1 ?_ | refine r_m1 ?_ | refine r_m0 ?_ | refine r_isS ?_ | refine r_rg2 ?_ | refine r_ipI ?_))
local macro_rules | `(tactic| walk_at "rd") => `(tactic| repeat (first | walk_at "rd1" | ((with_reducible apply r_var); (focus exact rfl)) | (with_reducible refine r_tup ?_) | (with_reducible refine r_lst ?_) | ((with_reducible refine r_ln ?_ ?_); focus (simp; done)) | ((with_reducible refine iteT' ?_ ?_); focus (simp [isB, Dat.ty, tyN]; done)) | ((with_reducible refine iteF' ?_ ?_); focus (simp [isB, Dat.ty, tyN]; done))))
local macro_rules | `(tactic| walk_at "hf") => `(tactic| first
  | assumption
  | exact upd_same
  | (refine keep1 ?_ (by assumption); walk_at "hf")
  | (refine keep2 (by assumption) ?_; walk_at "hf")
  | (refine (show Same _ _ by assumption) _ _ ?_; walk_at "hf")
  | (refine (show But _ _ _ by assumption) _ _ (by assumption) ?_; walk_at "hf"))
local macro_rules | `(tactic| walk_at "rx") => `(tactic| repeat (first | walk_at "rd1" | ((with_reducible apply r_ixL); (focus assumption); (focus exact rfl)) | ((with_reducible apply r_ixT); (focus assumption); (focus exact rfl)) | ((with_reducible apply r_lenL); (focus assumption)) | ((with_reducible apply r_lenT); (focus assumption)) | ((with_reducible apply r_var); (focus exact rfl)) | (with_reducible refine r_tup ?_) | (with_reducible refine r_lst ?_) | ((with_reducible refine r_ln ?_ ?_); focus (simp; done)) | ((with_reducible refine iteT' ?_ ?_); focus (simp [isB, Dat.ty, tyN]; done)) | ((with_reducible refine iteF' ?_ ?_); focus (simp [isB, Dat.ty, tyN]; done))))
local macro_rules | `(tactic| walk_at "rz") => `(tactic| repeat ((fail_if_success (with_reducible show tFor _ _ _ _ _ _)); (first | walk_at "rd1" | ((with_reducible apply r_ixL); (focus assumption); (focus exact rfl)) | ((with_reducible apply r_ixT); (focus assumption); (focus exact rfl)) | ((with_reducible apply r_lenL); (focus assumption)) | ((with_reducible apply r_lenT); (focus assumption)) | ((with_reducible apply r_var); (focus exact rfl)) | (with_reducible refine r_tup ?_) | (with_reducible refine r_lst ?_) | ((with_reducible refine r_ln ?_ ?_); focus (simp; done)) | ((with_reducible refine iteT' ?_ ?_); focus (simp [isB, Dat.ty, tyN]; done)) | ((with_reducible refine iteF' ?_ ?_); focus (simp [isB, Dat.ty, tyN]; done)))))
theorem walk_enumT {K : PySem.W.Frag} {a : Addr} {xs : List V} {n : Nat} (hn : n = xs.length) : Walk (Iteg K (.tup a)) n (fun H => H a = some (.tup xs)) (YPair (fun i => some (.int (i : Nat))) (fun i => xs[i]?)) := by
  subst hn
  exact (walk_enumG (K := K) (src := .tup a) (xs := xs)).mono (fun H h => .inl (.inl h)) fun i H x H' _ _ y => y
theorem atI_at {α : Type} {xs : List α} {i : Nat} {v : α} (h : xs[i]? = some v) : atI xs (i : Int) = some v := by
  have hi : i < xs.length := (List.getElem?_eq_some_iff.mp h).1
  unfold atI ixN
  rw [if_pos (by omega), if_pos (by omega)]
  simpa using h
/-- a standing as data -/
structure Row where
  s : Int
  b : Int
  n : List Int
def Row.tD (r : Row) : Dat := .tup [.int r.s, .int r.b, .tup (r.n.map Dat.int)]
def Row.lD (r : Row) : Dat := .lst [.int r.s, .int r.b, .lst (r.n.map Dat.int)]
structure Row.Ok (r : Row) (n : Nat) (many : Int) : Prop where
  s : -3 ≤ r.s ∧ r.s ≤ 3
  b : 1 ≤ r.b ∧ r.b ≤ 12
  l : r.n.length = n + 1
  n : ∀ c ∈ r.n, 0 ≤ c ∧ c ≤ many - 1
theorem isSt_inv {n : Nat} {many : Int} {d : Dat} (h : isSt n many d = true) : ∃ r : Row, d = r.tD ∧ r.Ok n many := by
  unfold isSt at h
  split at h
  · rename_i a b ns
    simp only [Bool.and_eq_true, decide_eq_true_eq] at h
    obtain ⟨⟨⟨h1, h2⟩, h3⟩, h4⟩ := h
    obtain ⟨cs, rfl, hc⟩ := isIn_ints h4
    cases a <;> simp [isIn] at h1
    cases b <;> simp [isIn] at h2
    rename_i i j
    exact ⟨⟨i, j, cs⟩, rfl, h1, h2, by simpa using h3, hc⟩
  · cases h
theorem isSt_of {n : Nat} {many : Int} {r : Row} (h : r.Ok n many) : isSt n many r.tD = true := by
  simp only [isSt, Row.tD, isIn, Bool.and_eq_true, decide_eq_true_eq, List.length_map, List.all_map, List.all_eq_true, Function.comp]
  exact ⟨⟨⟨h.s, h.b⟩, h.l⟩, fun c m => h.n c m⟩
/-- a standing on the heap -/
def RowT (H : Hp) (r : Row) (x : V) : Prop := ∃ p p2, x = .ref p ∧ H p = some (.tup [.int r.s, .int r.b, .ref p2]) ∧ H p2 = some (.tup (r.n.map V.int))
theorem rowT_of {H : Hp} {r : Row} {x : V} {f : List Addr} (h : DF H r.tD x f) : RowT H r x := by
  simp only [Row.tD, DF, DFs] at h
  obtain ⟨_, p, xs, rfl, hp, x0, y0, f0, g0, rfl, rfl, ⟨rfl, rfl⟩, x1, y1, f1, g1, rfl, rfl, ⟨rfl, rfl⟩, x2, y2, f2, g2, rfl, rfl, ⟨_, p2, zs, rfl, hp2, hz⟩, rfl, rfl⟩ := h
  obtain ⟨rfl, rfl⟩ := DFs.ints hz
  exact ⟨p, p2, rfl, hp, hp2⟩
theorem RowT.same {H H' : Hp} {r : Row} {x : V} (h : RowT H r x) (s : Same H H') : RowT H' r x := by
  obtain ⟨p, p2, e, h1, h2⟩ := h
  exact ⟨p, p2, e, s _ _ h1, s _ _ h2⟩
def zeroSt (d : Dat) : Bool := match d with
  | .tup [.int a, _, .tup (.int c :: _)] => decide (a = 0) && decide (c = 0)
  | _ => false
def badAt (n : Nat) (many : Int) (i : Nat) (d : Dat) : Bool := !isSt n many d || (i == 0 && !zeroSt d)
def badSt (n : Nat) (d : Dat) : Option Int := match d with
  | .tup l => if 1 ≤ l.length ∧ l.length ≤ 6 then ((List.range l.length).find? fun i => badAt n l.length i (l.getD i .non)).map fun i : Nat => (i : Int) else some (-1)
  | _ => some (-1)
def optV : Option Int → V
  | none => .non
  | some k => .int k
section
variable {P : Program} {w : World} {K : PySem.W.Frag} {mg : Str → Option Value} {base : Heap} (T : Txt K mg)
include T
def sp_badst : Sp := fun vs H Q _ => ∃ ws d v fp, vs = [.str ws, v] ∧ DF H d v fp ∧ (cp ws).length ≤ 1000 ∧ ∀ H', Same H H' → Q (optV (badSt (cp ws).length d)) H'
theorem ok_bad_standing (C : Cal P w K mg base 2 "is_standing" sp_st) (F : FD K "bad_standing" "bad_standing" s_bad_standing [] (He.ga K "bad_standing")) : FnT P w K mg base 3 (He.ga K "bad_standing") sp_badst := by
  refine fnT_of (k := 2) F sc_bad_standing (fun _ _ _ _ _ _ us hl => match us, hl with | [_, _], _ => rfl) (fun vs H Q E h => by obtain ⟨ws, d, v, fp, rfl, _⟩ := h; rfl) fun cdv A outer s H vs Q E hr h => ⟨_, (tm_bad_standing T C (Nat.le_refl _) hr).2, ?_⟩
  obtain ⟨ws, d, v, fp, rfl, hd, hw, q⟩ := h
  unfold tm_bad_standing
  cases d with
  | tup l =>
    simp only [DF] at hd
    obtain ⟨hl, a, xs, rfl, ha, hs⟩ := hd
    walk_at "rd"
    refine r_isF (s := "tuple") (b := true) (by simp [tyN, ha, isB]) ?_
    walk_at "rd"
    refine r_lenT ha ?_
    rw [hs.len]
    walk_at "rd"
    have no : ¬ (1 ≤ l.length ∧ l.length ≤ 6) → Q (.int (-1)) H := fun h => by
      have := q H (Same.refl _)
      simp only [badSt] at this
      rw [if_neg h] at this
      exact this
    refine iteD (fun h1 => ?_) fun h1 => ?_
    · walk_at "rd"
      refine iteDn (fun h2 => ?_) fun h2 => ?_
      · walk_at "rd"
        exact no (by omega)
      · have hb : badSt (cp ws).length (.tup l) = ((List.range l.length).find? fun i => badAt (cp ws).length l.length i (l.getD i .non)).map fun i : Nat => (i : Int) := by simp only [badSt]; rw [if_pos (by omega)]
        walk_at "rd"
        refine r_enumG (a := .tup a) (xs := xs) (H' := H) (fun Q' q => ?_) (.inl (.inl ha)) ?_
        · walk_at "rd"
          exact q
        refine forP (n := l.length) (walk_enumT hs.len.symm) (fun i σ H' => Same H H' ∧ (∀ j < i, badAt (cp ws).length l.length j (l.getD j .non) = false) ∧ ∃ x y, σ = [some (.str ws), some (.ref a), x, y]) ⟨Same.refl _, fun j h => absurd h (Nat.not_lt_zero _), none, none, rfl⟩ (fun i σ H' hF => hF.1 _ _ ha) (fun i x y T1 σ H1 H2 hi hx hy hF nT e => ?_) fun σ H1 hF => ?_
        · obtain ⟨s1, hin, x0, y0, rfl⟩ := hF
          obtain rfl : x = .int (i : Nat) := by cases hx; rfl
          obtain ⟨y', f', ey, hy', _⟩ := DFs.get i hs (show l[i]? = some l[i] by simp [hi])
          rw [hy] at ey
          cases ey
          have s2 : Same H H2 := by subst e; exact same_upd s1 nT
          have hgd : l.getD i .non = l[i] := by simp [List.getD_eq_getElem?_getD, hi]
          have found : badAt (cp ws).length l.length i l[i] = true → ∀ H', Same H H' → Q (.int (i : Nat)) H' := fun hbad H' s' => by
            have := q H' s'
            rw [hb, List.find?_range_eq_some.mpr ⟨by rw [hgd]; exact hbad, by simpa using hi, fun j hj => by simpa using hin j hj⟩] at this
            exact this
          walk_at "rd"
          refine r_lenT (s2 _ _ ha) ?_
          rw [hs.len]
          walk_at "rd"
          refine ⟨ws, _, l[i], y, f', rfl, hy'.same s2, hw, fun H3 s3 => ?_⟩
          walk_at "rd"
          refine iteBn (fun hst => ?_) fun hst => ?_
          · walk_at "rd"
            exact found (by unfold badAt; rw [hst]; rfl) _ (s2.trans s3)
          · obtain ⟨r, er, ok⟩ := isSt_inv hst
            have hy2 := (hy'.same s2).same s3
            rw [er] at hy2
            obtain ⟨p, p2, rfl, hp, hp2⟩ := rowT_of hy2
            walk_at "rd"
            have next : badAt (cp ws).length l.length i l[i] = false → Same H H3 ∧ (∀ j < i + 1, badAt (cp ws).length l.length j (l.getD j .non) = false) ∧ ∃ x y, ([some (.str ws), some (.ref a), some (.int (i : Nat)), some (.ref p)] : L2.St) = [some (.str ws), some (.ref a), x, y] := fun h => ⟨s2.trans s3, fun j hj => by
              rcases Nat.lt_succ_iff_lt_or_eq.mp hj with h' | h'
              · exact hin j h'
              · rw [h', hgd]; exact h, _, _, rfl⟩
            refine iteD (fun h0 => ?_) fun h0 => ?_
            · obtain rfl : i = 0 := by omega
              obtain ⟨c, cs, hc⟩ : ∃ c cs, r.n = c :: cs := by
                cases e : r.n with
                | nil => have := ok.l; rw [e] at this; simp at this
                | cons c cs => exact ⟨c, cs, rfl⟩
              have hz : zeroSt l[0] = (decide (r.s = 0) && decide (c = 0)) := by rw [er]; simp only [Row.tD, hc, List.map_cons, zeroSt]
              walk_at "rd"
              refine r_ixT hp rfl ?_
              walk_at "rd"
              refine iteDn (fun h5 => ?_) fun h5 => ?_
              · walk_at "rd"
                exact found (by unfold badAt; rw [hz, decide_eq_false h5]; simp) _ (s2.trans s3)
              · walk_at "rd"
                refine r_ixT hp rfl ?_
                walk_at "rd"
                refine r_ixT hp2 (v := .int c) (atI_at (i := 0) (by rw [hc]; rfl)) ?_
                walk_at "rd"
                refine iteDn (fun h6 => ?_) fun h6 => ?_
                · walk_at "rd"
                  exact found (by unfold badAt; rw [hz, decide_eq_false h6]; simp) _ (s2.trans s3)
                · walk_at "rd"
                  exact next (by unfold badAt; rw [hz, decide_eq_true h5, decide_eq_true h6, hst]; rfl)
            · walk_at "rd"
              have : i ≠ 0 := by omega
              exact next (by unfold badAt; rw [hst, beq_eq_false_iff_ne.mpr this]; rfl)
        · obtain ⟨s1, hin, _⟩ := hF
          walk_at "rd"
          have := q H1 s1
          rw [hb, List.find?_range_eq_none.mpr fun j hj => by simpa using hin j hj] at this
          exact this
    · walk_at "rd"
      exact no (by omega)
  | _ =>
    walk_at "rd"
    exact q H (Same.refl _)
end
end K
set_option Elab.async false
set_option linter.all false
set_option maxRecDepth 100000
set_option maxHeartbeats 2000000
namespace K
open PySem PySem.Spec PyProof.Rows L2 TH
local macro_rules | `(tactic| walk_at "rd1") => `(tactic| with_reducible (first
  | refine r_seq ?_ | refine r_if ?_ | refine r_ret ?_ | refine r_next ?_ | refine r_asg ?_ | refine r_drop ?_ | refine r_gname ?_ | refine r_retN ?_
  | refine r_var rfl ?_ | refine r_c ?_ | refine r_op ?_ | refine r_un ?_ | refine r_test ?_ | refine r_tB ?_ | refine r_bl ?_ | refine r_and ?_ | refine r_or ?_ | refine r_not ?_
  | refine r_andV ?_ | refine r_orV ?_ | refine r_notV ?_ | refine r_bb ?_ | refine r_ifE ?_ | refine r_gsub ?_ | refine r_nil ?_ | refine r_cons ?_ | refine r_cb ?_ | refine r_cl ?_ | refine r_clS ?_
  | refine r_part ?_ | refine r_nopart ?_ | refine r_int ?_ | refine r_sl ?_ | refine r_chain ?_ | refine r_I0 ?_ | refine r_U ?_ | refine r_eqI ?_ | refine r_neI ?_ | refine r_eqS ?_ | refine r_eqB ?_ | refine r_neB ?_ | refine r_int1 ?_ | refine r_abs1 ?_
  | refine iteT ?_ | refine iteF ?_ | refine r_isF rfl ?_ | refine r_isD (by assumption) (by decide) ?_ | refine r_brk ?_ | refine r_ct ?_ | refine r_ltS ?_ | refine r_leS ?_ | refine r_aug rfl ?_ | refine r_lc ?_ | refine r_meth ?_ | refine r_callO ?_ | refine r_make ?_ | refine r_methT ?_ | refine r_callT ?_ | refine r_ixT' ?_ | refine r_mkS ?_ | refine r_pr ?_ | refine r_sfld ?_ | refine r_fld ?_ | refine r_dnew ?_ | refine r_dput ?_ | refine r_dget ?_ | refine r_bm ?_ | refine r_rs ?_ | refine r_notInS ?_ | refine r_inS ?_ | refine r_isN ?_ | refine r_notN ?_ | refine r_for ?_ | refine r_rg1 ?_ | refine r_m1 ?_ | refine r_m0 ?_ | refine r_isS ?_ | refine r_rg2 ?_ | refine r_ipI ?_))
local macro_rules | `(tactic| walk_at "rd") => `(tactic| repeat (first | walk_at "rd1" | ((with_reducible apply r_var); (focus exact rfl)) | (with_reducible refine r_tup ?_) | (with_reducible refine r_lst ?_) | ((with_reducible refine r_ln ?_ ?_); focus (simp; done)) | ((with_reducible refine iteT' ?_ ?_); focus (simp [isB, Dat.ty, tyN]; done)) | ((with_reducible refine iteF' ?_ ?_); focus (simp [isB, Dat.ty, tyN]; done))))
local macro_rules | `(tactic| walk_at "hf") => `(tactic| first
  | assumption
  | exact upd_same
  | (refine keep1 ?_ (by assumption); walk_at "hf")
  | (refine keep2 (by assumption) ?_; walk_at "hf")
  | (refine (show Same _ _ by assumption) _ _ ?_; walk_at "hf")
  | (refine (show But _ _ _ by assumption) _ _ (by assumption) ?_; walk_at "hf"))
local macro_rules | `(tactic| walk_at "rx") => `(tactic| repeat (first | walk_at "rd1" | ((with_reducible apply r_ixL); (focus assumption); (focus exact rfl)) | ((with_reducible apply r_ixT); (focus assumption); (focus exact rfl)) | ((with_reducible apply r_lenL); (focus assumption)) | ((with_reducible apply r_lenT); (focus assumption)) | ((with_reducible apply r_var); (focus exact rfl)) | (with_reducible refine r_tup ?_) | (with_reducible refine r_lst ?_) | ((with_reducible refine r_ln ?_ ?_); focus (simp; done)) | ((with_reducible refine iteT' ?_ ?_); focus (simp [isB, Dat.ty, tyN]; done)) | ((with_reducible refine iteF' ?_ ?_); focus (simp [isB, Dat.ty, tyN]; done))))
local macro_rules | `(tactic| walk_at "rz") => `(tactic| repeat ((fail_if_success (with_reducible show tFor _ _ _ _ _ _)); (first | walk_at "rd1" | ((with_reducible apply r_ixL); (focus assumption); (focus exact rfl)) | ((with_reducible apply r_ixT); (focus assumption); (focus exact rfl)) | ((with_reducible apply r_lenL); (focus assumption)) | ((with_reducible apply r_lenT); (focus assumption)) | ((with_reducible apply r_var); (focus exact rfl)) | (with_reducible refine r_tup ?_) | (with_reducible refine r_lst ?_) | ((with_reducible refine r_ln ?_ ?_); focus (simp; done)) | ((with_reducible refine iteT' ?_ ?_); focus (simp [isB, Dat.ty, tyN]; done)) | ((with_reducible refine iteF' ?_ ?_); focus (simp [isB, Dat.ty, tyN]; done)))))
abbrev r0 : Row := ⟨0, 0, []⟩
def leadAt (H : Hp) (x : V) (r : Row) (sg : List Nat) : Prop := ∃ d kvs, x = .ref d ∧ H d = some (.dK kvs) ∧ ∀ j < sg.length, valV kvs (.inr ⟨#[sg.getD j 0]⟩) = some (.int (r.n.getD j 0))
theorem leadAt.same {H H' : Hp} {x : V} {r : Row} {sg : List Nat} (h : leadAt H x r sg) (s : Same H H') : leadAt H' x r sg := by
  obtain ⟨d, kvs, e, h1, h2⟩ := h
  exact ⟨d, kvs, e, s _ _ h1, h2⟩
theorem leadAt.but {H H' : Hp} {x : V} {r : Row} {sg : List Nat} {D : Addr} {ys : List V} (h : leadAt H x r sg) (s : But D H H') (hd : H D = some (.lst ys)) : leadAt H' x r sg := by
  obtain ⟨d, kvs, e, h1, h2⟩ := h
  exact ⟨d, kvs, e, s _ _ (fun q => by subst q; rw [hd] at h1; cases h1) h1, h2⟩
def sgOf (ws : Str) : List Nat := 46 :: cp ws
/-- a drill of its words and rows -/
structure Drl (C : Addr) (H : Hp) (a : Addr) (ws : Str) (rows : List Row) : Prop where
  h : ∃ (dx ts tr tb tl : Addr) (sg : Str) (xs ls : List V), H a = some (.ins C dx [("words", .str ws), ("standings", .ref ts), ("signs", .str sg), ("strides", .ref tr), ("bodies", .ref tb), ("leads", .ref tl)]) ∧ cp sg = sgOf ws ∧
    H ts = some (.tup xs) ∧ DFs H (rows.map Row.tD) xs [] ∧ H tr = some (.tup (rows.map fun r => V.int r.s)) ∧ H tl = some (.tup ls) ∧ ls.length = rows.length ∧ ∀ j x, ls[j]? = some x → leadAt H x (rows.getD j r0) (sgOf ws)
  w : isWords (.str ws) = true
  l : 1 ≤ rows.length ∧ rows.length ≤ 6
  r : ∀ r ∈ rows, r.Ok (cp ws).length rows.length
theorem rise_lt {cs : List Nat} (h : riseL cs = true) : ∀ i, i + 1 < cs.length → cs.getD i 0 < cs.getD (i + 1) 0 := by
  intro i hi
  simp only [riseL, List.all_map, List.all_eq_true, List.mem_range, Function.comp, id, decide_eq_true_eq] at h
  exact h i (by omega)
theorem rise_mono {cs : List Nat} (h : riseL cs = true) : ∀ j i, i < j → j < cs.length → cs.getD i 0 < cs.getD j 0
  | 0, i, h1, _ => absurd h1 (Nat.not_lt_zero _)
  | j + 1, i, h1, h2 => by
    have := rise_lt h j h2
    rcases Nat.lt_succ_iff_lt_or_eq.mp h1 with e | e
    · exact Nat.lt_trans (rise_mono h j i e (by omega)) this
    · rw [e]; exact this
theorem small_le {cs : List Nat} (h : smallL cs = true) : ∀ i, i < cs.length → 97 ≤ cs.getD i 0 ∧ cs.getD i 0 ≤ 122 := by
  intro i hi
  simp only [smallL, List.all_map, List.all_eq_true, List.mem_range, Function.comp, id, Bool.and_eq_true, decide_eq_true_eq] at h
  exact h i hi
theorem words_inv {ws : Str} (h : isWords (.str ws) = true) : smallL (cp ws) = true ∧ riseL (cp ws) = true ∧ 1 ≤ (cp ws).length ∧ (cp ws).length ≤ 4 := by
  simp only [isWords, Bool.and_eq_true, decide_eq_true_eq] at h
  exact ⟨h.1.1.1, h.1.1.2, h.1.2, h.2⟩
/-- the signs are apart -/
theorem sg_inj {ws : Str} (h : isWords (.str ws) = true) : ∀ i j, i < j → j < (sgOf ws).length → (sgOf ws).getD i 0 ≠ (sgOf ws).getD j 0 := by
  obtain ⟨h1, h2, h3, h4⟩ := words_inv h
  intro i j hij hj
  have hl : (sgOf ws).length = (cp ws).length + 1 := rfl
  cases j with
  | zero => omega
  | succ j =>
    have ej : (sgOf ws).getD (j + 1) 0 = (cp ws).getD j 0 := rfl
    rw [ej]
    cases i with
    | zero =>
      have := small_le h1 j (by omega)
      show (46 : Nat) ≠ _
      omega
    | succ i =>
      have := rise_mono h2 j i (by omega) (by omega)
      show (cp ws).getD i 0 ≠ _
      omega
theorem rows_of {n : Nat} {many : Int} : ∀ {l : List Dat}, (∀ d ∈ l, isSt n many d = true) → ∃ rows : List Row, l = rows.map Row.tD ∧ ∀ r ∈ rows, r.Ok n many
  | [], _ => ⟨[], rfl, fun r h => by cases h⟩
  | d :: l, h => by
    obtain ⟨rows, rfl, hr⟩ := rows_of (l := l) fun d m => h d (List.mem_cons_of_mem _ m)
    obtain ⟨r, rfl, ok⟩ := isSt_inv (h d List.mem_cons_self)
    exact ⟨r :: rows, rfl, fun r' m => by
      rcases List.mem_cons.mp m with e | e
      · rw [e]; exact ok
      · exact hr r' e⟩
/-- what the checks let through -/
theorem badSt_none {n : Nat} {d : Dat} (h : badSt n d = none) : ∃ rows : List Row, d = .tup (rows.map Row.tD) ∧ (1 ≤ rows.length ∧ rows.length ≤ 6) ∧ ∀ r ∈ rows, r.Ok n rows.length := by
  unfold badSt at h
  split at h
  · rename_i l
    by_cases hl : 1 ≤ l.length ∧ l.length ≤ 6
    · rw [if_pos hl] at h
      have h' : (List.range l.length).find? (fun i => badAt n l.length i (l.getD i .non)) = none := by
        cases e : (List.range l.length).find? (fun i => badAt n l.length i (l.getD i .non)) with
        | none => rfl
        | some i => rw [e] at h; cases h
      rw [List.find?_range_eq_none] at h'
      obtain ⟨rows, e, hr⟩ := rows_of (n := n) (many := l.length) (l := l) fun d m => by
        obtain ⟨i, hi, rfl⟩ := List.mem_iff_getElem.mp m
        have := h' i hi
        rw [show l.getD i .non = l[i] by simp [List.getD_eq_getElem?_getD, hi]] at this
        unfold badAt at this
        cases q : isSt n l.length l[i] with
        | true => rfl
        | false => rw [q] at this; simp at this
      have hlen : l.length = rows.length := by rw [e, List.length_map]
      exact ⟨rows, by rw [e], by omega, fun r m => by rw [← hlen]; exact hr r m⟩
    · rw [if_neg hl] at h; cases h
  · cases h
theorem DFs.rows_at {H : Hp} {rows : List Row} {xs : List V} {f : List Addr} (h : DFs H (rows.map Row.tD) xs f) {i : Nat} {x : V} (hx : xs[i]? = some x) : RowT H (rows.getD i r0) x ∧ i < rows.length := by
  have hi : i < rows.length := by
    have := (List.getElem?_eq_some_iff.mp hx).1
    rw [DFs.len h, List.length_map] at this
    exact this
  obtain ⟨x', f', e, h', _⟩ := DFs.get i h (d := (rows.getD i r0).tD) (by rw [List.getElem?_map]; simp [List.getD_eq_getElem?_getD, hi])
  rw [hx] at e
  cases e
  exact ⟨rowT_of h', hi⟩
theorem RowT.butO {H H' : Hp} {x : V} {r : Row} {D : Addr} {o : HO} (h : RowT H r x) (s : But D H H') (hd : H D = some o) (ho : ∀ xs, o ≠ .tup xs) : RowT H' r x := by
  obtain ⟨p, p2, e, h1, h2⟩ := h
  exact ⟨p, p2, e, s _ _ (fun q => by subst q; rw [hd] at h1; cases h1; exact ho _ rfl) h1, s _ _ (fun q => by subst q; rw [hd] at h2; cases h2; exact ho _ rfl) h2⟩
theorem leadAt.butO {H H' : Hp} {x : V} {r : Row} {sg : List Nat} {D : Addr} {o : HO} (h : leadAt H x r sg) (s : But D H H') (hd : H D = some o) (ho : ∀ kvs, o ≠ .dK kvs) : leadAt H' x r sg := by
  obtain ⟨d, kvs, e, h1, h2⟩ := h
  exact ⟨d, kvs, e, s _ _ (fun q => by subst q; rw [hd] at h1; cases h1; exact ho _ rfl) h1, h2⟩
theorem getD_mem {rows : List Row} {i : Nat} (h : i < rows.length) : rows.getD i r0 ∈ rows := by
  rw [List.getD_eq_getElem?_getD]; simp [h]
theorem sfG {R : Hp → Prop} {H : Hp} {a : Addr} {o : HO} (k : ∀ G, But a H G → G a = some o → R G) : R (upd H a o) := k _ (fun b u n e => keep2 n e) upd_same
theorem ne_of_none' {H : Hp} {a b : Addr} {o : HO} (h : H a = some o) (n : H b = none) : b ≠ a := fun e => by subst e; rw [h] at n; cases n
section
variable {P : Program} {w : World} {K : PySem.W.Frag} {mg : Str → Option Value} {base : Heap} (T : Txt K mg)
include T
def sp_init : Sp := fun vs H Q E => ∃ a dx d1 v1 f1 d2 v2 f2, vs = [.ref a, v1, v2] ∧ H a = some (.ins (He.ga K "Drill") dx []) ∧ DF H d1 v1 f1 ∧ DF H d2 v2 f2 ∧ tl1000 d1 ∧ d2.dp ≤ 12 ∧
  (isWords d1 = false → RaisesN K "BadWords" "words" v1 H E) ∧
  ∀ ws, d1 = .str ws → isWords d1 = true → (∀ k, badSt (cp ws).length d2.tupD = some k → RaisesN K "BadStanding" "number" (.int k) H E) ∧
    ∀ rows, d2.tupD = .tup (rows.map Row.tD) → badSt (cp ws).length d2.tupD = none → ∀ H', But a H H' → Drl (He.ga K "Drill") H' a ws rows → Q .non H'
theorem ok_init (C1 : Cal P w K mg base 2 "is_words" sp_words) (C2 : Cal P w K mg base 13 "deep" (fun vs H Q E => sp_deep 13 (vs ++ [.int 12]) H Q E)) (C3 : Cal P w K mg base 3 "bad_standing" sp_badst) (R1 : Rse P w K mg base "BadWords" "words") (R2 : Rse P w K mg base "BadStanding" "number")
    (F : FD K "__init__" "Drill.__init__" s_Drill_Xinit [] (He.fAd K ("Drill", some "__init__"))) : FnT P w K mg base 14 (He.fAd K ("Drill", some "__init__")) (sp_init (K := K)) := by
  refine fnT_of (k := 13) F sc_Drill_Xinit (fun _ _ _ _ _ _ us hl => match us, hl with | [_, _, _], _ => rfl) (fun vs H Q E h => by obtain ⟨a, dx, d1, v1, f1, d2, v2, f2, rfl, _⟩ := h; rfl) fun cdv A outer s H vs Q E hr h => ⟨_, (tm_Drill_Xinit T (C_is_words := C1) (h_is_words := by decide) (C_deep := C2) (h_deep := by decide) (C_bad_standing := C3) (h_bad_standing := by decide) (h2 := by decide) (R_BadWords := R1) (R_BadStanding := R2) (hr := hr)).2, ?_⟩
  obtain ⟨a, dx, d1, v1, f1, d2, v2, f2, rfl, ha, hd1, hd2, h1000, hdp, qw, qs⟩ := h
  unfold tm_Drill_Xinit
  walk_at "rd"
  refine ⟨d1, v1, f1, rfl, hd1, h1000, fun H1 s1 => ?_⟩
  walk_at "rd"
  refine iteBn (fun h => ?_) fun h => ?_
  · walk_at "rd"
    refine ⟨_, rfl, fun dx nx => ?_⟩
    exact qw h dx _ (same_upd s1 nx) (s1.free nx) upd_same
  obtain ⟨ws, rfl⟩ : ∃ ws, d1 = .str ws := by cases d1 <;> first | exact ⟨_, rfl⟩ | cases h
  obtain ⟨qs1, qs2⟩ := qs ws rfl h
  obtain ⟨w1, w2, w3, w4⟩ := words_inv h
  simp only [DF] at hd1
  obtain ⟨rfl, rfl⟩ := hd1
  walk_at "rd"
  refine ⟨d2, v2, f2, 12, rfl, hd2.same s1, by omega, by omega, fun v3 H2 s2 hv3 => ?_⟩
  walk_at "rd"
  refine ⟨ws, d2.tupD, v3, [], rfl, hv3, h1000, fun H3 s3 => ?_⟩
  walk_at "rd"
  have s03 := (s1.trans s2).trans s3
  cases hb : badSt (cp ws).length d2.tupD with
  | some k =>
    walk_at "rd"
    refine iteT' (by simp [optV]) ?_
    walk_at "rd"
    refine ⟨_, rfl, fun dx nx => ?_⟩
    exact qs1 k hb dx _ (same_upd s03 nx) (s03.free nx) upd_same
  | none =>
    obtain ⟨rows, er, hl, hrows⟩ := badSt_none hb
    have fin := qs2 rows er hb
    have hv := hv3.same s3
    rw [er] at hv
    simp only [DF] at hv
    obtain ⟨_, ts, xs, rfl, hts, hxs⟩ := hv
    walk_at "rd"
    refine iteF' (by simp [optV]) ?_
    walk_at "rd"
    have ha3 := s03 _ _ ha
    have tb : ∀ G, But a H3 G → G ts = some (.tup xs) ∧ DFs G (rows.map Row.tD) xs [] := fun G b => ⟨b _ _ (fun q => by subst q; rw [hts] at ha3; cases ha3) hts, DFs.frame (fun c zs e => b _ _ (fun q => by subst q; rw [ha3] at e; cases e) e) (fun c m => by cases m) hxs⟩
    refine ⟨a, _, dx, [], rfl, ha3, T.c_Drill, T.n_Drill_words, by decide, ?_⟩
    refine sfG fun G1 b1 (g1 : G1 a = some (.ins (He.ga K "Drill") dx [("words", .str ws)])) => ?_
    walk_at "rd"
    refine ⟨a, _, dx, _, rfl, g1, T.c_Drill, T.n_Drill_standings, by simp, ?_⟩
    refine sfG fun G2 b2 (g2 : G2 a = some (.ins (He.ga K "Drill") dx [("words", .str ws), ("standings", .ref ts)])) => ?_
    walk_at "rd"
    refine r_addS (by rw [len_cp, len_cp]; show 1 + (cp ws).length ≤ sizeLine; exact s1000 (by omega)) ?_
    obtain ⟨sg, hsg⟩ : ∃ sg : Str, sg = Str.ofString "." ++ ws := ⟨_, rfl⟩
    have csg : cp sg = sgOf ws := by rw [hsg, cp_cat]; rfl
    rw [← hsg]
    walk_at "rd"
    refine ⟨a, _, dx, _, rfl, g2, T.c_Drill, T.n_Drill_signs, by simp, ?_⟩
    refine sfG fun G3 b3 (g3 : G3 a = some (.ins (He.ga K "Drill") dx [("words", .str ws), ("standings", .ref ts), ("signs", .str sg)])) => ?_
    have B3 := (b1.trans b2).trans b3
    walk_at "rd"
    refine r_srcT (fun Q' q => r_var rfl q) (tb _ B3).1 ?_
    intro D1 nD1
    refine lcV (σ' := fun x => [some (.ref a), some (.str ws), some v2, some (.ref ts), some .non, none, some x, none, none]) walk_tup (by rw [hxs.len, List.length_map]; omega) nD1 (fun _ => rfl) (fun _ => rfl) (fun i => .int (rows.getD i r0).s) (fun H s => .inl (.inl (s _ _ (tb _ B3).1))) (fun i x H4 hi hx s4 Qn k => ?_) fun H4 s4 hD1 => ?_
    · obtain ⟨⟨p, p2, rfl, hp, hp2⟩, hi'⟩ := DFs.rows_at (tb _ B3).2 hx
      walk_at "rd"
      refine r_ixT (s4 _ _ hp) rfl ?_
      exact k H4 (Same.refl _)
    rw [hxs.len, List.length_map, range_map rows r0 fun r => V.int r.s] at hD1
    walk_at "rd"
    refine r_tupL hD1 fun tr ntr => ?_
    walk_at "rd"
    have s4' := same_upd s4 ntr (o := .tup (rows.map fun r => V.int r.s))
    refine ⟨a, _, dx, _, rfl, s4' _ _ g3, T.c_Drill, T.n_Drill_strides, by simp, ?_⟩
    refine sfG fun G4 b4 (g4 : G4 a = some (.ins (He.ga K "Drill") dx [("words", .str ws), ("standings", .ref ts), ("signs", .str sg), ("strides", .ref tr)])) => ?_
    have B4 := (B3.trans (But.of s4')).trans b4
    have ntra : tr ≠ a := ne_of_none' (s4 _ _ g3) ntr
    have t4 : G4 tr = some (.tup (rows.map fun r => V.int r.s)) := b4 _ _ ntra upd_same
    walk_at "rd"
    refine r_srcT (fun Q' q => r_var rfl q) (tb _ B4).1 ?_
    intro D2 nD2
    refine lcV (σ' := fun x => [some (.ref a), some (.str ws), some v2, some (.ref ts), some .non, none, some x, none, none]) walk_tup (by rw [hxs.len, List.length_map]; omega) nD2 (fun _ => rfl) (fun _ => rfl) (fun i => .int (rows.getD i r0).b) (fun H s => .inl (.inl (s _ _ (tb _ B4).1))) (fun i x H5 hi hx s5 Qn k => ?_) fun H5 s5 hD2 => ?_
    · obtain ⟨⟨p, p2, rfl, hp, hp2⟩, hi'⟩ := DFs.rows_at (tb _ B4).2 hx
      walk_at "rd"
      refine r_ixT (s5 _ _ hp) rfl ?_
      exact k H5 (Same.refl _)
    walk_at "rd"
    refine r_tupL hD2 fun tb' ntb => ?_
    walk_at "rd"
    have s5' := same_upd s5 ntb (o := .tup ((List.range xs.length).map fun i => V.int (rows.getD i r0).b))
    refine ⟨a, _, dx, _, rfl, s5' _ _ g4, T.c_Drill, T.n_Drill_bodies, by simp, ?_⟩
    refine sfG fun G5 b5 (g5 : G5 a = some (.ins (He.ga K "Drill") dx [("words", .str ws), ("standings", .ref ts), ("signs", .str sg), ("strides", .ref tr), ("bodies", .ref tb')])) => ?_
    have B5 := (B4.trans (But.of s5')).trans b5
    have t5 : G5 tr = some (.tup (rows.map fun r => V.int r.s)) := b5 _ _ ntra (s5' _ _ t4)
    walk_at "rd"
    intro L nL
    have ts5 := (tb _ B5).1
    have s6 := same_new nL (o := .lst [])
    have L6 : upd G5 L (.lst []) L = some (.lst []) := upd_same
    obtain ⟨G6, hG6⟩ : ∃ G, G = upd G5 L (.lst []) := ⟨_, rfl⟩
    rw [← hG6] at s6 L6
    have B6 := B5.trans (But.of s6)
    have tsL : ts ≠ L := fun q => by subst q; rw [nL] at ts5; cases ts5
    have aL : a ≠ L := fun q => by subst q; rw [nL] at g5; cases g5
    have g6 := s6 _ _ g5
    walk_at "rd"
    rw [← hG6]
    refine r_srcT (fun Q' q => r_var rfl q) (s6 _ _ ts5) ?_
    refine forG (W := tNext) (n := xs.length) walk_tup (fun i σ H' => But L G6 H' ∧ ∃ ls, H' L = some (.lst ls) ∧ ls.length = i ∧ (∀ j x, ls[j]? = some x → leadAt H' x (rows.getD j r0) (sgOf ws)) ∧ ∃ x4 x6 x7 x8, σ = [some (.ref a), some (.str ws), some v2, some (.ref ts), x4, some (.ref L), x6, x7, x8])
      ⟨But.refl _ _, [], L6, rfl, fun j x h => by simp at h, _, _, _, _, rfl⟩ (fun i σ H' hF => .inl (.inl (hF.1 _ _ tsL (s6 _ _ ts5)))) (fun i x σ H7 hi hx hF => ?_) fun σ H7 hF => ?_
    · obtain ⟨b7, ls, hL, hll, hld, x4, x6, x7, x8, rfl⟩ := hF
      obtain ⟨hr6, hi'⟩ := DFs.rows_at (tb _ B6).2 hx
      obtain ⟨p, p2, rfl, hp, hp2⟩ := hr6.butO b7 L6 (fun _ => nofun)
      have ok := hrows _ (getD_mem hi')
      generalize hr : rows.getD i r0 = r at *
      walk_at "rd"
      intro d nd
      have s8 := same_new nd (o := .dK [])
      have d8 : upd H7 d (.dK []) d = some (.dK []) := upd_same
      obtain ⟨H8, hH8⟩ : ∃ G, G = upd H7 d (.dK []) := ⟨_, rfl⟩
      rw [← hH8] at s8 d8
      walk_at "rd"
      rw [← hH8]
      have wz := walk_zipG (K := K) (a := .str sg) (b := .tup p2) (xs := signs sg) (ys := r.n.map V.int)
      rw [signs_len, csg, List.length_map, ok.l, show (sgOf ws).length = (cp ws).length + 1 from rfl, Nat.min_self] at wz
      refine r_zipG (a := .str sg) (b := .tup p2) (xs := signs sg) (ys := r.n.map V.int) (H' := H8) (fun Q' q => ?_) rfl (.inl (.inl (s8 _ _ hp2))) ?_
      · walk_at "rd"
        refine ⟨a, _, dx, _, _, rfl, s8 _ _ (b7 _ _ aL g6), T.c_Drill, T.n_Drill_signs, rfl, ?_⟩
        walk_at "rd"
        refine r_ixT (s8 _ _ hp) rfl ?_
        walk_at "rd"
        exact q
      refine forP (n := (cp ws).length + 1) wz (fun i σ H' => But d H8 H' ∧ ∃ kvs, H' d = some (.dK kvs) ∧ kvs.length ≤ i ∧ (∀ j < i, valV kvs (.inr ⟨#[(sgOf ws).getD j 0]⟩) = some (.int (r.n.getD j 0))) ∧ ∃ x4 x8, σ = [some (.ref a), some (.str ws), some v2, some (.ref ts), x4, some (.ref L), some (.ref p), some (.ref d), x8])
        ⟨But.refl _ _, [], d8, Nat.le_refl _, fun j h => absurd h (Nat.not_lt_zero _), _, _, rfl⟩ (fun i σ H' hF => ⟨rfl, .inl (.inl (hF.1 _ _ (ne_of_none' (a := p2) hp2 nd).symm (s8 _ _ hp2)))⟩) (fun i' x y T1 σ H9 H10 hi2 hx2 hy2 hF nT e => ?_) fun σ H9 hF => ?_
      · obtain ⟨b9, kvs, hd9, hkl, hkv, y4, y8, rfl⟩ := hF
        obtain ⟨rfl, _⟩ := signs_at hx2
        rw [csg]
        obtain rfl : y = .int (r.n.getD i' 0) := by
          rw [List.getElem?_map] at hy2
          rw [List.getD_eq_getElem?_getD]
          cases e : r.n[i']? with
          | none => rw [e] at hy2; cases hy2
          | some c => rw [e] at hy2; cases hy2; rfl
        have hd10 : H10 d = some (.dK kvs) := by subst e; exact keep1 hd9 nT
        walk_at "rd"
        refine ⟨d, _, rfl, DPut.k (k := .inr ⟨#[(sgOf ws).getD i' 0]⟩) hd10 (small1000 (by omega)), ?_⟩
        refine ⟨?_, _, upd_same, Nat.le_trans (putK_len _ _ _) (by omega), fun j hj => ?_, _, _, rfl⟩
        · subst e
          exact (b9.new nT).upd
        · rw [valV_put]
          rcases Nat.lt_succ_iff_lt_or_eq.mp hj with h' | h'
          · rw [if_neg (fun q => ?_)]
            · exact hkv j h'
            · have e1 : (⟨#[(sgOf ws).getD j 0]⟩ : Str) = ⟨#[(sgOf ws).getD i' 0]⟩ := Sum.inr.inj q
              have e2 : (sgOf ws).getD j 0 = (sgOf ws).getD i' 0 := by simpa using e1
              exact sg_inj h j i' h' (by show i' < (cp ws).length + 1; omega) e2
          · subst h'; rw [if_pos rfl]
      · obtain ⟨b9, kvs, hd9, hkl, hkv, y4, y8, rfl⟩ := hF
        have dL : L ≠ d := (ne_of_none' hL nd).symm
        have hL9 : H9 L = some (.lst ls) := b9 _ _ dL (s8 _ _ hL)
        walk_at "rd"
        refine tyL hL9 ?_
        walk_at "rd"
        refine r_app hL9 (by omega) ?_
        walk_at "rd"
        refine ⟨?_, _, upd_same, by rw [List.length_append, hll]; rfl, fun j x hx3 => ?_, _, _, _, _, rfl⟩
        · intro b o nb hb
          rw [upd_ne nb]
          have h7 := b7 b o nb hb
          exact b9 _ _ (fun q => by subst q; rw [nd] at h7; cases h7) (s8 _ _ h7)
        · have lf : ∀ {x : V} {r : Row}, leadAt H9 x r (sgOf ws) → leadAt (upd H9 L (.lst (ls ++ [V.ref d]))) x r (sgOf ws) := fun h => h.butO (D := L) (fun b o n e => keep2 n e) hL9 (fun _ => nofun)
          have s79 : Same H7 H9 := fun b o e => b9 _ _ (fun q => by subst q; rw [nd] at e; cases e) (s8 _ _ e)
          by_cases hj : j < ls.length
          · rw [List.getElem?_append_left hj] at hx3
            exact lf ((hld j x hx3).same s79)
          · rw [List.getElem?_append_right (by omega)] at hx3
            have hj0 : j - ls.length = 0 := by
              have := (List.getElem?_eq_some_iff.mp hx3).1
              simp at this
              omega
            rw [hj0] at hx3
            cases hx3
            rw [show j = i by omega, hr]
            exact lf ⟨d, kvs, rfl, hd9, hkv⟩
    · obtain ⟨b7, ls, hL, hll, hld, x4, x6, x7, x8, rfl⟩ := hF
      have g7 := b7 _ _ aL g6
      walk_at "rd"
      refine r_tupL hL fun tl ntl => ?_
      walk_at "rd"
      have s7 := same_new ntl (o := .tup ls)
      refine ⟨a, _, dx, _, rfl, s7 _ _ g7, T.c_Drill, T.n_Drill_leads, by simp, ?_⟩
      refine sfG fun G8 b8 (g8 : G8 a = some (.ins (He.ga K "Drill") dx [("words", .str ws), ("standings", .ref ts), ("signs", .str sg), ("strides", .ref tr), ("bodies", .ref tb'), ("leads", .ref tl)])) => ?_
      have ntla : tl ≠ a := ne_of_none' g7 ntl
      have tl8 : G8 tl = some (.tup ls) := b8 _ _ ntla upd_same
      -- from the heap H3 on, all but a stands
      have nL3 : H3 L = none := by
        cases e : H3 L with
        | none => rfl
        | some o => rw [B5 _ _ aL.symm e] at nL; cases nL
      have B8 : But a H3 G8 := fun b o nb hb => b8 _ _ nb (s7 _ _ (b7 _ _ (fun q => by subst q; rw [nL3] at hb; cases hb) (B6 _ _ nb hb)))
      have trL : tr ≠ L := fun q => by subst q; rw [nL] at t5; cases t5
      refine fin G8 ((But.of s03).trans B8) ⟨⟨dx, ts, tr, tb', tl, sg, xs, ls, g8, csg, (tb _ B8).1, (tb _ B8).2, b8 _ _ ntra (s7 _ _ (b7 _ _ trL (s6 _ _ t5))), tl8, by rw [hll, hxs.len, List.length_map], fun j x hx => ?_⟩, h, hl, hrows⟩
      exact ((hld j x hx).same s7).butO b8 (s7 _ _ g7) (fun _ => nofun)
end
end K
set_option Elab.async false
set_option linter.all false
set_option maxRecDepth 100000
set_option maxHeartbeats 2000000
namespace K
open PySem PySem.Spec PyProof.Rows L2 TH
local macro_rules | `(tactic| walk_at "rd1") => `(tactic| with_reducible (first
  | refine r_seq ?_ | refine r_if ?_ | refine r_ret ?_ | refine r_next ?_ | refine r_asg ?_ | refine r_drop ?_ | refine r_gname ?_ | refine r_retN ?_
  | refine r_var rfl ?_ | refine r_c ?_ | refine r_op ?_ | refine r_un ?_ | refine r_test ?_ | refine r_tB ?_ | refine r_bl ?_ | refine r_and ?_ | refine r_or ?_ | refine r_not ?_
  | refine r_andV ?_ | refine r_orV ?_ | refine r_notV ?_ | refine r_bb ?_ | refine r_ifE ?_ | refine r_gsub ?_ | refine r_nil ?_ | refine r_cons ?_ | refine r_cb ?_ | refine r_cl ?_ | refine r_clS ?_
  | refine r_part ?_ | refine r_nopart ?_ | refine r_int ?_ | refine r_sl ?_ | refine r_chain ?_ | refine r_I0 ?_ | refine r_U ?_ | refine r_eqI ?_ | refine r_neI ?_ | refine r_eqS ?_ | refine r_eqB ?_ | refine r_neB ?_ | refine r_int1 ?_ | refine r_abs1 ?_
  | refine iteT ?_ | refine iteF ?_ | refine r_isF rfl ?_ | refine r_isD (by assumption) (by decide) ?_ | refine r_brk ?_ | refine r_ct ?_ | refine r_ltS ?_ | refine r_leS ?_ | refine r_aug rfl ?_ | refine r_lc ?_ | refine r_meth ?_ | refine r_callO ?_ | refine r_make ?_ | refine r_methT ?_ | refine r_callT ?_ | refine r_ixT' ?_ | refine r_mkS ?_ | refine r_pr ?_ | refine r_sfld ?_ | refine r_fld ?_ | refine r_dnew ?_ | refine r_dput ?_ | refine r_dget ?_ | refine r_bm ?_ | refine r_rs ?_ | refine r_notInS ?_ | refine r_inS ?_ | refine r_isN ?_ | refine r_notN ?_ | refine r_for ?_ | refine r_rg1 ?_ | refine r_m1 ?_ | refine r_m0 ?_ | refine r_isS ?_ | refine r_rg2 ?_ | refine r_ipI ?_))
local macro_rules | `(tactic| walk_at "rd") => `(tactic| repeat (first | walk_at "rd1" | ((with_reducible apply r_var); (focus exact rfl)) | (with_reducible refine r_tup ?_) | (with_reducible refine r_lst ?_) | ((with_reducible refine r_ln ?_ ?_); focus (simp; done)) | ((with_reducible refine iteT' ?_ ?_); focus (simp [isB, Dat.ty, tyN]; done)) | ((with_reducible refine iteF' ?_ ?_); focus (simp [isB, Dat.ty, tyN]; done))))
local macro_rules | `(tactic| walk_at "hf") => `(tactic| first
  | assumption
  | exact upd_same
  | (refine keep1 ?_ (by assumption); walk_at "hf")
  | (refine keep2 (by assumption) ?_; walk_at "hf")
  | (refine (show Same _ _ by assumption) _ _ ?_; walk_at "hf")
  | (refine (show But _ _ _ by assumption) _ _ (by assumption) ?_; walk_at "hf"))
local macro_rules | `(tactic| walk_at "rx") => `(tactic| repeat (first | walk_at "rd1" | ((with_reducible apply r_ixL); (focus assumption); (focus exact rfl)) | ((with_reducible apply r_ixT); (focus assumption); (focus exact rfl)) | ((with_reducible apply r_lenL); (focus assumption)) | ((with_reducible apply r_lenT); (focus assumption)) | ((with_reducible apply r_var); (focus exact rfl)) | (with_reducible refine r_tup ?_) | (with_reducible refine r_lst ?_) | ((with_reducible refine r_ln ?_ ?_); focus (simp; done)) | ((with_reducible refine iteT' ?_ ?_); focus (simp [isB, Dat.ty, tyN]; done)) | ((with_reducible refine iteF' ?_ ?_); focus (simp [isB, Dat.ty, tyN]; done))))
local macro_rules | `(tactic| walk_at "rz") => `(tactic| repeat ((fail_if_success (with_reducible show tFor _ _ _ _ _ _)); (first | walk_at "rd1" | ((with_reducible apply r_ixL); (focus assumption); (focus exact rfl)) | ((with_reducible apply r_ixT); (focus assumption); (focus exact rfl)) | ((with_reducible apply r_lenL); (focus assumption)) | ((with_reducible apply r_lenT); (focus assumption)) | ((with_reducible apply r_var); (focus exact rfl)) | (with_reducible refine r_tup ?_) | (with_reducible refine r_lst ?_) | ((with_reducible refine r_ln ?_ ?_); focus (simp; done)) | ((with_reducible refine iteT' ?_ ?_); focus (simp [isB, Dat.ty, tyN]; done)) | ((with_reducible refine iteF' ?_ ?_); focus (simp [isB, Dat.ty, tyN]; done)))))
theorem DFs.butO {H H' : Hp} {l : List Dat} {xs : List V} {D : Addr} {o : HO} (h : DFs H l xs []) (s : But D H H') (hd : H D = some o) (ho : ∀ xs, o ≠ .tup xs) : DFs H' l xs [] :=
  DFs.frame (fun c zs e => s _ _ (fun q => by subst q; rw [hd] at e; cases e; exact ho _ rfl) e) (fun c m => by cases m) h
theorem Drl.butO {C : Addr} {H H' : Hp} {a : Addr} {ws : Str} {rows : List Row} {D : Addr} {ys : List V} (h : Drl C H a ws rows) (s : But D H H') (hd : H D = some (.lst ys)) : Drl C H' a ws rows := by
  obtain ⟨⟨dx, ts, tr, tb, tl, sg, xs, ls, h1, h2, h3, h4, h5, h6, h7, h8⟩, hw, hl, hr⟩ := h
  have ne : ∀ {b : Addr} {o : HO}, H b = some o → (∀ ys, o ≠ .lst ys) → H' b = some o := fun {b o} e n => s _ _ (fun q => by subst q; rw [hd] at e; cases e; exact n _ rfl) e
  exact ⟨⟨dx, ts, tr, tb, tl, sg, xs, ls, ne h1 (fun _ => nofun), h2, ne h3 (fun _ => nofun), DFs.butO h4 s hd (fun _ => nofun), ne h5 (fun _ => nofun), ne h6 (fun _ => nofun), h7, fun j x hx => (h8 j x hx).butO s hd (fun _ => nofun)⟩, hw, hl, hr⟩
theorem Drl.same {C : Addr} {H H' : Hp} {a : Addr} {ws : Str} {rows : List Row} (h : Drl C H a ws rows) (s : Same H H') : Drl C H' a ws rows := by
  obtain ⟨⟨dx, ts, tr, tb, tl, sg, xs, ls, h1, h2, h3, h4, h5, h6, h7, h8⟩, hw, hl, hr⟩ := h
  exact ⟨⟨dx, ts, tr, tb, tl, sg, xs, ls, s _ _ h1, h2, s _ _ h3, h4.same s, s _ _ h5, s _ _ h6, h7, fun j x hx => (h8 j x hx).same s⟩, hw, hl, hr⟩
/-- one step: the standing, the paces so far -/
def stp (ws : Str) (rows : List Row) (q : Nat × Int) (c : Nat) : Nat × Int :=
  let st := ((rows.getD q.1 r0).n.getD ((sgOf ws).idxOf c) 0).toNat
  (st, q.2 + (rows.getD st r0).s)
theorem stp_lt {ws : Str} {rows : List Row} (hr : ∀ r ∈ rows, r.Ok (cp ws).length rows.length) {q : Nat × Int} {c : Nat} (hq : q.1 < rows.length) (hc : c ∈ sgOf ws) : (stp ws rows q c).1 < rows.length ∧ ((rows.getD q.1 r0).n.getD ((sgOf ws).idxOf c) 0) = (((stp ws rows q c).1 : Nat) : Int) := by
  have ok := hr _ (getD_mem hq)
  have hi : (sgOf ws).idxOf c < (rows.getD q.1 r0).n.length := by rw [ok.l]; exact List.idxOf_lt_length_of_mem hc
  have hm : (rows.getD q.1 r0).n.getD ((sgOf ws).idxOf c) 0 ∈ (rows.getD q.1 r0).n := getD_mem' hi
  obtain ⟨h1, h2⟩ := ok.n _ hm
  simp only [stp]
  omega
theorem steps_lt {ws : Str} {rows : List Row} (hr : ∀ r ∈ rows, r.Ok (cp ws).length rows.length) : ∀ {cs : List Nat} {q : Nat × Int}, q.1 < rows.length → (∀ c ∈ cs, c ∈ sgOf ws) → (cs.foldl (stp ws rows) q).1 < rows.length
  | [], q, h, _ => h
  | c :: cs, q, h, hc => steps_lt hr (cs := cs) (q := stp ws rows q c) (stp_lt hr h (hc c List.mem_cons_self)).1 fun c' m => hc c' (List.mem_cons_of_mem _ m)
theorem foldl_take {α β : Type} (f : β → α → β) (q : β) (l : List α) (d : α) (i : Nat) (h : i < l.length) : (l.take (i + 1)).foldl f q = f ((l.take i).foldl f q) (l.getD i d) := by
  rw [List.take_succ, List.foldl_append, List.getD_eq_getElem?_getD, show l[i]? = some l[i] by simp [h]]
  rfl
theorem badCall_none {sg : List Nat} {d : Dat} (h : badCall sg d = none) : ∃ z, d = .str z ∧ (cp z).length ≤ 400 ∧ ∀ c ∈ cp z, c ∈ sg := by
  unfold badCall at h
  split at h
  · rename_i z
    by_cases hl : 400 < (cp z).length
    · rw [if_pos hl] at h; cases h
    · rw [if_neg hl] at h
      have h' : (List.range (cp z).length).find? (fun i => !decide ((cp z).getD i 0 ∈ sg)) = none := by
        cases e : (List.range (cp z).length).find? (fun i => !decide ((cp z).getD i 0 ∈ sg)) with
        | none => rfl
        | some i => rw [e] at h; cases h
      rw [List.find?_range_eq_none] at h'
      refine ⟨z, rfl, by omega, fun c m => ?_⟩
      obtain ⟨i, hi, rfl⟩ := List.mem_iff_getElem.mp m
      have := h' i hi
      rw [TH.getD_at hi] at this
      simpa using this
  · cases h
section
variable {P : Program} {w : World} {K : PySem.W.Frag} {mg : Str → Option Value} {base : Heap} (T : Txt K mg)
include T
def sp_chk : Sp := fun vs H Q E => ∃ a ws rows d v fp, vs = [.ref a, v] ∧ Drl (He.ga K "Drill") H a ws rows ∧ DF H d v fp ∧ (isIn d 0 (rows.length - 1) = true → ∀ H', Same H H' → Q .non H') ∧ (isIn d 0 (rows.length - 1) = false → RaisesN K "NoStanding" "standing" v H E)
theorem ok_chk (C : Cal P w K mg base 1 "is_integer" sp_isin) (R : Rse P w K mg base "NoStanding" "standing") (F : FD K "check_standing" "Drill.check_standing" s_Drill_check_standing [] (He.fAd K ("Drill", some "check_standing"))) : FnT P w K mg base 3 (He.fAd K ("Drill", some "check_standing")) (sp_chk (K := K)) := by
  refine fnT_of (k := 2) F sc_Drill_check_standing (fun _ _ _ _ _ _ us hl => match us, hl with | [_, _], _ => rfl) (fun vs H Q E h => by obtain ⟨a, ws, rows, d, v, fp, rfl, _⟩ := h; rfl) fun cdv A outer s H vs Q E hr h => ⟨_, (tm_Drill_check_standing T (C_is_integer := C) (h_is_integer := by decide) (h2 := by decide) (R_NoStanding := R) (hr := hr)).2, ?_⟩
  obtain ⟨a, ws, rows, d, v, fp, rfl, hD, hd, q, qe⟩ := h
  have hD0 := hD
  obtain ⟨⟨dx, ts, tr, tb, tl, sg, xs, ls, h1, h2, h3, h4, h5, h6, h7, h8⟩, hw, hl, hr'⟩ := hD
  unfold tm_Drill_check_standing
  walk_at "rd"
  refine ⟨a, _, dx, _, _, rfl, h1, T.c_Drill, T.n_Drill_standings, rfl, ?_⟩
  walk_at "rd"
  refine r_lenT h3 ?_
  rw [h4.len, List.length_map]
  walk_at "rd"
  refine ⟨d, v, fp, 0, _, rfl, hd, ?_⟩
  walk_at "rd"
  refine iteBn (fun h => ?_) fun h => ?_
  · walk_at "rd"
    refine ⟨_, rfl, fun dx nx => ?_⟩
    exact qe h dx _ (same_new nx) nx upd_same
  · walk_at "rd"
    exact q h H (Same.refl _)
/-- what a call or a walk answers -/
def sp_go (f : Nat × Int → Int) : Sp := fun vs H Q E => ∃ a ws rows d v fp dc vc fc, vs = [.ref a, v, vc] ∧ Drl (He.ga K "Drill") H a ws rows ∧ DF H d v fp ∧ DF H dc vc fc ∧ tl1000 dc ∧
  (isIn d 0 (rows.length - 1) = false → RaisesN K "NoStanding" "standing" v H E) ∧
  (isIn d 0 (rows.length - 1) = true → ∀ k, badCall (sgOf ws) dc = some k → RaisesN K "BadCalling" "number" (.int k) H E) ∧
  ∀ (i : Nat) z, d = .int i → i < rows.length → dc = .str z → badCall (sgOf ws) dc = none → ∀ H', Same H H' → Q (.int (f ((cp z).foldl (stp ws rows) (i, 0)))) H'
theorem ok_call (C1 : FnT P w K mg base 3 (He.fAd K ("Drill", some "check_standing")) (sp_chk (K := K))) (C2 : Cal P w K mg base 3 "check_calling" (fun vs H Q E => sp_check (K := K) (vs ++ [.int 400]) H Q E))
    (F : FD K "__call__" "Drill.__call__" s_Drill_Xcall [] (He.fAd K ("Drill", some "__call__"))) : FnT P w K mg base 4 (He.fAd K ("Drill", some "__call__")) (sp_go (K := K) fun q => q.1) := by
  refine fnT_of (k := 3) F sc_Drill_Xcall (fun _ _ _ _ _ _ us hl => match us, hl with | [_, _, _], _ => rfl) (fun vs H Q E h => by obtain ⟨a, ws, rows, d, v, fp, dc, vc, fc, rfl, _⟩ := h; rfl) fun cdv A outer s H vs Q E hr h => ⟨_, (tm_Drill_Xcall T (F_Drill_check_standing := C1) (h_Drill_check_standing := by decide) (C_check_calling := C2) (h_check_calling := by decide) (hr := hr)).2, ?_⟩
  obtain ⟨a, ws, rows, d, v, fp, dc, vc, fc, rfl, hD, hd, hdc, htl, q1, q2, q⟩ := h
  have hD0 := hD
  obtain ⟨⟨dx, ts, tr, tb, tl, sg, xs, ls, h1, h2, h3, h4, h5, h6, h7, h8⟩, hw, hl, hr'⟩ := hD
  unfold tm_Drill_Xcall
  walk_at "rd"
  refine ⟨a, dx, _, rfl, h1, rfl, ?_⟩
  walk_at "rd"
  refine ⟨a, ws, rows, d, v, fp, rfl, hD0, hd, fun hin H1 s1 => ?_, q1⟩
  walk_at "rd"
  refine ⟨a, _, dx, _, _, rfl, s1 _ _ h1, T.c_Drill, T.n_Drill_signs, rfl, ?_⟩
  walk_at "rd"
  refine ⟨sg, dc, vc, fc, rfl, hdc.same s1, htl, fun hb H2 s2 => ?_, fun k hk dx' H' s' n' x' => q2 hin k (by rw [← h2]; exact hk) dx' H' (s1.trans s') (s1.free n') x'⟩
  rw [h2] at hb
  obtain ⟨z, rfl, hz4, hzs⟩ := badCall_none hb
  simp only [DF] at hdc
  obtain ⟨rfl, rfl⟩ := hdc
  obtain ⟨i, rfl, hi⟩ : ∃ i : Nat, d = .int i ∧ i < rows.length := by
    cases d <;> simp [isIn] at hin
    rename_i i
    exact ⟨i.toNat, by rw [Int.toNat_of_nonneg hin.1], by omega⟩
  simp only [DF] at hd
  obtain ⟨rfl, rfl⟩ := hd
  have fin := q i z rfl hi rfl hb
  walk_at "rd"
  refine r_srcS (fun Q' q => r_var rfl q) ?_
  have s12 := s1.trans s2
  refine forG (W := tNext) walk_strS (fun j σ H' => Same H H' ∧ ∃ x3, σ = [some (.ref a), some (.int (((cp z).take j).foldl (stp ws rows) (i, 0)).1), some (.str z), x3]) ⟨s12, none, rfl⟩ (fun _ _ _ _ => trivial) (fun j x σ H3 hj hx hF => ?_) fun σ H3 hF => ?_
  · obtain ⟨s3, x3, rfl⟩ := hF
    obtain ⟨rfl, hj'⟩ := signs_at hx
    rw [signs_len] at hj
    have hc : (cp z).getD j 0 ∈ sgOf ws := hzs _ (getD_mem' hj')
    have hlt := steps_lt hr' (q := (i, 0)) hi (cs := (cp z).take j) fun c m => hzs c (List.mem_of_mem_take m)
    have est := foldl_take (stp ws rows) (i, 0) (cp z) 0 j hj'
    generalize ((cp z).take j).foldl (stp ws rows) (i, 0) = st at *
    obtain ⟨hnx, enx⟩ := stp_lt hr' hlt hc
    have hls : st.1 < ls.length := by omega
    obtain ⟨d', kvs, e1, e2, e3⟩ := h8 st.1 ls[st.1] (by simp [hls])
    have hk := e3 ((sgOf ws).idxOf ((cp z).getD j 0)) (List.idxOf_lt_length_of_mem hc)
    rw [show (sgOf ws).getD ((sgOf ws).idxOf ((cp z).getD j 0)) 0 = (cp z).getD j 0 by rw [TH.getD_at (List.idxOf_lt_length_of_mem hc)]; exact List.getElem_idxOf _, enx] at hk
    walk_at "rd"
    refine ⟨a, _, dx, _, _, rfl, s3 _ _ h1, T.c_Drill, T.n_Drill_leads, rfl, ?_⟩
    walk_at "rd"
    refine r_ixT (s3 _ _ h6) (v := .ref d') (atI_at (by rw [← e1]; simp [hls])) ?_
    walk_at "rd"
    refine ⟨d', .int (((stp ws rows st ((cp z).getD j 0)).1 : Nat) : Int), rfl, ?_, ?_⟩
    · have := DGet.k (k := .inr ⟨#[(cp z).getD j 0]⟩) (s3 _ _ e2)
      rw [hk] at this
      exact this
    walk_at "rd"
    refine ⟨s3, some (.str ⟨#[(cp z).getD j 0]⟩), ?_⟩
    rw [est]
    rfl
  · obtain ⟨s3, x3, rfl⟩ := hF
    rw [signs_len, List.take_length]
    walk_at "rd"
    exact fin H3 s3
theorem ok_walk (C1 : FnT P w K mg base 3 (He.fAd K ("Drill", some "check_standing")) (sp_chk (K := K))) (C2 : Cal P w K mg base 3 "check_calling" (fun vs H Q E => sp_check (K := K) (vs ++ [.int 400]) H Q E))
    (F : FD K "walk" "Drill.walk" s_Drill_walk [] (He.fAd K ("Drill", some "walk"))) : FnT P w K mg base 4 (He.fAd K ("Drill", some "walk")) (sp_go (K := K) fun q => q.2) := by
  refine fnT_of (k := 3) F sc_Drill_walk (fun _ _ _ _ _ _ us hl => match us, hl with | [_, _, _], _ => rfl) (fun vs H Q E h => by obtain ⟨a, ws, rows, d, v, fp, dc, vc, fc, rfl, _⟩ := h; rfl) fun cdv A outer s H vs Q E hr h => ⟨_, (tm_Drill_walk T (F_Drill_check_standing := C1) (h_Drill_check_standing := by decide) (C_check_calling := C2) (h_check_calling := by decide) (hr := hr)).2, ?_⟩
  obtain ⟨a, ws, rows, d, v, fp, dc, vc, fc, rfl, hD, hd, hdc, htl, q1, q2, q⟩ := h
  have hD0 := hD
  obtain ⟨⟨dx, ts, tr, tb, tl, sg, xs, ls, h1, h2, h3, h4, h5, h6, h7, h8⟩, hw, hl, hr'⟩ := hD
  unfold tm_Drill_walk
  walk_at "rd"
  refine ⟨a, dx, _, rfl, h1, rfl, ?_⟩
  walk_at "rd"
  refine ⟨a, ws, rows, d, v, fp, rfl, hD0, hd, fun hin H1 s1 => ?_, q1⟩
  walk_at "rd"
  refine ⟨a, _, dx, _, _, rfl, s1 _ _ h1, T.c_Drill, T.n_Drill_signs, rfl, ?_⟩
  walk_at "rd"
  refine ⟨sg, dc, vc, fc, rfl, hdc.same s1, htl, fun hb H2 s2 => ?_, fun k hk dx' H' s' n' x' => q2 hin k (by rw [← h2]; exact hk) dx' H' (s1.trans s') (s1.free n') x'⟩
  rw [h2] at hb
  obtain ⟨z, rfl, hz4, hzs⟩ := badCall_none hb
  simp only [DF] at hdc
  obtain ⟨rfl, rfl⟩ := hdc
  obtain ⟨i, rfl, hi⟩ : ∃ i : Nat, d = .int i ∧ i < rows.length := by
    cases d <;> simp [isIn] at hin
    rename_i i
    exact ⟨i.toNat, by rw [Int.toNat_of_nonneg hin.1], by omega⟩
  simp only [DF] at hd
  obtain ⟨rfl, rfl⟩ := hd
  have fin := q i z rfl hi rfl hb
  walk_at "rd"
  refine r_srcS (fun Q' q => r_var rfl q) ?_
  have s12 := s1.trans s2
  refine forG (W := tNext) walk_strS (fun j σ H' => Same H H' ∧ ∃ x4, σ = [some (.ref a), some (.int (((cp z).take j).foldl (stp ws rows) (i, 0)).1), some (.str z), some (.int (((cp z).take j).foldl (stp ws rows) (i, 0)).2), x4]) ⟨s12, none, rfl⟩ (fun _ _ _ _ => trivial) (fun j x σ H3 hj hx hF => ?_) fun σ H3 hF => ?_
  · obtain ⟨s3, x3, rfl⟩ := hF
    obtain ⟨rfl, hj'⟩ := signs_at hx
    rw [signs_len] at hj
    have hc : (cp z).getD j 0 ∈ sgOf ws := hzs _ (getD_mem' hj')
    have hlt := steps_lt hr' (q := (i, 0)) hi (cs := (cp z).take j) fun c m => hzs c (List.mem_of_mem_take m)
    have est := foldl_take (stp ws rows) (i, 0) (cp z) 0 j hj'
    generalize ((cp z).take j).foldl (stp ws rows) (i, 0) = st at *
    obtain ⟨hnx, enx⟩ := stp_lt hr' hlt hc
    have hls : st.1 < ls.length := by omega
    obtain ⟨d', kvs, e1, e2, e3⟩ := h8 st.1 ls[st.1] (by simp [hls])
    have hk := e3 ((sgOf ws).idxOf ((cp z).getD j 0)) (List.idxOf_lt_length_of_mem hc)
    rw [show (sgOf ws).getD ((sgOf ws).idxOf ((cp z).getD j 0)) 0 = (cp z).getD j 0 by rw [TH.getD_at (List.idxOf_lt_length_of_mem hc)]; exact List.getElem_idxOf _, enx] at hk
    walk_at "rd"
    refine ⟨a, _, dx, _, _, rfl, s3 _ _ h1, T.c_Drill, T.n_Drill_leads, rfl, ?_⟩
    walk_at "rd"
    refine r_ixT (s3 _ _ h6) (v := .ref d') (atI_at (by rw [← e1]; simp [hls])) ?_
    walk_at "rd"
    refine ⟨d', .int (((stp ws rows st ((cp z).getD j 0)).1 : Nat) : Int), rfl, ?_, ?_⟩
    · have := DGet.k (k := .inr ⟨#[(cp z).getD j 0]⟩) (s3 _ _ e2)
      rw [hk] at this
      exact this
    walk_at "rd"
    refine ⟨a, _, dx, _, _, rfl, s3 _ _ h1, T.c_Drill, T.n_Drill_strides, rfl, ?_⟩
    walk_at "rd"
    refine r_ixT (s3 _ _ h5) (v := .int (rows.getD (stp ws rows st ((cp z).getD j 0)).1 r0).s) (atI_at (by rw [List.getElem?_map, List.getElem?_eq_getElem hnx, TH.getD_at hnx]; rfl)) ?_
    walk_at "rd"
    refine ⟨s3, some (.str ⟨#[(cp z).getD j 0]⟩), ?_⟩
    rw [est]
    rfl
  · obtain ⟨s3, x3, rfl⟩ := hF
    rw [signs_len, List.take_length]
    walk_at "rd"
    exact fin H3 s3
theorem ok_len (F : FD K "__len__" "Drill.__len__" s_Drill_Xlen [] (He.fAd K ("Drill", some "__len__"))) : FnT P w K mg base 1 (He.fAd K ("Drill", some "__len__")) (fun vs H Q E => ∃ a ws rows, vs = [.ref a] ∧ Drl (He.ga K "Drill") H a ws rows ∧ Q (.int rows.length) H) := by
  refine fnT_of (k := 0) F sc_Drill_Xlen (fun _ _ _ _ _ _ us hl => match us, hl with | [_], _ => rfl) (fun vs H Q E h => by obtain ⟨a, ws, rows, rfl, _⟩ := h; rfl) fun cdv A outer s H vs Q E hr h => ⟨_, (tm_Drill_Xlen T (hr := hr)).2, ?_⟩
  obtain ⟨a, ws, rows, rfl, hD, q⟩ := h
  obtain ⟨⟨dx, ts, tr, tb, tl, sg, xs, ls, h1, h2, h3, h4, h5, h6, h7, h8⟩, hw, hl, hr'⟩ := hD
  unfold tm_Drill_Xlen
  walk_at "rd"
  refine ⟨a, _, dx, _, _, rfl, h1, T.c_Drill, T.n_Drill_standings, rfl, ?_⟩
  walk_at "rd"
  refine r_lenT h3 ?_
  rw [h4.len, List.length_map]
  exact q
def sp_get : Sp := fun vs H Q E => ∃ a ws rows d v fp, vs = [.ref a, v] ∧ Drl (He.ga K "Drill") H a ws rows ∧ DF H d v fp ∧ (isIn d 0 (rows.length - 1) = false → RaisesN K "NoStanding" "standing" v H E) ∧ ∀ i : Nat, d = .int i → i < rows.length → ∀ x H', Same H H' → DF H' (rows.getD i r0).tD x [] → Q x H'
omit T in
theorem df_rows {H : Hp} {rows : List Row} {xs : List V} (h : DFs H (rows.map Row.tD) xs []) {i : Nat} (hi : i < rows.length) : ∃ x, xs[i]? = some x ∧ DF H (rows.getD i r0).tD x [] := by
  obtain ⟨x, f, e, h', hf⟩ := DFs.get i h (d := (rows.getD i r0).tD) (by rw [List.getElem?_map, List.getElem?_eq_getElem hi, TH.getD_at hi]; rfl)
  have : f = [] := by cases f with | nil => rfl | cons a f => exact absurd (hf a List.mem_cons_self) (by simp)
  subst this
  exact ⟨x, e, h'⟩
theorem ok_get (C : Cal P w K mg base 1 "is_integer" sp_isin) (R : Rse P w K mg base "NoStanding" "standing") (F : FD K "__getitem__" "Drill.__getitem__" s_Drill_Xgetitem [] (He.fAd K ("Drill", some "__getitem__"))) : FnT P w K mg base 3 (He.fAd K ("Drill", some "__getitem__")) (sp_get (K := K)) := by
  refine fnT_of (k := 2) F sc_Drill_Xgetitem (fun _ _ _ _ _ _ us hl => match us, hl with | [_, _], _ => rfl) (fun vs H Q E h => by obtain ⟨a, ws, rows, d, v, fp, rfl, _⟩ := h; rfl) fun cdv A outer s H vs Q E hr h => ⟨_, (tm_Drill_Xgetitem T (C_is_integer := C) (h_is_integer := by decide) (h2 := by decide) (R_NoStanding := R) (hr := hr)).2, ?_⟩
  obtain ⟨a, ws, rows, d, v, fp, rfl, hD, hd, qe, q⟩ := h
  obtain ⟨⟨dx, ts, tr, tb, tl, sg, xs, ls, h1, h2, h3, h4, h5, h6, h7, h8⟩, hw, hl, hr'⟩ := hD
  unfold tm_Drill_Xgetitem
  walk_at "rd"
  refine ⟨a, _, dx, _, _, rfl, h1, T.c_Drill, T.n_Drill_standings, rfl, ?_⟩
  walk_at "rd"
  refine r_lenT h3 ?_
  rw [h4.len, List.length_map]
  walk_at "rd"
  refine ⟨d, v, fp, 0, _, rfl, hd, ?_⟩
  walk_at "rd"
  refine iteBn (fun h => ?_) fun hin => ?_
  · walk_at "rd"
    refine ⟨_, rfl, fun dx nx => ?_⟩
    exact qe h dx _ (same_new nx) nx upd_same
  · obtain ⟨i, rfl, hi⟩ : ∃ i : Nat, d = .int i ∧ i < rows.length := by
      cases d <;> simp [isIn] at hin
      rename_i i
      exact ⟨i.toNat, by rw [Int.toNat_of_nonneg hin.1], by omega⟩
    simp only [DF] at hd
    obtain ⟨rfl, rfl⟩ := hd
    obtain ⟨x, ex, hx⟩ := df_rows h4 hi
    walk_at "rd"
    refine ⟨a, _, dx, _, _, rfl, h1, T.c_Drill, T.n_Drill_standings, rfl, ?_⟩
    walk_at "rd"
    refine r_ixT h3 (atI_at ex) ?_
    exact q i rfl hi x H (Same.refl _) hx
def steady (rows : List Row) : Bool := ((List.range rows.length).map fun i => decide ((rows.getD i r0).n.getD 0 0 = (i : Int))).all id
theorem ok_steady {f : Addr} (F : FD K "is_steady" "Drill.is_steady" s_Drill_is_steady [] f) : FnT P w K mg base 1 f (fun vs H Q E => ∃ a ws rows, vs = [.ref a] ∧ Drl (He.ga K "Drill") H a ws rows ∧ ∀ H', Same H H' → Q (.bl (steady rows)) H') := by
  refine fnT_of (k := 0) F sc_Drill_is_steady (fun _ _ _ _ _ _ us hl => match us, hl with | [_], _ => rfl) (fun vs H Q E h => by obtain ⟨a, ws, rows, rfl, _⟩ := h; rfl) fun cdv A outer s H vs Q E hr h => ⟨_, (tm_Drill_is_steady T (hr := hr)).2, ?_⟩
  obtain ⟨a, ws, rows, rfl, hD, q⟩ := h
  obtain ⟨⟨dx, ts, tr, tb, tl, sg, xs, ls, h1, h2, h3, h4, h5, h6, h7, h8⟩, hw, hl, hr'⟩ := hD
  unfold tm_Drill_is_steady
  walk_at "rd"
  refine r_enumG (a := .tup ts) (xs := xs) (H' := H) (fun Q' q => ?_) (.inl (.inl h3)) ?_
  · walk_at "rd"
    refine ⟨a, _, dx, _, _, rfl, h1, T.c_Drill, T.n_Drill_standings, rfl, ?_⟩
    walk_at "rd"
    exact q
  intro D nD
  refine lcPB (σ' := fun x y => [some (.ref a), some x, some y]) (n := rows.length) (walk_enumT (by rw [h4.len, List.length_map])) (by omega) nD (fun _ _ => rfl) (fun _ _ => rfl) (fun i => decide ((rows.getD i r0).n.getD 0 0 = (i : Int))) (fun H s => s _ _ h3) (fun i x y H2 hi hx hy s2 Qn k => ?_) fun H2 s2 hD2 => ?_
  · obtain rfl : x = .int (i : Nat) := by cases hx; rfl
    obtain ⟨⟨p, p2, rfl, hp, hp2⟩, hi'⟩ := DFs.rows_at h4 hy
    have ok := hr' _ (getD_mem hi')
    have h0 : 0 < (rows.getD i r0).n.length := by rw [ok.l]; omega
    walk_at "rd"
    refine r_ixT (s2 _ _ hp) rfl ?_
    walk_at "rd"
    refine r_ixT (s2 _ _ hp2) (v := .int ((rows.getD i r0).n.getD 0 0)) (atI_at (i := 0) (by rw [List.getElem?_map, List.getElem?_eq_getElem h0, TH.getD_at h0]; rfl)) ?_
    walk_at "rd"
    exact k H2 (Same.refl _)
  · walk_at "rd"
    refine r_all hD2 ?_
    exact q H2 s2
end
end K
set_option Elab.async false
set_option linter.all false
set_option maxRecDepth 100000
set_option maxHeartbeats 2000000
namespace K
open PySem PySem.Spec PyProof.Rows L2 TH
local macro_rules | `(tactic| walk_at "rd1") => `(tactic| with_reducible (first
  | refine r_seq ?_ | refine r_if ?_ | refine r_ret ?_ | refine r_next ?_ | refine r_asg ?_ | refine r_drop ?_ | refine r_gname ?_ | refine r_retN ?_
  | refine r_var rfl ?_ | refine r_c ?_ | refine r_op ?_ | refine r_un ?_ | refine r_test ?_ | refine r_tB ?_ | refine r_bl ?_ | refine r_and ?_ | refine r_or ?_ | refine r_not ?_
  | refine r_andV ?_ | refine r_orV ?_ | refine r_notV ?_ | refine r_bb ?_ | refine r_ifE ?_ | refine r_gsub ?_ | refine r_nil ?_ | refine r_cons ?_ | refine r_cb ?_ | refine r_cl ?_ | refine r_clS ?_
  | refine r_part ?_ | refine r_nopart ?_ | refine r_int ?_ | refine r_sl ?_ | refine r_chain ?_ | refine r_I0 ?_ | refine r_U ?_ | refine r_eqI ?_ | refine r_neI ?_ | refine r_eqS ?_ | refine r_eqB ?_ | refine r_neB ?_ | refine r_int1 ?_ | refine r_abs1 ?_
  | refine iteT ?_ | refine iteF ?_ | refine r_isF rfl ?_ | refine r_isD (by assumption) (by decide) ?_ | refine r_brk ?_ | refine r_ct ?_ | refine r_ltS ?_ | refine r_leS ?_ | refine r_aug rfl ?_ | refine r_lc ?_ | refine r_meth ?_ | refine r_callO ?_ | refine r_make ?_ | refine r_methT ?_ | refine r_callT ?_ | refine r_ixT' ?_ | refine r_mkS ?_ | refine r_pr ?_ | refine r_sfld ?_ | refine r_fld ?_ | refine r_dnew ?_ | refine r_dput ?_ | refine r_dget ?_ | refine r_bm ?_ | refine r_rs ?_ | refine r_notInS ?_ | refine r_inS ?_ | refine r_isN ?_ | refine r_notN ?_ | refine r_for ?_ | refine r_rg1 ?_ | refine r_m1 ?_ | refine r_m0 ?_ | refine r_isS ?_ | refine r_rg2 ?_ | refine r_ipI ?_))
local macro_rules | `(tactic| walk_at "rd") => `(tactic| repeat (first | walk_at "rd1" | ((with_reducible apply r_var); (focus exact rfl)) | (with_reducible refine r_tup ?_) | (with_reducible refine r_lst ?_) | ((with_reducible refine r_ln ?_ ?_); focus (simp; done)) | ((with_reducible refine iteT' ?_ ?_); focus (simp [isB, Dat.ty, tyN]; done)) | ((with_reducible refine iteF' ?_ ?_); focus (simp [isB, Dat.ty, tyN]; done))))
local macro_rules | `(tactic| walk_at "hf") => `(tactic| first
  | assumption
  | exact upd_same
  | (refine keep1 ?_ (by assumption); walk_at "hf")
  | (refine keep2 (by assumption) ?_; walk_at "hf")
  | (refine (show Same _ _ by assumption) _ _ ?_; walk_at "hf")
  | (refine (show But _ _ _ by assumption) _ _ (by assumption) ?_; walk_at "hf"))
local macro_rules | `(tactic| walk_at "rx") => `(tactic| repeat (first | walk_at "rd1" | ((with_reducible apply r_ixL); (focus assumption); (focus exact rfl)) | ((with_reducible apply r_ixT); (focus assumption); (focus exact rfl)) | ((with_reducible apply r_lenL); (focus assumption)) | ((with_reducible apply r_lenT); (focus assumption)) | ((with_reducible apply r_var); (focus exact rfl)) | (with_reducible refine r_tup ?_) | (with_reducible refine r_lst ?_) | ((with_reducible refine r_ln ?_ ?_); focus (simp; done)) | ((with_reducible refine iteT' ?_ ?_); focus (simp [isB, Dat.ty, tyN]; done)) | ((with_reducible refine iteF' ?_ ?_); focus (simp [isB, Dat.ty, tyN]; done))))
local macro_rules | `(tactic| walk_at "rz") => `(tactic| repeat ((fail_if_success (with_reducible show tFor _ _ _ _ _ _)); (first | walk_at "rd1" | ((with_reducible apply r_ixL); (focus assumption); (focus exact rfl)) | ((with_reducible apply r_ixT); (focus assumption); (focus exact rfl)) | ((with_reducible apply r_lenL); (focus assumption)) | ((with_reducible apply r_lenT); (focus assumption)) | ((with_reducible apply r_var); (focus exact rfl)) | (with_reducible refine r_tup ?_) | (with_reducible refine r_lst ?_) | ((with_reducible refine r_ln ?_ ?_); focus (simp; done)) | ((with_reducible refine iteT' ?_ ?_); focus (simp [isB, Dat.ty, tyN]; done)) | ((with_reducible refine iteF' ?_ ?_); focus (simp [isB, Dat.ty, tyN]; done)))))
instance decRow : DecidableEq Row := fun r q => if h : r.s = q.s ∧ r.b = q.b ∧ r.n = q.n then .isTrue (by cases r; cases q; simp at h; simp [h]) else .isFalse (fun e => h (by subst e; exact ⟨rfl, rfl, rfl⟩))
mutual
def pyOf : Dat → PyData
  | .non => .none | .bl b => .bool b | .int i => .int i | .str z => .str z | .lst l => .list (pysOf l) | .tup l => .tuple (pysOf l)
def pysOf : List Dat → List PyData
  | [] => []
  | d :: l => pyOf d :: pysOf l
end
mutual
theorem dp_of {K : PySem.W.Frag} {H : Hp} : ∀ {d : Dat} {v : V} {fp : List Addr}, DF H d v fp → Dp K H v (pyOf d)
  | .non, v, fp, h => by simp only [DF] at h; rw [h.1]; exact .non
  | .bl b, v, fp, h => by simp only [DF] at h; rw [h.1]; exact .bl b
  | .int i, v, fp, h => by simp only [DF] at h; rw [h.1]; exact .int i
  | .str z, v, fp, h => by simp only [DF] at h; rw [h.1]; exact .str z
  | .lst l, v, fp, h => by
    simp only [DF] at h
    obtain ⟨hl, a, xs, f, rfl, rfl, e, hs⟩ := h
    exact .lst (.inl (.inl e)) (dps_of hs)
  | .tup l, v, fp, h => by
    simp only [DF] at h
    obtain ⟨hl, a, xs, rfl, e, hs⟩ := h
    exact .tup (.inl (.inl e)) (dps_of hs)
theorem dps_of {K : PySem.W.Frag} {H : Hp} : ∀ {l : List Dat} {xs : List V} {fp : List Addr}, DFs H l xs fp → DpAll K H xs (pysOf l)
  | [], xs, fp, h => by simp only [DFs] at h; rw [h.1]; exact .nil
  | d :: l, xs, fp, h => by
    simp only [DFs] at h
    obtain ⟨x, ys, f, g, rfl, rfl, h1, h2⟩ := h
    exact .cons (dp_of h1) (dps_of h2)
end
theorem pys_ints : ∀ l : List Int, pysOf (l.map Dat.int) = l.map PyData.int
  | [] => rfl
  | i :: l => by rw [List.map_cons, pysOf, pys_ints l]; rfl
theorem eqv_ints : ∀ l m : List Int, PyData.eqvAll (l.map PyData.int) (m.map PyData.int) = decide (l = m)
  | [], [] => rfl
  | [], _ :: _ => rfl
  | _ :: _, [] => rfl
  | i :: l, j :: m => by
    rw [List.map_cons, List.map_cons, PyData.eqvAll, eqv_ints l m, PyData.eqv, Bool.eq_iff_iff]
    simp
theorem lay_ints : ∀ l : List Int, PyData.canLayAll0 (l.map PyData.int) = true
  | [] => rfl
  | i :: l => by rw [List.map_cons, PyData.canLayAll0, lay_ints l]; rfl
theorem dep_ints : ∀ l : List Int, PyData.depthAll (l.map PyData.int) = 0
  | [] => rfl
  | i :: l => by rw [List.map_cons, PyData.depthAll, dep_ints l]; rfl
theorem eqv_tD (r q : Row) : PyData.eqv (pyOf r.tD) (pyOf q.tD) = decide (r = q) := by
  simp only [Row.tD, pyOf, pysOf, pys_ints, PyData.eqv, PyData.eqvAll, eqv_ints, Bool.and_true]
  rw [Bool.eq_iff_iff]
  cases r
  cases q
  simp
theorem eqv_lD (r q : Row) : PyData.eqv (pyOf r.lD) (pyOf q.lD) = decide (r = q) := by
  simp only [Row.lD, pyOf, pysOf, pys_ints, PyData.eqv, PyData.eqvAll, eqv_ints, Bool.and_true]
  rw [Bool.eq_iff_iff]
  cases r
  cases q
  simp
theorem eqv_tDs : ∀ l m : List Row, PyData.eqvAll (pysOf (l.map Row.tD)) (pysOf (m.map Row.tD)) = decide (l = m)
  | [], [] => rfl
  | [], _ :: _ => rfl
  | _ :: _, [] => rfl
  | r :: l, q :: m => by
    rw [List.map_cons, List.map_cons, pysOf, pysOf, PyData.eqvAll, eqv_tDs l m, eqv_tD, Bool.eq_iff_iff]
    simp
theorem eqv_lDs : ∀ l m : List Row, PyData.eqvAll (pysOf (l.map Row.lD)) (pysOf (m.map Row.lD)) = decide (l = m)
  | [], [] => rfl
  | [], _ :: _ => rfl
  | _ :: _, [] => rfl
  | r :: l, q :: m => by
    rw [List.map_cons, List.map_cons, pysOf, pysOf, PyData.eqvAll, eqv_lDs l m, eqv_lD, Bool.eq_iff_iff]
    simp
theorem lay_tDs : ∀ l : List Row, PyData.canLayAll0 (pysOf (l.map Row.tD)) = true
  | [] => rfl
  | r :: l => by
    rw [List.map_cons, pysOf, PyData.canLayAll0, lay_tDs l, Bool.and_true]
    simp only [Row.tD, pyOf, pysOf, pys_ints, PyData.canLay0, PyData.canLayAll0, lay_ints, Bool.and_true]
theorem lay_lDs : ∀ l : List Row, PyData.canLayAll0 (pysOf (l.map Row.lD)) = true
  | [] => rfl
  | r :: l => by
    rw [List.map_cons, pysOf, PyData.canLayAll0, lay_lDs l, Bool.and_true]
    simp only [Row.lD, pyOf, pysOf, pys_ints, PyData.canLay0, PyData.canLayAll0, lay_ints, Bool.and_true]
theorem dep_tDs : ∀ l : List Row, PyData.depthAll (pysOf (l.map Row.tD)) ≤ 2
  | [] => by simp [pysOf, PyData.depthAll]
  | r :: l => by
    rw [List.map_cons, pysOf, PyData.depthAll]
    refine Nat.max_le.mpr ⟨?_, dep_tDs l⟩
    simp [Row.tD, pyOf, pysOf, pys_ints, PyData.depth, PyData.depthAll, dep_ints]
theorem dep_lDs : ∀ l : List Row, PyData.depthAll (pysOf (l.map Row.lD)) ≤ 2
  | [] => by simp [pysOf, PyData.depthAll]
  | r :: l => by
    rw [List.map_cons, pysOf, PyData.depthAll]
    refine Nat.max_le.mpr ⟨?_, dep_lDs l⟩
    simp [Row.lD, pyOf, pysOf, pys_ints, PyData.depth, PyData.depthAll, dep_ints]
theorem shaped_rows (l : List Row) : SeqAt.shaped (.tuple (pysOf (l.map Row.tD))) = true := by
  unfold SeqAt.shaped
  rw [PyData.canLay0, lay_tDs, PyData.depth]
  have := dep_tDs l
  simp
  omega
section
variable {P : Program} {w : World} {K : PySem.W.Frag} {mg : Str → Option Value} {base : Heap} (T : Txt K mg)
include T
def sp_eq : Sp := fun vs H Q E => ∃ a ws rows v, vs = [.ref a, v] ∧ Drl (He.ga K "Drill") H a ws rows ∧
  ((tyN H v ≠ "" ∧ Q (.bl false) H) ∨ ∃ b ws2 rows2, v = .ref b ∧ Drl (He.ga K "Drill") H b ws2 rows2 ∧ Q (.bl (decide (ws = ws2) && decide (rows = rows2))) H)
theorem ok_eq (F : FD K "__eq__" "Drill.__eq__" s_Drill_Xeq [] (He.fAd K ("Drill", some "__eq__"))) : FnT P w K mg base 1 (He.fAd K ("Drill", some "__eq__")) (sp_eq (K := K)) := by
  refine fnT_of (k := 0) F sc_Drill_Xeq (fun _ _ _ _ _ _ us hl => match us, hl with | [_, _], _ => rfl) (fun vs H Q E h => by obtain ⟨a, ws, rows, v, rfl, _⟩ := h; rfl) fun cdv A outer s H vs Q E hr h => ⟨_, (tm_Drill_Xeq T (hr := hr)).2, ?_⟩
  obtain ⟨a, ws, rows, v, rfl, hD, h⟩ := h
  obtain ⟨⟨dx, ts, tr, tb, tl, sg, xs, ls, h1, h2, h3, h4, h5, h6, h7, h8⟩, hw, hl, hr'⟩ := hD
  unfold tm_Drill_Xeq
  walk_at "rd"
  rcases h with ⟨hn, q⟩ | ⟨b, ws2, rows2, rfl, hD2, q⟩
  · refine ⟨v, rfl, .inl ⟨hn, ?_⟩⟩
    walk_at "rd"
    exact q
  · obtain ⟨⟨dx', ts', tr', tb', tl', sg', xs', ls', h1', h2', h3', h4', h5', h6', h7', h8'⟩, hw', hl', hr''⟩ := hD2
    refine ⟨_, rfl, .inr ⟨b, dx', _, rfl, h1', ?_⟩⟩
    walk_at "rd"
    refine ⟨a, _, dx, _, _, rfl, h1, T.c_Drill, T.n_Drill_words, rfl, ?_⟩
    walk_at "rd"
    refine ⟨b, _, dx', _, _, rfl, h1', T.c_Drill, T.n_Drill_words, rfl, ?_⟩
    walk_at "rd"
    refine iteD (fun e => ?_) fun e => ?_
    · walk_at "rd"
      refine ⟨a, _, dx, _, _, rfl, h1, T.c_Drill, T.n_Drill_standings, rfl, ?_⟩
      walk_at "rd"
      refine ⟨b, _, dx', _, _, rfl, h1', T.c_Drill, T.n_Drill_standings, rfl, ?_⟩
      walk_at "rd"
      refine ⟨_, _, .tup (.inl (.inl h3)) (dps_of h4), .tup (.inl (.inl h3')) (dps_of h4'), shaped_rows _, shaped_rows _, ?_⟩
      rw [PyData.eqv, eqv_tDs]
      rw [decide_eq_true e, Bool.true_and] at q
      exact q
    · rw [decide_eq_false e, Bool.false_and] at q
      exact q
end
end K
set_option Elab.async false
set_option linter.all false
set_option maxRecDepth 100000
set_option maxHeartbeats 2000000
namespace K
open PySem PySem.Spec PyProof.Rows L2 TH
local macro_rules | `(tactic| walk_at "rd1") => `(tactic| with_reducible (first
  | refine r_seq ?_ | refine r_if ?_ | refine r_ret ?_ | refine r_next ?_ | refine r_asg ?_ | refine r_drop ?_ | refine r_gname ?_ | refine r_retN ?_
  | refine r_var rfl ?_ | refine r_c ?_ | refine r_op ?_ | refine r_un ?_ | refine r_test ?_ | refine r_tB ?_ | refine r_bl ?_ | refine r_and ?_ | refine r_or ?_ | refine r_not ?_
  | refine r_andV ?_ | refine r_orV ?_ | refine r_notV ?_ | refine r_bb ?_ | refine r_ifE ?_ | refine r_gsub ?_ | refine r_nil ?_ | refine r_cons ?_ | refine r_cb ?_ | refine r_cl ?_ | refine r_clS ?_
  | refine r_part ?_ | refine r_nopart ?_ | refine r_int ?_ | refine r_sl ?_ | refine r_chain ?_ | refine r_I0 ?_ | refine r_U ?_ | refine r_eqI ?_ | refine r_neI ?_ | refine r_eqS ?_ | refine r_eqB ?_ | refine r_neB ?_ | refine r_int1 ?_ | refine r_abs1 ?_
  | refine iteT ?_ | refine iteF ?_ | refine r_isF rfl ?_ | refine r_isD (by assumption) (by decide) ?_ | refine r_brk ?_ | refine r_ct ?_ | refine r_ltS ?_ | refine r_leS ?_ | refine r_aug rfl ?_ | refine r_lc ?_ | refine r_meth ?_ | refine r_callO ?_ | refine r_make ?_ | refine r_methT ?_ | refine r_callT ?_ | refine r_ixT' ?_ | refine r_mkS ?_ | refine r_pr ?_ | refine r_sfld ?_ | refine r_fld ?_ | refine r_dnew ?_ | refine r_dput ?_ | refine r_dget ?_ | refine r_bm ?_ | refine r_rs ?_ | refine r_notInS ?_ | refine r_inS ?_ | refine r_isN ?_ | refine r_notN ?_ | refine r_for ?_ | refine r_rg1 ?_ | refine r_m1 ?_ | refine r_m0 ?_ | refine r_isS ?_ | refine r_rg2 ?_ | refine r_ipI ?_))
local macro_rules | `(tactic| walk_at "rd") => `(tactic| repeat (first | walk_at "rd1" | ((with_reducible apply r_var); (focus exact rfl)) | (with_reducible refine r_tup ?_) | (with_reducible refine r_lst ?_) | ((with_reducible refine r_ln ?_ ?_); focus (simp; done)) | ((with_reducible refine iteT' ?_ ?_); focus (simp [isB, Dat.ty, tyN]; done)) | ((with_reducible refine iteF' ?_ ?_); focus (simp [isB, Dat.ty, tyN]; done))))
local macro_rules | `(tactic| walk_at "hf") => `(tactic| first
  | assumption
  | exact upd_same
  | (refine keep1 ?_ (by assumption); walk_at "hf")
  | (refine keep2 (by assumption) ?_; walk_at "hf")
  | (refine (show Same _ _ by assumption) _ _ ?_; walk_at "hf")
  | (refine (show But _ _ _ by assumption) _ _ (by assumption) ?_; walk_at "hf"))
local macro_rules | `(tactic| walk_at "rx") => `(tactic| repeat (first | walk_at "rd1" | ((with_reducible apply r_ixL); (focus assumption); (focus exact rfl)) | ((with_reducible apply r_ixT); (focus assumption); (focus exact rfl)) | ((with_reducible apply r_lenL); (focus assumption)) | ((with_reducible apply r_lenT); (focus assumption)) | ((with_reducible apply r_var); (focus exact rfl)) | (with_reducible refine r_tup ?_) | (with_reducible refine r_lst ?_) | ((with_reducible refine r_ln ?_ ?_); focus (simp; done)) | ((with_reducible refine iteT' ?_ ?_); focus (simp [isB, Dat.ty, tyN]; done)) | ((with_reducible refine iteF' ?_ ?_); focus (simp [isB, Dat.ty, tyN]; done))))
local macro_rules | `(tactic| walk_at "rz") => `(tactic| repeat ((fail_if_success (with_reducible show tFor _ _ _ _ _ _)); (first | walk_at "rd1" | ((with_reducible apply r_ixL); (focus assumption); (focus exact rfl)) | ((with_reducible apply r_ixT); (focus assumption); (focus exact rfl)) | ((with_reducible apply r_lenL); (focus assumption)) | ((with_reducible apply r_lenT); (focus assumption)) | ((with_reducible apply r_var); (focus exact rfl)) | (with_reducible refine r_tup ?_) | (with_reducible refine r_lst ?_) | ((with_reducible refine r_ln ?_ ?_); focus (simp; done)) | ((with_reducible refine iteT' ?_ ?_); focus (simp [isB, Dat.ty, tyN]; done)) | ((with_reducible refine iteF' ?_ ?_); focus (simp [isB, Dat.ty, tyN]; done)))))
section
variable {P : Program} {w : World} {K : PySem.W.Frag} {mg : Str → Option Value} {base : Heap} (T : Txt K mg)
include T
def sp_mix : Sp := fun vs H Q _ => ∃ a b : Int, vs = [.int a, .int b] ∧ a.natAbs.log2 < 2 ^ 22 ∧ b.natAbs < 2 ^ 100 ∧ ∀ r : Int, 0 ≤ r → Q (.int r) H
theorem ok_mix (F : FD K "_law_mix" "_law_mix" s_l_mix [] (He.ga K "_law_mix")) : FnT P w K mg base 1 (He.ga K "_law_mix") sp_mix := by
  refine fnT_of (k := 0) F sc_l_mix (fun _ _ _ _ _ _ us hl => match us, hl with | [_, _], _ => rfl) (fun vs H Q E h => by obtain ⟨a, b, rfl, _⟩ := h; rfl) fun cdv A outer s H vs Q E hr h => ⟨_, (tm_l_mix T (hr := hr)).2, ?_⟩
  obtain ⟨a, b, rfl, ha, hb, q⟩ := h
  unfold tm_l_mix
  walk_at "rd"
  refine r_I (cmulW ha (by omega)) ?_
  walk_at "rd"
  refine r_I (cmul (by omega) (by omega)) ?_
  walk_at "rd"
  refine r_I (by omega) ?_
  have h1 := Int.emod_nonneg (a * 48271 + b * 69621 + 12345) (show (2147483647 : Int) ≠ 0 by decide)
  have h2 := Int.emod_lt_of_pos (a * 48271 + b * 69621 + 12345) (show (0 : Int) < 2147483647 by decide)
  generalize (a * 48271 + b * 69621 + 12345) % 2147483647 = o at *
  walk_at "rd"
  refine r_I (cmul (by omega) (by omega)) ?_
  walk_at "rd"
  refine r_I (cmul (by omega) (by omega)) ?_
  walk_at "rd"
  refine r_I (by omega) ?_
  have h3 := Int.emod_nonneg (o * o + b * 7919 + a) (show (998244353 : Int) ≠ 0 by decide)
  have h4 := Int.emod_lt_of_pos (o * o + b * 7919 + a) (show (0 : Int) < 998244353 by decide)
  generalize (o * o + b * 7919 + a) % 998244353 = t at *
  walk_at "rd"
  refine r_I (cmul (by omega) (by omega)) ?_
  walk_at "rd"
  refine r_I (by omega) ?_
  have h5 := Int.emod_nonneg (t * t + o) (show (1000000007 : Int) ≠ 0 by decide)
  generalize (t * t + o) % 1000000007 = r at *
  walk_at "rd"
  refine r_I ⟨by omega, by omega⟩ ?_
  exact q _ (by omega)
end
end K
set_option Elab.async false
set_option linter.all false
set_option maxRecDepth 100000
set_option maxHeartbeats 2000000
namespace K
open PySem PySem.Spec PyProof.Rows L2 TH
local macro_rules | `(tactic| walk_at "rd1") => `(tactic| with_reducible (first
  | refine r_seq ?_ | refine r_if ?_ | refine r_ret ?_ | refine r_next ?_ | refine r_asg ?_ | refine r_drop ?_ | refine r_gname ?_ | refine r_retN ?_
  | refine r_var rfl ?_ | refine r_c ?_ | refine r_op ?_ | refine r_un ?_ | refine r_test ?_ | refine r_tB ?_ | refine r_bl ?_ | refine r_and ?_ | refine r_or ?_ | refine r_not ?_
  | refine r_andV ?_ | refine r_orV ?_ | refine r_notV ?_ | refine r_bb ?_ | refine r_ifE ?_ | refine r_gsub ?_ | refine r_nil ?_ | refine r_cons ?_ | refine r_cb ?_ | refine r_cl ?_ | refine r_clS ?_
  | refine r_part ?_ | refine r_nopart ?_ | refine r_int ?_ | refine r_sl ?_ | refine r_chain ?_ | refine r_I0 ?_ | refine r_U ?_ | refine r_eqI ?_ | refine r_neI ?_ | refine r_eqS ?_ | refine r_eqB ?_ | refine r_neB ?_ | refine r_int1 ?_ | refine r_abs1 ?_
  | refine iteT ?_ | refine iteF ?_ | refine r_isF rfl ?_ | refine r_isD (by assumption) (by decide) ?_ | refine r_brk ?_ | refine r_ct ?_ | refine r_ltS ?_ | refine r_leS ?_ | refine r_aug rfl ?_ | refine r_lc ?_ | refine r_meth ?_ | refine r_callO ?_ | refine r_make ?_ | refine r_methT ?_ | refine r_callT ?_ | refine r_ixT' ?_ | refine r_mkS ?_ | refine r_pr ?_ | refine r_sfld ?_ | refine r_fld ?_ | refine r_dnew ?_ | refine r_dput ?_ | refine r_dget ?_ | refine r_bm ?_ | refine r_rs ?_ | refine r_notInS ?_ | refine r_inS ?_ | refine r_isN ?_ | refine r_notN ?_ | refine r_for ?_ | refine r_rg1 ?_ | refine r_m1 ?_ | refine r_m0 ?_ | refine r_isS ?_ | refine r_rg2 ?_ | refine r_ipI ?_))
local macro_rules | `(tactic| walk_at "rd") => `(tactic| repeat (first | walk_at "rd1" | ((with_reducible apply r_var); (focus exact rfl)) | (with_reducible refine r_tup ?_) | (with_reducible refine r_lst ?_) | ((with_reducible refine r_ln ?_ ?_); focus (simp; done)) | ((with_reducible refine iteT' ?_ ?_); focus (simp [isB, Dat.ty, tyN]; done)) | ((with_reducible refine iteF' ?_ ?_); focus (simp [isB, Dat.ty, tyN]; done))))
local macro_rules | `(tactic| walk_at "hf") => `(tactic| first
  | assumption
  | exact upd_same
  | (refine keep1 ?_ (by assumption); walk_at "hf")
  | (refine keep2 (by assumption) ?_; walk_at "hf")
  | (refine (show Same _ _ by assumption) _ _ ?_; walk_at "hf")
  | (refine (show But _ _ _ by assumption) _ _ (by assumption) ?_; walk_at "hf"))
local macro_rules | `(tactic| walk_at "rx") => `(tactic| repeat (first | walk_at "rd1" | ((with_reducible apply r_ixL); (focus assumption); (focus exact rfl)) | ((with_reducible apply r_ixT); (focus assumption); (focus exact rfl)) | ((with_reducible apply r_lenL); (focus assumption)) | ((with_reducible apply r_lenT); (focus assumption)) | ((with_reducible apply r_var); (focus exact rfl)) | (with_reducible refine r_tup ?_) | (with_reducible refine r_lst ?_) | ((with_reducible refine r_ln ?_ ?_); focus (simp; done)) | ((with_reducible refine iteT' ?_ ?_); focus (simp [isB, Dat.ty, tyN]; done)) | ((with_reducible refine iteF' ?_ ?_); focus (simp [isB, Dat.ty, tyN]; done))))
local macro_rules | `(tactic| walk_at "rz") => `(tactic| repeat ((fail_if_success (with_reducible show tFor _ _ _ _ _ _)); (first | walk_at "rd1" | ((with_reducible apply r_ixL); (focus assumption); (focus exact rfl)) | ((with_reducible apply r_ixT); (focus assumption); (focus exact rfl)) | ((with_reducible apply r_lenL); (focus assumption)) | ((with_reducible apply r_lenT); (focus assumption)) | ((with_reducible apply r_var); (focus exact rfl)) | (with_reducible refine r_tup ?_) | (with_reducible refine r_lst ?_) | ((with_reducible refine r_ln ?_ ?_); focus (simp; done)) | ((with_reducible refine iteT' ?_ ?_); focus (simp [isB, Dat.ty, tyN]; done)) | ((with_reducible refine iteF' ?_ ?_); focus (simp [isB, Dat.ty, tyN]; done)))))
theorem emod_le {x m : Int} (h : 0 ≤ x) (hm : 0 < m) : x % m ≤ x := by
  rw [Int.emod_def]
  have := Int.mul_nonneg (Int.le_of_lt hm) (Int.ediv_nonneg h (Int.le_of_lt hm))
  omega
theorem log_smallN {i j : Int} {n : Nat} (h : i.natAbs.log2 < n) (hn : 20 ≤ n) (h2 : j.natAbs < 2 ^ 20) : (i + j).natAbs.log2 < n + 1 :=
  log_add h (Nat.lt_of_lt_of_le h2 (Nat.pow_le_pow_right (by decide) hn))
theorem log_small {i j : Int} (h : i.natAbs.log2 < 2 ^ 21) (h2 : j.natAbs < 2 ^ 20) : (i + j).natAbs.log2 < 2 ^ 22 :=
  Nat.lt_of_lt_of_le (log_smallN h (by decide) h2) (by decide)
theorem r_orAny {σ : L2.St} {H : Hp} {R : Bool → Hp → Prop} {tt tu : TT} (h1 : ∀ R' : Bool → Hp → Prop, (∀ c, R' c H) → tt σ H R') (h2 : ∀ R' : Bool → Hp → Prop, (∀ c, R' c H) → tu σ H R') (k : ∀ c, R c H) : tOr tt tu σ H R := h1 _ fun c => by
  cases c with
  | true => exact iteT (k true)
  | false => exact iteF (h2 _ k)
section
variable {P : Program} {w : World} {K : PySem.W.Frag} {mg : Str → Option Value} {base : Heap} (T : Txt K mg)
include T
def sp_pick : Sp := fun vs H Q _ => ∃ cl N dr, ∃ n : Int, vs = [.ref dr, .int n] ∧ Dr cl (N + 1) H dr ∧ n < 2 ^ 30 ∧ ∀ i H', Dr cl N H' dr → But dr H H' → 0 ≤ i → (1 ≤ n → i < n) → Q (.int i) H'
theorem ok_pick (C : Cal P w K mg base 1 "_law_mix" sp_mix) (F : FD K "_law_pick" "_law_pick" s_l_pick [] (He.ga K "_law_pick")) : FnT P w K mg base 2 (He.ga K "_law_pick") sp_pick := by
  refine fnT_of (k := 1) F sc_l_pick (fun _ _ _ _ _ _ us hl => match us, hl with | [_, _], _ => rfl) (fun vs H Q E h => by obtain ⟨cl, N, dr, n, rfl, _⟩ := h; rfl) fun cdv A outer s H vs Q E hr h => ⟨_, (tm_l_pick T (C_l_mix := C) (h_l_mix := by decide) (hr := hr)).2, ?_⟩
  obtain ⟨cl, N, dr, n, rfl, hdr, hn, q⟩ := h
  unfold tm_l_pick
  walk_at "rd"
  refine iteD (fun h2 => ?_) fun h2 => ?_
  · walk_at "rd"
    exact q 0 H (hdr.le (by omega)) (But.refl _ _) (by omega) (by omega)
  have hn2 : 2 ≤ n := by omega
  clear h2
  obtain ⟨zs, a, b, c, e, g, hS, hzl, hz, ha, hb, hc, he, hg⟩ := hdr
  obtain ⟨hd, hl, ne⟩ := hS
  refine r_next ?_
  walk_at "rd1"
  refine r_cut (fun σ H' => But dr H H' ∧ ∃ a b x2, DrS H' dr cl zs a b c e g ∧ (0 ≤ a ∧ a ≤ 63) ∧ 0 ≤ b ∧ σ = [some (.ref dr), some (.int n), x2, none, none]) (fun R hR => ?_) fun σ H' hF => ?_
  · have out0 : ∀ x2, R [some (.ref dr), some (.int n), x2, none, none] H := fun x2 => hR _ _ ⟨But.refl _ _, a, b, x2, ⟨hd, hl, ne⟩, ha, hb, rfl⟩
    walk_at "rx"
    refine iteD (fun e1 => ?_) fun e1 => ?_
    · walk_at "rx"
      rw [List.length_map]
      refine iteD (fun e2 => ?_) fun e2 => ?_
      · walk_at "rx"
        refine iteD (fun e3 => ?_) fun e3 => ?_
        · walk_at "rx"
          obtain ⟨k, rfl⟩ : ∃ k : Nat, a = k := ⟨a.toNat, by omega⟩
          have hk : k < zs.length := by omega
          refine r_ixL hl (v := .int zs[k]) (atI_at (by rw [List.getElem?_map, List.getElem?_eq_getElem hk]; rfl)) ?_
          have hzk := hz _ (List.getElem_mem hk)
          generalize zs[k] = zc at *
          walk_at "rd1"
          walk_at "rd1"
          refine r_orAny (fun R' k' => ?_) (fun R' k' => ?_) fun t => ?_
          · walk_at "rx"
            refine r_I ⟨by decide, by decide, by decide⟩ ?_
            walk_at "rx"
            exact k' _
          · walk_at "rx"
            refine r_I ⟨by decide, by decide, by decide⟩ ?_
            walk_at "rx"
            exact k' _
          cases t with
          | false =>
            walk_at "rx"
            exact out0 _
          | true =>
            walk_at "rx"
            refine r_I ⟨by decide, by decide, by decide⟩ ?_
            walk_at "rx"
            refine r_I ⟨by decide, by decide⟩ ?_
            walk_at "rx"
            have hm : (0 : Int) < (10 ^ Int.toNat 60) ^ Int.toNat 64 := Int.pow_pos (Int.pow_pos (by decide))
            refine r_I hm ?_
            have hx0 : (0 : Int) ≤ (if zc < 0 then -zc else zc) := by split <;> omega
            have hb1 := Int.emod_nonneg (if zc < 0 then -zc else zc) (Int.ne_of_gt hm)
            generalize ((if zc < 0 then -zc else zc) % ((10 : Int) ^ Int.toNat 60) ^ Int.toNat 64) = b1 at *
            walk_at "rx"
            refine r_setL hd rfl ?_
            refine sfH fun G1 B1 (g1 : G1 dr = some (.lst [.ref cl, .int k, .int b1, .int c, .int e, .int g])) => ?_
            have l1 := B1 _ _ ne hl
            walk_at "rx"
            refine r_setL g1 rfl ?_
            refine sfH fun G2 B2 (g2 : G2 dr = some (.lst [.ref cl, .int (k + 1), .int b1, .int c, .int e, .int g])) => ?_
            exact hR _ _ ⟨B1.trans B2, k + 1, b1, _, ⟨g2, B2 _ _ ne l1, ne⟩, by omega, by omega, rfl⟩
        · walk_at "rx"
          exact out0 none
      · walk_at "rx"
        exact out0 none
    · walk_at "rx"
      exact out0 none
  · obtain ⟨B0, a, b, x2, ⟨hd, hl, _⟩, ha, hb, rfl⟩ := hF
    walk_at "rx"
    refine iteD (fun h1 => ?_) fun h1 => ?_
    · walk_at "rx"
      refine r_I (by omega) ?_
      have i1 := Int.emod_nonneg b (show n ≠ 0 by omega)
      have i2 := Int.emod_lt_of_pos b (show 0 < n by omega)
      have i3 := Int.ediv_nonneg hb (show 0 ≤ n by omega)
      have i4 := Int.ediv_le_self n hb
      walk_at "rx"
      refine r_I ⟨by omega, by omega⟩ ?_
      walk_at "rx"
      refine r_setL hd rfl ?_
      refine sfH fun G1 B1 (g1 : G1 dr = some (.lst [.ref cl, .int a, .int (b / n), .int c, .int e, .int g])) => ?_
      have l1 := B1 _ _ ne hl
      walk_at "rx"
      exact q _ G1 ⟨zs, a, b / n, c, e, g, ⟨g1, l1, ne⟩, hzl, hz, ha, by omega, hc, by omega, hg⟩ (B0.trans B1) i1 fun _ => i2
    walk_at "rx"
    rw [List.length_map]
    refine iteD (fun h3 => ?_) fun h3 => ?_
    · walk_at "rx"
      obtain ⟨k, rfl⟩ : ∃ k : Nat, a = k := ⟨a.toNat, by omega⟩
      have hk : k < zs.length := by omega
      refine r_ixL hl (v := .int zs[k]) (atI_at (by rw [List.getElem?_map, List.getElem?_eq_getElem hk]; rfl)) ?_
      have hzk := hz _ (List.getElem_mem hk)
      generalize zs[k] = zc at *
      walk_at "rx"
      refine r_setL hd rfl ?_
      refine sfH fun G1 B1 (g1 : G1 dr = some (.lst [.ref cl, .int k, .int b, .int (c + 1), .int e, .int g])) => ?_
      have l1 := B1 _ _ ne hl
      walk_at "rx"
      refine r_I (cmul (by omega) (by omega)) ?_
      walk_at "rx"
      refine ⟨_, _, rfl, log_small (hzk) (by omega), by omega, fun r hr0 => ?_⟩
      walk_at "rx"
      refine r_I (by omega) ?_
      have i1 := Int.emod_nonneg r (show n ≠ 0 by omega)
      have i2 := Int.emod_lt_of_pos r (show 0 < n by omega)
      walk_at "rx"
      refine iteD (fun h4 => ?_) fun h4 => ?_
      · walk_at "rx"
        refine r_setL g1 rfl ?_
        refine sfH fun G2 B2 (g2 : G2 dr = some (.lst [.ref cl, .int k, .int b, .int 0, .int e, .int g])) => ?_
        have l2 := B2 _ _ ne l1
        walk_at "rx"
        refine r_setL g2 rfl ?_
        refine sfH fun G3 B3 (g3 : G3 dr = some (.lst [.ref cl, .int (k + 1), .int b, .int 0, .int e, .int g])) => ?_
        have l3 := B3 _ _ ne l2
        walk_at "rx"
        exact q _ G3 ⟨zs, k + 1, b, 0, e, g, ⟨g3, l3, ne⟩, hzl, hz, by omega, hb, by omega, by omega, hg⟩ (((B0.trans B1).trans B2).trans B3) i1 fun _ => i2
      · walk_at "rx"
        exact q _ G1 ⟨zs, k, b, c + 1, e, g, ⟨g1, l1, ne⟩, hzl, hz, by omega, hb, by omega, by omega, hg⟩ (B0.trans B1) i1 fun _ => i2
    · walk_at "rx"
      refine r_setL hd rfl ?_
      refine sfH fun G1 B1 (g1 : G1 dr = some (.lst [.ref cl, .int a, .int b, .int c, .int (e + 1), .int g])) => ?_
      have l1 := B1 _ _ ne hl
      walk_at "rx"
      refine ⟨_, _, rfl, Nat.lt_of_lt_of_le (log_lt (n := g.natAbs) (p := 40) (by omega) (by decide)) (by decide), by omega, fun r hr0 => ?_⟩
      walk_at "rx"
      refine r_I (by omega) ?_
      have i1 := Int.emod_nonneg r (show n ≠ 0 by omega)
      have i2 := Int.emod_lt_of_pos r (show 0 < n by omega)
      exact q _ G1 ⟨zs, a, b, c, e + 1, g, ⟨g1, l1, ne⟩, hzl, hz, ha, hb, hc, by omega, hg⟩ (B0.trans B1) i1 fun _ => i2
end
end K
set_option Elab.async false
set_option linter.all false
set_option maxRecDepth 100000
set_option maxHeartbeats 2000000
namespace K
open PySem PySem.Spec PyProof.Rows L2 TH
local macro_rules | `(tactic| walk_at "rd1") => `(tactic| with_reducible (first
  | refine r_seq ?_ | refine r_if ?_ | refine r_ret ?_ | refine r_next ?_ | refine r_asg ?_ | refine r_drop ?_ | refine r_gname ?_ | refine r_retN ?_
  | refine r_var rfl ?_ | refine r_c ?_ | refine r_op ?_ | refine r_un ?_ | refine r_test ?_ | refine r_tB ?_ | refine r_bl ?_ | refine r_and ?_ | refine r_or ?_ | refine r_not ?_
  | refine r_andV ?_ | refine r_orV ?_ | refine r_notV ?_ | refine r_bb ?_ | refine r_ifE ?_ | refine r_gsub ?_ | refine r_nil ?_ | refine r_cons ?_ | refine r_cb ?_ | refine r_cl ?_ | refine r_clS ?_
  | refine r_part ?_ | refine r_nopart ?_ | refine r_int ?_ | refine r_sl ?_ | refine r_chain ?_ | refine r_I0 ?_ | refine r_U ?_ | refine r_eqI ?_ | refine r_neI ?_ | refine r_eqS ?_ | refine r_eqB ?_ | refine r_neB ?_ | refine r_int1 ?_ | refine r_abs1 ?_
  | refine iteT ?_ | refine iteF ?_ | refine r_isF rfl ?_ | refine r_isD (by assumption) (by decide) ?_ | refine r_brk ?_ | refine r_ct ?_ | refine r_ltS ?_ | refine r_leS ?_ | refine r_aug rfl ?_ | refine r_lc ?_ | refine r_meth ?_ | refine r_callO ?_ | refine r_make ?_ | refine r_methT ?_ | refine r_callT ?_ | refine r_ixT' ?_ | refine r_mkS ?_ | refine r_pr ?_ | refine r_sfld ?_ | refine r_fld ?_ | refine r_dnew ?_ | refine r_dput ?_ | refine r_dget ?_ | refine r_bm ?_ | refine r_rs ?_ | refine r_notInS ?_ | refine r_inS ?_ | refine r_isN ?_ | refine r_notN ?_ | refine r_for ?_ | refine r_rg1 ?_ | refine r_m1 ?_ | refine r_m0 ?_ | refine r_isS ?_ | refine r_rg2 ?_ | refine r_ipI ?_))
local macro_rules | `(tactic| walk_at "rd") => `(tactic| repeat (first | walk_at "rd1" | ((with_reducible apply r_var); (focus exact rfl)) | (with_reducible refine r_tup ?_) | (with_reducible refine r_lst ?_) | ((with_reducible refine r_ln ?_ ?_); focus (simp; done)) | ((with_reducible refine iteT' ?_ ?_); focus (simp [isB, Dat.ty, tyN]; done)) | ((with_reducible refine iteF' ?_ ?_); focus (simp [isB, Dat.ty, tyN]; done))))
local macro_rules | `(tactic| walk_at "hf") => `(tactic| first
  | assumption
  | exact upd_same
  | (refine keep1 ?_ (by assumption); walk_at "hf")
  | (refine keep2 (by assumption) ?_; walk_at "hf")
  | (refine (show Same _ _ by assumption) _ _ ?_; walk_at "hf")
  | (refine (show But _ _ _ by assumption) _ _ (by assumption) ?_; walk_at "hf"))
local macro_rules | `(tactic| walk_at "rx") => `(tactic| repeat (first | walk_at "rd1" | ((with_reducible apply r_ixL); (focus assumption); (focus exact rfl)) | ((with_reducible apply r_ixT); (focus assumption); (focus exact rfl)) | ((with_reducible apply r_lenL); (focus assumption)) | ((with_reducible apply r_lenT); (focus assumption)) | ((with_reducible apply r_var); (focus exact rfl)) | (with_reducible refine r_tup ?_) | (with_reducible refine r_lst ?_) | ((with_reducible refine r_ln ?_ ?_); focus (simp; done)) | ((with_reducible refine iteT' ?_ ?_); focus (simp [isB, Dat.ty, tyN]; done)) | ((with_reducible refine iteF' ?_ ?_); focus (simp [isB, Dat.ty, tyN]; done))))
local macro_rules | `(tactic| walk_at "rz") => `(tactic| repeat ((fail_if_success (with_reducible show tFor _ _ _ _ _ _)); (first | walk_at "rd1" | ((with_reducible apply r_ixL); (focus assumption); (focus exact rfl)) | ((with_reducible apply r_ixT); (focus assumption); (focus exact rfl)) | ((with_reducible apply r_lenL); (focus assumption)) | ((with_reducible apply r_lenT); (focus assumption)) | ((with_reducible apply r_var); (focus exact rfl)) | (with_reducible refine r_tup ?_) | (with_reducible refine r_lst ?_) | ((with_reducible refine r_ln ?_ ?_); focus (simp; done)) | ((with_reducible refine iteT' ?_ ?_); focus (simp [isB, Dat.ty, tyN]; done)) | ((with_reducible refine iteF' ?_ ?_); focus (simp [isB, Dat.ty, tyN]; done)))))
theorem r_or2 {σ : L2.St} {H : Hp} {R : Bool → Hp → Prop} {tt tu : TT} {c1 c2 : Bool} (h1 : ∀ R' : Bool → Hp → Prop, R' c1 H → tt σ H R') (h2 : ∀ R' : Bool → Hp → Prop, R' c2 H → tu σ H R') (k : R (c1 || c2) H) : tOr tt tu σ H R := h1 _ (by
  cases c1 with
  | true => exact iteT k
  | false => exact iteF (h2 _ k))
section
variable {P : Program} {w : World} {K : PySem.W.Frag} {mg : Str → Option Value} {base : Heap} (T : Txt K mg)
include T
def sp_tupled (n : Nat) : Sp := fun vs H Q _ => ∃ d v fp, vs = [v] ∧ DF H d v fp ∧ d.dp < n ∧ ∀ v' H', Same H H' → DF H' d.tupD v' [] → Q v' H'
theorem ok_tupled (F : FD K "_law_tupled" "_law_tupled" s_l_tupled [] (He.ga K "_law_tupled")) (kp : PySem.W.keepIn K (.ref (He.ga K "_law_tupled")) = true) (at_ : mg "_law_tupled" = some (.ref (He.ga K "_law_tupled"))) : ∀ n, FnT P w K mg base n (He.ga K "_law_tupled") (sp_tupled n)
  | 0 => fn_never fun vs H Q E h => by obtain ⟨d, v, fp, _, _, h, _⟩ := h; omega
  | n + 1 => by
    have C : Cal P w K mg base n "_law_tupled" (sp_tupled n) := ⟨ok_tupled F kp at_ n, kp, at_⟩
    refine fnT_of (k := n) F sc_l_tupled (fun _ _ _ _ _ _ us hl => match us, hl with | [_], _ => rfl) (fun vs H Q E h => by obtain ⟨d, v, fp, rfl, _⟩ := h; rfl) fun cdv A outer s H vs Q E hr h => ⟨_, (tm_l_tupled T (C_l_tupled := C) (h_l_tupled := Nat.le_refl _) (hr := hr)).2, ?_⟩
    obtain ⟨d, v, fp, rfl, hd, hdp, q⟩ := h
    unfold tm_l_tupled
    by_cases hc : ∃ l, d = .lst l ∨ d = .tup l
    · obtain ⟨l, hc⟩ := hc
      have ht : (isB d.ty "tuple" || isB d.ty "list") = true := by rcases hc with rfl | rfl <;> simp [Dat.ty, isB]
      have hdp2 : d.dp = Dat.dps l + 1 := by rcases hc with rfl | rfl <;> rfl
      have htd : d.tupD = .tup (Dat.tupDs l) := by rcases hc with rfl | rfl <;> rfl
      walk_at "rd1"
      walk_at "rd1"
      refine r_or2 (c1 := isB d.ty "tuple") (c2 := isB d.ty "list") (fun R' k => ?_) (fun R' k => ?_) ?_
      · walk_at "rd"
        exact k
      · walk_at "rd"
        exact k
      rw [ht]
      walk_at "rd"
      refine r_srcD (fun Q' q => r_var rfl q) hc hd fun a o xs f J ev ha _ hs hl hw => ?_
      intro D nD
      refine lcD (σ' := fun x => [some v, some x]) hw hs (by rw [hs.len]; exact hl) nD (fun _ => rfl) (fun _ => rfl) Dat.tupD (fun H s => s _ _ ha) (fun d' x g H2 hm' hdx s Qn k => ?_) fun H2 ys fr s2 hD hds hfr hnd => ?_
      · walk_at "rd"
        have := Dat.dp_mem hm'
        exact ⟨d', x, g, rfl, hdx, by omega, fun v' H' s' h' => k v' [] H' s' h' (fun a m => by cases m) List.nodup_nil⟩
      · walk_at "rd"
        refine r_tupL hD fun T nT => ?_
        rw [← Dat.tupDs_map] at hds
        have e0 := hds.tup0
        subst e0
        refine q _ _ (same_upd s2 nT) ?_
        rw [htd]
        simp only [DF]
        exact ⟨by rw [Dat.tupDs_map, List.length_map]; exact hl, T, ys, rfl, upd_same, hds.same (same_new nT)⟩
    · have ht1 : isB d.ty "tuple" = false := by cases d <;> simp [Dat.ty, isB] at hc ⊢
      have ht2 : isB d.ty "list" = false := by cases d <;> simp [Dat.ty, isB] at hc ⊢
      have e0 : d.dp = 0 := by cases d <;> simp [Dat.dp] at hc ⊢
      obtain ⟨e1, e2, _⟩ := hd.fp0 e0
      walk_at "rd"
      rw [ht1]
      walk_at "rd"
      rw [ht2]
      walk_at "rd"
      exact q v H (Same.refl _) (by rw [e2, ← e1]; exact hd)
def sp_listed (n : Nat) : Sp := fun vs H Q _ => ∃ d v fp, vs = [v] ∧ DF H d v fp ∧ d.dp < n ∧ ∀ v' fr H', Same H H' → DF H' d.listD v' fr → (∀ a ∈ fr, H a = none) → fr.Nodup → Q v' H'
theorem ok_listed (F : FD K "_law_listed" "_law_listed" s_l_listed [] (He.ga K "_law_listed")) (kp : PySem.W.keepIn K (.ref (He.ga K "_law_listed")) = true) (at_ : mg "_law_listed" = some (.ref (He.ga K "_law_listed"))) : ∀ n, FnT P w K mg base n (He.ga K "_law_listed") (sp_listed n)
  | 0 => fn_never fun vs H Q E h => by obtain ⟨d, v, fp, _, _, h, _⟩ := h; omega
  | n + 1 => by
    have C : Cal P w K mg base n "_law_listed" (sp_listed n) := ⟨ok_listed F kp at_ n, kp, at_⟩
    refine fnT_of (k := n) F sc_l_listed (fun _ _ _ _ _ _ us hl => match us, hl with | [_], _ => rfl) (fun vs H Q E h => by obtain ⟨d, v, fp, rfl, _⟩ := h; rfl) fun cdv A outer s H vs Q E hr h => ⟨_, (tm_l_listed T (C_l_listed := C) (h_l_listed := Nat.le_refl _) (hr := hr)).2, ?_⟩
    obtain ⟨d, v, fp, rfl, hd, hdp, q⟩ := h
    unfold tm_l_listed
    by_cases hc : ∃ l, d = .lst l ∨ d = .tup l
    · obtain ⟨l, hc⟩ := hc
      have ht : (isB d.ty "tuple" || isB d.ty "list") = true := by rcases hc with rfl | rfl <;> simp [Dat.ty, isB]
      have hdp2 : d.dp = Dat.dps l + 1 := by rcases hc with rfl | rfl <;> rfl
      have htd : d.listD = .lst (Dat.listDs l) := by rcases hc with rfl | rfl <;> rfl
      walk_at "rd1"
      walk_at "rd1"
      refine r_or2 (c1 := isB d.ty "tuple") (c2 := isB d.ty "list") (fun R' k => ?_) (fun R' k => ?_) ?_
      · walk_at "rd"
        exact k
      · walk_at "rd"
        exact k
      rw [ht]
      walk_at "rd"
      refine r_srcD (fun Q' q => r_var rfl q) hc hd fun a o xs f J ev ha _ hs hl hw => ?_
      intro D nD
      refine lcD (σ' := fun x => [some v, some x]) hw hs (by rw [hs.len]; exact hl) nD (fun _ => rfl) (fun _ => rfl) Dat.listD (fun H s => s _ _ ha) (fun d' x g H2 hm' hdx s Qn k => ?_) fun H2 ys fr s2 hD hds hfr hnd => ?_
      · walk_at "rd"
        have := Dat.dp_mem hm'
        exact ⟨d', x, g, rfl, hdx, by omega, k⟩
      · rw [← Dat.listDs_map] at hds
        refine q _ (D :: fr) _ s2 ?_ (fun a m => ?_) ?_
        · rw [htd]
          simp only [DF]
          exact ⟨by rw [Dat.listDs_map, List.length_map]; exact hl, D, ys, fr, rfl, rfl, hD, hds⟩
        · rcases List.mem_cons.mp m with e | e
          · rw [e]; exact nD
          · exact (hfr a e).1
        · exact List.nodup_cons.mpr ⟨fun m => (hfr D m).2 rfl, hnd⟩
    · have ht1 : isB d.ty "tuple" = false := by cases d <;> simp [Dat.ty, isB] at hc ⊢
      have ht2 : isB d.ty "list" = false := by cases d <;> simp [Dat.ty, isB] at hc ⊢
      have e0 : d.dp = 0 := by cases d <;> simp [Dat.dp] at hc ⊢
      obtain ⟨e1, _, e2⟩ := hd.fp0 e0
      subst e1
      walk_at "rd"
      rw [ht1]
      walk_at "rd"
      rw [ht2]
      walk_at "rd"
      exact q v [] H (Same.refl _) (by rw [e2]; exact hd) (fun a m => by cases m) List.nodup_nil
/-- the same data twice -/
def sp_same (n : Nat) : Sp := fun vs H Q _ => ∃ d v1 f1 v2 f2, vs = [v1, v2] ∧ DF H d v1 f1 ∧ DF H d v2 f2 ∧ d.dp < n ∧ ∀ H', Same H H' → Q (.bl true) H'
theorem ok_same (F : FD K "_law_same" "_law_same" s_l_same [] (He.ga K "_law_same")) (kp : PySem.W.keepIn K (.ref (He.ga K "_law_same")) = true) (at_ : mg "_law_same" = some (.ref (He.ga K "_law_same"))) : ∀ n, FnT P w K mg base n (He.ga K "_law_same") (sp_same n)
  | 0 => fn_never fun vs H Q E h => by obtain ⟨d, v1, f1, v2, f2, _, _, _, h, _⟩ := h; omega
  | n + 1 => by
    have C : Cal P w K mg base n "_law_same" (sp_same n) := ⟨ok_same F kp at_ n, kp, at_⟩
    refine fnT_of (k := n) F sc_l_same (fun _ _ _ _ _ _ us hl => match us, hl with | [_, _], _ => rfl) (fun vs H Q E h => by obtain ⟨d, v1, f1, v2, f2, rfl, _⟩ := h; rfl) fun cdv A outer s H vs Q E hr h => ⟨_, (tm_l_same T (C_l_same := C) (h_l_same := Nat.le_refl _) (hr := hr)).2, ?_⟩
    obtain ⟨d, v1, f1, v2, f2, rfl, hd1, hd2, hdp, q⟩ := h
    unfold tm_l_same
    cases d with
    | lst l =>
      have hd1' := hd1
      have hd2' := hd2
      simp only [DF] at hd1 hd2
      obtain ⟨hl, a, xs, fa, rfl, rfl, ha, hs⟩ := hd1
      obtain ⟨_, b, ys, fb, rfl, rfl, hb, ht⟩ := hd2
      walk_at "rx"
      rw [hs.len, ht.len]
      refine iteD (fun _ => ?_) fun h => absurd rfl h
      walk_at "rx"
      rw [hs.len]
      refine ⟨_, rfl, by omega, by omega, ?_⟩
      intro D nD
      refine lcB (σ' := fun x => [some (.ref a), some (.ref b), some x]) (walk_rangeS (lo := 0) (n := ((l.length : Nat) : Int).toNat)) (by simp; omega) nD (fun _ => rfl) (fun _ => rfl) (fun _ => true) (fun H _ => trivial) (fun i x H2 hi hx s2 Qn k => ?_) fun H2 s2 hD => ?_
      · have hi' : i < l.length := by simpa using hi
        obtain rfl : x = .int (i : Nat) := by
          rw [List.getElem?_map, List.getElem?_range (by simpa using hi')] at hx
          cases hx
          simp
        obtain ⟨x1, g1, e1, k1, _⟩ := DFs.get i hs (show l[i]? = some l[i] by simp [hi'])
        obtain ⟨x2, g2, e2, k2, _⟩ := DFs.get i ht (show l[i]? = some l[i] by simp [hi'])
        have := Dat.dp_mem (List.getElem_mem hi')
        simp only [Dat.dp] at hdp
        walk_at "rd"
        refine r_ixSL (s2 _ _ ha) (atI_at e1) ?_
        walk_at "rd"
        refine r_ixSL (s2 _ _ hb) (atI_at e2) ?_
        walk_at "rd"
        exact ⟨l[i], x1, g1, x2, g2, rfl, k1.same s2, k2.same s2, by omega, k⟩
      · walk_at "rd"
        refine r_all hD ?_
        rw [show (((List.range ((List.range ((l.length : Nat) : Int).toNat).map fun i : Nat => V.int (0 + i)).length).map fun _ => true).all id) = true by simp]
        exact q H2 s2
    | tup l =>
      have hd1' := hd1
      have hd2' := hd2
      simp only [DF] at hd1 hd2
      obtain ⟨hl, a, xs, rfl, ha, hs⟩ := hd1
      obtain ⟨_, b, ys, rfl, hb, ht⟩ := hd2
      walk_at "rx"
      rw [hs.len, ht.len]
      refine iteD (fun _ => ?_) fun h => absurd rfl h
      walk_at "rx"
      rw [hs.len]
      refine ⟨_, rfl, by omega, by omega, ?_⟩
      intro D nD
      refine lcB (σ' := fun x => [some (.ref a), some (.ref b), some x]) (walk_rangeS (lo := 0) (n := ((l.length : Nat) : Int).toNat)) (by simp; omega) nD (fun _ => rfl) (fun _ => rfl) (fun _ => true) (fun H _ => trivial) (fun i x H2 hi hx s2 Qn k => ?_) fun H2 s2 hD => ?_
      · have hi' : i < l.length := by simpa using hi
        obtain rfl : x = .int (i : Nat) := by
          rw [List.getElem?_map, List.getElem?_range (by simpa using hi')] at hx
          cases hx
          simp
        obtain ⟨x1, g1, e1, k1, _⟩ := DFs.get i hs (show l[i]? = some l[i] by simp [hi'])
        obtain ⟨x2, g2, e2, k2, _⟩ := DFs.get i ht (show l[i]? = some l[i] by simp [hi'])
        have := Dat.dp_mem (List.getElem_mem hi')
        simp only [Dat.dp] at hdp
        walk_at "rd"
        refine r_ixST (s2 _ _ ha) (atI_at e1) ?_
        walk_at "rd"
        refine r_ixST (s2 _ _ hb) (atI_at e2) ?_
        walk_at "rd"
        exact ⟨l[i], x1, g1, x2, g2, rfl, k1.same s2, k2.same s2, by omega, k⟩
      · walk_at "rd"
        refine r_all hD ?_
        rw [show (((List.range ((List.range ((l.length : Nat) : Int).toNat).map fun i : Nat => V.int (0 + i)).length).map fun _ => true).all id) = true by simp]
        exact q H2 s2
    | _ =>
      simp only [DF] at hd1 hd2
      obtain ⟨rfl, rfl⟩ := hd1
      obtain ⟨rfl, rfl⟩ := hd2
      walk_at "rx"
      intro p np
      walk_at "rx"
      refine r_isT2 upd_same (by simp [tyN]) (by decide) (by decide) ?_
      walk_at "rx"
      try (refine iteD (fun _ => ?_) fun h => absurd rfl h)
      walk_at "rx"
      try (exact q _ (same_new np))
      try trace_state
end
end K
set_option Elab.async false
set_option linter.all false
set_option maxRecDepth 100000
set_option maxHeartbeats 2000000
namespace K
open PySem PySem.Spec PyProof.Rows L2 TH
local macro_rules | `(tactic| walk_at "rd1") => `(tactic| with_reducible (first
  | refine r_seq ?_ | refine r_if ?_ | refine r_ret ?_ | refine r_next ?_ | refine r_asg ?_ | refine r_drop ?_ | refine r_gname ?_ | refine r_retN ?_
  | refine r_var rfl ?_ | refine r_c ?_ | refine r_op ?_ | refine r_un ?_ | refine r_test ?_ | refine r_tB ?_ | refine r_bl ?_ | refine r_and ?_ | refine r_or ?_ | refine r_not ?_
  | refine r_andV ?_ | refine r_orV ?_ | refine r_notV ?_ | refine r_bb ?_ | refine r_ifE ?_ | refine r_gsub ?_ | refine r_nil ?_ | refine r_cons ?_ | refine r_cb ?_ | refine r_cl ?_ | refine r_clS ?_
  | refine r_part ?_ | refine r_nopart ?_ | refine r_int ?_ | refine r_sl ?_ | refine r_chain ?_ | refine r_I0 ?_ | refine r_U ?_ | refine r_eqI ?_ | refine r_neI ?_ | refine r_eqS ?_ | refine r_eqB ?_ | refine r_neB ?_ | refine r_int1 ?_ | refine r_abs1 ?_
  | refine iteT ?_ | refine iteF ?_ | refine r_isF rfl ?_ | refine r_isD (by assumption) (by decide) ?_ | refine r_brk ?_ | refine r_ct ?_ | refine r_ltS ?_ | refine r_leS ?_ | refine r_aug rfl ?_ | refine r_lc ?_ | refine r_meth ?_ | refine r_callO ?_ | refine r_make ?_ | refine r_methT ?_ | refine r_callT ?_ | refine r_ixT' ?_ | refine r_mkS ?_ | refine r_pr ?_ | refine r_sfld ?_ | refine r_fld ?_ | refine r_dnew ?_ | refine r_dput ?_ | refine r_dget ?_ | refine r_bm ?_ | refine r_rs ?_ | refine r_notInS ?_ | refine r_inS ?_ | refine r_isN ?_ | refine r_notN ?_ | refine r_for ?_ | refine r_rg1 ?_ | refine r_m1 ?_ | refine r_m0 ?_ | refine r_isS ?_ | refine r_rg2 ?_ | refine r_ipI ?_))
local macro_rules | `(tactic| walk_at "rd") => `(tactic| repeat (first | walk_at "rd1" | ((with_reducible apply r_var); (focus exact rfl)) | (with_reducible refine r_tup ?_) | (with_reducible refine r_lst ?_) | ((with_reducible refine r_ln ?_ ?_); focus (simp; done)) | ((with_reducible refine iteT' ?_ ?_); focus (simp [isB, Dat.ty, tyN]; done)) | ((with_reducible refine iteF' ?_ ?_); focus (simp [isB, Dat.ty, tyN]; done))))
local macro_rules | `(tactic| walk_at "hf") => `(tactic| first
  | assumption
  | exact upd_same
  | (refine keep1 ?_ (by assumption); walk_at "hf")
  | (refine keep2 (by assumption) ?_; walk_at "hf")
  | (refine (show Same _ _ by assumption) _ _ ?_; walk_at "hf")
  | (refine (show But _ _ _ by assumption) _ _ (by assumption) ?_; walk_at "hf"))
local macro_rules | `(tactic| walk_at "rx") => `(tactic| repeat (first | walk_at "rd1" | ((with_reducible apply r_ixL); (focus assumption); (focus exact rfl)) | ((with_reducible apply r_ixT); (focus assumption); (focus exact rfl)) | ((with_reducible apply r_lenL); (focus assumption)) | ((with_reducible apply r_lenT); (focus assumption)) | ((with_reducible apply r_var); (focus exact rfl)) | (with_reducible refine r_tup ?_) | (with_reducible refine r_lst ?_) | ((with_reducible refine r_ln ?_ ?_); focus (simp; done)) | ((with_reducible refine iteT' ?_ ?_); focus (simp [isB, Dat.ty, tyN]; done)) | ((with_reducible refine iteF' ?_ ?_); focus (simp [isB, Dat.ty, tyN]; done))))
local macro_rules | `(tactic| walk_at "rz") => `(tactic| repeat ((fail_if_success (with_reducible show tFor _ _ _ _ _ _)); (first | walk_at "rd1" | ((with_reducible apply r_ixL); (focus assumption); (focus exact rfl)) | ((with_reducible apply r_ixT); (focus assumption); (focus exact rfl)) | ((with_reducible apply r_lenL); (focus assumption)) | ((with_reducible apply r_lenT); (focus assumption)) | ((with_reducible apply r_var); (focus exact rfl)) | (with_reducible refine r_tup ?_) | (with_reducible refine r_lst ?_) | ((with_reducible refine r_ln ?_ ?_); focus (simp; done)) | ((with_reducible refine iteT' ?_ ?_); focus (simp [isB, Dat.ty, tyN]; done)) | ((with_reducible refine iteF' ?_ ?_); focus (simp [isB, Dat.ty, tyN]; done)))))
abbrev one (c : Nat) : Str := ⟨#[c]⟩
theorem joinL_one : ∀ gs : List Nat, TL.joinL [] (gs.map fun c => [c]) = gs
  | [] => rfl
  | [c] => rfl
  | c :: e :: r => by
    rw [List.map_cons, List.map_cons, TL.joinL]
    have := joinL_one (e :: r)
    rw [List.map_cons] at this
    rw [this]
    rfl
theorem cp_join (gs : List Nat) : cp (Txt.join (Str.ofString "") (gs.map one)) = gs := by
  have h := SX.join_S [] (gs.map fun c => [c])
  rw [joinL_one, List.map_map] at h
  have e : (SX.S ∘ fun c => [c]) = one := rfl
  rw [e] at h
  have e2 : SX.S [] = Str.ofString "" := rfl
  rw [e2] at h
  rw [h]
theorem perm_erase {α : Type} : ∀ (l : List α) (k : Nat) (h : k < l.length), (l[k] :: l.eraseIdx k).Perm l
  | a :: l, 0, _ => List.Perm.refl _
  | a :: l, k + 1, h => by
    have := perm_erase l k (by simpa using h)
    simp only [List.getElem_cons_succ, List.eraseIdx_cons_succ]
    exact (List.Perm.swap _ _ _).trans (this.cons a)
theorem r_srcQ {H H' : Hp} {K : PySem.W.Frag} {xs : List V} {R : It → Hp → Prop} {tl : TE} {σ : L2.St} {a : Addr} (ht : ∀ Q' : VK, Q' (.ref a) H' → tl σ H Q') (h : SqL K H' a xs) (k : R (Itl K a) H') : iSrc K tl σ H R := ht _ (.inl ⟨a, xs, rfl, h, k⟩)
theorem r_sum {H : Hp} {K : PySem.W.Frag} {Q : VK} {D : Addr} {ns : List Int} (h : H D = some (.lst (ns.map V.int))) (k : Q (.int ns.sum) H) : L2.rSum K [.ref D] H Q := ⟨D, ns, rfl, .inl (.inl h), k⟩
theorem r_popAt {H : Hp} {Q : VK} {l : Addr} {xs : List V} {i : Nat} {y : V} (h : H l = some (.lst xs)) (hl : xs.length ≤ 1000) (hy : xs[i]? = some y) (k : Q y (upd H l (.lst (xs.eraseIdx i)))) : rPopAt (.ref l) [.int (i : Nat)] H Q := by
  have hi := (List.getElem?_eq_some_iff.mp hy).1
  exact ⟨l, xs, _, i, y, rfl, rfl, h, by omega, by omega, by rw [seqIndex_of (by omega) (by omega)]; simp, hy, k⟩
abbrev oneV (c : Nat) : V := .str (one c)
theorem heads {ys : List Str} {fs : List Nat} (h : ys.Perm (fs.map one)) : ∃ gs : List Nat, ys = gs.map one ∧ gs.Perm fs := by
  refine ⟨ys.map fun z => z.cps.getD 0 0, ?_, ?_⟩
  · rw [List.map_map]
    have : ∀ z ∈ ys, (one ∘ fun z : Str => z.cps.getD 0 0) z = z := fun z m => by
      obtain ⟨c, _, rfl⟩ := List.mem_map.mp (h.mem_iff.mp m)
      rfl
    rw [List.map_congr_left this, List.map_id']
  · have := h.map fun z : Str => z.cps.getD 0 0
    rw [List.map_map] at this
    have e : (fun z : Str => z.cps.getD 0 0) ∘ one = id := rfl
    rw [e, List.map_id] at this
    exact this
theorem lt_cps {a b : Nat} : ltCps [a] [b] = decide (a < b) := by simp [ltCps]
theorem sorted_le : ∀ {p : Nat} {gs : List Nat}, risingS (one p) (gs.map one) = true → ∀ i, i < gs.length → (p :: gs).getD i 0 ≤ (p :: gs).getD (i + 1) 0
  | p, [], _, i, hi => by simp at hi
  | p, g :: gs, h, i, hi => by
    rw [List.map_cons, risingS] at h
    simp only [Bool.and_eq_true, Bool.not_eq_true'] at h
    have h1 : ltCps [g] [p] = false := h.1
    rw [lt_cps, decide_eq_false_iff_not] at h1
    cases i with
    | zero => show p ≤ g; omega
    | succ i => exact sorted_le h.2 i (by simpa using hi)
theorem r_sortedS {H : Hp} {K : PySem.W.Frag} {Q : VK} {D : Addr} {xs : List Str} (h : H D = some (.lst (xs.map V.str))) (hl : xs.length < 64) (k : ∀ (ys : List Str) (p : Addr), ys.Perm xs → sortedS ys = true → H p = none → Q (.ref p) (upd H p (.lst (ys.map V.str)))) : rSortedS K [.ref D] H Q := ⟨D, xs, rfl, .inl (.inl h), hl, k⟩
theorem r_joinL {H : Hp} {K : PySem.W.Frag} {Q : VK} {p : Addr} {a : Str} {ys : List Str} (h : H p = some (.lst (ys.map V.str))) (hl : (ys.map (·.length)).sum + ys.length * a.length ≤ 16777216) (k : Q (.str (Txt.join a ys)) H) : ∃ a' p', ∃ ys : List Str, V.str a = .str a' ∧ [V.ref p] = [.ref p'] ∧ (SqL K H p' (ys.map V.str) ∨ SqT K H p' (ys.map V.str)) ∧ (ys.map (·.length)).sum + ys.length * a'.length ≤ 16777216 ∧ Q (.str (Txt.join a' ys)) H := ⟨a, p, ys, rfl, rfl, .inl (.inl (.inl h)), hl, k⟩
/-- sorted letters that are apart rise -/
theorem rise_of {gs : List Nat} (h : sortedS (gs.map one) = true) (nd : gs.Nodup) : riseL gs = true := by
  simp only [riseL, List.all_map, List.all_eq_true, List.mem_range, Function.comp, id, decide_eq_true_eq]
  intro i hi
  cases gs with
  | nil => simp at hi
  | cons p gs =>
    have hi' : i < gs.length := by simpa using hi
    have le := sorted_le (p := p) (gs := gs) h i hi'
    have ne : (p :: gs).getD i 0 ≠ (p :: gs).getD (i + 1) 0 := by
      rw [TH.getD_at (show i < (p :: gs).length by simp; omega), TH.getD_at (show i + 1 < (p :: gs).length by simp; omega)]
      intro e
      have := (List.getElem_inj (h₀ := (show i < (p :: gs).length by simp; omega)) (h₁ := (show i + 1 < (p :: gs).length by simp; omega)) nd).mp e
      omega
    omega
section
variable {P : Program} {w : World} {K : PySem.W.Frag} {mg : Str → Option Value} {base : Heap} (T : Txt K mg)
include T
def sp_draw : Sp := fun vs H Q _ => ∃ (sc : Addr) (zs : List Int), vs = [.ref sc] ∧ SqL K H sc (zs.map V.int) ∧ zs.length ≤ 63 ∧ (∀ z ∈ zs, z.natAbs.log2 < 2 ^ 21) ∧ ∀ dr cl H', Same H H' → H dr = none → H cl = none → Dr cl (2 ^ 59) H' dr → Q (.ref dr) H'
theorem ok_draw (F : FD K "_law_draw" "_law_draw" s_l_draw [] (He.ga K "_law_draw")) : FnT P w K mg base 1 (He.ga K "_law_draw") (sp_draw (K := K)) := by
  refine fnT_of (k := 0) F sc_l_draw (fun _ _ _ _ _ _ us hl => match us, hl with | [_], _ => rfl) (fun vs H Q E h => by obtain ⟨sc, zs, rfl, _⟩ := h; rfl) fun cdv A outer s H vs Q E hr h => ⟨_, (tm_l_draw T (hr := hr)).2, ?_⟩
  obtain ⟨sc, zs, rfl, hsc, hl, hz, q⟩ := h
  unfold tm_l_draw
  walk_at "rx"
  refine r_srcQ (fun Q' q => r_var rfl q) hsc ?_
  intro cl ncl
  refine lcV (σ' := fun x => [some (.ref sc), none, some x]) walk_list (by rw [List.length_map]; omega) ncl (fun _ => rfl) (fun _ => rfl) (fun i => .int (zs.getD i 0)) (fun H s => s.seq hsc) (fun i x H2 hi hx s2 Qn k => ?_) fun H2 s2 hD => ?_
  · have hi' : i < zs.length := by simpa using hi
    obtain rfl : x = .int (zs.getD i 0) := by
      rw [List.getElem?_map, List.getElem?_eq_getElem hi'] at hx
      cases hx
      rw [TH.getD_at hi']
    walk_at "rx"
    exact k H2 (Same.refl _)
  · rw [List.length_map, range_map zs 0 V.int] at hD
    walk_at "rx"
    refine r_sum hD ?_
    walk_at "rx"
    refine r_I (by omega) ?_
    walk_at "rx"
    rw [List.length_map]
    refine r_I (cmul (by omega) (by omega)) ?_
    walk_at "rx"
    intro dr ndr
    have i1 := Int.emod_nonneg zs.sum (show (1000003 : Int) ≠ 0 by decide)
    have i2 := Int.emod_lt_of_pos zs.sum (show (0 : Int) < 1000003 by decide)
    have ne : cl ≠ dr := ne_of_none' hD ndr |>.symm
    refine q dr cl _ (same_upd s2 ndr) (s2.free ndr) ncl ⟨zs, 0, 0, 0, 0, _, ⟨upd_same, keep1 hD ndr, ne⟩, hl, hz, by omega, by omega, by omega, by omega, by omega⟩
def sp_words5 : Sp := fun vs H Q _ => ∃ cl N dr, ∃ m : Nat, vs = [.ref dr, .int m] ∧ m ≤ 20 ∧ Dr cl (N + 26) H dr ∧ ∀ ws H', Dr cl N H' dr → But dr H H' → smallL (cp ws) = true → riseL (cp ws) = true → (cp ws).length = m → Q (.str ws) H'
theorem ok_lwords (C : Cal P w K mg base 2 "_law_pick" sp_pick) (F : FD K "_law_words" "_law_words" s_l_words [] (He.ga K "_law_words")) : FnT P w K mg base 3 (He.ga K "_law_words") sp_words5 := by
  refine fnT_of (k := 2) F sc_l_words (fun _ _ _ _ _ _ us hl => match us, hl with | [_, _], _ => rfl) (fun vs H Q E h => by obtain ⟨cl, N, dr, m, rfl, _⟩ := h; rfl) fun cdv A outer s H vs Q E hr h => ⟨_, (tm_l_words T (C_l_pick := C) (h_l_pick := by decide) (hr := hr)).2, ?_⟩
  obtain ⟨cl, N, dr, m, rfl, hm, hdr, q⟩ := h
  obtain ⟨yd, hyd⟩ := hdr.lst
  obtain ⟨yc, hyc⟩ := hdr.cls
  unfold tm_l_words
  walk_at "rx"
  refine r_srcS (fun Q' q => q) ?_
  obtain ⟨ab, hab⟩ : ∃ z : Str, z = Str.ofString "abcdefghijklmnopqrstuvwxyz" := ⟨_, rfl⟩
  have cab : cp ab = (List.range 26).map (97 + ·) := by rw [hab]; rfl
  rw [← hab]
  intro p np
  refine lcV (σ' := fun x => [some (.ref dr), some (.int m), none, none, none, some x]) walk_strS (by rw [signs_len, cab]; decide) np (fun _ => rfl) (fun _ => rfl) (fun i => .str (one ((cp ab).getD i 0))) (fun H _ => trivial) (fun i x H2 hi hx s2 Qn k => ?_) fun H2 s2 hD => ?_
  · obtain ⟨rfl, _⟩ := signs_at hx
    walk_at "rx"
    exact k H2 (Same.refl _)
  rw [signs_len, range_map (cp ab) 0 fun c => V.str (one c)] at hD
  walk_at "rx"
  intro f nf
  walk_at "rx"
  have nfdr : f ≠ dr := (ne_of_none' (s2 _ _ hyd) nf)
  have npdr : p ≠ dr := ne_of_none' hyd np
  have npcl : p ≠ cl := ne_of_none' hyc np
  have nfcl : f ≠ cl := ne_of_none' (s2 _ _ hyc) nf
  have npf : p ≠ f := (ne_of_none' hD nf).symm
  have sH : Same H (upd H2 f (.lst [])) := same_upd s2 nf
  refine ⟨_, rfl, by omega, by omega, ?_⟩
  refine forG (W := tNext) (walk_rangeS (lo := 0) (n := ((m : Nat) : Int).toNat)) (fun i σ H' => Dr cl (N + 26 - i) H' dr ∧ But dr H H' ∧ ∃ ps fs, H' p = some (.lst (ps.map oneV)) ∧ H' f = some (.lst (fs.map oneV)) ∧ fs.length = i ∧ (fs ++ ps).Perm (cp ab) ∧ ∃ x4, σ = [some (.ref dr), some (.int m), some (.ref p), some (.ref f), x4, none])
    ⟨hdr.same sH, But.of sH, cp ab, [], keep1 hD nf, upd_same, rfl, List.Perm.refl _, none, rfl⟩ (fun _ _ _ _ => trivial) (fun i x σ H3 hi hx hF => ?_) fun σ H3 hF => ?_
  · obtain ⟨d3, b3, ps, fs, hp3, hf3, hfl, hpm, x4, rfl⟩ := hF
    have hi' : i < m := by simpa using hi
    have hlen : fs.length + ps.length = 26 := by rw [← List.length_append, hpm.length_eq, cab]; rfl
    walk_at "rx"
    refine tyL hf3 ?_
    walk_at "rx"
    refine tyL hp3 ?_
    walk_at "rx"
    rw [List.length_map]
    refine ⟨cl, N + 26 - (i + 1), dr, _, rfl, d3.le (by omega), by omega, fun k H4 d4 b4 k0 k1 => ?_⟩
    obtain ⟨j, rfl⟩ : ∃ j : Nat, k = j := ⟨k.toNat, by omega⟩
    have hj : j < ps.length := by have := k1 (by omega); omega
    have hp4 := b4 _ _ npdr hp3
    have hf4 := b4 _ _ nfdr hf3
    walk_at "rx"
    refine r_popAt hp4 (by rw [List.length_map]; omega) (y := oneV ps[j]) (by rw [List.getElem?_map, List.getElem?_eq_getElem hj]; rfl) ?_
    walk_at "rx"
    refine r_app (keep2 npf.symm hf4) (by rw [List.length_map]; omega) ?_
    walk_at "rx"
    have bfin : But dr H (upd (upd H4 p (.lst ((ps.map oneV).eraseIdx j))) f (.lst (fs.map oneV ++ [oneV ps[j]]))) := but_updD (but_updD (b3.trans b4) np) (s2.free nf)
    refine ⟨?_, bfin, ps.eraseIdx j, fs ++ [ps[j]], ?_, ?_, by simp [hfl], ?_, _, rfl⟩
    · exact (d4.upd npdr npcl).upd nfdr nfcl
    · rw [keep2 npf upd_same]
      rw [map_eraseIdx]
    · rw [upd_same]; simp
    · rw [List.append_assoc]
      exact ((perm_erase ps j hj).append_left fs).trans hpm
  · obtain ⟨d3, b3, ps, fs, hp3, hf3, hfl, hpm, x4, rfl⟩ := hF
    have hm' : fs.length = m := by rw [hfl]; simp
    walk_at "rx"
    refine r_sortedS (xs := fs.map one) (by rw [List.map_map]; exact hf3) (by rw [List.length_map]; omega) fun ys t hys hso nt => ?_
    obtain ⟨gs, rfl, hgs⟩ := heads hys
    walk_at "rx"
    have hgl : gs.length ≤ 20 := by rw [hgs.length_eq, hm']; exact hm
    have hsum : ((gs.map one).map (·.length)).sum + (gs.map one).length * (Str.ofString "").length ≤ 16777216 := by
      rw [List.map_map, show ((fun x : Str => x.length) ∘ one) = fun _ => 1 from rfl, show (Str.ofString "").length = 0 from rfl, List.map_const', List.sum_replicate_nat]
      omega
    refine r_joinL (ys := gs.map one) upd_same hsum ?_
    have hz : Dr cl (N + 26 - ((List.range ((m : Nat) : Int).toNat).map fun i : Nat => V.int (0 + i)).length) (upd H3 t (.lst ((gs.map one).map V.str))) dr := d3.same (same_new nt)
    have mem : ∀ c ∈ gs, 97 ≤ c ∧ c ≤ 122 := fun c m => by
      have := hpm.mem_iff.mp (List.mem_append_left ps (hgs.mem_iff.mp m))
      rw [cab] at this
      simp at this
      omega
    have nd : gs.Nodup := by
      have h1 : (fs ++ ps).Nodup := hpm.nodup_iff.mpr (by rw [cab]; decide)
      exact hgs.nodup_iff.mpr (List.nodup_append.mp h1).1
    refine q _ _ (hz.le (by simp; omega)) (b3.trans (But.of (same_new nt))) ?_ ?_ ?_
    · rw [cp_join]
      simp only [smallL, List.all_map, List.all_eq_true, List.mem_range, Function.comp, id, Bool.and_eq_true, decide_eq_true_eq]
      exact fun i hi => mem _ (getD_mem' hi)
    · rw [cp_join]
      exact rise_of hso nd
    · rw [cp_join, hgs.length_eq]
      exact hm'
end
end K
set_option Elab.async false
set_option linter.all false
set_option maxRecDepth 100000
set_option maxHeartbeats 2000000
namespace K
open PySem PySem.Spec PyProof.Rows L2 TH
local macro_rules | `(tactic| walk_at "rd1") => `(tactic| with_reducible (first
  | refine r_seq ?_ | refine r_if ?_ | refine r_ret ?_ | refine r_next ?_ | refine r_asg ?_ | refine r_drop ?_ | refine r_gname ?_ | refine r_retN ?_
  | refine r_var rfl ?_ | refine r_c ?_ | refine r_op ?_ | refine r_un ?_ | refine r_test ?_ | refine r_tB ?_ | refine r_bl ?_ | refine r_and ?_ | refine r_or ?_ | refine r_not ?_
  | refine r_andV ?_ | refine r_orV ?_ | refine r_notV ?_ | refine r_bb ?_ | refine r_ifE ?_ | refine r_gsub ?_ | refine r_nil ?_ | refine r_cons ?_ | refine r_cb ?_ | refine r_cl ?_ | refine r_clS ?_
  | refine r_part ?_ | refine r_nopart ?_ | refine r_int ?_ | refine r_sl ?_ | refine r_chain ?_ | refine r_I0 ?_ | refine r_U ?_ | refine r_eqI ?_ | refine r_neI ?_ | refine r_eqS ?_ | refine r_eqB ?_ | refine r_neB ?_ | refine r_int1 ?_ | refine r_abs1 ?_
  | refine iteT ?_ | refine iteF ?_ | refine r_isF rfl ?_ | refine r_isD (by assumption) (by decide) ?_ | refine r_brk ?_ | refine r_ct ?_ | refine r_ltS ?_ | refine r_leS ?_ | refine r_aug rfl ?_ | refine r_lc ?_ | refine r_meth ?_ | refine r_callO ?_ | refine r_make ?_ | refine r_methT ?_ | refine r_callT ?_ | refine r_ixT' ?_ | refine r_mkS ?_ | refine r_pr ?_ | refine r_sfld ?_ | refine r_fld ?_ | refine r_dnew ?_ | refine r_dput ?_ | refine r_dget ?_ | refine r_bm ?_ | refine r_rs ?_ | refine r_notInS ?_ | refine r_inS ?_ | refine r_isN ?_ | refine r_notN ?_ | refine r_for ?_ | refine r_rg1 ?_ | refine r_m1 ?_ | refine r_m0 ?_ | refine r_isS ?_ | refine r_rg2 ?_ | refine r_ipI ?_))
local macro_rules | `(tactic| walk_at "rd") => `(tactic| repeat (first | walk_at "rd1" | ((with_reducible apply r_var); (focus exact rfl)) | (with_reducible refine r_tup ?_) | (with_reducible refine r_lst ?_) | ((with_reducible refine r_ln ?_ ?_); focus (simp; done)) | ((with_reducible refine iteT' ?_ ?_); focus (simp [isB, Dat.ty, tyN]; done)) | ((with_reducible refine iteF' ?_ ?_); focus (simp [isB, Dat.ty, tyN]; done))))
local macro_rules | `(tactic| walk_at "hf") => `(tactic| first
  | assumption
  | exact upd_same
  | (refine keep1 ?_ (by assumption); walk_at "hf")
  | (refine keep2 (by assumption) ?_; walk_at "hf")
  | (refine (show Same _ _ by assumption) _ _ ?_; walk_at "hf")
  | (refine (show But _ _ _ by assumption) _ _ (by assumption) ?_; walk_at "hf"))
local macro_rules | `(tactic| walk_at "rx") => `(tactic| repeat (first | walk_at "rd1" | ((with_reducible apply r_ixL); (focus assumption); (focus exact rfl)) | ((with_reducible apply r_ixT); (focus assumption); (focus exact rfl)) | ((with_reducible apply r_lenL); (focus assumption)) | ((with_reducible apply r_lenT); (focus assumption)) | ((with_reducible apply r_var); (focus exact rfl)) | (with_reducible refine r_tup ?_) | (with_reducible refine r_lst ?_) | ((with_reducible refine r_ln ?_ ?_); focus (simp; done)) | ((with_reducible refine iteT' ?_ ?_); focus (simp [isB, Dat.ty, tyN]; done)) | ((with_reducible refine iteF' ?_ ?_); focus (simp [isB, Dat.ty, tyN]; done))))
local macro_rules | `(tactic| walk_at "rz") => `(tactic| repeat ((fail_if_success (with_reducible show tFor _ _ _ _ _ _)); (first | walk_at "rd1" | ((with_reducible apply r_ixL); (focus assumption); (focus exact rfl)) | ((with_reducible apply r_ixT); (focus assumption); (focus exact rfl)) | ((with_reducible apply r_lenL); (focus assumption)) | ((with_reducible apply r_lenT); (focus assumption)) | ((with_reducible apply r_var); (focus exact rfl)) | (with_reducible refine r_tup ?_) | (with_reducible refine r_lst ?_) | ((with_reducible refine r_ln ?_ ?_); focus (simp; done)) | ((with_reducible refine iteT' ?_ ?_); focus (simp [isB, Dat.ty, tyN]; done)) | ((with_reducible refine iteF' ?_ ?_); focus (simp [isB, Dat.ty, tyN]; done)))))
/-- the addresses of rows as lists -/
def adr (as : List (Addr × Addr)) : List Addr := as.flatMap fun p => [p.1, p.2]
structure RowsA (H : Hp) (R : Addr) (rows : List Row) (as : List (Addr × Addr)) : Prop where
  r : H R = some (.lst (as.map fun p => V.ref p.1))
  l : as.length = rows.length
  a : ∀ (i : Nat) (p : Addr × Addr), as[i]? = some p → H p.1 = some (.lst [.int (rows.getD i r0).s, .int (rows.getD i r0).b, .ref p.2]) ∧ H p.2 = some (.lst ((rows.getD i r0).n.map V.int))
theorem adr_mem {as : List (Addr × Addr)} {i : Nat} {p : Addr × Addr} (h : as[i]? = some p) : p.1 ∈ adr as ∧ p.2 ∈ adr as := by
  have m := List.mem_of_getElem? h
  exact ⟨List.mem_flatMap.mpr ⟨p, m, by simp⟩, List.mem_flatMap.mpr ⟨p, m, by simp⟩⟩
theorem RowsA.keep {H H' : Hp} {R : Addr} {rows : List Row} {as : List (Addr × Addr)} (h : RowsA H R rows as) (k : ∀ a ∈ R :: adr as, ∀ o, H a = some o → H' a = some o) : RowsA H' R rows as :=
  ⟨k R List.mem_cons_self _ h.r, h.l, fun i p e => ⟨k _ (List.mem_cons_of_mem _ (adr_mem e).1) _ (h.a i p e).1, k _ (List.mem_cons_of_mem _ (adr_mem e).2) _ (h.a i p e).2⟩⟩
theorem adr_ne {as : List (Addr × Addr)} (nd : (adr as).Nodup) : ∀ {i j : Nat} {p q : Addr × Addr}, as[i]? = some p → as[j]? = some q → p.1 ≠ q.2 ∧ (i ≠ j → p.1 ≠ q.1 ∧ p.2 ≠ q.2) := by
  induction as with
  | nil => intro i j p q h; simp at h
  | cons a as ih =>
    simp only [adr, List.flatMap_cons, List.cons_append, List.nil_append, List.nodup_cons, List.mem_cons, not_or] at nd
    obtain ⟨⟨n1, n2⟩, n3, n4⟩ := nd
    intro i j p q hp hq
    cases i with
    | zero =>
      obtain rfl : a = p := by simpa using hp
      cases j with
      | zero =>
        obtain rfl : a = q := by simpa using hq
        exact ⟨n1, fun h => absurd rfl h⟩
      | succ j =>
        have hq' : as[j]? = some q := by simpa using hq
        have m := adr_mem hq'
        exact ⟨fun e => n2 (e ▸ m.2), fun _ => ⟨fun e => n2 (e ▸ m.1), fun e => n3 (e ▸ m.2)⟩⟩
    | succ i =>
      have hp' : as[i]? = some p := by simpa using hp
      have mp := adr_mem hp'
      cases j with
      | zero =>
        obtain rfl : a = q := by simpa using hq
        exact ⟨fun e => n3 (e ▸ mp.1), fun _ => ⟨fun e => n2 (e ▸ mp.1), fun e => n3 (e ▸ mp.2)⟩⟩
      | succ j =>
        have hq' : as[j]? = some q := by simpa using hq
        have := ih n4 hp' hq'
        exact ⟨this.1, fun h => this.2 (by omega)⟩
theorem getD_set {α : Type} {l : List α} {i j : Nat} {d x : α} (hj : j < l.length) : (l.set j x).getD i d = if i = j then x else l.getD i d := by
  rw [List.getD_eq_getElem?_getD, List.getD_eq_getElem?_getD]
  by_cases e : i = j
  · subst e; rw [if_pos rfl, List.getElem?_set_self hj]; rfl
  · rw [if_neg e, List.getElem?_set_ne (fun q => e q.symm)]
/-- a row's own record anew -/
theorem RowsA.setR {H : Hp} {R : Addr} {rows : List Row} {as : List (Addr × Addr)} (h : RowsA H R rows as) (nd : (R :: adr as).Nodup) {j : Nat} {p : Addr × Addr} (hj : as[j]? = some p) (s b : Int) :
    RowsA (upd H p.1 (.lst [.int s, .int b, .ref p.2])) R (rows.set j ⟨s, b, (rows.getD j r0).n⟩) as := by
  obtain ⟨n1, n2⟩ := List.nodup_cons.mp nd
  have m := adr_mem hj
  have hjl : j < rows.length := by rw [← h.l]; exact (List.getElem?_eq_some_iff.mp hj).1
  refine ⟨keep2 (fun e => n1 (e ▸ m.1)) h.r, by rw [h.l, List.length_set], fun i q hq => ?_⟩
  have ne := adr_ne n2 hq hj
  have ne2 := adr_ne n2 hj hq
  rw [getD_set hjl]
  by_cases e : i = j
  · subst e
    obtain rfl : q = p := Option.some.inj (hq.symm.trans hj)
    rw [if_pos rfl]
    exact ⟨upd_same, keep2 ne.1.symm (h.a i q hq).2⟩
  · rw [if_neg e]
    exact ⟨keep2 (ne.2 e).1 (h.a i q hq).1, keep2 ne2.1.symm (h.a i q hq).2⟩
/-- a row's list anew -/
theorem RowsA.setN {H : Hp} {R : Addr} {rows : List Row} {as : List (Addr × Addr)} (h : RowsA H R rows as) (nd : (R :: adr as).Nodup) {j : Nat} {p : Addr × Addr} (hj : as[j]? = some p) (cs : List Int) :
    RowsA (upd H p.2 (.lst (cs.map V.int))) R (rows.set j ⟨(rows.getD j r0).s, (rows.getD j r0).b, cs⟩) as := by
  obtain ⟨n1, n2⟩ := List.nodup_cons.mp nd
  have m := adr_mem hj
  have hjl : j < rows.length := by rw [← h.l]; exact (List.getElem?_eq_some_iff.mp hj).1
  refine ⟨keep2 (fun e => n1 (e ▸ m.2)) h.r, by rw [h.l, List.length_set], fun i q hq => ?_⟩
  have ne := adr_ne n2 hq hj
  rw [getD_set hjl]
  by_cases e : i = j
  · subst e
    obtain rfl : q = p := Option.some.inj (hq.symm.trans hj)
    rw [if_pos rfl]
    exact ⟨keep2 ne.1 (h.a i q hq).1, upd_same⟩
  · rw [if_neg e]
    exact ⟨keep2 ne.1 (h.a i q hq).1, keep2 (ne.2 e).2 (h.a i q hq).2⟩
theorem rowsA_dfs {H : Hp} : ∀ {rows : List Row} {as : List (Addr × Addr)}, as.length = rows.length → (∀ r ∈ rows, r.n.length ≤ 1000) → (∀ (i : Nat) (p : Addr × Addr), as[i]? = some p → H p.1 = some (.lst [.int (rows.getD i r0).s, .int (rows.getD i r0).b, .ref p.2]) ∧ H p.2 = some (.lst ((rows.getD i r0).n.map V.int))) →
    DFs H (rows.map Row.lD) (as.map fun p => V.ref p.1) (adr as)
  | [], [], _, _, _ => by simp [DFs, adr]
  | r :: rows, p :: as, hl, h1000, h => by
    have h0 := h 0 p rfl
    have hs := rowsA_dfs (rows := rows) (as := as) (by simpa using hl) (fun r m => h1000 r (List.mem_cons_of_mem _ m)) fun i q e => h (i + 1) q (by simpa using e)
    have hr := h1000 r List.mem_cons_self
    simp only [List.map_cons, DFs]
    refine ⟨.ref p.1, _, [p.1, p.2], adr as, rfl, rfl, ?_, hs⟩
    simp only [Row.lD, DF]
    refine ⟨by simp, p.1, _, [p.2], rfl, rfl, h0.1, ?_⟩
    simp only [DFs, DF]
    refine ⟨_, _, [], [p.2], rfl, rfl, ⟨rfl, rfl⟩, _, _, [], [p.2], rfl, rfl, ⟨rfl, rfl⟩, _, _, [p.2], [], rfl, rfl, ⟨by rw [List.length_map]; exact hr, p.2, _, [], rfl, rfl, h0.2, DFs.ofInts _⟩, rfl, rfl⟩
theorem RowsA.df {H : Hp} {R : Addr} {rows : List Row} {as : List (Addr × Addr)} (h : RowsA H R rows as) (hl : rows.length ≤ 1000) (h1000 : ∀ r ∈ rows, r.n.length ≤ 1000) : DF H (.lst (rows.map Row.lD)) (.ref R) (R :: adr as) := by
  simp only [DF]
  exact ⟨by rw [List.length_map]; exact hl, R, _, adr as, rfl, rfl, h.r, rowsA_dfs h.l h1000 h.a⟩
/-- and back -/
theorem dfs_rowsA {H : Hp} : ∀ {rows : List Row} {xs : List V} {fp : List Addr}, DFs H (rows.map Row.lD) xs fp → ∃ as : List (Addr × Addr), xs = as.map (fun p => V.ref p.1) ∧ fp = adr as ∧ as.length = rows.length ∧ ∀ (i : Nat) (p : Addr × Addr), as[i]? = some p → H p.1 = some (.lst [.int (rows.getD i r0).s, .int (rows.getD i r0).b, .ref p.2]) ∧ H p.2 = some (.lst ((rows.getD i r0).n.map V.int))
  | [], xs, fp, h => by
    simp only [List.map_nil, DFs] at h
    exact ⟨[], h.1, h.2, rfl, fun i p e => by simp at e⟩
  | r :: rows, xs, fp, h => by
    simp only [List.map_cons, DFs] at h
    obtain ⟨x, ys, f, g, rfl, rfl, h1, h2⟩ := h
    obtain ⟨as, rfl, rfl, hl, ha⟩ := dfs_rowsA h2
    simp only [Row.lD, DF, DFs] at h1
    obtain ⟨_, a1, xs, f, rfl, rfl, hp, x0, y0, f0, g0, rfl, rfl, ⟨rfl, rfl⟩, x1, y1, f1, g1, rfl, rfl, ⟨rfl, rfl⟩, x2, y2, f2, g2, rfl, rfl, ⟨_, p2, zs, fz, rfl, rfl, hp2, hz⟩, rfl, rfl⟩ := h1
    obtain ⟨rfl, rfl⟩ := DFs.ints hz
    refine ⟨(a1, p2) :: as, rfl, rfl, by simp [hl], fun i p e => ?_⟩
    cases i with
    | zero =>
      cases e
      exact ⟨hp, hp2⟩
    | succ i => exact ha i p (by simpa using e)
theorem df_rowsA {H : Hp} {rows : List Row} {v : V} {fp : List Addr} (h : DF H (.lst (rows.map Row.lD)) v fp) : ∃ R as, v = .ref R ∧ fp = R :: adr as ∧ RowsA H R rows as := by
  simp only [DF] at h
  obtain ⟨_, R, xs, f, rfl, rfl, hR, hs⟩ := h
  obtain ⟨as, rfl, rfl, hl, ha⟩ := dfs_rowsA hs
  exact ⟨R, as, rfl, rfl, hR, hl, ha⟩
end K
set_option Elab.async false
set_option linter.all false
set_option maxRecDepth 100000
set_option maxHeartbeats 2000000
namespace K
open PySem PySem.Spec PyProof.Rows L2 TH
local macro_rules | `(tactic| walk_at "rd1") => `(tactic| with_reducible (first
  | refine r_seq ?_ | refine r_if ?_ | refine r_ret ?_ | refine r_next ?_ | refine r_asg ?_ | refine r_drop ?_ | refine r_gname ?_ | refine r_retN ?_
  | refine r_var rfl ?_ | refine r_c ?_ | refine r_op ?_ | refine r_un ?_ | refine r_test ?_ | refine r_tB ?_ | refine r_bl ?_ | refine r_and ?_ | refine r_or ?_ | refine r_not ?_
  | refine r_andV ?_ | refine r_orV ?_ | refine r_notV ?_ | refine r_bb ?_ | refine r_ifE ?_ | refine r_gsub ?_ | refine r_nil ?_ | refine r_cons ?_ | refine r_cb ?_ | refine r_cl ?_ | refine r_clS ?_
  | refine r_part ?_ | refine r_nopart ?_ | refine r_int ?_ | refine r_sl ?_ | refine r_chain ?_ | refine r_I0 ?_ | refine r_U ?_ | refine r_eqI ?_ | refine r_neI ?_ | refine r_eqS ?_ | refine r_eqB ?_ | refine r_neB ?_ | refine r_int1 ?_ | refine r_abs1 ?_
  | refine iteT ?_ | refine iteF ?_ | refine r_isF rfl ?_ | refine r_isD (by assumption) (by decide) ?_ | refine r_brk ?_ | refine r_ct ?_ | refine r_ltS ?_ | refine r_leS ?_ | refine r_aug rfl ?_ | refine r_lc ?_ | refine r_meth ?_ | refine r_callO ?_ | refine r_make ?_ | refine r_methT ?_ | refine r_callT ?_ | refine r_ixT' ?_ | refine r_mkS ?_ | refine r_pr ?_ | refine r_sfld ?_ | refine r_fld ?_ | refine r_dnew ?_ | refine r_dput ?_ | refine r_dget ?_ | refine r_bm ?_ | refine r_rs ?_ | refine r_notInS ?_ | refine r_inS ?_ | refine r_isN ?_ | refine r_notN ?_ | refine r_for ?_ | refine r_rg1 ?_ | refine r_m1 ?_ | refine r_m0 ?_ | refine r_isS ?_ | refine r_rg2 ?_ | refine r_ipI ?_))
local macro_rules | `(tactic| walk_at "rd") => `(tactic| repeat (first | walk_at "rd1" | ((with_reducible apply r_var); (focus exact rfl)) | (with_reducible refine r_tup ?_) | (with_reducible refine r_lst ?_) | ((with_reducible refine r_ln ?_ ?_); focus (simp; done)) | ((with_reducible refine iteT' ?_ ?_); focus (simp [isB, Dat.ty, tyN]; done)) | ((with_reducible refine iteF' ?_ ?_); focus (simp [isB, Dat.ty, tyN]; done))))
local macro_rules | `(tactic| walk_at "hf") => `(tactic| first
  | assumption
  | exact upd_same
  | (refine keep1 ?_ (by assumption); walk_at "hf")
  | (refine keep2 (by assumption) ?_; walk_at "hf")
  | (refine (show Same _ _ by assumption) _ _ ?_; walk_at "hf")
  | (refine (show But _ _ _ by assumption) _ _ (by assumption) ?_; walk_at "hf"))
local macro_rules | `(tactic| walk_at "rx") => `(tactic| repeat (first | walk_at "rd1" | ((with_reducible apply r_ixL); (focus assumption); (focus exact rfl)) | ((with_reducible apply r_ixT); (focus assumption); (focus exact rfl)) | ((with_reducible apply r_lenL); (focus assumption)) | ((with_reducible apply r_lenT); (focus assumption)) | ((with_reducible apply r_var); (focus exact rfl)) | (with_reducible refine r_tup ?_) | (with_reducible refine r_lst ?_) | ((with_reducible refine r_ln ?_ ?_); focus (simp; done)) | ((with_reducible refine iteT' ?_ ?_); focus (simp [isB, Dat.ty, tyN]; done)) | ((with_reducible refine iteF' ?_ ?_); focus (simp [isB, Dat.ty, tyN]; done))))
local macro_rules | `(tactic| walk_at "rz") => `(tactic| repeat ((fail_if_success (with_reducible show tFor _ _ _ _ _ _)); (first | walk_at "rd1" | ((with_reducible apply r_ixL); (focus assumption); (focus exact rfl)) | ((with_reducible apply r_ixT); (focus assumption); (focus exact rfl)) | ((with_reducible apply r_lenL); (focus assumption)) | ((with_reducible apply r_lenT); (focus assumption)) | ((with_reducible apply r_var); (focus exact rfl)) | (with_reducible refine r_tup ?_) | (with_reducible refine r_lst ?_) | ((with_reducible refine r_ln ?_ ?_); focus (simp; done)) | ((with_reducible refine iteT' ?_ ?_); focus (simp [isB, Dat.ty, tyN]; done)) | ((with_reducible refine iteF' ?_ ?_); focus (simp [isB, Dat.ty, tyN]; done)))))
theorem dot_signs (ws : Str) : cp (Str.ofString "." ++ ws) = sgOf ws := by rw [cp_cat]; rfl
theorem set_map_int (n : List Int) (i : Nat) (v : Int) : (n.map V.int).set i (.int v) = (n.set i v).map V.int := by rw [List.map_set]
/-- rows that are right for words of this length -/
structure RowsOk (rows : List Row) (n : Nat) (m : Nat) : Prop where
  l : rows.length = m
  r : ∀ r ∈ rows, r.Ok n m
  z : (rows.getD 0 r0).s = 0 ∧ (rows.getD 0 r0).n.getD 0 0 = 0
theorem Row.Ok.setN {r : Row} {n : Nat} {m : Int} (h : r.Ok n m) {c : Int} (hc : 0 ≤ c ∧ c ≤ m - 1) (i : Nat) : Row.Ok ⟨r.s, r.b, r.n.set i c⟩ n m :=
  ⟨h.s, h.b, by show (r.n.set i c).length = n + 1; rw [List.length_set]; exact h.l, fun x hx => by
    rcases List.mem_or_eq_of_mem_set hx with e | e
    · exact h.n x e
    · rw [e]; exact hc⟩
theorem all_set {rows : List Row} {P : Row → Prop} (h : ∀ r ∈ rows, P r) {j : Nat} {r : Row} (hr : P r) : ∀ q ∈ rows.set j r, P q := fun q hq => by
  rcases List.mem_or_eq_of_mem_set hq with e | e
  · exact h q e
  · rw [e]; exact hr
theorem bfree {dr a : Addr} {H H' : Hp} (s : But dr H H') (hd : ∃ y, H' dr = some y) (n : H' a = none) : H a = none := by
  cases e : H a with
  | none => rfl
  | some o =>
    by_cases q : a = dr
    · subst q; obtain ⟨y, hy⟩ := hd; rw [hy] at n; cases n
    · rw [s _ _ q e] at n; cases n
theorem RowsA.stands {H : Hp} {R : Addr} {rows : List Row} {as : List (Addr × Addr)} (h : RowsA H R rows as) : ∀ a ∈ R :: adr as, ∃ o, H a = some o := fun a m => by
  rcases List.mem_cons.mp m with e | e
  · rw [e]; exact ⟨_, h.r⟩
  · obtain ⟨p, hp, ha⟩ := List.mem_flatMap.mp e
    obtain ⟨i, hi, rfl⟩ := List.mem_iff_getElem.mp hp
    have := h.a i as[i] (by simp [hi])
    simp at ha
    rcases ha with e | e
    · rw [e]; exact ⟨_, this.1⟩
    · rw [e]; exact ⟨_, this.2⟩
theorem adr_snoc (as : List (Addr × Addr)) (p : Addr × Addr) : adr (as ++ [p]) = adr as ++ [p.1, p.2] := by simp [adr]
theorem RowsA.snoc {H : Hp} {R : Addr} {rows : List Row} {as : List (Addr × Addr)} (h : RowsA H R rows as) {p1 p2 : Addr} {r : Row} {H' : Hp} (hk : ∀ a ∈ adr as, ∀ o, H a = some o → H' a = some o) (hR : H' R = some (.lst ((as.map fun p => V.ref p.1) ++ [.ref p1])))
    (h1 : H' p1 = some (.lst [.int r.s, .int r.b, .ref p2])) (h2 : H' p2 = some (.lst (r.n.map V.int))) : RowsA H' R (rows ++ [r]) (as ++ [(p1, p2)]) := by
  refine ⟨by rw [hR, List.map_append]; rfl, by simp [h.l], fun i p e => ?_⟩
  by_cases hi : i < as.length
  · rw [List.getElem?_append_left hi] at e
    have hi' : i < rows.length := by rw [← h.l]; exact hi
    rw [show (rows ++ [r]).getD i r0 = rows.getD i r0 by rw [List.getD_eq_getElem?_getD, List.getD_eq_getElem?_getD, List.getElem?_append_left hi']]
    exact ⟨hk _ (adr_mem e).1 _ (h.a i p e).1, hk _ (adr_mem e).2 _ (h.a i p e).2⟩
  · rw [List.getElem?_append_right (by omega)] at e
    have hj : i - as.length = 0 := by
      have := (List.getElem?_eq_some_iff.mp e).1
      simp at this
      omega
    rw [hj] at e
    cases e
    rw [show (rows ++ [r]).getD i r0 = r by rw [List.getD_eq_getElem?_getD, List.getElem?_append_right (by rw [← h.l]; omega), show i - rows.length = 0 by rw [← h.l]; exact hj]; rfl]
    exact ⟨h1, h2⟩
theorem sfE {R : Hp → Prop} {G H : Hp} (e : H = G) (k : R G) : R H := e ▸ k
theorem ixN_at {n i : Nat} (h : i < n) : ixN n (i : Int) = some i := by
  unfold ixN
  rw [if_pos (by omega), if_pos (by omega)]
  simp
theorem RowsA.at {H : Hp} {R : Addr} {rows : List Row} {as : List (Addr × Addr)} (h : RowsA H R rows as) {i : Nat} (hi : i < rows.length) : ∃ p, as[i]? = some p ∧ (as.map fun p => V.ref p.1)[i]? = some (.ref p.1) ∧ H p.1 = some (.lst [.int (rows.getD i r0).s, .int (rows.getD i r0).b, .ref p.2]) ∧ H p.2 = some (.lst ((rows.getD i r0).n.map V.int)) := by
  have hi' : i < as.length := by rw [h.l]; exact hi
  have e : as[i]? = some as[i] := by simp [hi']
  exact ⟨as[i], e, by rw [List.getElem?_map, e]; rfl, h.a i _ e⟩
section
variable {P : Program} {w : World} {K : PySem.W.Frag} {mg : Str → Option Value} {base : Heap} (T : Txt K mg)
include T
def sp_rows : Sp := fun vs H Q _ => ∃ cl N dr ws, ∃ m : Nat, vs = [.ref dr, .str ws, .int m] ∧ 1 ≤ m ∧ m ≤ 6 ∧ (cp ws).length ≤ 4 ∧ Dr cl (N + 60) H dr ∧
  ∀ R as rows H', Dr cl N H' dr → But dr H H' → RowsA H' R rows as → (∀ a ∈ R :: adr as, H a = none) → (R :: adr as).Nodup → RowsOk rows (cp ws).length m → Q (.ref R) H'
theorem ok_rows (C : Cal P w K mg base 2 "_law_pick" sp_pick) (F : FD K "_law_rows" "_law_rows" s_l_rows [] (He.ga K "_law_rows")) : FnT P w K mg base 3 (He.ga K "_law_rows") sp_rows := by
  refine fnT_of (k := 2) F sc_l_rows (fun _ _ _ _ _ _ us hl => match us, hl with | [_, _, _], _ => rfl) (fun vs H Q E h => by obtain ⟨cl, N, dr, ws, m, rfl, _⟩ := h; rfl) fun cdv A outer s H vs Q E hr h => ⟨_, (tm_l_rows T (C_l_pick := C) (h_l_pick := by decide) (hr := hr)).2, ?_⟩
  obtain ⟨cl, N, dr, ws, m, rfl, hm1, hm6, hws, hdr, q⟩ := h
  obtain ⟨yd, hyd⟩ := hdr.lst
  obtain ⟨yc, hyc⟩ := hdr.cls
  unfold tm_l_rows
  walk_at "rx"
  refine ⟨cl, N + 59, dr, _, rfl, hdr.le (by omega), by omega, fun kind H1 d1 b1 k0 k1 => ?_⟩
  obtain ⟨yc1, hyc1⟩ := d1.cls
  walk_at "rx"
  intro R nR
  walk_at "rx"
  refine ⟨_, rfl, by omega, by omega, ?_⟩
  have nR0 : H R = none := by
    cases e : H R with
    | none => rfl
    | some o =>
      by_cases q : R = dr
      · subst q; obtain ⟨y, hy⟩ := d1.lst; rw [hy] at nR; cases nR
      · rw [b1 _ _ q e] at nR; cases nR
  have nRdr : R ≠ dr := ne_of_none' hyd nR0
  have nRcl : R ≠ cl := ne_of_none' hyc nR0
  refine forG (W := tNext) (walk_rangeS (lo := 0) (n := ((m : Nat) : Int).toNat)) (fun i σ H' => Dr cl (N + 59 - 7 * i) H' dr ∧ But dr H H' ∧ (∃ rows as, RowsA H' R rows as ∧ rows.length = i ∧ (∀ r ∈ rows, r.Ok (cp ws).length m) ∧ (∀ a ∈ R :: adr as, H a = none) ∧ (R :: adr as).Nodup) ∧ ∃ x5 x6, σ = [some (.ref dr), some (.str ws), some (.int m), some (.int kind), some (.ref R), x5, x6, none])
    ⟨d1.same (same_new nR), b1.trans (But.of (same_new nR)), ⟨[], [], ⟨upd_same, rfl, fun i p e => by simp at e⟩, rfl, fun r h => (by cases h), fun a h => ?_, ?_⟩, none, none, rfl⟩ (fun _ _ _ _ => trivial) (fun i x σ H3 hi hx hF => ?_) fun σ H3 hF => ?_
  · simp [adr] at h; rw [h]; exact nR0
  · simp [adr]
  · obtain ⟨d3, b3, ⟨rows, as, hA, hAl, hok, hfr, hnd⟩, x5, x6, rfl⟩ := hF
    have hi' : i < m := by simpa using hi
    obtain rfl : x = .int (i : Nat) := by
      rw [List.getElem?_map, List.getElem?_range (by simpa using hi')] at hx
      cases hx
      simp
    walk_at "rx"
    refine r_srcS (H' := H3) (z := Str.ofString "." ++ ws) (fun Q' q => ?_) ?_
    · walk_at "rx"
      refine r_addS (by rw [len_cp, len_cp]; show 1 + (cp ws).length ≤ sizeLine; exact s1000 (by omega)) ?_
      exact q
    intro Dn nDn
    have nDn0 := bfree b3 (let ⟨y, hy⟩ := d3.lst; ⟨_, hy⟩) nDn
    have Dndr : Dn ≠ dr := ne_of_none' hyd nDn0
    have Dncl : Dn ≠ cl := ne_of_none' hyc nDn0
    refine lcG (σ' := fun x => [some (.ref dr), some (.str ws), some (.int m), some (.int kind), some (.ref R), some (.int (i : Nat)), x6, some x]) walk_strS (by rw [signs_len, dot_signs]; show (cp ws).length + 1 ≤ 1000; omega) nDn (fun _ => rfl) (fun _ => rfl)
      (fun j acc H' => Dr cl (N + 59 - 7 * i - j) H' dr ∧ But dr H3 H' ∧ ∃ cs : List Int, acc = cs.map V.int ∧ cs.length = j ∧ ∀ c ∈ cs, 0 ≤ c ∧ c ≤ m - 1)
      ⟨d3.same (same_new nDn), But.of (same_new nDn), [], rfl, rfl, fun c h => (by cases h)⟩ (fun _ _ _ _ => trivial) (fun j x acc H4 hj hx hD hF Qn k => ?_) fun acc H4 hl hD hF => ?_
    · obtain ⟨d4, b4, cs, rfl, hcl, hcs⟩ := hF
      rw [signs_len, dot_signs] at hj
      have hj' : j < (cp ws).length + 1 := hj
      walk_at "rx"
      refine ⟨cl, N + 59 - 7 * i - (j + 1), dr, _, rfl, d4.le (by omega), by omega, fun c H5 d5 b5 c0 c1 => ?_⟩
      refine k _ H5 (b5 _ _ Dndr hD) ⟨d5.upd Dndr Dncl, but_updD (b4.trans b5) nDn, cs ++ [c], by simp, by simp [hcl], fun e he => ?_⟩
      rcases List.mem_append.mp he with e' | e'
      · exact hcs e e'
      · rw [List.mem_singleton.mp e']; have := c1 (by omega); omega
    obtain ⟨d4, b4, cs, rfl, hcl, hcs⟩ := hF
    rw [signs_len, dot_signs] at hcl d4
    have hcl' : cs.length = (cp ws).length + 1 := hcl
    walk_at "rd1"
    walk_at "rd1"
    refine r_cut (fun σ H' => Dr cl (N + 59 - 7 * i - 5) H' dr ∧ But dr H3 H' ∧ (∃ cs : List Int, H' Dn = some (.lst (cs.map V.int)) ∧ cs.length = (cp ws).length + 1 ∧ ∀ c ∈ cs, 0 ≤ c ∧ c ≤ m - 1) ∧ σ = [some (.ref dr), some (.str ws), some (.int m), some (.int kind), some (.ref R), some (.int (i : Nat)), some (.ref Dn), none]) (fun Rk hR => ?_) fun σ H5 hF => ?_
    · have d4' : Dr cl (N + 59 - 7 * i - 5) H4 dr := d4.le (by show N + 59 - 7 * i - 5 ≤ N + 59 - 7 * i - ((cp ws).length + 1); omega)
      walk_at "rx"
      refine iteD (fun hk => ?_) fun hk => ?_
      · walk_at "rx"
        refine r_setL hD (n := 0) (ixN_at (i := 0) (by rw [List.length_map, hcl']; omega)) ?_
        rw [set_map_int]
        refine hR _ _ ⟨d4'.upd Dndr Dncl, but_updD b4 nDn, ⟨_, upd_same, by rw [List.length_set]; exact hcl', fun c hc => ?_⟩, rfl⟩
        rcases List.mem_or_eq_of_mem_set hc with e | e
        · exact hcs c e
        · rw [e]; omega
      · walk_at "rx"
        exact hR _ _ ⟨d4', b4, ⟨cs, hD, hcl', hcs⟩, rfl⟩
    · obtain ⟨d5, b5, ⟨cs, hD5, hcl5, hcs5⟩, rfl⟩ := hF
      have st3 := hA.stands
      have nott : ∀ a ∈ R :: adr as, a ≠ dr := fun a m e => by have := hfr a m; rw [e, hyd] at this; cases this
      have hA5 : RowsA H5 R rows as := hA.keep fun a m o e => b5 _ _ (nott a m) e
      have hR5 := hA5.r
      walk_at "rx"
      refine tyL hR5 ?_
      walk_at "rx"
      refine ⟨cl, N + 59 - 7 * i - 6, dr, _, rfl, d5.le (by omega), by omega, fun k1 H6 d6 b6 k10 k11 => ?_⟩
      have k1l := k11 (by omega)
      walk_at "rx"
      refine ⟨cl, N + 59 - 7 * i - 7, dr, _, rfl, d6.le (by omega), by omega, fun k2 H7 d7 b7 k20 k21 => ?_⟩
      have k2l := k21 (by omega)
      walk_at "rx"
      intro rr nrr
      have b37 := (b5.trans b6).trans b7
      have b07 := b3.trans b37
      have nrr0 := bfree b07 (let ⟨y, hy⟩ := d7.lst; ⟨_, hy⟩) nrr
      have rrdr : rr ≠ dr := ne_of_none' hyd nrr0
      have rrcl : rr ≠ cl := ne_of_none' hyc nrr0
      have hA7 : RowsA H7 R rows as := hA.keep fun a m o e => b37 _ _ (nott a m) e
      have hD7 : H7 Dn = some (.lst (cs.map V.int)) := b7 _ _ Dndr (b6 _ _ Dndr hD5)
      have rrA : rr ∉ R :: adr as := fun m => by obtain ⟨o, ho⟩ := hA7.stands rr m; rw [nrr] at ho; cases ho
      have rrD : Dn ≠ rr := fun e => by subst e; rw [nrr] at hD7; cases hD7
      have DnA : Dn ∉ R :: adr as := fun m => by obtain ⟨o, ho⟩ := st3 Dn m; rw [nDn] at ho; cases ho
      walk_at "rx"
      refine r_app (keep1 hA7.r nrr) (by rw [List.length_map, hA7.l, hAl]; omega) ?_
      walk_at "rx"
      have bnew : But dr H (upd (upd H7 rr (.lst [.int (k1 - 3), .int (1 + k2), .ref Dn])) R (.lst ((as.map fun p => V.ref p.1) ++ [V.ref rr]))) := but_updD (but_updD b07 nrr0) nR0
      refine ⟨((d7.le (by omega)).upd rrdr rrcl).upd nRdr nRcl, bnew, ⟨rows ++ [⟨k1 - 3, 1 + k2, cs⟩], as ++ [(rr, Dn)], hA7.snoc (fun a m o e => ?_) upd_same (keep2 (fun e => rrA (e ▸ List.mem_cons_self)) upd_same) (keep2 (fun e => DnA (e ▸ List.mem_cons_self)) (keep2 rrD hD7)), by simp [hAl], fun r hr => ?_, fun a m => ?_, ?_⟩, _, _, rfl⟩
      · have n1 : a ≠ R := fun e' => (List.nodup_cons.mp hnd).1 (e' ▸ m)
        have n2 : a ≠ rr := fun e' => rrA (e' ▸ List.mem_cons_of_mem _ m)
        exact keep2 n1 (keep2 n2 e)
      · rcases List.mem_append.mp hr with e | e
        · exact hok r e
        · rw [List.mem_singleton.mp e]
          exact ⟨by show -3 ≤ k1 - 3 ∧ k1 - 3 ≤ 3; omega, by show 1 ≤ 1 + k2 ∧ 1 + k2 ≤ 12; omega, hcl5, hcs5⟩
      · rw [adr_snoc] at m
        rcases List.mem_cons.mp m with e | e
        · rw [e]; exact nR0
        · rcases List.mem_append.mp e with e | e
          · exact hfr a (List.mem_cons_of_mem _ e)
          · simp at e
            rcases e with e | e
            · rw [e]; exact nrr0
            · rw [e]; exact nDn0
      · rw [adr_snoc, ← List.cons_append]
        refine List.nodup_append.mpr ⟨hnd, by simp [rrD.symm], fun a ha b hb e => ?_⟩
        simp at hb
        rcases hb with e' | e'
        · exact rrA (by rw [← e', ← e]; exact ha)
        · exact DnA (by rw [← e', ← e]; exact ha)
  · obtain ⟨d3, b3, ⟨rows, as, hA, hAl, hok, hfr, hnd⟩, x5, x6, rfl⟩ := hF
    have hAl' : rows.length = m := by simpa using hAl
    clear hAl
    have nott : ∀ a ∈ R :: adr as, a ≠ dr := fun a m e => by have := hfr a m; rw [e, hyd] at this; cases this
    have notc : ∀ a ∈ R :: adr as, a ≠ cl := fun a m e => by have := hfr a m; rw [e, hyc] at this; cases this
    have d3' : Dr cl (N + 12) H3 dr := d3.le (by simp; omega)
    walk_at "rd1"
    refine r_cut (fun σ H' => Dr cl (N + 2) H' dr ∧ But dr H H' ∧ (∃ rows, RowsA H' R rows as ∧ rows.length = m ∧ ∀ r ∈ rows, r.Ok (cp ws).length m) ∧ ∃ x5 x6, σ = [some (.ref dr), some (.str ws), some (.int m), some (.int kind), some (.ref R), x5, x6, none]) (fun Rk hR => ?_) fun σ H4 hF => ?_
    · walk_at "rx"
      refine iteD (fun hk => ?_) fun hk => ?_
      · walk_at "rx"
        refine ⟨cl, N + 11, dr, _, rfl, d3'.le (by omega), by omega, fun c H5 d5 b5 c0 c1 => ?_⟩
        have hA5 : RowsA H5 R rows as := hA.keep fun a m o e => b5 _ _ (nott a m) e
        have cl1 := c1 (by omega)
        walk_at "rx"
        refine ⟨cl, N + 10, dr, _, rfl, d5.le (by omega), by omega, fun j H6 d6 b6 j0 j1 => ?_⟩
        obtain ⟨j, rfl⟩ : ∃ k : Nat, j = k := ⟨j.toNat, by omega⟩
        have jl := j1 (by omega)
        have hA6 : RowsA H6 R rows as := hA5.keep fun a m o e => b6 _ _ (nott a m) e
        obtain ⟨p, hp, hp0, hp1, hp2⟩ := hA6.at (i := j) (by omega)
        have hR6 := hA6.r
        have ok := hok _ (getD_mem' (l := rows) (i := j) (d := r0) (by omega))
        walk_at "rd"
        refine r_ixL hR6 (atI_at hp0) ?_
        walk_at "rx"
        refine r_setL hp2 (n := 0) (ixN_at (i := 0) (by rw [List.length_map, ok.l]; omega)) ?_
        rw [set_map_int]
        have mp := adr_mem hp
        refine hR _ _ ⟨(d6.le (by omega)).upd (nott _ (List.mem_cons_of_mem _ mp.2)) (notc _ (List.mem_cons_of_mem _ mp.2)), but_updD ((b3.trans b5).trans b6) (hfr _ (List.mem_cons_of_mem _ mp.2)), ⟨_, hA6.setN hnd hp _, by rw [List.length_set]; exact hAl', all_set hok (ok.setN (by omega) 0)⟩, _, _, rfl⟩
      · walk_at "rx"
        exact hR _ _ ⟨d3'.le (by omega), b3, ⟨rows, hA, hAl', hok⟩, _, _, rfl⟩
    · obtain ⟨d4, b4, ⟨rows, hA, hAl, hok⟩, x5, x6, rfl⟩ := hF
      obtain ⟨p, hp, hp0, hp1, hp2⟩ := hA.at (i := 0) (by omega)
      have mp := adr_mem hp
      have hR4 := hA.r
      have ok := hok _ (getD_mem' (l := rows) (i := 0) (d := r0) (by omega))
      walk_at "rd"
      refine r_ixL hR4 (atI_at (i := 0) hp0) ?_
      walk_at "rd"
      refine r_setL hp1 (n := 0) rfl ?_
      have hA5 := hA.setR hnd hp 0 (rows.getD 0 r0).b
      obtain ⟨H5, hH5⟩ : ∃ G, G = upd H4 p.1 (.lst [.int 0, .int (rows.getD 0 r0).b, .ref p.2]) := ⟨_, rfl⟩
      have d5 : Dr cl (N + 2) H5 dr := by rw [hH5]; exact d4.upd (nott _ (List.mem_cons_of_mem _ mp.1)) (notc _ (List.mem_cons_of_mem _ mp.1))
      have b5 : But dr H H5 := by rw [hH5]; exact but_updD b4 (hfr _ (List.mem_cons_of_mem _ mp.1))
      rw [← hH5] at hA5
      refine sfE hH5.symm ?_
      generalize hrr : rows.set 0 ⟨0, (rows.getD 0 r0).b, (rows.getD 0 r0).n⟩ = rows2 at hA5
      have l2 : rows2.length = m := by rw [← hrr, List.length_set]; exact hAl
      have g2 : rows2.getD 0 r0 = ⟨0, (rows.getD 0 r0).b, (rows.getD 0 r0).n⟩ := by rw [← hrr, getD_set (by omega), if_pos rfl]
      have ok2 : ∀ r ∈ rows2, r.Ok (cp ws).length m := by rw [← hrr]; exact all_set hok ⟨by show (-3 : Int) ≤ 0 ∧ (0 : Int) ≤ 3; omega, ok.b, ok.l, ok.n⟩
      obtain ⟨p', hp', hp0', hp1', hp2'⟩ := hA5.at (i := 0) (by omega)
      obtain rfl : p' = p := Option.some.inj (hp'.symm.trans hp)
      have ok' := ok2 _ (getD_mem' (l := rows2) (i := 0) (d := r0) (by omega))
      have hR5 := hA5.r
      walk_at "rd"
      refine r_ixL hR5 (atI_at (i := 0) hp0') ?_
      walk_at "rx"
      refine r_setL hp2' (n := 0) (ixN_at (i := 0) (by rw [List.length_map, ok'.l]; omega)) ?_
      rw [set_map_int]
      have hA6 := hA5.setN hnd hp ((rows2.getD 0 r0).n.set 0 0)
      walk_at "rd"
      refine q R as _ _ ((d5.le (by omega)).upd (nott _ (List.mem_cons_of_mem _ mp.2)) (notc _ (List.mem_cons_of_mem _ mp.2))) (but_updD b5 (hfr _ (List.mem_cons_of_mem _ mp.2))) hA6 hfr hnd ⟨by rw [List.length_set]; exact l2, all_set ok2 (ok'.setN (by omega) 0), ?_⟩
      rw [getD_set (by omega), if_pos rfl]
      refine ⟨by show (rows2.getD 0 r0).s = 0; rw [g2], ?_⟩
      show ((rows2.getD 0 r0).n.set 0 0).getD 0 0 = 0
      rw [getD_set (by rw [ok'.l]; omega), if_pos rfl]
end
end K
set_option Elab.async false
set_option linter.all false
set_option maxRecDepth 100000
set_option maxHeartbeats 2000000
namespace K
open PySem PySem.Spec PyProof.Rows L2 TH
local macro_rules | `(tactic| walk_at "rd1") => `(tactic| with_reducible (first
  | refine r_seq ?_ | refine r_if ?_ | refine r_ret ?_ | refine r_next ?_ | refine r_asg ?_ | refine r_drop ?_ | refine r_gname ?_ | refine r_retN ?_
  | refine r_var rfl ?_ | refine r_c ?_ | refine r_op ?_ | refine r_un ?_ | refine r_test ?_ | refine r_tB ?_ | refine r_bl ?_ | refine r_and ?_ | refine r_or ?_ | refine r_not ?_
  | refine r_andV ?_ | refine r_orV ?_ | refine r_notV ?_ | refine r_bb ?_ | refine r_ifE ?_ | refine r_gsub ?_ | refine r_nil ?_ | refine r_cons ?_ | refine r_cb ?_ | refine r_cl ?_ | refine r_clS ?_
  | refine r_part ?_ | refine r_nopart ?_ | refine r_int ?_ | refine r_sl ?_ | refine r_chain ?_ | refine r_I0 ?_ | refine r_U ?_ | refine r_eqI ?_ | refine r_neI ?_ | refine r_eqS ?_ | refine r_eqB ?_ | refine r_neB ?_ | refine r_int1 ?_ | refine r_abs1 ?_
  | refine iteT ?_ | refine iteF ?_ | refine r_isF rfl ?_ | refine r_isD (by assumption) (by decide) ?_ | refine r_brk ?_ | refine r_ct ?_ | refine r_ltS ?_ | refine r_leS ?_ | refine r_aug rfl ?_ | refine r_lc ?_ | refine r_meth ?_ | refine r_callO ?_ | refine r_make ?_ | refine r_methT ?_ | refine r_callT ?_ | refine r_ixT' ?_ | refine r_mkS ?_ | refine r_pr ?_ | refine r_sfld ?_ | refine r_fld ?_ | refine r_dnew ?_ | refine r_dput ?_ | refine r_dget ?_ | refine r_bm ?_ | refine r_rs ?_ | refine r_notInS ?_ | refine r_inS ?_ | refine r_isN ?_ | refine r_notN ?_ | refine r_for ?_ | refine r_rg1 ?_ | refine r_m1 ?_ | refine r_m0 ?_ | refine r_isS ?_ | refine r_rg2 ?_ | refine r_ipI ?_))
local macro_rules | `(tactic| walk_at "rd") => `(tactic| repeat (first | walk_at "rd1" | ((with_reducible apply r_var); (focus exact rfl)) | (with_reducible refine r_tup ?_) | (with_reducible refine r_lst ?_) | ((with_reducible refine r_ln ?_ ?_); focus (simp; done)) | ((with_reducible refine iteT' ?_ ?_); focus (simp [isB, Dat.ty, tyN]; done)) | ((with_reducible refine iteF' ?_ ?_); focus (simp [isB, Dat.ty, tyN]; done))))
local macro_rules | `(tactic| walk_at "hf") => `(tactic| first
  | assumption
  | exact upd_same
  | (refine keep1 ?_ (by assumption); walk_at "hf")
  | (refine keep2 (by assumption) ?_; walk_at "hf")
  | (refine (show Same _ _ by assumption) _ _ ?_; walk_at "hf")
  | (refine (show But _ _ _ by assumption) _ _ (by assumption) ?_; walk_at "hf"))
local macro_rules | `(tactic| walk_at "rx") => `(tactic| repeat (first | walk_at "rd1" | ((with_reducible apply r_ixL); (focus assumption); (focus exact rfl)) | ((with_reducible apply r_ixT); (focus assumption); (focus exact rfl)) | ((with_reducible apply r_lenL); (focus assumption)) | ((with_reducible apply r_lenT); (focus assumption)) | ((with_reducible apply r_var); (focus exact rfl)) | (with_reducible refine r_tup ?_) | (with_reducible refine r_lst ?_) | ((with_reducible refine r_ln ?_ ?_); focus (simp; done)) | ((with_reducible refine iteT' ?_ ?_); focus (simp [isB, Dat.ty, tyN]; done)) | ((with_reducible refine iteF' ?_ ?_); focus (simp [isB, Dat.ty, tyN]; done))))
local macro_rules | `(tactic| walk_at "rz") => `(tactic| repeat ((fail_if_success (with_reducible show tFor _ _ _ _ _ _)); (first | walk_at "rd1" | ((with_reducible apply r_ixL); (focus assumption); (focus exact rfl)) | ((with_reducible apply r_ixT); (focus assumption); (focus exact rfl)) | ((with_reducible apply r_lenL); (focus assumption)) | ((with_reducible apply r_lenT); (focus assumption)) | ((with_reducible apply r_var); (focus exact rfl)) | (with_reducible refine r_tup ?_) | (with_reducible refine r_lst ?_) | ((with_reducible refine r_ln ?_ ?_); focus (simp; done)) | ((with_reducible refine iteT' ?_ ?_); focus (simp [isB, Dat.ty, tyN]; done)) | ((with_reducible refine iteF' ?_ ?_); focus (simp [isB, Dat.ty, tyN]; done)))))
theorem tupDs_ints : ∀ l : List Int, Dat.tupDs (l.map Dat.int) = l.map Dat.int
  | [] => rfl
  | i :: l => by rw [List.map_cons, Dat.tupDs, tupDs_ints l]; rfl
theorem listDs_ints : ∀ l : List Int, Dat.listDs (l.map Dat.int) = l.map Dat.int
  | [] => rfl
  | i :: l => by rw [List.map_cons, Dat.listDs, listDs_ints l]; rfl
theorem dps_ints : ∀ l : List Int, Dat.dps (l.map Dat.int) = 0
  | [] => rfl
  | i :: l => by rw [List.map_cons, Dat.dps, dps_ints l]; rfl
theorem lD_tup (r : Row) : r.lD.tupD = r.tD := by simp only [Row.lD, Row.tD, Dat.tupD, Dat.tupDs, tupDs_ints]
theorem lD_lst (r : Row) : r.lD.listD = r.lD := by simp only [Row.lD, Dat.listD, Dat.listDs, listDs_ints]
theorem tD_tup (r : Row) : r.tD.tupD = r.tD := by simp only [Row.tD, Dat.tupD, Dat.tupDs, tupDs_ints]
theorem tD_lst (r : Row) : r.tD.listD = r.lD := by simp only [Row.lD, Row.tD, Dat.listD, Dat.listDs, listDs_ints]
/-- the third way in which rows are handed -/
def Row.mD (r : Row) : Dat := .tup [.int r.s, .int r.b, .lst (r.n.map Dat.int)]
theorem mD_tup (r : Row) : r.mD.tupD = r.tD := by simp only [Row.mD, Row.tD, Dat.tupD, Dat.tupDs, tupDs_ints]
theorem mD_lst (r : Row) : r.mD.listD = r.lD := by simp only [Row.mD, Row.lD, Dat.listD, Dat.listDs, listDs_ints]
theorem lDs_tup (l : List Row) : Dat.tupDs (l.map Row.lD) = l.map Row.tD := by rw [Dat.tupDs_map, List.map_map]; exact List.map_congr_left fun r _ => lD_tup r
theorem lDs_lst (l : List Row) : Dat.listDs (l.map Row.lD) = l.map Row.lD := by rw [Dat.listDs_map, List.map_map]; exact List.map_congr_left fun r _ => lD_lst r
theorem tDs_tup (l : List Row) : Dat.tupDs (l.map Row.tD) = l.map Row.tD := by rw [Dat.tupDs_map, List.map_map]; exact List.map_congr_left fun r _ => tD_tup r
theorem tDs_lst (l : List Row) : Dat.listDs (l.map Row.tD) = l.map Row.lD := by rw [Dat.listDs_map, List.map_map]; exact List.map_congr_left fun r _ => tD_lst r
theorem mDs_tup (l : List Row) : Dat.tupDs (l.map Row.mD) = l.map Row.tD := by rw [Dat.tupDs_map, List.map_map]; exact List.map_congr_left fun r _ => mD_tup r
theorem mDs_lst (l : List Row) : Dat.listDs (l.map Row.mD) = l.map Row.lD := by rw [Dat.listDs_map, List.map_map]; exact List.map_congr_left fun r _ => mD_lst r
theorem dps_le {n : Nat} : ∀ {l : List Dat}, (∀ d ∈ l, d.dp ≤ n) → Dat.dps l ≤ n
  | [], _ => Nat.zero_le _
  | d :: l, h => by
    rw [Dat.dps]
    exact Nat.max_le.mpr ⟨h d List.mem_cons_self, dps_le fun d m => h d (List.mem_cons_of_mem _ m)⟩
theorem lD_dp (r : Row) : r.lD.dp = 2 := by simp [Row.lD, Dat.dp, Dat.dps, dps_ints]
theorem tD_dp (r : Row) : r.tD.dp = 2 := by simp [Row.tD, Dat.dp, Dat.dps, dps_ints]
theorem mD_dp (r : Row) : r.mD.dp = 2 := by simp [Row.mD, Dat.dp, Dat.dps, dps_ints]
theorem lDs_dp (l : List Row) : Dat.dps (l.map Row.lD) ≤ 2 := dps_le fun d m => by obtain ⟨r, _, rfl⟩ := List.mem_map.mp m; rw [lD_dp]; exact Nat.le_refl _
theorem tDs_dp (l : List Row) : Dat.dps (l.map Row.tD) ≤ 2 := dps_le fun d m => by obtain ⟨r, _, rfl⟩ := List.mem_map.mp m; rw [tD_dp]; exact Nat.le_refl _
theorem mDs_dp (l : List Row) : Dat.dps (l.map Row.mD) ≤ 2 := dps_le fun d m => by obtain ⟨r, _, rfl⟩ := List.mem_map.mp m; rw [mD_dp]; exact Nat.le_refl _
mutual
theorem DF.lists {H : Hp} : ∀ {d : Dat} {v : V} {fp : List Addr}, DF H d v fp → ∀ a ∈ fp, ∃ ys, H a = some (.lst ys)
  | .non, v, fp, h, a, m => by simp only [DF] at h; rw [h.2] at m; cases m
  | .bl b, v, fp, h, a, m => by simp only [DF] at h; rw [h.2] at m; cases m
  | .int i, v, fp, h, a, m => by simp only [DF] at h; rw [h.2] at m; cases m
  | .str z, v, fp, h, a, m => by simp only [DF] at h; rw [h.2] at m; cases m
  | .lst l, v, fp, h, a, m => by
    simp only [DF] at h
    obtain ⟨hl, b, xs, f, rfl, rfl, e, hs⟩ := h
    rcases List.mem_cons.mp m with z | z
    · rw [z]; exact ⟨_, e⟩
    · exact DFs.lists hs a z
  | .tup l, v, fp, h, a, m => by
    simp only [DF] at h
    obtain ⟨hl, b, xs, rfl, e, hs⟩ := h
    exact DFs.lists hs a m
theorem DFs.lists {H : Hp} : ∀ {l : List Dat} {xs : List V} {fp : List Addr}, DFs H l xs fp → ∀ a ∈ fp, ∃ ys, H a = some (.lst ys)
  | [], xs, fp, h, a, m => by simp only [DFs] at h; rw [h.2] at m; cases m
  | d :: l, xs, fp, h, a, m => by
    simp only [DFs] at h
    obtain ⟨x, ys, f, g, rfl, rfl, h1, h2⟩ := h
    rcases List.mem_append.mp m with z | z
    · exact DF.lists h1 a z
    · exact DFs.lists h2 a z
end
section
variable {P : Program} {w : World} {K : PySem.W.Frag} {mg : Str → Option Value} {base : Heap} (T : Txt K mg)
include T
def sp_spoil (n : Nat) : Sp := fun vs H Q _ => ∃ d v fp, vs = [v] ∧ DF H d v fp ∧ fp.Nodup ∧ d.dp < n ∧ ∀ H', (∀ b o, b ∉ fp → H b = some o → H' b = some o) → Q .non H'
omit T in
theorem getElem?_drop1 {α : Type} {l : List α} {i : Nat} {x : α} (h : l[i]? = some x) : l.drop i = x :: l.drop (i + 1) := by
  obtain ⟨hi, rfl⟩ := List.getElem?_eq_some_iff.mp h
  exact List.drop_eq_getElem_cons hi
def SpF (H : Hp) (l : List Dat) (xs : List V) (f : List Addr) (v : V) (i : Nat) (σ : L2.St) (H' : Hp) : Prop :=
  (∀ b o, b ∉ f → H b = some o → H' b = some o) ∧ (∃ g, DFs H' (l.drop i) (xs.drop i) g ∧ g.Nodup ∧ ∀ b ∈ g, b ∈ f) ∧ ∃ x1, σ = [some v, x1]
omit T in
theorem spoil_step {n : Nat} {E : XK} {D : Ends} {H H1 : Hp} {l : List Dat} {xs : List V} {f : List Addr} {v x : V} {i : Nat} {σ : L2.St} (hdps : Dat.dps l < n) (hl : xs.length = l.length) (hx : xs[i]? = some x) (hF : SpF H l xs f v i σ H1)
    (hD : ∀ σ H', SpF H l xs f v (i + 1) σ H' → D.nx σ H') : tDrop (tCl (sp_spoil n) E (tCons (tVar 1) tNil)) D (σ.set 1 (some x)) H1 := by
  obtain ⟨h1, ⟨g, h2, h3, h4⟩, x1, rfl⟩ := hF
  have hi : i < l.length := by rw [← hl]; exact (List.getElem?_eq_some_iff.mp hx).1
  have el : l[i]? = some l[i] := by simp [hi]
  rw [getElem?_drop1 el, getElem?_drop1 hx] at h2
  simp only [DFs] at h2
  obtain ⟨x', ys, f1, g1, e1, rfl, k1, k2⟩ := h2
  cases e1
  have hdj := Dat.dp_mem (List.getElem_mem hi)
  obtain ⟨nd1, nd2, ndd⟩ := List.nodup_append.mp h3
  walk_at "rd"
  refine ⟨l[i], x, f1, rfl, k1, nd1, by omega, fun H' hk => ?_⟩
  refine hD _ _ ⟨fun b o nb e => hk b o (fun m => nb (h4 b (List.mem_append_left _ m))) (h1 b o nb e), ⟨g1, ?_, nd2, fun b m => h4 b (List.mem_append_right _ m)⟩, _, rfl⟩
  refine DFs.frame (fun a zs e => hk a _ (fun m => ?_) e) (fun a m zs e => hk a _ (fun m' => ndd a m' a m rfl) e) k2
  obtain ⟨ws, hw⟩ := DF.lists k1 a m
  rw [e] at hw
  cases hw
theorem ok_spoil (F : FD K "_law_spoil" "_law_spoil" s_l_spoil [] (He.ga K "_law_spoil")) (kp : PySem.W.keepIn K (.ref (He.ga K "_law_spoil")) = true) (at_ : mg "_law_spoil" = some (.ref (He.ga K "_law_spoil"))) : ∀ n, FnT P w K mg base n (He.ga K "_law_spoil") (sp_spoil n)
  | 0 => fn_never fun vs H Q E h => by obtain ⟨d, v, fp, _, _, _, h, _⟩ := h; omega
  | n + 1 => by
    have C : Cal P w K mg base n "_law_spoil" (sp_spoil n) := ⟨ok_spoil F kp at_ n, kp, at_⟩
    refine fnT_of (k := n) F sc_l_spoil (fun _ _ _ _ _ _ us hl => match us, hl with | [_], _ => rfl) (fun vs H Q E h => by obtain ⟨d, v, fp, rfl, _⟩ := h; rfl) fun cdv A outer s H vs Q E hr h => ⟨_, (tm_l_spoil T (C_l_spoil := C) (h_l_spoil := Nat.le_refl _) (hr := hr)).2, ?_⟩
    obtain ⟨d, v, fp, rfl, hd, hnd, hdp, q⟩ := h
    unfold tm_l_spoil
    cases d with
    | lst l =>
      have hd' := hd
      simp only [DF] at hd
      obtain ⟨hl, a, xs, f, rfl, rfl, ha, hs⟩ := hd
      obtain ⟨naf, ndf⟩ := List.nodup_cons.mp hnd
      simp only [Dat.dp] at hdp
      walk_at "rd"
      refine r_srcL (fun Q' q => r_var rfl q) ha ?_
      refine forG (W := tNext) (n := xs.length) walk_list (SpF H l xs f (.ref a)) ⟨fun _ _ _ e => e, ⟨f, by simpa using hs, ndf, fun _ m => m⟩, none, rfl⟩ (fun i σ H' hF => .inl (.inl (hF.1 a _ naf ha))) (fun i x σ H1 hi hx hF => spoil_step (by omega) hs.len hx hF fun σ H' h => h) fun σ H1 hF => ?_
      obtain ⟨h1, _, x1, rfl⟩ := hF
      have ha1 := h1 a _ naf ha
      walk_at "rd"
      refine r_isF (s := "list") (b := true) (by simp [tyN, ha1, isB]) ?_
      walk_at "rd"
      refine tyL ha1 ?_
      walk_at "rd"
      have hxl : xs.length ≤ 1000 := by rw [hs.len]; exact hl
      refine r_app ha1 hxl ?_
      walk_at "rd"
      refine r_setL upd_same (n := 0) (ixN_at (i := 0) (by simp)) ?_
      refine q _ fun b o nb e => ?_
      rw [List.mem_cons, not_or] at nb
      exact keep2 nb.1 (keep2 nb.1 (h1 b o nb.2 e))
    | tup l =>
      have hd' := hd
      simp only [DF] at hd
      obtain ⟨hl, a, xs, rfl, ha, hs⟩ := hd
      have naf : a ∉ fp := fun m => by obtain ⟨ys, hy⟩ := DFs.lists hs a m; rw [ha] at hy; cases hy
      simp only [Dat.dp] at hdp
      walk_at "rd"
      refine r_srcT (fun Q' q => r_var rfl q) ha ?_
      refine forG (W := tNext) (n := xs.length) walk_tup (SpF H l xs fp (.ref a)) ⟨fun _ _ _ e => e, ⟨fp, by simpa using hs, hnd, fun _ m => m⟩, none, rfl⟩ (fun i σ H' hF => .inl (.inl (hF.1 a _ naf ha))) (fun i x σ H1 hi hx hF => spoil_step (by omega) hs.len hx hF fun σ H' h => h) fun σ H1 hF => ?_
      obtain ⟨h1, _, x1, rfl⟩ := hF
      have ha1 := h1 a _ naf ha
      walk_at "rd"
      refine r_isF (s := "tuple") (b := false) (by simp [tyN, ha1, isB]) ?_
      walk_at "rd"
      exact q H1 h1
    | _ =>
      walk_at "rd"
      exact q H fun _ _ _ e => e
end
end K
set_option Elab.async false
set_option linter.all false
set_option maxRecDepth 100000
set_option maxHeartbeats 2000000
namespace K
open PySem PySem.Spec PyProof.Rows L2 TH
local macro_rules | `(tactic| walk_at "rd1") => `(tactic| with_reducible (first
  | refine r_seq ?_ | refine r_if ?_ | refine r_ret ?_ | refine r_next ?_ | refine r_asg ?_ | refine r_drop ?_ | refine r_gname ?_ | refine r_retN ?_
  | refine r_var rfl ?_ | refine r_c ?_ | refine r_op ?_ | refine r_un ?_ | refine r_test ?_ | refine r_tB ?_ | refine r_bl ?_ | refine r_and ?_ | refine r_or ?_ | refine r_not ?_
  | refine r_andV ?_ | refine r_orV ?_ | refine r_notV ?_ | refine r_bb ?_ | refine r_ifE ?_ | refine r_gsub ?_ | refine r_nil ?_ | refine r_cons ?_ | refine r_cb ?_ | refine r_cl ?_ | refine r_clS ?_
  | refine r_part ?_ | refine r_nopart ?_ | refine r_int ?_ | refine r_sl ?_ | refine r_chain ?_ | refine r_I0 ?_ | refine r_U ?_ | refine r_eqI ?_ | refine r_neI ?_ | refine r_eqS ?_ | refine r_eqB ?_ | refine r_neB ?_ | refine r_int1 ?_ | refine r_abs1 ?_
  | refine iteT ?_ | refine iteF ?_ | refine r_isF rfl ?_ | refine r_isD (by assumption) (by decide) ?_ | refine r_brk ?_ | refine r_ct ?_ | refine r_ltS ?_ | refine r_leS ?_ | refine r_aug rfl ?_ | refine r_lc ?_ | refine r_meth ?_ | refine r_callO ?_ | refine r_make ?_ | refine r_methT ?_ | refine r_callT ?_ | refine r_ixT' ?_ | refine r_mkS ?_ | refine r_pr ?_ | refine r_sfld ?_ | refine r_fld ?_ | refine r_dnew ?_ | refine r_dput ?_ | refine r_dget ?_ | refine r_bm ?_ | refine r_rs ?_ | refine r_notInS ?_ | refine r_inS ?_ | refine r_isN ?_ | refine r_notN ?_ | refine r_for ?_ | refine r_rg1 ?_ | refine r_m1 ?_ | refine r_m0 ?_ | refine r_isS ?_ | refine r_rg2 ?_ | refine r_ipI ?_))
local macro_rules | `(tactic| walk_at "rd") => `(tactic| repeat (first | walk_at "rd1" | ((with_reducible apply r_var); (focus exact rfl)) | (with_reducible refine r_tup ?_) | (with_reducible refine r_lst ?_) | ((with_reducible refine r_ln ?_ ?_); focus (simp; done)) | ((with_reducible refine iteT' ?_ ?_); focus (simp [isB, Dat.ty, tyN]; done)) | ((with_reducible refine iteF' ?_ ?_); focus (simp [isB, Dat.ty, tyN]; done))))
local macro_rules | `(tactic| walk_at "hf") => `(tactic| first
  | assumption
  | exact upd_same
  | (refine keep1 ?_ (by assumption); walk_at "hf")
  | (refine keep2 (by assumption) ?_; walk_at "hf")
  | (refine (show Same _ _ by assumption) _ _ ?_; walk_at "hf")
  | (refine (show But _ _ _ by assumption) _ _ (by assumption) ?_; walk_at "hf"))
local macro_rules | `(tactic| walk_at "rx") => `(tactic| repeat (first | walk_at "rd1" | ((with_reducible apply r_ixL); (focus assumption); (focus exact rfl)) | ((with_reducible apply r_ixT); (focus assumption); (focus exact rfl)) | ((with_reducible apply r_lenL); (focus assumption)) | ((with_reducible apply r_lenT); (focus assumption)) | ((with_reducible apply r_var); (focus exact rfl)) | (with_reducible refine r_tup ?_) | (with_reducible refine r_lst ?_) | ((with_reducible refine r_ln ?_ ?_); focus (simp; done)) | ((with_reducible refine iteT' ?_ ?_); focus (simp [isB, Dat.ty, tyN]; done)) | ((with_reducible refine iteF' ?_ ?_); focus (simp [isB, Dat.ty, tyN]; done))))
local macro_rules | `(tactic| walk_at "rz") => `(tactic| repeat ((fail_if_success (with_reducible show tFor _ _ _ _ _ _)); (first | walk_at "rd1" | ((with_reducible apply r_ixL); (focus assumption); (focus exact rfl)) | ((with_reducible apply r_ixT); (focus assumption); (focus exact rfl)) | ((with_reducible apply r_lenL); (focus assumption)) | ((with_reducible apply r_lenT); (focus assumption)) | ((with_reducible apply r_var); (focus exact rfl)) | (with_reducible refine r_tup ?_) | (with_reducible refine r_lst ?_) | ((with_reducible refine r_ln ?_ ?_); focus (simp; done)) | ((with_reducible refine iteT' ?_ ?_); focus (simp [isB, Dat.ty, tyN]; done)) | ((with_reducible refine iteF' ?_ ?_); focus (simp [isB, Dat.ty, tyN]; done)))))
theorem idxOf_of : ∀ {l : List Nat} {i c : Nat}, l[i]? = some c → (∀ k < i, l[k]? ≠ some c) → l.idxOf c = i
  | [], i, c, h, _ => by simp at h
  | a :: l, 0, c, h, _ => by
    obtain rfl : a = c := by simpa using h
    simp
  | a :: l, i + 1, c, h, hn => by
    have ne : a ≠ c := fun e => hn 0 (by omega) (by simp [e])
    have ih := idxOf_of (l := l) (i := i) (by simpa using h) fun k hk => by simpa using hn (k + 1) (by omega)
    rw [List.idxOf_cons, show (a == c) = false from beq_eq_false_iff_ne.mpr ne, ih]
    rfl
theorem index_one {z : Str} {c : Nat} (h : c ∈ cp z) : Txt.index0 z (one c) = some ((cp z).idxOf c) := by
  unfold Txt.index0
  rcases StrLaws.occ_head z (one c) 1 (Nat.le_refl _) with ⟨_, hn⟩ | ⟨i, r, e, hat, hn⟩
  · obtain ⟨i, hi⟩ := List.mem_iff_getElem?.mp h
    exact absurd ((StrLaws.subAt_one z c i).mpr hi) (hn i)
  · rw [e, idxOf_of ((StrLaws.subAt_one z c i).mp hat) fun k hk hc => hn k hk ((StrLaws.subAt_one z c k).mpr hc)]
    rfl
theorem r_index {H : Hp} {Q : VK} {z : Str} {c : Nat} (h : c ∈ cp z) (k : Q (.int ((cp z).idxOf c : Nat)) H) : rIndexF (.str z) [.str (one c)] H Q := ⟨z, one c, _, rfl, rfl, index_one h, k⟩
theorem r_bmS {σ : L2.St} {H : Hp} {Q : VK} {K : PySem.W.Frag} {ta : TE} {tA : TA} {r : V → List V → Hp → VK → Prop} {z : Str} (k : ta σ H fun x H1 => tyV K "str" x H1 ∧ tA σ H1 fun xs H2 => r x xs H2 Q) : tBM K "str" r ta tA σ H Q := k
theorem tyS {K : PySem.W.Frag} {H : Hp} {z : Str} {B : Prop} (k : B) : tyV K "str" (.str z) H ∧ B := ⟨rfl, k⟩
theorem r_gtup2 {σ : L2.St} {H : Hp} {K : PySem.W.Frag} {n i j : Nat} {a : Addr} {x y : V} {Qs : L2.St → Hp → Prop} (h : H a = some (.tup [x, y])) (hn : n = 2) (k : Qs ((σ.set i (some x)).set j (some y)) H) : gTup K n (gCons (gName i) (gCons (gName j) gNil)) (.ref a) σ H Qs :=
  ⟨a, [x, y], rfl, .inl (.inl h), hn.symm ▸ rfl, x, [y], rfl, y, [], rfl, rfl, k⟩
section
variable {P : Program} {w : World} {K : PySem.W.Frag} {mg : Str → Option Value} {base : Heap} (T : Txt K mg)
include T
def sp_handed : Sp := fun vs H Q _ => ∃ cl N dr R rows as, vs = [.ref dr, .ref R] ∧ RowsA H R rows as ∧ dr ∉ R :: adr as ∧ rows.length ≤ 6 ∧ (∀ r ∈ rows, r.n.length ≤ 5) ∧ Dr cl (N + 1) H dr ∧
  ∀ v d fp H', Dr cl N H' dr → But dr H H' → DF H' d v fp → (∀ a ∈ fp, H a = none) → fp.Nodup → d.tupD = .tup (rows.map Row.tD) → d.listD = .lst (rows.map Row.lD) → d.dp ≤ 3 → Q v H'
theorem ok_handed (C1 : Cal P w K mg base 2 "_law_pick" sp_pick) (C2 : Cal P w K mg base 4 "_law_tupled" (sp_tupled 4)) (C3 : Cal P w K mg base 4 "_law_listed" (sp_listed 4)) (F : FD K "_law_handed" "_law_handed" s_l_handed [] (He.ga K "_law_handed")) : FnT P w K mg base 5 (He.ga K "_law_handed") sp_handed := by
  refine fnT_of (k := 4) F sc_l_handed (fun _ _ _ _ _ _ us hl => match us, hl with | [_, _], _ => rfl) (fun vs H Q E h => by obtain ⟨cl, N, dr, R, rows, as, rfl, _⟩ := h; rfl) fun cdv A outer s H vs Q E hr h => ⟨_, (tm_l_handed T (C_l_pick := C1) (h_l_pick := by decide) (C_l_tupled := C2) (h_l_tupled := by decide) (C_l_listed := C3) (h_l_listed := by decide) (hr := hr)).2, ?_⟩
  obtain ⟨cl, N, dr, R, rows, as, rfl, hA, ndr, hl6, hn5, hdr, q⟩ := h
  obtain ⟨yd, hyd⟩ := hdr.lst
  unfold tm_l_handed
  walk_at "rx"
  refine ⟨cl, N, dr, _, rfl, hdr, by omega, fun kind H1 d1 b1 k0 k1 => ?_⟩
  have hA1 : RowsA H1 R rows as := hA.keep fun a m o e => b1 _ _ (fun q => ndr (q ▸ m)) e
  have hd1 := hA1.df (by omega) (fun r m => by have := hn5 r m; omega)
  have hdp : (Dat.lst (rows.map Row.lD)).dp < 4 := by have := lDs_dp rows; simp only [Dat.dp]; omega
  have fr : ∀ {a : Addr}, H1 a = none → H a = none := fun n => bfree b1 (let ⟨y, hy⟩ := d1.lst; ⟨_, hy⟩) n
  walk_at "rx"
  refine iteD (fun h0 => ?_) fun h0 => ?_
  · walk_at "rx"
    refine ⟨_, _, _, rfl, hd1, hdp, fun v H2 s2 hv => ?_⟩
    refine q v _ [] H2 (d1.same s2) (b1.trans (But.of s2)) hv (fun a m => by cases m) List.nodup_nil ?_ ?_ ?_
    · simp only [Dat.tupD, lDs_tup, tDs_tup]
    · simp only [Dat.tupD, Dat.listD, lDs_tup, tDs_lst]
    · have := tDs_dp rows
      simp only [Dat.tupD, lDs_tup, Dat.dp]; omega
  walk_at "rx"
  refine iteD (fun h1 => ?_) fun h1 => ?_
  · walk_at "rx"
    refine ⟨_, _, _, rfl, hd1, hdp, fun v fr' H2 s2 hv hfr hnd => ?_⟩
    refine q v _ fr' H2 (d1.same s2) (b1.trans (But.of s2)) hv (fun a m => fr (hfr a m)) hnd ?_ ?_ ?_
    · simp only [Dat.tupD, Dat.listD, lDs_lst, lDs_tup]
    · simp only [Dat.listD, lDs_lst]
    · have := lDs_dp rows
      simp only [Dat.listD, lDs_lst, Dat.dp]; omega
  have hxs := rowsA_dfs hA1.l (fun r m => by have := hn5 r m; omega) hA1.a
  walk_at "rx"
  refine iteD (fun h2 => ?_) fun h2 => ?_
  · walk_at "rx"
    refine r_srcL (fun Q' q => r_var rfl q) hA1.r ?_
    intro D nD
    refine lcD (σ' := fun x => [some (.ref dr), some (.ref R), some (.int kind), some x]) walk_list hxs (by rw [hxs.len, List.length_map]; omega) nD (fun _ => rfl) (fun _ => rfl) Dat.listD (fun H s => .inl (.inl (s _ _ hA1.r))) (fun d' x g H2 hm' hdx s Qn k => ?_) fun H2 ys fr' s2 hD hds hfr hnd => ?_
    · obtain ⟨r, _, rfl⟩ := List.mem_map.mp hm'
      walk_at "rx"
      exact ⟨_, x, g, rfl, hdx, by rw [lD_dp]; omega, k⟩
    · walk_at "rx"
      refine r_tupL hD fun t nt => ?_
      have e1 : (rows.map Row.lD).map Dat.listD = rows.map Row.lD := by rw [← Dat.listDs_map, lDs_lst]
      rw [e1] at hds
      refine q _ (.tup (rows.map Row.lD)) fr' _ (d1.same (same_upd s2 nt)) (b1.trans (But.of (same_upd s2 nt))) ?_ (fun a m => fr (hfr a m).1) hnd ?_ ?_ ?_
      · simp only [DF]
        exact ⟨by rw [List.length_map]; omega, t, ys, rfl, upd_same, hds.same (same_new nt)⟩
      · simp only [Dat.tupD, lDs_tup]
      · simp only [Dat.listD, lDs_lst]
      · have := lDs_dp rows
        simp only [Dat.dp]; omega
  · walk_at "rx"
    refine r_srcL (fun Q' q => r_var rfl q) hA1.r ?_
    intro D nD
    refine lcD (σ' := fun x => [some (.ref dr), some (.ref R), some (.int kind), some x]) walk_list hxs (by rw [hxs.len, List.length_map]; omega) nD (fun _ => rfl) (fun _ => rfl) (fun d => match d with | .lst [a, b, c] => .tup [a, b, c.listD] | d => d) (fun H s => .inl (.inl (s _ _ hA1.r))) (fun d' x g H2 hm' hdx s Qn k => ?_) fun H2 ys fr' s2 hD hds hfr hnd => ?_
    · obtain ⟨r, hrm, rfl⟩ := List.mem_map.mp hm'
      simp only [Row.lD, DF, DFs] at hdx
      obtain ⟨_, a1, xs, f, rfl, rfl, hp, x0, y0, f0, g0, rfl, rfl, ⟨rfl, rfl⟩, x1, y1, f1, g1, rfl, rfl, ⟨rfl, rfl⟩, x2, y2, f2, g2, rfl, rfl, hd2, rfl, rfl⟩ := hdx
      walk_at "rx"
      refine ⟨.lst (r.n.map Dat.int), x2, f2, rfl, (by simp only [DF]; exact hd2), by simp only [Dat.dp, dps_ints]; omega, fun v fr2 H3 s3 hv hfr2 hnd2 => ?_⟩
      walk_at "rx"
      intro t nt
      refine k _ fr2 _ (same_upd s3 nt) ?_ hfr2 hnd2
      simp only [Row.lD, DF, DFs]
      exact ⟨by simp, t, _, rfl, upd_same, _, _, [], fr2, rfl, rfl, ⟨rfl, rfl⟩, _, _, [], fr2, rfl, rfl, ⟨rfl, rfl⟩, v, [], fr2, [], rfl, by simp, hv.same (same_new nt), rfl, rfl⟩
    · have e1 : (rows.map Row.lD).map (fun d => match d with | .lst [a, b, c] => Dat.tup [a, b, c.listD] | d => d) = rows.map Row.mD := by
        rw [List.map_map]
        refine List.map_congr_left fun r _ => ?_
        simp only [Function.comp, Row.lD, Row.mD, Dat.listD, listDs_ints]
      rw [e1] at hds
      refine q _ (.lst (rows.map Row.mD)) (D :: fr') _ (d1.same s2) (b1.trans (But.of s2)) ?_ (fun a m => ?_) (List.nodup_cons.mpr ⟨fun m => (hfr D m).2 rfl, hnd⟩) ?_ ?_ ?_
      · simp only [DF]
        exact ⟨by rw [List.length_map]; omega, D, ys, fr', rfl, rfl, hD, hds⟩
      · rcases List.mem_cons.mp m with e | e
        · rw [e]; exact fr nD
        · exact fr (hfr a e).1
      · simp only [Dat.tupD, mDs_tup]
      · simp only [Dat.listD, mDs_lst]
      · have := mDs_dp rows
        simp only [Dat.dp]; omega
def sp_went : Sp := fun vs H Q _ => ∃ R ws rows as i z, vs = [.ref R, .str ws, .int (i : Nat), .str z] ∧ RowsA H R rows as ∧ (∀ r ∈ rows, r.Ok (cp ws).length rows.length) ∧ (cp ws).length ≤ 4 ∧ i < rows.length ∧ (cp z).length ≤ 400 ∧ (∀ c ∈ cp z, c ∈ sgOf ws) ∧
  ∀ t H', Same H H' → H' t = some (.tup [.int (((cp z).foldl (stp ws rows) (i, 0)).1 : Nat), .int ((cp z).foldl (stp ws rows) (i, 0)).2]) → Q (.ref t) H'
theorem ok_went (F : FD K "_law_went" "_law_went" s_l_went [] (He.ga K "_law_went")) : FnT P w K mg base 1 (He.ga K "_law_went") sp_went := by
  refine fnT_of (k := 0) F sc_l_went (fun _ _ _ _ _ _ us hl => match us, hl with | [_, _, _, _], _ => rfl) (fun vs H Q E h => by obtain ⟨R, ws, rows, as, i, z, rfl, _⟩ := h; rfl) fun cdv A outer s H vs Q E hr h => ⟨_, (tm_l_went T (hr := hr)).2, ?_⟩
  obtain ⟨R, ws, rows, as, i, z, rfl, hA, hr', hws, hi, hz, hzs, q⟩ := h
  unfold tm_l_went
  walk_at "rx"
  refine r_srcS (fun Q' q => r_var rfl q) ?_
  refine forG (W := tNext) walk_strS (fun j σ H' => H' = H ∧ ∃ x5, σ = [some (.ref R), some (.str ws), some (.int (((cp z).take j).foldl (stp ws rows) (i, 0)).1), some (.str z), some (.int (((cp z).take j).foldl (stp ws rows) (i, 0)).2), x5]) ⟨rfl, none, rfl⟩ (fun _ _ _ _ => trivial) (fun j x σ H3 hj hx hF => ?_) fun σ H3 hF => ?_
  · obtain ⟨rfl, x5, rfl⟩ := hF
    obtain ⟨rfl, hj'⟩ := signs_at hx
    have hc : (cp z).getD j 0 ∈ sgOf ws := hzs _ (getD_mem' hj')
    have hlt := steps_lt hr' (q := (i, 0)) hi (cs := (cp z).take j) fun c m => hzs c (List.mem_of_mem_take m)
    have est := foldl_take (stp ws rows) (i, 0) (cp z) 0 j hj'
    generalize ((cp z).take j).foldl (stp ws rows) (i, 0) = st at *
    obtain ⟨hnx, enx⟩ := stp_lt hr' hlt hc
    obtain ⟨p, hp, hp0, hp1, hp2⟩ := hA.at hlt
    obtain ⟨p', hp', hp0', hp1', hp2'⟩ := hA.at hnx
    have ok := hr' _ (getD_mem hlt)
    have hR := hA.r
    have hidx : (sgOf ws).idxOf ((cp z).getD j 0) < (rows.getD st.1 r0).n.length := by rw [ok.l]; exact List.idxOf_lt_length_of_mem hc
    walk_at "rd"
    refine r_ixL hR (atI_at hp0) ?_
    walk_at "rx"
    refine r_addS (by rw [len_cp, len_cp]; show 1 + (cp ws).length ≤ sizeLine; exact s1000 (by omega)) ?_
    refine tyS ?_
    walk_at "rx"
    refine r_index (by rw [dot_signs]; exact hc) ?_
    rw [dot_signs]
    refine r_ixL hp2 (v := .int (((stp ws rows st ((cp z).getD j 0)).1 : Nat) : Int)) (atI_at (by rw [List.getElem?_map, List.getElem?_eq_getElem hidx, ← TH.getD_at (d := 0) hidx, enx]; rfl)) ?_
    walk_at "rd"
    refine r_ixL hR (atI_at hp0') ?_
    walk_at "rx"
    refine ⟨rfl, some (.str (one ((cp z).getD j 0))), ?_⟩
    rw [est]
    rfl
  · obtain ⟨rfl, x5, rfl⟩ := hF
    rw [signs_len, List.take_length]
    walk_at "rx"
    intro t nt
    exact q t _ (same_new nt) upd_same
/-- what a walk in drill and rows tells -/
def sp_walks : Sp := fun vs H Q _ => ∃ dl ws R rows as z, vs = [.ref dl, .str ws, .ref R, .str z] ∧ Drl (He.ga K "Drill") H dl ws rows ∧ RowsA H R rows as ∧ badCall (sgOf ws) (.str z) = none ∧ ∀ H', Same H H' → Q (.bl true) H'
theorem ok_walks (C1 : Cal P w K mg base 1 "_law_went" sp_went) (C2 : Cal P w K mg base 4 "_law_same" (sp_same 4)) (F1 : FnT P w K mg base 4 (He.fAd K ("Drill", some "__call__")) (sp_go (K := K) fun q => q.1)) (F2 : FnT P w K mg base 4 (He.fAd K ("Drill", some "walk")) (sp_go (K := K) fun q => q.2))
    (F : FD K "_law_walks" "_law_walks" s_l_walks [] (He.ga K "_law_walks")) : FnT P w K mg base 5 (He.ga K "_law_walks") (sp_walks (K := K)) := by
  refine fnT_of (k := 4) F sc_l_walks (fun _ _ _ _ _ _ us hl => match us, hl with | [_, _, _, _], _ => rfl) (fun vs H Q E h => by obtain ⟨dl, ws, R, rows, as, z, rfl, _⟩ := h; rfl) fun cdv A outer s H vs Q E hr h => ⟨_, (tm_l_walks T (C_l_went := C1) (h_l_went := by decide) (C_l_same := C2) (h_l_same := by decide) (F_Drill_Xcall := F1) (h_Drill_Xcall := by decide) (F_Drill_walk := F2) (h_Drill_walk := by decide) (hr := hr)).2, ?_⟩
  obtain ⟨dl, ws, R, rows, as, z, rfl, hD, hA, hb, q⟩ := h
  obtain ⟨z', ez, hz4, hzs⟩ := badCall_none hb
  cases ez
  obtain ⟨w1, w2, w3, w4⟩ := words_inv hD.w
  have hR := hA.r
  unfold tm_l_walks
  walk_at "rx"
  rw [List.length_map, hA.l]
  have hl6 := hD.l
  refine ⟨_, rfl, by omega, by omega, ?_⟩
  refine forG (W := tNext) (walk_rangeS (lo := 0) (n := ((rows.length : Nat) : Int).toNat)) (fun i σ H' => Same H H' ∧ ∃ x4 x5 x6, σ = [some (.ref dl), some (.str ws), some (.ref R), some (.str z), x4, x5, x6]) ⟨Same.refl _, _, _, _, rfl⟩ (fun _ _ _ _ => trivial) (fun i x σ H3 hi hx hF => ?_) fun σ H3 hF => ?_
  · obtain ⟨s3, x4, x5, x6, rfl⟩ := hF
    have hi' : i < rows.length := by simpa using hi
    obtain rfl : x = .int (i : Nat) := by
      rw [List.getElem?_map, List.getElem?_range (by simpa using hi')] at hx
      cases hx
      simp
    have hin : isIn (.int (i : Nat)) 0 (rows.length - 1) = true := by simp [isIn]; omega
    walk_at "rx"
    refine ⟨R, ws, rows, as, i, z, rfl, hA.keep fun a m o e => s3 _ _ e, hD.r, w4, hi', hz4, hzs, fun t H4 s4 ht => ?_⟩
    have s04 := s3.trans s4
    obtain ⟨⟨dx, ts, tr, tb, tl, sg, xs, ls, hI, _⟩, _⟩ := hD.same s04
    refine r_gtup2 ht rfl ?_
    walk_at "rx"
    refine ⟨dl, rfl, ?_⟩
    walk_at "rx"
    refine ⟨.inr ⟨_, _, hI⟩, dl, ws, rows, .int (i : Nat), _, [], .str z, _, [], rfl, hD.same s04, by simp [DF], by simp [DF], (show (cp z).length ≤ 1000 by omega), (fun h => absurd (hin.symm.trans h) (by decide)), (fun _ k hk => nomatch hb.symm.trans hk), fun i' z' e hi2 ez hb2 H5 s5 => ?_⟩
    obtain rfl : i = i' := by have := Dat.int.inj e; omega
    cases ez
    walk_at "rx"
    refine ⟨.int ((((cp z).foldl (stp ws rows) (i, 0)).1 : Nat)), _, [], _, [], rfl, by simp [DF], by simp [DF], by simp [Dat.dp], fun H6 s6 => ?_⟩
    walk_at "rx"
    have s06 := (s04.trans s5).trans s6
    refine ⟨dl, _, _, rfl, s6 _ _ (s5 _ _ hI), rfl, ?_⟩
    walk_at "rx"
    refine ⟨dl, ws, rows, .int (i : Nat), _, [], .str z, _, [], rfl, hD.same s06, by simp [DF], by simp [DF], (show (cp z).length ≤ 1000 by omega), (fun h => absurd (hin.symm.trans h) (by decide)), (fun _ k hk => nomatch hb.symm.trans hk), fun i' z' e hi2 ez hb2 H7 s7 => ?_⟩
    obtain rfl : i = i' := by have := Dat.int.inj e; omega
    cases ez
    walk_at "rx"
    refine ⟨.int (((cp z).foldl (stp ws rows) (i, 0)).2), _, [], _, [], rfl, by simp [DF], by simp [DF], by simp [Dat.dp], fun H8 s8 => ?_⟩
    walk_at "rx"
    exact ⟨(s06.trans s7).trans s8, _, _, _, rfl⟩
  · obtain ⟨s3, x4, x5, x6, rfl⟩ := hF
    walk_at "rx"
    exact q H3 s3
end
end K
set_option Elab.async false
set_option linter.all false
set_option maxRecDepth 100000
set_option maxHeartbeats 2000000
namespace K
open PySem PySem.Spec PyProof.Rows L2 TH
local macro_rules | `(tactic| walk_at "rd1") => `(tactic| with_reducible (first
  | refine r_seq ?_ | refine r_if ?_ | refine r_ret ?_ | refine r_next ?_ | refine r_asg ?_ | refine r_drop ?_ | refine r_gname ?_ | refine r_retN ?_
  | refine r_var rfl ?_ | refine r_c ?_ | refine r_op ?_ | refine r_un ?_ | refine r_test ?_ | refine r_tB ?_ | refine r_bl ?_ | refine r_and ?_ | refine r_or ?_ | refine r_not ?_
  | refine r_andV ?_ | refine r_orV ?_ | refine r_notV ?_ | refine r_bb ?_ | refine r_ifE ?_ | refine r_gsub ?_ | refine r_nil ?_ | refine r_cons ?_ | refine r_cb ?_ | refine r_cl ?_ | refine r_clS ?_
  | refine r_part ?_ | refine r_nopart ?_ | refine r_int ?_ | refine r_sl ?_ | refine r_chain ?_ | refine r_I0 ?_ | refine r_U ?_ | refine r_eqI ?_ | refine r_neI ?_ | refine r_eqS ?_ | refine r_eqB ?_ | refine r_neB ?_ | refine r_int1 ?_ | refine r_abs1 ?_
  | refine iteT ?_ | refine iteF ?_ | refine r_isF rfl ?_ | refine r_isD (by assumption) (by decide) ?_ | refine r_brk ?_ | refine r_ct ?_ | refine r_ltS ?_ | refine r_leS ?_ | refine r_aug rfl ?_ | refine r_lc ?_ | refine r_meth ?_ | refine r_callO ?_ | refine r_make ?_ | refine r_methT ?_ | refine r_callT ?_ | refine r_ixT' ?_ | refine r_mkS ?_ | refine r_pr ?_ | refine r_sfld ?_ | refine r_fld ?_ | refine r_dnew ?_ | refine r_dput ?_ | refine r_dget ?_ | refine r_bm ?_ | refine r_rs ?_ | refine r_notInS ?_ | refine r_inS ?_ | refine r_isN ?_ | refine r_notN ?_ | refine r_for ?_ | refine r_rg1 ?_ | refine r_m1 ?_ | refine r_m0 ?_ | refine r_isS ?_ | refine r_rg2 ?_ | refine r_ipI ?_))
local macro_rules | `(tactic| walk_at "rd") => `(tactic| repeat (first | walk_at "rd1" | ((with_reducible apply r_var); (focus exact rfl)) | (with_reducible refine r_tup ?_) | (with_reducible refine r_lst ?_) | ((with_reducible refine r_ln ?_ ?_); focus (simp; done)) | ((with_reducible refine iteT' ?_ ?_); focus (simp [isB, Dat.ty, tyN]; done)) | ((with_reducible refine iteF' ?_ ?_); focus (simp [isB, Dat.ty, tyN]; done))))
local macro_rules | `(tactic| walk_at "hf") => `(tactic| first
  | assumption
  | exact upd_same
  | (refine keep1 ?_ (by assumption); walk_at "hf")
  | (refine keep2 (by assumption) ?_; walk_at "hf")
  | (refine (show Same _ _ by assumption) _ _ ?_; walk_at "hf")
  | (refine (show But _ _ _ by assumption) _ _ (by assumption) ?_; walk_at "hf"))
local macro_rules | `(tactic| walk_at "rx") => `(tactic| repeat (first | walk_at "rd1" | ((with_reducible apply r_ixL); (focus assumption); (focus exact rfl)) | ((with_reducible apply r_ixT); (focus assumption); (focus exact rfl)) | ((with_reducible apply r_lenL); (focus assumption)) | ((with_reducible apply r_lenT); (focus assumption)) | ((with_reducible apply r_var); (focus exact rfl)) | (with_reducible refine r_tup ?_) | (with_reducible refine r_lst ?_) | ((with_reducible refine r_ln ?_ ?_); focus (simp; done)) | ((with_reducible refine iteT' ?_ ?_); focus (simp [isB, Dat.ty, tyN]; done)) | ((with_reducible refine iteF' ?_ ?_); focus (simp [isB, Dat.ty, tyN]; done))))
local macro_rules | `(tactic| walk_at "rz") => `(tactic| repeat ((fail_if_success (with_reducible show tFor _ _ _ _ _ _)); (first | walk_at "rd1" | ((with_reducible apply r_ixL); (focus assumption); (focus exact rfl)) | ((with_reducible apply r_ixT); (focus assumption); (focus exact rfl)) | ((with_reducible apply r_lenL); (focus assumption)) | ((with_reducible apply r_lenT); (focus assumption)) | ((with_reducible apply r_var); (focus exact rfl)) | (with_reducible refine r_tup ?_) | (with_reducible refine r_lst ?_) | ((with_reducible refine r_ln ?_ ?_); focus (simp; done)) | ((with_reducible refine iteT' ?_ ?_); focus (simp [isB, Dat.ty, tyN]; done)) | ((with_reducible refine iteF' ?_ ?_); focus (simp [isB, Dat.ty, tyN]; done)))))
/-- the class's constant, read of the class and of an instance -/
structure Txt2 (K : PySem.W.Frag) : Prop where
  rc : ∃ mc u, ClX.CRead K (He.ga K "Drill") mc ∧ ClX.CVal K (He.ga K "Drill") mc "REST" (.int 0) u
  ri : ∃ u, L2.Con K (He.ga K "Drill") "REST" (.int 0) u
section
variable {σ : L2.St} {H : Hp} {Q : VK} {K : PySem.W.Frag} {ta tl : TE} {f : Str} {R : It → Hp → Prop} {C : Addr}
theorem r_cval (k : ta σ H fun x H1 => ∃ C mc v u, x = .ref C ∧ ClX.CRead K C mc ∧ ClX.CVal K C mc f v u ∧ Q v H1) : ClX.tCVal K ta f σ H Q := k
theorem r_con (k : ta σ H fun x H1 => ∃ a C dx fs v u, x = .ref a ∧ H1 a = some (.ins C dx fs) ∧ Cls K C ∧ Con K C f v u ∧ fs.lookup f = none ∧ Q v H1) : tCon K ta f σ H Q := k
theorem r_own {H' : Hp} {a dx : Addr} {fs : List (Str × V)} {t : Addr} {xs : List V} (ht : ∀ Q' : VK, Q' (.ref a) H' → tl σ H Q') (h1 : H' a = some (.ins C dx fs)) (h2 : fs.lookup f = some (.ref t)) (h3 : H' t = some (.tup xs)) (k : R (Itt K t) H') : iOwn K C f tl σ H R := ht _ ⟨a, dx, fs, t, xs, rfl, h1, h2, .inl (.inl h3), k⟩
end
section
variable {P : Program} {w : World} {K : PySem.W.Frag} {mg : Str → Option Value} {base : Heap} (T : Txt K mg) (T2 : Txt2 K)
include T T2
def sp_shown : Sp := fun vs H Q _ => ∃ dl ws rows v, vs = [.ref dl, .str ws, v] ∧ Drl (He.ga K "Drill") H dl ws rows ∧ DF H (.tup (rows.map Row.tD)) v [] ∧ ∀ H', Same H H' → Q (.bl true) H'
theorem ok_shown (C2 : Cal P w K mg base 4 "_law_same" (sp_same 4)) (F1 : FnT P w K mg base 1 (He.fAd K ("Drill", some "__len__")) (fun vs H Q E => ∃ a ws rows, vs = [.ref a] ∧ Drl (He.ga K "Drill") H a ws rows ∧ Q (.int rows.length) H)) (F2 : FnT P w K mg base 3 (He.fAd K ("Drill", some "__getitem__")) (sp_get (K := K)))
    (F3 : FnT P w K mg base 1 (pgt K (He.fAd K ("Drill", some "is_steady"))) (fun vs H Q E => ∃ a ws rows, vs = [.ref a] ∧ Drl (He.ga K "Drill") H a ws rows ∧ ∀ H', Same H H' → Q (.bl (steady rows)) H'))
    (F : FD K "_law_shown" "_law_shown" s_l_shown [] (He.ga K "_law_shown")) : FnT P w K mg base 5 (He.ga K "_law_shown") (sp_shown (K := K)) := by
  refine fnT_of (k := 4) F sc_l_shown (fun _ _ _ _ _ _ us hl => match us, hl with | [_, _, _], _ => rfl) (fun vs H Q E h => by obtain ⟨dl, ws, rows, v, rfl, _⟩ := h; rfl) fun cdv A outer s H vs Q E hr h => ⟨_, (tm_l_shown T (C_l_same := C2) (h_l_same := by decide) (F_Drill_is_steady := F3) (h_Drill_is_steady := by decide) (F_Drill_Xgetitem := F2) (h_Drill_Xgetitem := by decide) (F_Drill_Xlen := F1) (h_Drill_Xlen := by decide) (h2 := by decide) (hr := hr)).2, ?_⟩
  obtain ⟨dl, ws, rows, v, rfl, hD, hv, q⟩ := h
  have hl6 := hD.l
  have hdp : (Dat.tup (rows.map Row.tD)).dp < 4 := by have := tDs_dp rows; simp only [Dat.dp]; omega
  have hv0 := hv
  simp only [DF] at hv
  obtain ⟨_, t, xt, rfl, ht, hxt⟩ := hv
  have hD0 := hD
  obtain ⟨⟨dx, ts, tr, tb, tl, sg, xs, ls, h1, h2, h3, h4, h5, h6, h7, h8⟩, hw, hl, hr'⟩ := hD
  have hst : DF H (.tup (rows.map Row.tD)) (.ref ts) [] := by simp only [DF]; exact ⟨by rw [List.length_map]; omega, ts, xs, rfl, h3, h4⟩
  unfold tm_l_shown
  walk_at "rd"
  refine ⟨dl, _, dx, _, _, rfl, h1, T.c_Drill, T.n_Drill_words, rfl, ?_⟩
  walk_at "rd"
  refine ⟨.str ws, _, [], _, [], rfl, by simp [DF], by simp [DF], by simp [Dat.dp], fun H1 s1 => ?_⟩
  walk_at "rd"
  refine ⟨dl, _, dx, _, _, rfl, s1 _ _ h1, T.c_Drill, T.n_Drill_standings, rfl, ?_⟩
  walk_at "rd"
  refine ⟨_, _, [], _, [], rfl, hst.same s1, hv0.same s1, hdp, fun H2 s2 => ?_⟩
  have s02 := s1.trans s2
  walk_at "rd"
  refine ⟨dl, dx, _, rfl, s02 _ _ h1, dl, ws, rows, rfl, hD0.same s02, _, rfl, by omega, by omega, ?_⟩
  walk_at "rd"
  refine r_lenT (s02 _ _ ht) ?_
  rw [hxt.len, List.length_map]
  walk_at "rd"
  refine r_own (fun Q' q => r_var rfl q) (s02 _ _ h1) rfl (s02 _ _ h3) ?_
  intro D nD
  refine lcV (σ' := fun x => [some (.ref dl), some (.str ws), some (.ref t), none, none, some x, none]) walk_tup (by rw [h4.len, List.length_map]; omega) nD (fun _ => rfl) (fun _ => rfl) (fun i => xs.getD i .non) (fun H s => .inl (.inl (s _ _ (s02 _ _ h3)))) (fun i x H3 hi hx s3 Qn k => ?_) fun H3 s3 hD3 => ?_
  · walk_at "rd"
    have : x = xs.getD i .non := by rw [List.getD_eq_getElem?_getD, hx]; rfl
    rw [this]
    exact k H3 (Same.refl _)
  have exs : (List.range xs.length).map (fun i => xs.getD i .non) = xs := by have := range_map xs V.non id; rw [List.map_id] at this; exact this
  rw [exs] at hD3
  walk_at "rd"
  refine r_tupL hD3 fun u nu => ?_
  have s4 := same_upd s3 nu (o := .tup xs)
  have s04 := s02.trans s4
  walk_at "rd"
  refine ⟨.tup (rows.map Row.tD), _, [], _, [], rfl, ?_, hv0.same s04, hdp, fun H5 s5 => ?_⟩
  · simp only [DF]; exact ⟨by rw [List.length_map]; omega, u, xs, rfl, upd_same, h4.same s04⟩
  have s05 := s04.trans s5
  walk_at "rd"
  refine r_lenT (s05 _ _ ht) ?_
  rw [hxt.len, List.length_map]
  refine ⟨_, rfl, by omega, by omega, ?_⟩
  refine forG (W := tNext) (walk_rangeS (lo := 0) (n := ((rows.length : Nat) : Int).toNat)) (fun i σ H' => Same H H' ∧ ∃ x3, σ = [some (.ref dl), some (.str ws), some (.ref t), x3, none, none, none]) ⟨s05, _, rfl⟩ (fun _ _ _ _ => trivial) (fun i x σ H6 hi hx hF => ?_) fun σ H6 hF => ?_
  · obtain ⟨s6, x3, rfl⟩ := hF
    have hi' : i < rows.length := by simpa using hi
    obtain rfl : x = .int (i : Nat) := by
      rw [List.getElem?_map, List.getElem?_range (by simpa using hi')] at hx
      cases hx
      simp
    have hin : isIn (.int (i : Nat)) 0 (rows.length - 1) = true := by simp [isIn]; omega
    obtain ⟨y, ey, hy⟩ := df_rows hxt hi'
    walk_at "rd"
    refine ⟨dl, dx, _, rfl, s6 _ _ h1, dl, ws, rows, .int (i : Nat), _, [], rfl, hD0.same s6, by simp [DF], (fun h => absurd (hin.symm.trans h) (by decide)), fun i' e hi2 x H7 s7 hx7 => ?_⟩
    obtain rfl : i = i' := by have := Dat.int.inj e; omega
    have s07 := s6.trans s7
    walk_at "rd"
    refine r_ixT (s07 _ _ ht) (atI_at ey) ?_
    walk_at "rd"
    refine ⟨_, _, [], _, [], rfl, hx7, hy.same s07, by rw [tD_dp]; omega, fun H8 s8 => ?_⟩
    walk_at "rd"
    exact ⟨s07.trans s8, _, rfl⟩
  obtain ⟨s6, x3, rfl⟩ := hF
  walk_at "rd"
  refine r_lenT (s6 _ _ ht) ?_
  rw [hxt.len, List.length_map]
  refine ⟨_, rfl, by omega, by omega, ?_⟩
  intro D2 nD2
  refine lcB (σ' := fun x => [some (.ref dl), some (.str ws), some (.ref t), x3, none, none, some x]) (walk_rangeS (lo := 0) (n := ((rows.length : Nat) : Int).toNat)) (by simp; omega) nD2 (fun _ => rfl) (fun _ => rfl) (fun i => decide ((rows.getD i r0).n.getD 0 0 = (i : Int))) (fun H _ => trivial) (fun i x H7 hi hx s7 Qn k => ?_) fun H7 s7 hD7 => ?_
  · have hi' : i < rows.length := by simpa using hi
    obtain rfl : x = .int (i : Nat) := by
      rw [List.getElem?_map, List.getElem?_range (by simpa using hi')] at hx
      cases hx
      simp
    have s07 := s6.trans s7
    obtain ⟨y, ey, hy⟩ := df_rows hxt hi'
    obtain ⟨p, p2, rfl, hp, hp2⟩ := rowT_of (hy.same s07)
    have ok := hr' _ (getD_mem hi')
    have h0 : 0 < (rows.getD i r0).n.length := by rw [ok.l]; omega
    walk_at "rd"
    refine r_ixT (s07 _ _ ht) (atI_at ey) ?_
    walk_at "rd"
    refine r_ixT hp rfl ?_
    walk_at "rd"
    refine r_ixT hp2 (v := .int ((rows.getD i r0).n.getD 0 0)) (atI_at (i := 0) (by rw [List.getElem?_map, List.getElem?_eq_getElem h0, TH.getD_at h0]; rfl)) ?_
    walk_at "rd"
    exact k H7 (Same.refl _)
  have s07 := s6.trans s7
  walk_at "rd"
  refine r_all hD7 ?_
  rw [show (((List.range ((List.range ((rows.length : Nat) : Int).toNat).map fun i : Nat => V.int (0 + i)).length).map fun i => decide ((rows.getD i r0).n.getD 0 0 = (i : Int))).all id) = steady rows by simp [steady]]
  walk_at "rd"
  refine ⟨dl, dx, _, rfl, s07 _ _ h1, dl, ws, rows, rfl, hD0.same s07, fun H8 s8 => ?_⟩
  have s08 := s07.trans s8
  walk_at "rd"
  refine ⟨.bl (steady rows), _, [], _, [], rfl, by simp [DF], by simp [DF], by simp [Dat.dp], fun H9 s9 => ?_⟩
  have s09 := s08.trans s9
  obtain ⟨mc, u1, c1, c2⟩ := T2.rc
  obtain ⟨u2, c3⟩ := T2.ri
  walk_at "rd"
  refine r_cval ?_
  walk_at "rd"
  refine ⟨_, mc, _, u1, rfl, c1, c2, ?_⟩
  walk_at "rd"
  refine ⟨.int 0, _, [], _, [], rfl, by simp [DF], by simp [DF], by simp [Dat.dp], fun H10 s10 => ?_⟩
  have s010 := s09.trans s10
  walk_at "rd"
  refine r_con ?_
  walk_at "rd"
  refine ⟨dl, _, dx, _, _, u2, rfl, s010 _ _ h1, T.c_Drill, c3, rfl, ?_⟩
  walk_at "rd"
  refine ⟨.int 0, _, [], _, [], rfl, by simp [DF], by simp [DF], by simp [Dat.dp], fun H11 s11 => ?_⟩
  exact q H11 (s010.trans s11)
end
end K
set_option Elab.async false
set_option linter.all false
set_option maxRecDepth 100000
set_option maxHeartbeats 2000000
namespace K
open PySem PySem.Spec PyProof.Rows L2 TH
local macro_rules | `(tactic| walk_at "rd1") => `(tactic| with_reducible (first
  | refine r_seq ?_ | refine r_if ?_ | refine r_ret ?_ | refine r_next ?_ | refine r_asg ?_ | refine r_drop ?_ | refine r_gname ?_ | refine r_retN ?_
  | refine r_var rfl ?_ | refine r_c ?_ | refine r_op ?_ | refine r_un ?_ | refine r_test ?_ | refine r_tB ?_ | refine r_bl ?_ | refine r_and ?_ | refine r_or ?_ | refine r_not ?_
  | refine r_andV ?_ | refine r_orV ?_ | refine r_notV ?_ | refine r_bb ?_ | refine r_ifE ?_ | refine r_gsub ?_ | refine r_nil ?_ | refine r_cons ?_ | refine r_cb ?_ | refine r_cl ?_ | refine r_clS ?_
  | refine r_part ?_ | refine r_nopart ?_ | refine r_int ?_ | refine r_sl ?_ | refine r_chain ?_ | refine r_I0 ?_ | refine r_U ?_ | refine r_eqI ?_ | refine r_neI ?_ | refine r_eqS ?_ | refine r_eqB ?_ | refine r_neB ?_ | refine r_int1 ?_ | refine r_abs1 ?_
  | refine iteT ?_ | refine iteF ?_ | refine r_isF rfl ?_ | refine r_isD (by assumption) (by decide) ?_ | refine r_brk ?_ | refine r_ct ?_ | refine r_ltS ?_ | refine r_leS ?_ | refine r_aug rfl ?_ | refine r_lc ?_ | refine r_meth ?_ | refine r_callO ?_ | refine r_make ?_ | refine r_methT ?_ | refine r_callT ?_ | refine r_ixT' ?_ | refine r_mkS ?_ | refine r_pr ?_ | refine r_sfld ?_ | refine r_fld ?_ | refine r_dnew ?_ | refine r_dput ?_ | refine r_dget ?_ | refine r_bm ?_ | refine r_rs ?_ | refine r_notInS ?_ | refine r_inS ?_ | refine r_isN ?_ | refine r_notN ?_ | refine r_for ?_ | refine r_rg1 ?_ | refine r_m1 ?_ | refine r_m0 ?_ | refine r_isS ?_ | refine r_rg2 ?_ | refine r_ipI ?_))
local macro_rules | `(tactic| walk_at "rd") => `(tactic| repeat (first | walk_at "rd1" | ((with_reducible apply r_var); (focus exact rfl)) | (with_reducible refine r_tup ?_) | (with_reducible refine r_lst ?_) | ((with_reducible refine r_ln ?_ ?_); focus (simp; done)) | ((with_reducible refine iteT' ?_ ?_); focus (simp [isB, Dat.ty, tyN]; done)) | ((with_reducible refine iteF' ?_ ?_); focus (simp [isB, Dat.ty, tyN]; done))))
local macro_rules | `(tactic| walk_at "hf") => `(tactic| first
  | assumption
  | exact upd_same
  | (refine keep1 ?_ (by assumption); walk_at "hf")
  | (refine keep2 (by assumption) ?_; walk_at "hf")
  | (refine (show Same _ _ by assumption) _ _ ?_; walk_at "hf")
  | (refine (show But _ _ _ by assumption) _ _ (by assumption) ?_; walk_at "hf"))
local macro_rules | `(tactic| walk_at "rx") => `(tactic| repeat (first | walk_at "rd1" | ((with_reducible apply r_ixL); (focus assumption); (focus exact rfl)) | ((with_reducible apply r_ixT); (focus assumption); (focus exact rfl)) | ((with_reducible apply r_lenL); (focus assumption)) | ((with_reducible apply r_lenT); (focus assumption)) | ((with_reducible apply r_var); (focus exact rfl)) | (with_reducible refine r_tup ?_) | (with_reducible refine r_lst ?_) | ((with_reducible refine r_ln ?_ ?_); focus (simp; done)) | ((with_reducible refine iteT' ?_ ?_); focus (simp [isB, Dat.ty, tyN]; done)) | ((with_reducible refine iteF' ?_ ?_); focus (simp [isB, Dat.ty, tyN]; done))))
local macro_rules | `(tactic| walk_at "rz") => `(tactic| repeat ((fail_if_success (with_reducible show tFor _ _ _ _ _ _)); (first | walk_at "rd1" | ((with_reducible apply r_ixL); (focus assumption); (focus exact rfl)) | ((with_reducible apply r_ixT); (focus assumption); (focus exact rfl)) | ((with_reducible apply r_lenL); (focus assumption)) | ((with_reducible apply r_lenT); (focus assumption)) | ((with_reducible apply r_var); (focus exact rfl)) | (with_reducible refine r_tup ?_) | (with_reducible refine r_lst ?_) | ((with_reducible refine r_ln ?_ ?_); focus (simp; done)) | ((with_reducible refine iteT' ?_ ?_); focus (simp [isB, Dat.ty, tyN]; done)) | ((with_reducible refine iteF' ?_ ?_); focus (simp [isB, Dat.ty, tyN]; done)))))
theorem r_mulS {H : Hp} {Q : VK} {z : Str} {n : Nat} (h : (cp z).length * n ≤ 1000000) (hn : n ≤ 100000) (k : Q (.str (timesS z (n : Nat))) H) : rMulS (.str z) (.int (n : Nat)) H Q := ⟨z, _, rfl, rfl, by omega, by omega, by rw [len_cp, Int.toNat_natCast]; exact h, k⟩
theorem cp_times (z : Str) (n : Nat) : cp (timesS z (n : Nat)) = (List.replicate n (cp z)).flatten := by rw [cp, timesS_list, Int.toNat_natCast]
theorem mem_times {z : Str} {n : Nat} {c : Nat} (h : c ∈ cp (timesS z (n : Nat))) : c ∈ cp z := by
  rw [cp_times] at h
  obtain ⟨l, hl, hc⟩ := List.mem_flatten.mp h
  rw [List.eq_of_mem_replicate hl] at hc
  exact hc
theorem len_times (z : Str) (n : Nat) : (cp (timesS z (n : Nat))).length = n * (cp z).length := by
  rw [cp_times, List.length_flatten]
  simp
theorem r_ixSt {H : Hp} {Q : VK} {z : Str} {i : Nat} {c : Nat} (hl : (cp z).length ≤ 100000) (h : (cp z)[i]? = some c) (k : Q (.str (one c)) H) : rIxS (.str z) (.int (i : Nat)) H Q := ⟨z, _, c, rfl, rfl, by rw [len_cp]; exact Nat.le_trans hl (by decide), atI_at h, k⟩
section
variable {P : Program} {w : World} {K : PySem.W.Frag} {mg : Str → Option Value} {base : Heap} (T : Txt K mg)
include T
def sp_calling : Sp := fun vs H Q _ => ∃ cl N dr sg, vs = [.ref dr, .str sg] ∧ 1 ≤ (cp sg).length ∧ (cp sg).length ≤ 5 ∧ Dr cl (N + 40) H dr ∧ ∀ z H', Dr cl N H' dr → But dr H H' → (cp z).length ≤ 400 → (∀ c ∈ cp z, c ∈ cp sg) → Q (.str z) H'
theorem ok_calling (C : Cal P w K mg base 2 "_law_pick" sp_pick) (F : FD K "_law_calling" "_law_calling" s_l_calling [] (He.ga K "_law_calling")) : FnT P w K mg base 3 (He.ga K "_law_calling") sp_calling := by
  refine fnT_of (k := 2) F sc_l_calling (fun _ _ _ _ _ _ us hl => match us, hl with | [_, _], _ => rfl) (fun vs H Q E h => by obtain ⟨cl, N, dr, sg, rfl, _⟩ := h; rfl) fun cdv A outer s H vs Q E hr h => ⟨_, (tm_l_calling T (C_l_pick := C) (h_l_pick := by decide) (hr := hr)).2, ?_⟩
  obtain ⟨cl, N, dr, sg, rfl, hs1, hs5, hdr, q⟩ := h
  obtain ⟨yd, hyd⟩ := hdr.lst
  obtain ⟨yc, hyc⟩ := hdr.cls
  unfold tm_l_calling
  walk_at "rx"
  refine ⟨cl, N + 39, dr, _, rfl, hdr.le (by omega), by omega, fun m H1 d1 b1 m0 m1 => ?_⟩
  obtain ⟨m, rfl⟩ : ∃ k : Nat, m = k := ⟨m.toNat, by omega⟩
  have ml := m1 (by omega)
  walk_at "rx"
  refine ⟨_, rfl, by omega, by omega, ?_⟩
  intro D nD
  have nD0 := bfree b1 (let ⟨y, hy⟩ := d1.lst; ⟨_, hy⟩) nD
  have Ddr : D ≠ dr := ne_of_none' hyd nD0
  have Dcl : D ≠ cl := ne_of_none' hyc nD0
  have em : (1 + (m : Int)).toNat = 1 + m := by omega
  rw [em]
  refine lcG (σ' := fun x => [some (.ref dr), some (.str sg), none, none, some x]) (walk_rangeS (lo := 0) (n := 1 + m)) (by simp; omega) nD (fun _ => rfl) (fun _ => rfl)
      (fun j acc H' => Dr cl (N + 39 - j) H' dr ∧ But dr H H' ∧ ∃ cs : List Nat, acc = cs.map oneV ∧ cs.length = j ∧ ∀ c ∈ cs, c ∈ cp sg)
      ⟨d1.same (same_new nD), b1.trans (But.of (same_new nD)), [], rfl, rfl, fun c h => (by cases h)⟩ (fun _ _ _ _ => trivial) (fun j x acc H4 hj hx hD hF Qn k => ?_) fun acc H4 hl hD hF => ?_
  · obtain ⟨d4, b4, cs, rfl, hcl, hcs⟩ := hF
    have hj' : j < 1 + m := by simpa using hj
    walk_at "rx"
    refine r_lenS (by rw [len_cp]; exact s1000 (by omega)) ?_
    rw [len_cp]
    walk_at "rx"
    refine ⟨cl, N + 39 - (j + 1), dr, _, rfl, d4.le (by omega), by omega, fun c H5 d5 b5 c0 c1 => ?_⟩
    obtain ⟨c, rfl⟩ : ∃ k : Nat, c = k := ⟨c.toNat, by omega⟩
    have cl1 : c < (cp sg).length := by have := c1 (by omega); omega
    refine r_ixSt (by omega) (List.getElem?_eq_getElem cl1) ?_
    refine k _ H5 (b5 _ _ Ddr hD) ⟨d5.upd Ddr Dcl, but_updD (b4.trans b5) nD0, cs ++ [(cp sg)[c]], by simp, by simp [hcl], fun e he => ?_⟩
    rcases List.mem_append.mp he with e' | e'
    · exact hcs e e'
    · rw [List.mem_singleton.mp e']; exact List.getElem_mem _
  obtain ⟨d4, b4, cs, rfl, hcl, hcs⟩ := hF
  have hcl' : cs.length = 1 + m := by simpa using hcl
  walk_at "rx"
  have hsum : ((cs.map one).map (·.length)).sum + (cs.map one).length * (Str.ofString "").length ≤ 16777216 := by
    rw [List.map_map, show ((fun x : Str => x.length) ∘ one) = fun _ => 1 from rfl, show (Str.ofString "").length = 0 from rfl, List.map_const', List.sum_replicate_nat]
    omega
  refine ⟨Str.ofString "", D, cs.map one, rfl, rfl, .inl (.inl (.inl (by rw [List.map_map]; exact hD))), hsum, ?_⟩
  have cb := cp_join cs
  generalize Txt.join (Str.ofString "") (cs.map one) = blk at *
  have d4' : Dr cl (N + 2) H4 dr := d4.le (by simp; omega)
  walk_at "rx"
  refine ⟨cl, N + 1, dr, _, rfl, d4'.le (by omega), by omega, fun kind H5 d5 b5 c0 c1 => ?_⟩
  have b05 := b4.trans b5
  walk_at "rx"
  refine iteD (fun h3 => ?_) fun h3 => ?_
  · walk_at "rx"
    refine r_mulS (n := 400) (by rw [cb]; omega) (by omega) ?_
    walk_at "rx"
    refine ⟨cl, N, dr, _, rfl, d5.le (by omega), by omega, fun j H6 d6 b6 j0 j1 => ?_⟩
    obtain ⟨j, rfl⟩ : ∃ k : Nat, j = k := ⟨j.toNat, by omega⟩
    have jl := j1 (by omega)
    walk_at "rx"
    refine r_slS (by rw [len_cp, len_times, cb]; have := sizeLine_eq; omega) ?_
    have e : cp (cutS (timesS blk ((400 : Nat) : Int)) none (some (399 + (j : Int)))) = (cp (timesS blk ((400 : Nat) : Int))).take (399 + j) := cp_to _ (399 + j)
    refine q _ H6 d6 (b05.trans b6) (by rw [e, List.length_take]; omega) fun c hc => ?_
    rw [e] at hc
    have := mem_times (List.mem_of_mem_take hc)
    rw [cb] at this
    exact hcs c this
  walk_at "rx"
  refine iteD (fun h5 => ?_) fun h5 => ?_
  · walk_at "rx"
    exact q _ H5 (d5.le (by omega)) b05 (by show 0 ≤ 400; omega) fun c hc => by cases hc
  · walk_at "rx"
    exact q _ H5 (d5.le (by omega)) b05 (by rw [cb]; omega) fun c hc => hcs c (by rw [cb] at hc; exact hc)
end
end K
set_option Elab.async false
set_option linter.all false
set_option maxRecDepth 100000
set_option maxHeartbeats 2000000
namespace K
open PySem PySem.Spec PyProof.Rows L2 TH
local macro_rules | `(tactic| walk_at "rd1") => `(tactic| with_reducible (first
  | refine r_seq ?_ | refine r_if ?_ | refine r_ret ?_ | refine r_next ?_ | refine r_asg ?_ | refine r_drop ?_ | refine r_gname ?_ | refine r_retN ?_
  | refine r_var rfl ?_ | refine r_c ?_ | refine r_op ?_ | refine r_un ?_ | refine r_test ?_ | refine r_tB ?_ | refine r_bl ?_ | refine r_and ?_ | refine r_or ?_ | refine r_not ?_
  | refine r_andV ?_ | refine r_orV ?_ | refine r_notV ?_ | refine r_bb ?_ | refine r_ifE ?_ | refine r_gsub ?_ | refine r_nil ?_ | refine r_cons ?_ | refine r_cb ?_ | refine r_cl ?_ | refine r_clS ?_
  | refine r_part ?_ | refine r_nopart ?_ | refine r_int ?_ | refine r_sl ?_ | refine r_chain ?_ | refine r_I0 ?_ | refine r_U ?_ | refine r_eqI ?_ | refine r_neI ?_ | refine r_eqS ?_ | refine r_eqB ?_ | refine r_neB ?_ | refine r_int1 ?_ | refine r_abs1 ?_
  | refine iteT ?_ | refine iteF ?_ | refine r_isF rfl ?_ | refine r_isD (by assumption) (by decide) ?_ | refine r_brk ?_ | refine r_ct ?_ | refine r_ltS ?_ | refine r_leS ?_ | refine r_aug rfl ?_ | refine r_lc ?_ | refine r_meth ?_ | refine r_callO ?_ | refine r_make ?_ | refine r_methT ?_ | refine r_callT ?_ | refine r_ixT' ?_ | refine r_mkS ?_ | refine r_pr ?_ | refine r_sfld ?_ | refine r_fld ?_ | refine r_dnew ?_ | refine r_dput ?_ | refine r_dget ?_ | refine r_bm ?_ | refine r_rs ?_ | refine r_notInS ?_ | refine r_inS ?_ | refine r_isN ?_ | refine r_notN ?_ | refine r_for ?_ | refine r_rg1 ?_ | refine r_m1 ?_ | refine r_m0 ?_ | refine r_isS ?_ | refine r_rg2 ?_ | refine r_ipI ?_))
local macro_rules | `(tactic| walk_at "rd") => `(tactic| repeat (first | walk_at "rd1" | ((with_reducible apply r_var); (focus exact rfl)) | (with_reducible refine r_tup ?_) | (with_reducible refine r_lst ?_) | ((with_reducible refine r_ln ?_ ?_); focus (simp; done)) | ((with_reducible refine iteT' ?_ ?_); focus (simp [isB, Dat.ty, tyN]; done)) | ((with_reducible refine iteF' ?_ ?_); focus (simp [isB, Dat.ty, tyN]; done))))
local macro_rules | `(tactic| walk_at "hf") => `(tactic| first
  | assumption
  | exact upd_same
  | (refine keep1 ?_ (by assumption); walk_at "hf")
  | (refine keep2 (by assumption) ?_; walk_at "hf")
  | (refine (show Same _ _ by assumption) _ _ ?_; walk_at "hf")
  | (refine (show But _ _ _ by assumption) _ _ (by assumption) ?_; walk_at "hf"))
local macro_rules | `(tactic| walk_at "rx") => `(tactic| repeat (first | walk_at "rd1" | ((with_reducible apply r_ixL); (focus assumption); (focus exact rfl)) | ((with_reducible apply r_ixT); (focus assumption); (focus exact rfl)) | ((with_reducible apply r_lenL); (focus assumption)) | ((with_reducible apply r_lenT); (focus assumption)) | ((with_reducible apply r_var); (focus exact rfl)) | (with_reducible refine r_tup ?_) | (with_reducible refine r_lst ?_) | ((with_reducible refine r_ln ?_ ?_); focus (simp; done)) | ((with_reducible refine iteT' ?_ ?_); focus (simp [isB, Dat.ty, tyN]; done)) | ((with_reducible refine iteF' ?_ ?_); focus (simp [isB, Dat.ty, tyN]; done))))
local macro_rules | `(tactic| walk_at "rz") => `(tactic| repeat ((fail_if_success (with_reducible show tFor _ _ _ _ _ _)); (first | walk_at "rd1" | ((with_reducible apply r_ixL); (focus assumption); (focus exact rfl)) | ((with_reducible apply r_ixT); (focus assumption); (focus exact rfl)) | ((with_reducible apply r_lenL); (focus assumption)) | ((with_reducible apply r_lenT); (focus assumption)) | ((with_reducible apply r_var); (focus exact rfl)) | (with_reducible refine r_tup ?_) | (with_reducible refine r_lst ?_) | ((with_reducible refine r_ln ?_ ?_); focus (simp; done)) | ((with_reducible refine iteT' ?_ ?_); focus (simp [isB, Dat.ty, tyN]; done)) | ((with_reducible refine iteF' ?_ ?_); focus (simp [isB, Dat.ty, tyN]; done)))))
/-- the errors of the text, each with its one field -/
def errs : List (Str × Str) := [("BadWords", "words"), ("BadStanding", "number"), ("NoStanding", "standing"), ("BadCalling", "number")]
structure TxtE (K : PySem.W.Frag) : Prop where
  xc : ∀ q ∈ errs, ExcC K (He.ga K q.1)
  xf : ∀ q ∈ errs, XfC K (He.ga K q.1)
  no : ∀ q ∈ errs, PySem.W.findIn K (.ref (He.ga K q.1)) q.2 = some none
  is : ∀ q ∈ errs, ∀ r ∈ errs, PySem.W.kitOne K (.ref (He.ga K q.1)) (.ref (He.ga K r.1)) = some (decide (q.1 = r.1))
  ve : ∀ q ∈ errs, PySem.W.kitOne K (.ref (He.ga K q.1)) (.type "ValueError") = some true
  te : ∀ q ∈ errs, PySem.W.exmOne K (.ref (He.ga K q.1)) (.ref (He.ga K "TailError")) = some true
section
variable {K : PySem.W.Frag} {p : Addr × Obj} {L d : Addr} {x f r fr : Str} {v : V} {σ : L2.St} {H : Hp} {D : Ends}
theorem told_no (E : TxtE K) (hx : (x, f) ∈ errs) (hr : (r, fr) ∈ errs) (ne : decide (x = r) = false) (er : ErrAt p (He.ga K x) d) (hd : H d = some (.xd [(f, v)])) {u : TS} (hσ : σ[0]? = some (some (.ref p.1))) (k : D.nx σ H) :
    tIfS (tB (tCB (rIsP K p) (tCons (tVar 0) (tCons (tC (.ref (He.ga K r))) tNil)))) u tNext D σ H := by
  have hk := E.is _ hx _ hr
  rw [ne] at hk
  refine r_if (r_tB (r_cb (r_cons (r_var hσ (r_cons (r_c (r_nil ?_)))))))
  refine ⟨_, d, _, .ref (He.ga K r), .ref (He.ga K r), false, rfl, er, E.xc _ hx, hd, .own _, hk, ?_⟩
  exact r_bb (iteF k)
theorem told_yes (E : TxtE K) (hx : (x, f) ∈ errs) (er : ErrAt p (He.ga K x) d) (hd : H d = some (.xd [(f, v)])) (hσ : σ = [some (.ref p.1), some (.ref L)]) (hL : H L = some (.lst [])) (k : ∀ t, H t = none → D.nx σ (upd (upd H t (.tup [.str x, v])) L (.lst [.ref t]))) :
    tIfS (tB (tCB (rIsP K p) (tCons (tVar 0) (tCons (tC (.ref (He.ga K x))) tNil)))) (tDrop (tBM K "list" rAppend (tVar 1) (tCons (tTup (tCons (tC (.str x)) (tCons (tXP K p f (tVar 0)) tNil))) tNil))) tNext D σ H := by
  have hk := E.is _ hx _ hx
  rw [decide_eq_true rfl] at hk
  subst hσ
  refine r_if (r_tB (r_cb (r_cons (r_var rfl (r_cons (r_c (r_nil ?_)))))))
  refine ⟨_, d, _, .ref (He.ga K x), .ref (He.ga K x), true, rfl, er, E.xc _ hx, hd, .own _, hk, ?_⟩
  refine r_bb (iteT ?_)
  walk_at "rd"
  refine tyL hL ?_
  walk_at "rd"
  refine ⟨_, rfl, _, d, _, v, rfl, er, E.xf _ hx, E.no _ hx, hd, by simp [List.lookup], ?_⟩
  walk_at "rd"
  intro t nt
  walk_at "rd"
  refine r_app (keep1 hL nt) (by simp) ?_
  exact k t nt
end
section
variable {P : Program} {w : World} {K : PySem.W.Frag} {mg : Str → Option Value} {base : Heap} (T : Txt K mg) (TE : TxtE K)
include T TE
def sp_told (p : Addr × Obj) : Sp := fun vs H Q _ => ∃ x f v d, (x, f) ∈ errs ∧ vs = [.ref p.1] ∧ ErrAt p (He.ga K x) d ∧ H d = some (.xd [(f, v)]) ∧ ∀ t H', Same H H' → H' t = some (.tup [.str x, v]) → Q (.ref t) H'
theorem ok_told (F : FD K "_law_told" "_law_told" s_l_told [] (He.ga K "_law_told")) : FnP P w K mg base (L2N.CX P w) 1 (He.ga K "_law_told") (sp_told (K := K)) := by
  refine fnP_of (k := 0) F sc_l_told (fun _ _ _ _ _ _ us hl => match us, hl with | [_], _ => rfl) (fun p vs H Q E h => by obtain ⟨x, f, v, d, _, rfl, _⟩ := h; rfl) fun cdv A outer s H vs Q E p hot hr h => ⟨_, (tm_l_told T (j := 0) (hp := List.mem_cons_self)).2, ?_⟩
  obtain ⟨x, f, v, d, hx, rfl, er, hd, q⟩ := h
  unfold tm_l_told
  walk_at "rd"
  intro L nL
  have s1 := same_new nL (o := .lst [])
  have hL : upd H L (.lst []) L = some (.lst []) := upd_same
  obtain ⟨H1, e1⟩ : ∃ G, G = upd H L (.lst []) := ⟨_, rfl⟩
  rw [← e1] at s1 hL
  have hd1 := s1 _ _ hd
  walk_at "rd1"
  walk_at "rd1"
  walk_at "rd1"
  rw [← e1]
  have fin : ∀ t, H1 t = none → ∃ H2, H2 = upd (upd H1 t (.tup [.str x, v])) L (.lst [.ref t]) ∧ Same H H2 ∧ H2 t = some (.tup [.str x, v]) ∧ H2 L = some (.lst [.ref t]) := fun t nt => by
    have ne : t ≠ L := ne_of_none' hL nt
    exact ⟨_, rfl, same_updD (same_upd s1 nt) nL, keep2 ne upd_same, upd_same⟩
  simp only [errs, List.mem_cons, Prod.mk.injEq, List.not_mem_nil, or_false] at hx
  rcases hx with ⟨rfl, rfl⟩ | ⟨rfl, rfl⟩ | ⟨rfl, rfl⟩ | ⟨rfl, rfl⟩
  · have hx : (Str.ofString "BadWords", Str.ofString "words") ∈ errs := by simp [errs]
    refine told_yes TE hx er hd1 rfl hL fun t nt => ?_
    obtain ⟨H2, e2, s2, ht, hl⟩ := fin t nt
    rw [← e2]
    have hd2 := s2 _ _ hd
    walk_at "rd1"
    refine told_no TE (r := "BadStanding") (fr := "number") hx (by simp [errs]) (by decide +kernel) er hd2 rfl ?_
    walk_at "rd1"
    refine told_no TE (r := "NoStanding") (fr := "standing") hx (by simp [errs]) (by decide +kernel) er hd2 rfl ?_
    walk_at "rd1"
    refine told_no TE (r := "BadCalling") (fr := "number") hx (by simp [errs]) (by decide +kernel) er hd2 rfl ?_
    walk_at "rd"
    refine r_lenL hl ?_
    walk_at "rd"
    refine ⟨_, d, _, .ty "ValueError", .type "ValueError", true, rfl, er, TE.xc _ hx, hd2, .ty _, TE.ve _ hx, ?_⟩
    walk_at "rd"
    refine r_ixL hl rfl ?_
    exact q t H2 s2 ht
  · have hx : (Str.ofString "BadStanding", Str.ofString "number") ∈ errs := by simp [errs]
    refine told_no TE (r := "BadWords") (fr := "words") hx (by simp [errs]) (by decide +kernel) er hd1 rfl ?_
    walk_at "rd1"
    refine told_yes TE hx er hd1 rfl hL fun t nt => ?_
    obtain ⟨H2, e2, s2, ht, hl⟩ := fin t nt
    rw [← e2]
    have hd2 := s2 _ _ hd
    walk_at "rd1"
    refine told_no TE (r := "NoStanding") (fr := "standing") hx (by simp [errs]) (by decide +kernel) er hd2 rfl ?_
    walk_at "rd1"
    refine told_no TE (r := "BadCalling") (fr := "number") hx (by simp [errs]) (by decide +kernel) er hd2 rfl ?_
    walk_at "rd"
    refine r_lenL hl ?_
    walk_at "rd"
    refine ⟨_, d, _, .ty "ValueError", .type "ValueError", true, rfl, er, TE.xc _ hx, hd2, .ty _, TE.ve _ hx, ?_⟩
    walk_at "rd"
    refine r_ixL hl rfl ?_
    exact q t H2 s2 ht
  · have hx : (Str.ofString "NoStanding", Str.ofString "standing") ∈ errs := by simp [errs]
    refine told_no TE (r := "BadWords") (fr := "words") hx (by simp [errs]) (by decide +kernel) er hd1 rfl ?_
    walk_at "rd1"
    refine told_no TE (r := "BadStanding") (fr := "number") hx (by simp [errs]) (by decide +kernel) er hd1 rfl ?_
    walk_at "rd1"
    refine told_yes TE hx er hd1 rfl hL fun t nt => ?_
    obtain ⟨H2, e2, s2, ht, hl⟩ := fin t nt
    rw [← e2]
    have hd2 := s2 _ _ hd
    walk_at "rd1"
    refine told_no TE (r := "BadCalling") (fr := "number") hx (by simp [errs]) (by decide +kernel) er hd2 rfl ?_
    walk_at "rd"
    refine r_lenL hl ?_
    walk_at "rd"
    refine ⟨_, d, _, .ty "ValueError", .type "ValueError", true, rfl, er, TE.xc _ hx, hd2, .ty _, TE.ve _ hx, ?_⟩
    walk_at "rd"
    refine r_ixL hl rfl ?_
    exact q t H2 s2 ht
  · have hx : (Str.ofString "BadCalling", Str.ofString "number") ∈ errs := by simp [errs]
    refine told_no TE (r := "BadWords") (fr := "words") hx (by simp [errs]) (by decide +kernel) er hd1 rfl ?_
    walk_at "rd1"
    refine told_no TE (r := "BadStanding") (fr := "number") hx (by simp [errs]) (by decide +kernel) er hd1 rfl ?_
    walk_at "rd1"
    refine told_no TE (r := "NoStanding") (fr := "standing") hx (by simp [errs]) (by decide +kernel) er hd1 rfl ?_
    walk_at "rd1"
    refine told_yes TE hx er hd1 rfl hL fun t nt => ?_
    obtain ⟨H2, e2, s2, ht, hl⟩ := fin t nt
    rw [← e2]
    have hd2 := s2 _ _ hd
    walk_at "rd"
    refine r_lenL hl ?_
    walk_at "rd"
    refine ⟨_, d, _, .ty "ValueError", .type "ValueError", true, rfl, er, TE.xc _ hx, hd2, .ty _, TE.ve _ hx, ?_⟩
    walk_at "rd"
    refine r_ixL hl rfl ?_
    exact q t H2 s2 ht
end
end K
set_option Elab.async false
set_option linter.all false
set_option maxRecDepth 100000
set_option maxHeartbeats 2000000
namespace K
open PySem PySem.Spec PyProof.Rows L2 TH
local macro_rules | `(tactic| walk_at "rd1") => `(tactic| with_reducible (first
  | refine r_seq ?_ | refine r_if ?_ | refine r_ret ?_ | refine r_next ?_ | refine r_asg ?_ | refine r_drop ?_ | refine r_gname ?_ | refine r_retN ?_
  | refine r_var rfl ?_ | refine r_c ?_ | refine r_op ?_ | refine r_un ?_ | refine r_test ?_ | refine r_tB ?_ | refine r_bl ?_ | refine r_and ?_ | refine r_or ?_ | refine r_not ?_
  | refine r_andV ?_ | refine r_orV ?_ | refine r_notV ?_ | refine r_bb ?_ | refine r_ifE ?_ | refine r_gsub ?_ | refine r_nil ?_ | refine r_cons ?_ | refine r_cb ?_ | refine r_cl ?_ | refine r_clS ?_
  | refine r_part ?_ | refine r_nopart ?_ | refine r_int ?_ | refine r_sl ?_ | refine r_chain ?_ | refine r_I0 ?_ | refine r_U ?_ | refine r_eqI ?_ | refine r_neI ?_ | refine r_eqS ?_ | refine r_eqB ?_ | refine r_neB ?_ | refine r_int1 ?_ | refine r_abs1 ?_
  | refine iteT ?_ | refine iteF ?_ | refine r_isF rfl ?_ | refine r_isD (by assumption) (by decide) ?_ | refine r_brk ?_ | refine r_ct ?_ | refine r_ltS ?_ | refine r_leS ?_ | refine r_aug rfl ?_ | refine r_lc ?_ | refine r_meth ?_ | refine r_callO ?_ | refine r_make ?_ | refine r_methT ?_ | refine r_callT ?_ | refine r_ixT' ?_ | refine r_mkS ?_ | refine r_pr ?_ | refine r_sfld ?_ | refine r_fld ?_ | refine r_dnew ?_ | refine r_dput ?_ | refine r_dget ?_ | refine r_bm ?_ | refine r_rs ?_ | refine r_notInS ?_ | refine r_inS ?_ | refine r_isN ?_ | refine r_notN ?_ | refine r_for ?_ | refine r_rg1 ?_ | refine r_m1 ?_ | refine r_m0 ?_ | refine r_isS ?_ | refine r_rg2 ?_ | refine r_ipI ?_))
local macro_rules | `(tactic| walk_at "rd") => `(tactic| repeat (first | walk_at "rd1" | ((with_reducible apply r_var); (focus exact rfl)) | (with_reducible refine r_tup ?_) | (with_reducible refine r_lst ?_) | ((with_reducible refine r_ln ?_ ?_); focus (simp; done)) | ((with_reducible refine iteT' ?_ ?_); focus (simp [isB, Dat.ty, tyN]; done)) | ((with_reducible refine iteF' ?_ ?_); focus (simp [isB, Dat.ty, tyN]; done))))
local macro_rules | `(tactic| walk_at "hf") => `(tactic| first
  | assumption
  | exact upd_same
  | (refine keep1 ?_ (by assumption); walk_at "hf")
  | (refine keep2 (by assumption) ?_; walk_at "hf")
  | (refine (show Same _ _ by assumption) _ _ ?_; walk_at "hf")
  | (refine (show But _ _ _ by assumption) _ _ (by assumption) ?_; walk_at "hf"))
local macro_rules | `(tactic| walk_at "rx") => `(tactic| repeat (first | walk_at "rd1" | ((with_reducible apply r_ixL); (focus assumption); (focus exact rfl)) | ((with_reducible apply r_ixT); (focus assumption); (focus exact rfl)) | ((with_reducible apply r_lenL); (focus assumption)) | ((with_reducible apply r_lenT); (focus assumption)) | ((with_reducible apply r_var); (focus exact rfl)) | (with_reducible refine r_tup ?_) | (with_reducible refine r_lst ?_) | ((with_reducible refine r_ln ?_ ?_); focus (simp; done)) | ((with_reducible refine iteT' ?_ ?_); focus (simp [isB, Dat.ty, tyN]; done)) | ((with_reducible refine iteF' ?_ ?_); focus (simp [isB, Dat.ty, tyN]; done))))
local macro_rules | `(tactic| walk_at "rz") => `(tactic| repeat ((fail_if_success (with_reducible show tFor _ _ _ _ _ _)); (first | walk_at "rd1" | ((with_reducible apply r_ixL); (focus assumption); (focus exact rfl)) | ((with_reducible apply r_ixT); (focus assumption); (focus exact rfl)) | ((with_reducible apply r_lenL); (focus assumption)) | ((with_reducible apply r_lenT); (focus assumption)) | ((with_reducible apply r_var); (focus exact rfl)) | (with_reducible refine r_tup ?_) | (with_reducible refine r_lst ?_) | ((with_reducible refine r_ln ?_ ?_); focus (simp; done)) | ((with_reducible refine iteT' ?_ ?_); focus (simp [isB, Dat.ty, tyN]; done)) | ((with_reducible refine iteF' ?_ ?_); focus (simp [isB, Dat.ty, tyN]; done)))))
theorem r_clP {σ : L2.St} {H : Hp} {Q : VK} {p : Addr × Obj} {sp : Addr × Obj → Sp} {E : XK} {t : TA} (k : t σ H fun vs H1 => sp p vs H1 Q E) : tClP p sp E t σ H Q := k
theorem told_handle {K : PySem.W.Frag} (TE : TxtE K) {i : Nat} {σ : L2.St} {H : Hp} {y f : Str} {v : V} {dd : Addr} {D : Ends} {Wout : WX} (hx : (y, f) ∈ errs) (hd : H dd = some (.xd [(f, v)])) (hi : i < σ.length)
    (q : ∀ t H', Same H H' → H' t = some (.tup [.str y, v]) → D.rt (.ref t) H') :
    WE (wAs K (.ref (He.ga K "TailError")) i (fun a cls d D σ H => ∀ o, Held cls d o → tRet (tClP (a, o) (sp_told (K := K)) E0 (tCons (tVar i) tNil)) D σ H) Wout D) σ (.ref (He.ga K y)) (some dd) H := by
  refine ⟨true, TE.te _ hx, fun _ a na o ho => ?_, fun h => by cases h⟩
  refine r_ret (r_clP (r_cons (r_var (List.getElem?_set_self hi) (r_nil ?_))))
  exact ⟨y, f, v, dd, hx, rfl, ⟨ho.1.zc, ho.2⟩, hd, q⟩
section
variable {P : Program} {w : World} {K : PySem.W.Frag} {mg : Str → Option Value} {base : Heap} (T : Txt K mg) (TE : TxtE K)
include T TE
def sp_making : Sp := fun vs H Q _ => ∃ d1 v1 f1 d2 v2 f2, vs = [v1, v2] ∧ DF H d1 v1 f1 ∧ DF H d2 v2 f2 ∧ tl1000 d1 ∧ d2.dp ≤ 12 ∧
  ((isWords d1 = false ∧ ∀ t H', Same H H' → H' t = some (.tup [.str "BadWords", v1]) → Q (.ref t) H') ∨
   ∃ ws k, d1 = .str ws ∧ isWords d1 = true ∧ badSt (cp ws).length d2.tupD = some k ∧ ∀ t H', Same H H' → H' t = some (.tup [.str "BadStanding", .int k]) → Q (.ref t) H')
theorem ok_making (C : CalP P w K mg base 1 "_law_told" (sp_told (K := K))) (F1 : FnT P w K mg base 14 (He.fAd K ("Drill", some "__init__")) (sp_init (K := K))) (F : FD K "_law_making" "_law_making" s_l_making [] (He.ga K "_law_making")) : FnT P w K mg base 16 (He.ga K "_law_making") sp_making := by
  refine fnT_of (k := 15) F sc_l_making (fun _ _ _ _ _ _ us hl => match us, hl with | [_, _], _ => rfl) (fun vs H Q E h => by obtain ⟨d1, v1, f1, d2, v2, f2, rfl, _⟩ := h; rfl) fun cdv A outer s H vs Q E hr h => ⟨_, (tm_l_making T (F_Drill := F1) (h_Drill := by decide) (C_l_told := C) (h_l_told := by decide) (hr := hr)).2, ?_⟩
  obtain ⟨d1, v1, f1, d2, v2, f2, rfl, hd1, hd2, h1000, hdp, h⟩ := h
  unfold tm_l_making
  walk_at "rd"
  intro x dx nx ndx ne
  have s0 : Same H (upd (upd H dx (.own x)) x (.ins (He.ga K "Drill") dx [])) := same_upd (same_new ndx) (by rw [upd_ne ne.symm]; exact nx)
  refine ⟨x, dx, d1, v1, f1, d2, v2, f2, rfl, upd_same, hd1.same s0, hd2.same s0, h1000, hdp, fun hw => ?_, fun ws ew hw => ⟨fun k hk => ?_, fun rows er hn => ?_⟩⟩
  · rcases h with ⟨_, q⟩ | ⟨ws, k, rfl, hw', _⟩
    · intro dd H' s' nd hdd
      exact told_handle TE (f := "words") (v := v1) (by simp [errs]) hdd (show _ < _ by simp [L2.start]) fun t H2 s2 ht => q t H2 ((s0.trans s').trans s2) ht
    · rw [hw'] at hw; cases hw
  · rcases h with ⟨hw', _⟩ | ⟨ws', k', ew', _, hb, q⟩
    · rw [hw'] at hw; cases hw
    · intro dd H' s' nd hdd
      cases ew.symm.trans ew'
      cases hk.symm.trans hb
      exact told_handle TE (f := "number") (v := .int k) (by simp [errs]) hdd (show _ < _ by simp [L2.start]) fun t H2 s2 ht => q t H2 ((s0.trans s').trans s2) ht
  · rcases h with ⟨hw', _⟩ | ⟨ws', k', ew', _, hb, q⟩
    · rw [hw'] at hw; cases hw
    · cases ew.symm.trans ew'
      rw [hb] at hn; cases hn
def sp_asking : Sp := fun vs H Q _ => ∃ dl ws rows, ∃ way : Int, ∃ d v fp dc vc fc, vs = [.ref dl, .int way, v, vc] ∧ Drl (He.ga K "Drill") H dl ws rows ∧ DF H d v fp ∧ DF H dc vc fc ∧ tl1000 dc ∧
  ((isIn d 0 (rows.length - 1) = false ∧ ∀ t H', Same H H' → H' t = some (.tup [.str "NoStanding", v]) → Q (.ref t) H') ∨
   (∃ (i : Nat) (k : Int), d = .int i ∧ i < rows.length ∧ way ≠ 0 ∧ badCall (sgOf ws) dc = some k ∧ ∀ t H', Same H H' → H' t = some (.tup [.str "BadCalling", .int k]) → Q (.ref t) H') ∨
   (∃ (i : Nat) (z : Str), d = .int i ∧ i < rows.length ∧ way ≠ 0 ∧ dc = .str z ∧ badCall (sgOf ws) dc = none ∧ ∀ t H', Same H H' → H' t = some (.tup [.str "told", .int (if way = 1 then (((cp z).foldl (stp ws rows) (i, 0)).1 : Nat) else ((cp z).foldl (stp ws rows) (i, 0)).2)]) → Q (.ref t) H'))
omit T TE in
theorem in_of {i : Nat} {rows : List Row} (hi : i < rows.length) : isIn (.int (i : Nat)) 0 (rows.length - 1) = true := by simp [isIn]; omega
theorem ok_asking (C : CalP P w K mg base 1 "_law_told" (sp_told (K := K))) (F1 : FnT P w K mg base 3 (He.fAd K ("Drill", some "__getitem__")) (sp_get (K := K))) (F2 : FnT P w K mg base 4 (He.fAd K ("Drill", some "__call__")) (sp_go (K := K) fun q => q.1)) (F3 : FnT P w K mg base 4 (He.fAd K ("Drill", some "walk")) (sp_go (K := K) fun q => q.2))
    (F : FD K "_law_asking" "_law_asking" s_l_asking [] (He.ga K "_law_asking")) : FnT P w K mg base 5 (He.ga K "_law_asking") (sp_asking (K := K)) := by
  refine fnT_of (k := 4) F sc_l_asking (fun _ _ _ _ _ _ us hl => match us, hl with | [_, _, _, _], _ => rfl) (fun vs H Q E h => by obtain ⟨dl, ws, rows, way, d, v, fp, dc, vc, fc, rfl, _⟩ := h; rfl) fun cdv A outer s H vs Q E hr h => ⟨_, (tm_l_asking T (F_Drill_Xgetitem := F1) (h_Drill_Xgetitem := by decide) (F_Drill_Xcall := F2) (h_Drill_Xcall := by decide) (F_Drill_walk := F3) (h_Drill_walk := by decide) (C_l_told := C) (h_l_told := by decide) (hr := hr)).2, ?_⟩
  obtain ⟨dl, ws, rows, way, d, v, fp, dc, vc, fc, rfl, hD, hd, hdc, h1000, h⟩ := h
  have hD0 := hD
  obtain ⟨⟨dx, ts, tr, tb, tl, sg, xs, ls, h1, h2, h3, h4, h5, h6, h7, h8⟩, hw, hl, hr'⟩ := hD
  unfold tm_l_asking
  walk_at "rd"
  refine iteD (fun w0 => ?_) fun w0 => ?_
  · walk_at "rd"
    refine ⟨dl, dx, _, rfl, h1, dl, ws, rows, d, v, fp, rfl, hD0, hd, fun hin => ?_, fun i e hi => ?_⟩
    · rcases h with ⟨_, q⟩ | ⟨i, k, rfl, hi, _⟩ | ⟨i, z, rfl, hi, _⟩
      · intro dd H' s' nd hdd
        exact told_handle TE (f := "standing") (v := v) (by simp [errs]) hdd (show _ < _ by simp [L2.start]) fun t H2 s2 ht => q t H2 (s'.trans s2) ht
      · rw [in_of hi] at hin; cases hin
      · rw [in_of hi] at hin; cases hin
    · rcases h with ⟨hin, q⟩ | ⟨i', k, _, _, hne, _⟩ | ⟨i', z, _, _, hne, _⟩
      · rw [e, in_of hi] at hin; cases hin
      · exact absurd w0 hne
      · exact absurd w0 hne
  walk_at "rd"
  refine iteD (fun w1 => ?_) fun w1 => ?_
  · walk_at "rd"
    refine ⟨dl, rfl, ?_⟩
    walk_at "rd"
    refine ⟨⟨_, _, h1⟩, dl, ws, rows, d, v, fp, dc, vc, fc, rfl, hD0, hd, hdc, h1000, fun hin => ?_, fun hin k hk => ?_, fun i z e hi ez hb H' s' => ?_⟩
    · rcases h with ⟨_, q⟩ | ⟨i, k, rfl, hi, _⟩ | ⟨i, z, rfl, hi, _⟩
      · intro dd H' s' nd hdd
        exact told_handle TE (f := "standing") (v := v) (by simp [errs]) hdd (show _ < _ by simp [L2.start]) fun t H2 s2 ht => q t H2 (s'.trans s2) ht
      · rw [in_of hi] at hin; cases hin
      · rw [in_of hi] at hin; cases hin
    · rcases h with ⟨hn, q⟩ | ⟨i', k', _, _, _, hk', q⟩ | ⟨i', z, _, _, _, _, hk', q⟩
      · rw [hin] at hn; cases hn
      · cases hk.symm.trans hk'
        intro dd H' s' nd hdd
        exact told_handle TE (f := "number") (v := .int k) (by simp [errs]) hdd (show _ < _ by simp [L2.start]) fun t H2 s2 ht => q t H2 (s'.trans s2) ht
      · cases hk.symm.trans hk'
    · rcases h with ⟨hn, q⟩ | ⟨i', k', _, _, _, hk', q⟩ | ⟨i', z', e', _, _, ez', hk', q⟩
      · rw [e, in_of hi] at hn; cases hn
      · cases hb.symm.trans hk'
      · obtain rfl : i = i' := by have := Dat.int.inj (e.symm.trans e'); omega
        cases ez.symm.trans ez'
        walk_at "rd"
        intro t nt
        rw [if_pos w1] at q
        exact q t _ (same_upd s' nt) upd_same
  · walk_at "rd"
    refine ⟨dl, _, _, rfl, h1, rfl, ?_⟩
    walk_at "rd"
    refine ⟨dl, ws, rows, d, v, fp, dc, vc, fc, rfl, hD0, hd, hdc, h1000, fun hin => ?_, fun hin k hk => ?_, fun i z e hi ez hb H' s' => ?_⟩
    · rcases h with ⟨_, q⟩ | ⟨i, k, rfl, hi, _⟩ | ⟨i, z, rfl, hi, _⟩
      · intro dd H' s' nd hdd
        exact told_handle TE (f := "standing") (v := v) (by simp [errs]) hdd (show _ < _ by simp [L2.start]) fun t H2 s2 ht => q t H2 (s'.trans s2) ht
      · rw [in_of hi] at hin; cases hin
      · rw [in_of hi] at hin; cases hin
    · rcases h with ⟨hn, q⟩ | ⟨i', k', _, _, _, hk', q⟩ | ⟨i', z, _, _, _, _, hk', q⟩
      · rw [hin] at hn; cases hn
      · cases hk.symm.trans hk'
        intro dd H' s' nd hdd
        exact told_handle TE (f := "number") (v := .int k) (by simp [errs]) hdd (show _ < _ by simp [L2.start]) fun t H2 s2 ht => q t H2 (s'.trans s2) ht
      · cases hk.symm.trans hk'
    · rcases h with ⟨hn, q⟩ | ⟨i', k', _, _, _, hk', q⟩ | ⟨i', z', e', _, _, ez', hk', q⟩
      · rw [e, in_of hi] at hn; cases hn
      · cases hb.symm.trans hk'
      · obtain rfl : i = i' := by have := Dat.int.inj (e.symm.trans e'); omega
        cases ez.symm.trans ez'
        walk_at "rd"
        intro t nt
        rw [if_neg w1] at q
        exact q t _ (same_upd s' nt) upd_same
end
end K
set_option Elab.async false
set_option linter.all false
set_option maxRecDepth 100000
set_option maxHeartbeats 2000000
namespace K
open PySem PySem.Spec PyProof.Rows L2 TH
local macro_rules | `(tactic| walk_at "rd1") => `(tactic| with_reducible (first
  | refine r_seq ?_ | refine r_if ?_ | refine r_ret ?_ | refine r_next ?_ | refine r_asg ?_ | refine r_drop ?_ | refine r_gname ?_ | refine r_retN ?_
  | refine r_var rfl ?_ | refine r_c ?_ | refine r_op ?_ | refine r_un ?_ | refine r_test ?_ | refine r_tB ?_ | refine r_bl ?_ | refine r_and ?_ | refine r_or ?_ | refine r_not ?_
  | refine r_andV ?_ | refine r_orV ?_ | refine r_notV ?_ | refine r_bb ?_ | refine r_ifE ?_ | refine r_gsub ?_ | refine r_nil ?_ | refine r_cons ?_ | refine r_cb ?_ | refine r_cl ?_ | refine r_clS ?_
  | refine r_part ?_ | refine r_nopart ?_ | refine r_int ?_ | refine r_sl ?_ | refine r_chain ?_ | refine r_I0 ?_ | refine r_U ?_ | refine r_eqI ?_ | refine r_neI ?_ | refine r_eqS ?_ | refine r_eqB ?_ | refine r_neB ?_ | refine r_int1 ?_ | refine r_abs1 ?_
  | refine iteT ?_ | refine iteF ?_ | refine r_isF rfl ?_ | refine r_isD (by assumption) (by decide) ?_ | refine r_brk ?_ | refine r_ct ?_ | refine r_ltS ?_ | refine r_leS ?_ | refine r_aug rfl ?_ | refine r_lc ?_ | refine r_meth ?_ | refine r_callO ?_ | refine r_make ?_ | refine r_methT ?_ | refine r_callT ?_ | refine r_ixT' ?_ | refine r_mkS ?_ | refine r_pr ?_ | refine r_sfld ?_ | refine r_fld ?_ | refine r_dnew ?_ | refine r_dput ?_ | refine r_dget ?_ | refine r_bm ?_ | refine r_rs ?_ | refine r_notInS ?_ | refine r_inS ?_ | refine r_isN ?_ | refine r_notN ?_ | refine r_for ?_ | refine r_rg1 ?_ | refine r_m1 ?_ | refine r_m0 ?_ | refine r_isS ?_ | refine r_rg2 ?_ | refine r_ipI ?_))
local macro_rules | `(tactic| walk_at "rd") => `(tactic| repeat (first | walk_at "rd1" | ((with_reducible apply r_var); (focus exact rfl)) | (with_reducible refine r_tup ?_) | (with_reducible refine r_lst ?_) | ((with_reducible refine r_ln ?_ ?_); focus (simp; done)) | ((with_reducible refine iteT' ?_ ?_); focus (simp [isB, Dat.ty, tyN]; done)) | ((with_reducible refine iteF' ?_ ?_); focus (simp [isB, Dat.ty, tyN]; done))))
local macro_rules | `(tactic| walk_at "hf") => `(tactic| first
  | assumption
  | exact upd_same
  | (refine keep1 ?_ (by assumption); walk_at "hf")
  | (refine keep2 (by assumption) ?_; walk_at "hf")
  | (refine (show Same _ _ by assumption) _ _ ?_; walk_at "hf")
  | (refine (show But _ _ _ by assumption) _ _ (by assumption) ?_; walk_at "hf"))
local macro_rules | `(tactic| walk_at "rx") => `(tactic| repeat (first | walk_at "rd1" | ((with_reducible apply r_ixL); (focus assumption); (focus exact rfl)) | ((with_reducible apply r_ixT); (focus assumption); (focus exact rfl)) | ((with_reducible apply r_lenL); (focus assumption)) | ((with_reducible apply r_lenT); (focus assumption)) | ((with_reducible apply r_var); (focus exact rfl)) | (with_reducible refine r_tup ?_) | (with_reducible refine r_lst ?_) | ((with_reducible refine r_ln ?_ ?_); focus (simp; done)) | ((with_reducible refine iteT' ?_ ?_); focus (simp [isB, Dat.ty, tyN]; done)) | ((with_reducible refine iteF' ?_ ?_); focus (simp [isB, Dat.ty, tyN]; done))))
local macro_rules | `(tactic| walk_at "rz") => `(tactic| repeat ((fail_if_success (with_reducible show tFor _ _ _ _ _ _)); (first | walk_at "rd1" | ((with_reducible apply r_ixL); (focus assumption); (focus exact rfl)) | ((with_reducible apply r_ixT); (focus assumption); (focus exact rfl)) | ((with_reducible apply r_lenL); (focus assumption)) | ((with_reducible apply r_lenT); (focus assumption)) | ((with_reducible apply r_var); (focus exact rfl)) | (with_reducible refine r_tup ?_) | (with_reducible refine r_lst ?_) | ((with_reducible refine r_ln ?_ ?_); focus (simp; done)) | ((with_reducible refine iteT' ?_ ?_); focus (simp [isB, Dat.ty, tyN]; done)) | ((with_reducible refine iteF' ?_ ?_); focus (simp [isB, Dat.ty, tyN]; done)))))
theorem upper_all : ∀ k : Fin 26, cp (Txt.upper (one (97 + k.val))) = [65 + k.val] := by decide +kernel
theorem upper_one {c : Nat} (h : 97 ≤ c ∧ c ≤ 122) : cp (Txt.upper (one c)) = [c - 32] := by
  have := upper_all ⟨c - 97, by omega⟩
  simp only at this
  rw [show 97 + (c - 97) = c by omega, show 65 + (c - 97) = c - 32 by omega] at this
  exact this
theorem small_mem {cs : List Nat} (h : smallL cs = true) : ∀ c ∈ cs, 97 ≤ c ∧ c ≤ 122 := fun c m => by
  obtain ⟨i, hi, rfl⟩ := List.mem_iff_getElem.mp m
  have := small_le h i hi
  rw [TH.getD_at hi] at this
  exact this
theorem notWords_mem {z : Str} {c : Nat} (h : c ∈ cp z) (hc : c < 97) : isWords (.str z) = false := by
  cases e : isWords (.str z) with
  | false => rfl
  | true => have := small_mem (words_inv e).1 c h; omega
theorem notWords_rise {z : Str} {i j : Nat} (hij : i < j) (hj : j < (cp z).length) (hc : (cp z).getD j 0 ≤ (cp z).getD i 0) : isWords (.str z) = false := by
  cases e : isWords (.str z) with
  | false => rfl
  | true => have := rise_mono (words_inv e).2.1 j i hij hj; omega
theorem notWords_len {z : Str} (h : (cp z).length = 0 ∨ 4 < (cp z).length) : isWords (.str z) = false := by
  cases e : isWords (.str z) with
  | false => rfl
  | true => have := (words_inv e).2.2; omega
theorem r_upper {H : Hp} {Q : VK} {z : Str} (hz : z.length ≤ 5592405) (k : Q (.str (Txt.upper z)) H) : ∃ a, V.str z = .str a ∧ ([] : List V) = [] ∧ a.length ≤ 5592405 ∧ Q (.str (Txt.upper a)) H := ⟨z, rfl, rfl, hz, k⟩
theorem cp_rev (z : Str) : cp (revS z) = (cp z).reverse := rfl
theorem r_revS {σ : L2.St} {H : Hp} {Q : VK} {te : TE} (k : te σ H fun x H1 => ∃ z, x = .str z ∧ z.length ≤ sizeLine ∧ Q (.str (revS z)) H1) : tRevS te σ H Q := k
theorem r_addC {H : Hp} {Q : VK} {a b : Str} (h : (cp a).length + (cp b).length ≤ 100000) (k : Q (.str (a ++ b)) H) : L2.rAddS (.str a) (.str b) H Q := r_addS (by rw [len_cp, len_cp]; exact Nat.le_trans h (by decide)) k
theorem len1000 {z : Str} (h : (cp z).length ≤ 1000) : z.length ≤ sizeLine := by rw [len_cp]; exact s1000 h
theorem dfs_strs {H : Hp} : ∀ cs : List Nat, DFs H (cs.map fun c => Dat.str (one c)) (cs.map fun c => V.str (one c)) []
  | [] => by simp [DFs]
  | c :: cs => by
    simp only [List.map_cons, DFs, DF]
    exact ⟨_, _, [], [], rfl, rfl, ⟨rfl, rfl⟩, dfs_strs cs⟩
section
variable {P : Program} {w : World} {K : PySem.W.Frag} {mg : Str → Option Value} {base : Heap} (T : Txt K mg)
include T
def sp_badw : Sp := fun vs H Q _ => ∃ cl N dr ws, vs = [.ref dr, .str ws] ∧ isWords (.str ws) = true ∧ Dr cl (N + 30) H dr ∧ ∀ d v fp H', Dr cl N H' dr → But dr H H' → DF H' d v fp → (∀ a ∈ fp, H a = none) → isWords d = false → tl1000 d → d.dp ≤ 1 → Q v H'
theorem ok_bad_words (C1 : Cal P w K mg base 2 "_law_pick" sp_pick) (C2 : Cal P w K mg base 3 "_law_words" sp_words5) (F : FD K "_law_bad_words" "_law_bad_words" s_l_bad_words [] (He.ga K "_law_bad_words")) : FnT P w K mg base 4 (He.ga K "_law_bad_words") sp_badw := by
  refine fnT_of (k := 3) F sc_l_bad_words (fun _ _ _ _ _ _ us hl => match us, hl with | [_, _], _ => rfl) (fun vs H Q E h => by obtain ⟨cl, N, dr, ws, rfl, _⟩ := h; rfl) fun cdv A outer s H vs Q E hr h => ⟨_, (tm_l_bad_words T (C_l_pick := C1) (h_l_pick := by decide) (C_l_words := C2) (h_l_words := by decide) (hr := hr)).2, ?_⟩
  obtain ⟨cl, N, dr, ws, rfl, hw, hdr, q⟩ := h
  obtain ⟨w1, w2, w3, w4⟩ := words_inv hw
  obtain ⟨yd, hyd⟩ := hdr.lst
  have sz : ws.length ≤ sizeLine := by rw [len_cp]; exact s1000 (by omega)
  unfold tm_l_bad_words
  walk_at "rx"
  refine ⟨cl, N + 29, dr, _, rfl, hdr.le (by omega), by omega, fun kind H1 d1 b1 k0 k1 => ?_⟩
  have k13 := k1 (by omega)
  walk_at "rx"
  refine r_lenS sz ?_
  rw [len_cp]
  walk_at "rx"
  refine ⟨cl, N + 28, dr, _, rfl, d1.le (by omega), by omega, fun t H2 d2 b2 t0 t1 => ?_⟩
  obtain ⟨t, rfl⟩ : ∃ k : Nat, t = k := ⟨t.toNat, by omega⟩
  have tl : t < (cp ws).length := by have := t1 (by omega); omega
  have b02 := b1.trans b2
  have hct : (cp ws)[t]? = some (cp ws)[t] := List.getElem?_eq_getElem tl
  have hcr := small_mem w1 _ (List.getElem_mem tl)
  have fin : ∀ z, isWords (.str z) = false → (cp z).length ≤ 1000 → Q (.str z) H2 := fun z hz hl => q (.str z) _ [] H2 (d2.le (by omega)) b02 (by simp [DF]) (fun a m => by cases m) hz hl (by simp [Dat.dp])
  have ct : cp (cutS ws none (some ((t : Nat) : Int))) = (cp ws).take t := cp_to ws t
  have cf : cp (cutS ws (some ((t : Nat) : Int)) none) = (cp ws).drop t := cp_from ws t
  have cf1 : cp (cutS ws (some ((t : Int) + 1)) none) = (cp ws).drop (t + 1) := cp_from ws (t + 1)
  walk_at "rx"
  refine iteD (fun h0 => ?_) fun h0 => ?_
  · walk_at "rx"
    refine r_slS sz ?_
    walk_at "rx"
    refine r_ixSt (by omega) hct ?_
    walk_at "rx"
    refine ⟨_, rfl, rfl, (by show 1 ≤ 5592405; omega), ?_⟩
    walk_at "rx"
    have cu := upper_one hcr
    refine r_addC (by rw [ct, cu, List.length_take]; simp only [List.length_append, List.length_cons, List.length_nil, List.length_take, List.length_drop]; omega) ?_
    walk_at "rx"
    refine r_slS sz ?_
    refine r_addC (by rw [cp_cat, ct, cu, cf1, List.length_append, List.length_take, List.length_drop]; simp only [List.length_append, List.length_cons, List.length_nil, List.length_take, List.length_drop]; omega) ?_
    refine fin _ (notWords_mem (c := (cp ws)[t] - 32) ?_ (by omega)) ?_
    · rw [cp_cat, cp_cat, cu]; simp
    · rw [cp_cat, cp_cat, ct, cu, cf1]; simp only [List.length_append, List.length_cons, List.length_nil, List.length_take, List.length_drop]; omega
  walk_at "rx"
  refine iteD (fun h1 => ?_) fun h1 => ?_
  · walk_at "rx"
    refine r_slS sz ?_
    walk_at "rx"
    refine r_ixSt (by omega) hct ?_
    walk_at "rx"
    refine r_mulS (n := 2) (by rw [cp_one]; simp) (by omega) ?_
    have cm : cp (timesS (one (cp ws)[t]) ((2 : Nat) : Int)) = [(cp ws)[t], (cp ws)[t]] := by rw [cp_times]; rfl
    refine r_addC (by rw [ct, cm, List.length_take]; simp only [List.length_append, List.length_cons, List.length_nil, List.length_take, List.length_drop]; omega) ?_
    walk_at "rx"
    refine r_slS sz ?_
    refine r_addC (by rw [cp_cat, ct, cm, cf1, List.length_append, List.length_take, List.length_drop]; simp only [List.length_append, List.length_cons, List.length_nil, List.length_take, List.length_drop]; omega) ?_
    have e : cp (cutS ws none (some ((t : Nat) : Int)) ++ timesS (one (cp ws)[t]) ((2 : Nat) : Int) ++ cutS ws (some ((t : Int) + 1)) none) = (cp ws).take t ++ ([(cp ws)[t], (cp ws)[t]] ++ (cp ws).drop (t + 1)) := by rw [cp_cat, cp_cat, ct, cm, cf1, List.append_assoc]
    have lt : ((cp ws).take t).length = t := by rw [List.length_take]; omega
    refine fin _ (notWords_rise (i := t) (j := t + 1) (by omega) ?_ ?_) ?_
    · rw [e, List.length_append, lt]; simp only [List.length_append, List.length_cons, List.length_nil]; omega
    · have g0 : ((cp ws).take t ++ ([(cp ws)[t], (cp ws)[t]] ++ (cp ws).drop (t + 1))).getD t 0 = (cp ws)[t] := by rw [List.getD_eq_getElem?_getD, List.getElem?_append_right (by omega), lt, Nat.sub_self]; rfl
      have g1 : ((cp ws).take t ++ ([(cp ws)[t], (cp ws)[t]] ++ (cp ws).drop (t + 1))).getD (t + 1) 0 = (cp ws)[t] := by rw [List.getD_eq_getElem?_getD, List.getElem?_append_right (by omega), lt, show t + 1 - t = 1 by omega]; rfl
      rw [e, g0, g1]
      exact Nat.le_refl _
    · rw [e]; simp only [List.length_append, List.length_cons, List.length_nil, List.length_take, List.length_drop]; omega
  walk_at "rx"
  refine iteD (fun h2 => ?_) fun h2 => ?_
  · walk_at "rx"
    refine r_mulS (n := 2) (by omega) (by omega) ?_
    have cm : cp (timesS ws ((2 : Nat) : Int)) = cp ws ++ cp ws := by rw [cp_times]; simp [List.replicate]
    refine fin _ (notWords_rise (i := 0) (j := (cp ws).length) (by omega) ?_ ?_) ?_
    · rw [cm, List.length_append]; omega
    · rw [cm, List.getD_eq_getElem?_getD, List.getD_eq_getElem?_getD, List.getElem?_append_right (Nat.le_refl _), List.getElem?_append_left (by omega)]
      simp
    · rw [cm, List.length_append]; omega
  walk_at "rx"
  refine iteD (fun h3 => ?_) fun h3 => ?_
  · walk_at "rx"
    refine r_slS sz ?_
    walk_at "rx"
    refine r_addC (by rw [ct, List.length_take]; show _ + 1 ≤ _; omega) ?_
    walk_at "rx"
    refine r_slS sz ?_
    refine r_addC (by rw [cp_cat, ct, cf, List.length_append, List.length_take, List.length_drop]; show _ + 1 + _ ≤ _; omega) ?_
    refine fin _ (notWords_mem (c := 46) ?_ (by omega)) ?_
    · rw [cp_cat, cp_cat, show cp (Str.ofString ".") = [46] from rfl]; simp
    · rw [cp_cat, cp_cat, ct, cf, show cp (Str.ofString ".") = [46] from rfl]; simp only [List.length_append, List.length_cons, List.length_nil, List.length_take, List.length_drop]; omega
  walk_at "rx"
  refine iteD (fun h4 => ?_) fun h4 => ?_
  · walk_at "rx"
    refine ⟨cl, N, dr, 5, rfl, by omega, d2.le (by omega), fun z H3 d3 b3 z1 z2 z3 => ?_⟩
    exact q (.str z) _ [] H3 d3 (b02.trans b3) (by simp [DF]) (fun a m => by cases m) (notWords_len (by omega)) (show (cp z).length ≤ 1000 by omega) (by simp [Dat.dp])
  walk_at "rx"
  refine iteD (fun h5 => ?_) fun h5 => ?_
  · walk_at "rx"
    refine r_revS ?_
    walk_at "rx"
    refine ⟨cl, N, dr, 2, rfl, by omega, d2.le (by omega), fun z H3 d3 b3 z1 z2 z3 => ?_⟩
    refine ⟨z, rfl, len1000 (by omega), ?_⟩
    obtain ⟨a, b, hab⟩ : ∃ a b, cp z = [a, b] := by
      match cp z, z3 with
      | [a, b], _ => exact ⟨a, b, rfl⟩
    have hlt := rise_lt z2 0 (by omega)
    rw [hab] at hlt
    have hlt' : a < b := hlt
    have e : cp (revS z) = [b, a] := by rw [cp_rev, hab]; rfl
    exact q (.str (revS z)) _ [] H3 d3 (b02.trans b3) (by simp [DF]) (fun a m => by cases m) (notWords_rise (i := 0) (j := 1) (by omega) (by rw [e]; simp) (by rw [e]; show a ≤ b; omega)) (show (cp (revS z)).length ≤ 1000 by rw [e]; simp) (by simp [Dat.dp])
  walk_at "rx"
  refine iteD (fun h6 => ?_) fun h6 => ?_
  · walk_at "rx"
    refine r_addC (by show _ + 1 ≤ _; omega) ?_
    refine fin _ (notWords_mem (c := 32) ?_ (by omega)) ?_
    · rw [cp_cat, show cp (Str.ofString " ") = [32] from rfl]; simp
    · rw [cp_cat, show cp (Str.ofString " ") = [32] from rfl]; simp only [List.length_append, List.length_cons, List.length_nil, List.length_take, List.length_drop]; omega
  walk_at "rx"
  refine iteD (fun h7 => ?_) fun h7 => ?_
  · walk_at "rx"
    refine r_srcS (fun Q' q => r_var rfl q) ?_
    intro D nD
    have nD0 := bfree b02 (let ⟨y, hy⟩ := d2.lst; ⟨_, hy⟩) nD
    refine lcV (σ' := fun x => [some (.ref dr), some (.str ws), some (.int kind), some (.int (t : Nat)), some x]) walk_strS (by rw [signs_len]; omega) nD (fun _ => rfl) (fun _ => rfl) (fun i => .str (one ((cp ws).getD i 0))) (fun H _ => trivial) (fun i x H3 hi hx s3 Qn k => ?_) fun H3 s3 hD => ?_
    · obtain ⟨rfl, _⟩ := signs_at hx
      walk_at "rx"
      exact k H3 (Same.refl _)
    rw [signs_len, range_map (cp ws) 0 fun c => V.str (one c)] at hD
    refine q (.lst ((cp ws).map fun c => Dat.str (one c))) (.ref D) [D] H3 ((d2.same s3).le (by omega)) (b02.trans (But.of s3)) ?_ (fun a m => by rw [List.mem_singleton.mp m]; exact nD0) rfl trivial ?_
    · simp only [DF]
      exact ⟨by rw [List.length_map]; omega, D, _, [], rfl, rfl, hD, dfs_strs _⟩
    · have : Dat.dps ((cp ws).map fun c => Dat.str (one c)) ≤ 0 := dps_le fun d m => by obtain ⟨c, _, rfl⟩ := List.mem_map.mp m; simp [Dat.dp]
      simp only [Dat.dp]; omega
  walk_at "rx"
  intro u nu
  have s3 := same_new nu (o := .tup [V.str ws])
  walk_at "rx"
  intro L nL
  have s4 := same_upd s3 nL (o := .lst [V.str (Str.ofString ""), .non, .int 5, .bl true, .ref u, .str (Str.ofString ".")])
  walk_at "rx"
  have out : ∀ d v, DF (upd (upd H2 u (.tup [V.str ws])) L (.lst [V.str (Str.ofString ""), .non, .int 5, .bl true, .ref u, .str (Str.ofString ".")])) d v [] → isWords d = false → tl1000 d → d.dp ≤ 1 → Q v (upd (upd H2 u (.tup [V.str ws])) L (.lst [V.str (Str.ofString ""), .non, .int 5, .bl true, .ref u, .str (Str.ofString ".")])) :=
    fun d v h1 h2 h3 h4 => q d v [] _ ((d2.same s4).le (by omega)) (b02.trans (But.of s4)) h1 (fun a m => by cases m) h2 h3 h4
  have cases6 : kind = 8 ∨ kind = 9 ∨ kind = 10 ∨ kind = 11 ∨ kind = 12 ∨ kind = 13 := by omega
  rcases cases6 with rfl | rfl | rfl | rfl | rfl | rfl
  · refine r_ixL upd_same (v := .str (Str.ofString "")) rfl ?_
    exact out (.str (Str.ofString "")) _ (by simp [DF]) (notWords_len (.inl rfl)) (show 0 ≤ 1000 by omega) (by simp [Dat.dp])
  · refine r_ixL upd_same (v := .non) rfl ?_
    exact out .non _ (by simp [DF]) rfl trivial (by simp [Dat.dp])
  · refine r_ixL upd_same (v := .int 5) rfl ?_
    exact out (.int 5) _ (by simp [DF]) rfl trivial (by simp [Dat.dp])
  · refine r_ixL upd_same (v := .bl true) rfl ?_
    exact out (.bl true) _ (by simp [DF]) rfl trivial (by simp [Dat.dp])
  · refine r_ixL upd_same (v := .ref u) rfl ?_
    have nuL : u ≠ L := (ne_of_none' (show upd H2 u (.tup [V.str ws]) u = some (.tup [V.str ws]) from upd_same) nL).symm
    exact out (.tup [.str ws]) _ (by simp only [DF, DFs]; exact ⟨by simp, u, _, rfl, keep2 nuL upd_same, _, _, [], [], rfl, rfl, ⟨rfl, rfl⟩, rfl, rfl⟩) rfl trivial (by simp [Dat.dp, Dat.dps])
  · refine r_ixL upd_same (v := .str (Str.ofString ".")) rfl ?_
    exact out (.str (Str.ofString ".")) _ (by simp [DF]) (notWords_mem (c := 46) (by show 46 ∈ [46]; simp) (by omega)) (show 1 ≤ 1000 by omega) (by simp [Dat.dp])
end
end K
set_option Elab.async false
set_option linter.all false
set_option maxRecDepth 100000
set_option maxHeartbeats 2000000
namespace K
open PySem PySem.Spec PyProof.Rows L2 TH
local macro_rules | `(tactic| walk_at "rd1") => `(tactic| with_reducible (first
  | refine r_seq ?_ | refine r_if ?_ | refine r_ret ?_ | refine r_next ?_ | refine r_asg ?_ | refine r_drop ?_ | refine r_gname ?_ | refine r_retN ?_
  | refine r_var rfl ?_ | refine r_c ?_ | refine r_op ?_ | refine r_un ?_ | refine r_test ?_ | refine r_tB ?_ | refine r_bl ?_ | refine r_and ?_ | refine r_or ?_ | refine r_not ?_
  | refine r_andV ?_ | refine r_orV ?_ | refine r_notV ?_ | refine r_bb ?_ | refine r_ifE ?_ | refine r_gsub ?_ | refine r_nil ?_ | refine r_cons ?_ | refine r_cb ?_ | refine r_cl ?_ | refine r_clS ?_
  | refine r_part ?_ | refine r_nopart ?_ | refine r_int ?_ | refine r_sl ?_ | refine r_chain ?_ | refine r_I0 ?_ | refine r_U ?_ | refine r_eqI ?_ | refine r_neI ?_ | refine r_eqS ?_ | refine r_eqB ?_ | refine r_neB ?_ | refine r_int1 ?_ | refine r_abs1 ?_
  | refine iteT ?_ | refine iteF ?_ | refine r_isF rfl ?_ | refine r_isD (by assumption) (by decide) ?_ | refine r_brk ?_ | refine r_ct ?_ | refine r_ltS ?_ | refine r_leS ?_ | refine r_aug rfl ?_ | refine r_lc ?_ | refine r_meth ?_ | refine r_callO ?_ | refine r_make ?_ | refine r_methT ?_ | refine r_callT ?_ | refine r_ixT' ?_ | refine r_mkS ?_ | refine r_pr ?_ | refine r_sfld ?_ | refine r_fld ?_ | refine r_dnew ?_ | refine r_dput ?_ | refine r_dget ?_ | refine r_bm ?_ | refine r_rs ?_ | refine r_notInS ?_ | refine r_inS ?_ | refine r_isN ?_ | refine r_notN ?_ | refine r_for ?_ | refine r_rg1 ?_ | refine r_m1 ?_ | refine r_m0 ?_ | refine r_isS ?_ | refine r_rg2 ?_ | refine r_ipI ?_))
local macro_rules | `(tactic| walk_at "rd") => `(tactic| repeat (first | walk_at "rd1" | ((with_reducible apply r_var); (focus exact rfl)) | (with_reducible refine r_tup ?_) | (with_reducible refine r_lst ?_) | ((with_reducible refine r_ln ?_ ?_); focus (simp; done)) | ((with_reducible refine iteT' ?_ ?_); focus (simp [isB, Dat.ty, tyN]; done)) | ((with_reducible refine iteF' ?_ ?_); focus (simp [isB, Dat.ty, tyN]; done))))
local macro_rules | `(tactic| walk_at "hf") => `(tactic| first
  | assumption
  | exact upd_same
  | (refine keep1 ?_ (by assumption); walk_at "hf")
  | (refine keep2 (by assumption) ?_; walk_at "hf")
  | (refine (show Same _ _ by assumption) _ _ ?_; walk_at "hf")
  | (refine (show But _ _ _ by assumption) _ _ (by assumption) ?_; walk_at "hf"))
local macro_rules | `(tactic| walk_at "rx") => `(tactic| repeat (first | walk_at "rd1" | ((with_reducible apply r_ixL); (focus assumption); (focus exact rfl)) | ((with_reducible apply r_ixT); (focus assumption); (focus exact rfl)) | ((with_reducible apply r_lenL); (focus assumption)) | ((with_reducible apply r_lenT); (focus assumption)) | ((with_reducible apply r_var); (focus exact rfl)) | (with_reducible refine r_tup ?_) | (with_reducible refine r_lst ?_) | ((with_reducible refine r_ln ?_ ?_); focus (simp; done)) | ((with_reducible refine iteT' ?_ ?_); focus (simp [isB, Dat.ty, tyN]; done)) | ((with_reducible refine iteF' ?_ ?_); focus (simp [isB, Dat.ty, tyN]; done))))
local macro_rules | `(tactic| walk_at "rz") => `(tactic| repeat ((fail_if_success (with_reducible show tFor _ _ _ _ _ _)); (first | walk_at "rd1" | ((with_reducible apply r_ixL); (focus assumption); (focus exact rfl)) | ((with_reducible apply r_ixT); (focus assumption); (focus exact rfl)) | ((with_reducible apply r_lenL); (focus assumption)) | ((with_reducible apply r_lenT); (focus assumption)) | ((with_reducible apply r_var); (focus exact rfl)) | (with_reducible refine r_tup ?_) | (with_reducible refine r_lst ?_) | ((with_reducible refine r_ln ?_ ?_); focus (simp; done)) | ((with_reducible refine iteT' ?_ ?_); focus (simp [isB, Dat.ty, tyN]; done)) | ((with_reducible refine iteF' ?_ ?_); focus (simp [isB, Dat.ty, tyN]; done)))))
/-- a standing of three parts that is none -/
theorem notSt {n : Nat} {m : Int} {a b c : Dat} (h : isIn a (-3) 3 = false ∨ isIn b 1 12 = false ∨ ∀ ns, c = .tup ns → ns.length ≠ n + 1 ∨ (ns.all fun d => isIn d 0 (m - 1)) = false) : isSt n m (.tup [a, b, c]) = false := by
  cases c with
  | tup ns =>
    simp only [isSt]
    rcases h with h | h | h
    · rw [h]; rfl
    · rw [h]; simp
    · rcases h ns rfl with h | h
      · rw [decide_eq_false h]; simp
      · rw [h]; simp
  | _ => rfl
/-- a plain value that stands as it is -/
structure Pl (d : Dat) (v : V) : Prop where
  df : ∀ H, DF H d v []
  tup : d.tupD = d
  dp : d.dp = 0
theorem pl_int (i : Int) : Pl (.int i) (.int i) := ⟨fun H => by simp [DF], rfl, rfl⟩
theorem pl_bl (b : Bool) : Pl (.bl b) (.bl b) := ⟨fun H => by simp [DF], rfl, rfl⟩
theorem pl_str (z : Str) : Pl (.str z) (.str z) := ⟨fun H => by simp [DF], rfl, rfl⟩
theorem pl_non : Pl .non .non := ⟨fun H => by simp [DF], rfl, rfl⟩
theorem df3 {H : Hp} {L : Addr} {a b c : Dat} {x y z : V} {f : List Addr} (hL : H L = some (.lst [x, y, z])) (ha : Pl a x) (hb : Pl b y) (hc : DF H c z f) : DF H (.lst [a, b, c]) (.ref L) (L :: f) := by
  simp only [DF, DFs]
  exact ⟨by simp, L, _, f, rfl, rfl, hL, _, _, [], f, rfl, rfl, ha.df H, _, _, [], f, rfl, rfl, hb.df H, _, _, f, [], rfl, by simp, hc, rfl, rfl⟩
theorem tup3 {a b c : Dat} (ha : a.tupD = a) (hb : b.tupD = b) : (Dat.lst [a, b, c]).tupD = .tup [a, b, c.tupD] := by simp [Dat.tupD, Dat.tupDs, ha, hb]
theorem dp3 {a b c : Dat} {k : Nat} (ha : a.dp = 0) (hb : b.dp = 0) (hc : c.dp ≤ k) : (Dat.lst [a, b, c]).dp ≤ k + 1 := by simp [Dat.dp, Dat.dps, ha, hb]; exact hc
theorem r_gtup3 {σ : L2.St} {H : Hp} {K : PySem.W.Frag} {n i j k : Nat} {a : Addr} {x y z : V} {Qs : L2.St → Hp → Prop} (h : H a = some (.lst [x, y, z])) (hn : n = 3) (q : Qs (((σ.set i (some x)).set j (some y)).set k (some z)) H) : gLst K n (gCons (gName i) (gCons (gName j) (gCons (gName k) gNil))) (.ref a) σ H Qs :=
  ⟨a, [x, y, z], rfl, .inl (.inl h), hn.symm ▸ rfl, x, [y, z], rfl, y, [z], rfl, z, [], rfl, rfl, q⟩
theorem opt_at {opts : List (Dat × V)} {j : Nat} (hj : j < opts.length) : ∃ o ∈ opts, (opts.map (·.2))[j]? = some o.2 := ⟨opts[j], List.getElem_mem hj, by rw [List.getElem?_map, List.getElem?_eq_getElem hj]; rfl⟩
theorem DFs.app {H : Hp} {l2 : List Dat} {x2 : List V} (h2 : DFs H l2 x2 []) : ∀ {l1 : List Dat} {x1 : List V}, DFs H l1 x1 [] → DFs H (l1 ++ l2) (x1 ++ x2) []
  | [], x1, h => by
    simp only [DFs] at h
    rw [h.1]; exact h2
  | d :: l, x1, h => by
    simp only [DFs] at h
    obtain ⟨x, ys, f, g, rfl, e, h3, h4⟩ := h
    obtain ⟨rfl, rfl⟩ := List.append_eq_nil_iff.mp e.symm
    simp only [List.cons_append, DFs]
    exact ⟨x, _, [], [], rfl, rfl, h3, DFs.app h2 h4⟩
theorem DFs.one {H : Hp} {d : Dat} {v : V} (h : DF H d v []) : DFs H [d] [v] [] := by
  simp only [DFs]
  exact ⟨v, [], [], [], rfl, rfl, h, rfl, rfl⟩
theorem cutV_to (xs : List V) (k : Nat) : cutV xs none (some (k : Int)) = xs.take k := by
  unfold cutV
  rw [HT.sIx_none, HT.sIx_nat, List.drop_zero, Nat.sub_zero]
  by_cases h : k ≤ xs.length
  · rw [Nat.min_eq_left h]
  · rw [Nat.min_eq_right (by omega), List.take_of_length_le (Nat.le_refl _), List.take_of_length_le (by omega)]
theorem cutV_from (xs : List V) (k : Nat) : cutV xs (some (k : Int)) none = xs.drop k := by
  unfold cutV
  rw [HT.sIx_none, HT.sIx_nat]
  by_cases h : k ≤ xs.length
  · rw [Nat.min_eq_left h]; exact List.take_of_length_le (by rw [List.length_drop]; exact Nat.le_refl _)
  · rw [Nat.min_eq_right (by omega), List.drop_length, List.drop_of_length_le (by omega), List.take_nil]
theorem r_slL {H : Hp} {K : PySem.W.Frag} {Q : VK} {a : Addr} {xs : List V} {lo hi : Option Int} (h : H a = some (.lst xs)) (k : ∀ p, H p = none → Q (.ref p) (upd H p (.lst (cutV xs lo hi)))) : rSlL K (.ref a) lo hi H Q := ⟨a, xs, rfl, .inl (.inl h), k⟩
theorem r_cat {H : Hp} {Q : VK} {a b : Addr} {xs ys : List V} (h1 : H a = some (.lst xs)) (h2 : H b = some (.lst ys)) (hl : xs.length + ys.length ≤ 100000) (k : ∀ p, H p = none → Q (.ref p) (upd H p (.lst (xs ++ ys)))) : rCat (.ref a) (.ref b) H Q := ⟨a, b, xs, ys, rfl, rfl, h1, h2, Nat.le_trans hl (by decide), k⟩
section
variable {P : Program} {w : World} {K : PySem.W.Frag} {mg : Str → Option Value} {base : Heap} (T : Txt K mg)
include T
def sp_bads : Sp := fun vs H Q _ => ∃ cl N dr ws e, ∃ oe : HO, ∃ m : Nat, ∃ p : Addr × Addr, ∃ r : Row, ∃ i : Nat, vs = [.ref dr, .str ws, .int m, .ref p.1, .int i] ∧ 1 ≤ m ∧ m ≤ 6 ∧ r.Ok (cp ws).length m ∧ (cp ws).length ≤ 4 ∧ p.1 ≠ dr ∧ p.2 ≠ dr ∧ H e = some oe ∧ p.2 ≠ e ∧
  H p.1 = some (.lst [.int r.s, .int r.b, .ref p.2]) ∧ H p.2 = some (.lst (r.n.map V.int)) ∧ Dr cl (N + 4) H dr ∧
  ∀ d v fp H', Dr cl N H' dr → But dr H H' → DF H' d v fp → (dr ∉ fp ∧ e ∉ fp) → badAt (cp ws).length m i d.tupD = true → d.dp ≤ 2 → Q v H'
theorem ok_bad_standing1 (C1 : Cal P w K mg base 2 "_law_pick" sp_pick) (F : FD K "_law_bad_standing" "_law_bad_standing" s_l_bad_standing [] (He.ga K "_law_bad_standing")) : FnT P w K mg base 3 (He.ga K "_law_bad_standing") sp_bads := by
  refine fnT_of (k := 2) F sc_l_bad_standing (fun _ _ _ _ _ _ us hl => match us, hl with | [_, _, _, _, _], _ => rfl) (fun vs H Q E h => by obtain ⟨cl, N, dr, ws, e, oe, m, p, r, i, rfl, _⟩ := h; rfl) fun cdv A outer s H vs Q E hr h => ⟨_, (tm_l_bad_standing T (C_l_pick := C1) (h_l_pick := by decide) (hr := hr)).2, ?_⟩
  obtain ⟨cl, N, dr, ws, ea, oe, m, p, r, i, rfl, hm1, hm6, ok, hws, np1, np2, he, npe, hp1, hp2, hdr, q⟩ := h
  obtain ⟨yd, hyd⟩ := hdr.lst
  obtain ⟨yc, hyc⟩ := hdr.cls
  have dn : ∀ {L : Addr}, H L = none → L ≠ dr ∧ L ≠ ea := fun n => ⟨ne_of_none' hyd n, ne_of_none' he n⟩
  unfold tm_l_bad_standing
  walk_at "rx"
  refine r_gtup3 hp1 rfl ?_
  walk_at "rx"
  refine ⟨cl, N + 3, dr, _, rfl, hdr.le (by omega), by omega, fun kind H1 d1 b1 k0 k1 => ?_⟩
  have kl := k1 (by omega)
  have hn1 := b1 _ _ np2 hp2
  walk_at "rx"
  -- what is handed back: a list of three, its third part the row's own list
  have fin3 : ∀ (a b : Dat) (x y : V) (L : Addr) (H' : Hp), Pl a x → Pl b y → Dr cl N H' dr → But dr H H' → H' L = some (.lst [x, y, .ref p.2]) → (L ≠ dr ∧ L ≠ ea) → badAt (cp ws).length m i (.tup [a, b, .tup (r.n.map Dat.int)]) = true → Q (.ref L) H' := fun a b x y L H' pa pb hd hb hL hLd hbad => by
    have hn' := hb _ _ np2 hp2
    have dfn : DF H' (.lst (r.n.map Dat.int)) (.ref p.2) [p.2] := by
      simp only [DF]
      exact ⟨by rw [List.length_map, ok.l]; omega, p.2, _, [], rfl, rfl, hn', DFs.ofInts _⟩
    refine q (.lst [a, b, .lst (r.n.map Dat.int)]) _ _ H' hd hb (df3 hL pa pb dfn) (by simp [hLd.1.symm, hLd.2.symm, np2.symm, npe.symm]) ?_ (dp3 pa.dp pb.dp (by simp [Dat.dp, dps_ints]))
    rw [tup3 pa.tup pb.tup]
    simp only [Dat.tupD, tupDs_ints]
    exact hbad
  refine iteD (fun h0 => ?_) fun h0 => ?_
  · walk_at "rx"
    refine r_I ⟨by decide, by decide, by decide⟩ ?_
    walk_at "rx"
    intro L nL
    have hL : upd H1 L (.lst [V.int 4, .int (-4), .bl true, .non, .str (Str.ofString "1"), .int (10 ^ Int.toNat 20)]) L = some (.lst ([(Dat.int 4, V.int 4), (.int (-4), .int (-4)), (.bl true, .bl true), (.non, .non), (.str (Str.ofString "1"), .str (Str.ofString "1")), (.int (10 ^ Int.toNat 20), .int (10 ^ Int.toNat 20))].map (·.2))) := upd_same
    have s1 := same_new nL (o := .lst [V.int 4, .int (-4), .bl true, .non, .str (Str.ofString "1"), .int (10 ^ Int.toNat 20)])
    have Ld := dn (bfree b1 (let ⟨y, hy⟩ := d1.lst; ⟨_, hy⟩) nL)
    walk_at "rx"
    refine ⟨cl, N + 2, dr, _, rfl, (d1.same s1).le (by omega), by omega, fun j H2 d2 b2 j0 j1 => ?_⟩
    obtain ⟨j, rfl⟩ : ∃ k : Nat, j = k := ⟨j.toNat, by omega⟩
    have jl := j1 (by omega)
    obtain ⟨o, ho, ej⟩ := opt_at (opts := [(Dat.int 4, V.int 4), (.int (-4), .int (-4)), (.bl true, .bl true), (.non, .non), (.str (Str.ofString "1"), .str (Str.ofString "1")), (.int (10 ^ Int.toNat 20), .int (10 ^ Int.toNat 20))]) (j := j) (by simp; omega)
    have po : Pl o.1 o.2 ∧ isIn o.1 (-3) 3 = false := by
      simp only [List.mem_cons, List.not_mem_nil, or_false] at ho
      rcases ho with rfl | rfl | rfl | rfl | rfl | rfl
      · exact ⟨pl_int _, by decide⟩
      · exact ⟨pl_int _, by decide⟩
      · exact ⟨pl_bl _, rfl⟩
      · exact ⟨pl_non, rfl⟩
      · exact ⟨pl_str _, rfl⟩
      · exact ⟨pl_int _, by decide⟩
    refine r_ixL (b2 _ _ Ld.1 hL) (atI_at ej) ?_
    walk_at "rx"
    intro R nR
    have b02 := (b1.trans (But.of s1)).trans b2
    refine fin3 o.1 (.int r.b) o.2 _ R _ po.1 (pl_int _) ((d2.same (same_new nR)).le (by omega)) (b02.trans (But.of (same_new nR))) upd_same (dn (bfree b02 (let ⟨y, hy⟩ := d2.lst; ⟨_, hy⟩) nR)) ?_
    unfold badAt
    rw [notSt (.inl po.2)]; rfl
  walk_at "rx"
  refine iteD (fun h1 => ?_) fun h1 => ?_
  · walk_at "rx"
    intro L nL
    have hL : upd H1 L (.lst [V.int 0, .int 13, .bl true, .int (-1), .non, .str (Str.ofString "2")]) L = some (.lst ([(Dat.int 0, V.int 0), (.int 13, .int 13), (.bl true, .bl true), (.int (-1), .int (-1)), (.non, .non), (.str (Str.ofString "2"), .str (Str.ofString "2"))].map (·.2))) := upd_same
    have s1 := same_new nL (o := .lst [V.int 0, .int 13, .bl true, .int (-1), .non, .str (Str.ofString "2")])
    have Ld := dn (bfree b1 (let ⟨y, hy⟩ := d1.lst; ⟨_, hy⟩) nL)
    walk_at "rx"
    refine ⟨cl, N + 2, dr, _, rfl, (d1.same s1).le (by omega), by omega, fun j H2 d2 b2 j0 j1 => ?_⟩
    obtain ⟨j, rfl⟩ : ∃ k : Nat, j = k := ⟨j.toNat, by omega⟩
    have jl := j1 (by omega)
    obtain ⟨o, ho, ej⟩ := opt_at (opts := [(Dat.int 0, V.int 0), (.int 13, .int 13), (.bl true, .bl true), (.int (-1), .int (-1)), (.non, .non), (.str (Str.ofString "2"), .str (Str.ofString "2"))]) (j := j) (by simp; omega)
    have po : Pl o.1 o.2 ∧ isIn o.1 1 12 = false := by
      simp only [List.mem_cons, List.not_mem_nil, or_false] at ho
      rcases ho with rfl | rfl | rfl | rfl | rfl | rfl
      · exact ⟨pl_int _, by decide⟩
      · exact ⟨pl_int _, by decide⟩
      · exact ⟨pl_bl _, rfl⟩
      · exact ⟨pl_int _, by decide⟩
      · exact ⟨pl_non, rfl⟩
      · exact ⟨pl_str _, rfl⟩
    refine r_ixL (b2 _ _ Ld.1 hL) (atI_at ej) ?_
    walk_at "rx"
    intro R nR
    have b02 := (b1.trans (But.of s1)).trans b2
    refine fin3 (.int r.s) o.1 _ o.2 R _ (pl_int _) po.1 ((d2.same (same_new nR)).le (by omega)) (b02.trans (But.of (same_new nR))) upd_same (dn (bfree b02 (let ⟨y, hy⟩ := d2.lst; ⟨_, hy⟩) nR)) ?_
    unfold badAt
    rw [notSt (.inr (.inl po.2))]; rfl
  walk_at "rx"
  refine iteD (fun h2 => ?_) fun h2 => ?_
  · walk_at "rx"
    rw [List.length_map]
    refine ⟨cl, N + 2, dr, _, rfl, d1.le (by omega), by rw [ok.l]; omega, fun t H2 d2 b2 t0 t1 => ?_⟩
    obtain ⟨t, rfl⟩ : ∃ k : Nat, t = k := ⟨t.toNat, by omega⟩
    have tl : t < r.n.length := by have := t1 (by rw [ok.l]; omega); omega
    have b02 := b1.trans b2
    have hn2 := b02 _ _ np2 hp2
    walk_at "rx"
    intro L nL
    have hL : upd H2 L (.lst [V.int m, .int (-1), .bl true, .non, .str (Str.ofString "0"), .bl false]) L = some (.lst ([(Dat.int m, V.int m), (.int (-1), .int (-1)), (.bl true, .bl true), (.non, .non), (.str (Str.ofString "0"), .str (Str.ofString "0")), (.bl false, .bl false)].map (·.2))) := upd_same
    have s1 := same_new nL (o := .lst [V.int m, .int (-1), .bl true, .non, .str (Str.ofString "0"), .bl false])
    have Ld := dn (bfree b02 (let ⟨y, hy⟩ := d2.lst; ⟨_, hy⟩) nL)
    walk_at "rx"
    refine ⟨cl, N + 1, dr, _, rfl, (d2.same s1).le (by omega), by omega, fun j H3 d3 b3 j0 j1 => ?_⟩
    obtain ⟨j, rfl⟩ : ∃ k : Nat, j = k := ⟨j.toNat, by omega⟩
    have jl := j1 (by omega)
    obtain ⟨o, ho, ej⟩ := opt_at (opts := [(Dat.int m, V.int m), (.int (-1), .int (-1)), (.bl true, .bl true), (.non, .non), (.str (Str.ofString "0"), .str (Str.ofString "0")), (.bl false, .bl false)]) (j := j) (by simp; omega)
    have po : Pl o.1 o.2 ∧ isIn o.1 0 (m - 1) = false := by
      simp only [List.mem_cons, List.not_mem_nil, or_false] at ho
      rcases ho with rfl | rfl | rfl | rfl | rfl | rfl
      · exact ⟨pl_int _, by simp [isIn]; omega⟩
      · exact ⟨pl_int _, by simp [isIn]⟩
      · exact ⟨pl_bl _, rfl⟩
      · exact ⟨pl_non, rfl⟩
      · exact ⟨pl_str _, rfl⟩
      · exact ⟨pl_bl _, rfl⟩
    refine r_ixL (b3 _ _ Ld.1 hL) (atI_at ej) ?_
    have b03 := (b02.trans (But.of s1)).trans b3
    have hn3 := b03 _ _ np2 hp2
    walk_at "rx"
    refine r_slL hn3 fun p1 n1 => ?_
    rw [cutV_to]
    have q1 := same_new n1 (o := .lst ((r.n.map V.int).take t))
    walk_at "rx"
    intro p2 n2
    have q2 := same_upd q1 n2 (o := .lst [o.2])
    refine r_cat (keep1 upd_same n2) upd_same (by simp; rw [ok.l]; omega) fun p3 n3 => ?_
    have q3 := same_upd q2 n3 (o := .lst ((r.n.map V.int).take t ++ [o.2]))
    walk_at "rx"
    refine r_slL (q3 _ _ hn3) fun p4 n4 => ?_
    have e4 : cutV (r.n.map V.int) (some ((t : Int) + 1)) none = (r.n.map V.int).drop (t + 1) := cutV_from _ (t + 1)
    rw [e4]
    have q4 := same_upd q3 n4 (o := .lst ((r.n.map V.int).drop (t + 1)))
    refine r_cat (keep1 upd_same n4) upd_same (by simp; rw [ok.l]; omega) fun p5 n5 => ?_
    have q5 := same_upd q4 n5 (o := .lst ((r.n.map V.int).take t ++ [o.2] ++ (r.n.map V.int).drop (t + 1)))
    walk_at "rx"
    intro R nR
    have q6 := same_upd q5 nR (o := .lst [V.int r.s, .int r.b, .ref p5])
    have b06 := b03.trans (But.of q6)
    have fr : ∀ {a : Addr}, H3 a = none → a ≠ dr ∧ a ≠ ea := fun n => dn (bfree b03 (let ⟨y, hy⟩ := d3.lst; ⟨_, hy⟩) n)
    have p5d := fr (q4.free n5)
    have Rd := fr (q5.free nR)
    refine q (.lst [.int r.s, .int r.b, .lst ((r.n.take t).map Dat.int ++ [o.1] ++ (r.n.drop (t + 1)).map Dat.int)]) _ _ _ ((d3.same q6).le (by omega)) b06 (df3 upd_same (pl_int _) (pl_int _) (f := [p5]) ?_) (by simp [Rd.1.symm, Rd.2.symm, p5d.1.symm, p5d.2.symm]) ?_ (dp3 rfl rfl (k := 1) ?_)
    · simp only [DF]
      refine ⟨by simp; rw [ok.l]; omega, p5, _, [], rfl, rfl, keep1 upd_same nR, ?_⟩
      rw [← List.map_take, ← List.map_drop]
      exact DFs.app (DFs.ofInts _) (DFs.app (DFs.one (po.1.df _)) (DFs.ofInts _))
    · rw [tup3 rfl rfl]
      unfold badAt
      rw [notSt (.inr (.inr fun ns e => .inr ?_))]
      · rfl
      · simp only [Dat.tupD] at e
        cases e
        rw [Dat.tupDs_map]
        simp only [List.map_append, List.all_append, List.map_cons, List.all_cons, po.1.tup, po.2, Bool.false_and, Bool.and_false]
    · simp only [Dat.dp]
      have : Dat.dps ((r.n.take t).map Dat.int ++ [o.1] ++ (r.n.drop (t + 1)).map Dat.int) ≤ 0 := dps_le fun d hd => by
        simp only [List.mem_append, List.mem_map, List.mem_singleton] at hd
        rcases hd with (⟨c, _, rfl⟩ | rfl) | ⟨c, _, rfl⟩
        · exact Nat.le_refl _
        · rw [po.1.dp]; exact Nat.le_refl _
        · exact Nat.le_refl _
      omega
  have fr1 : ∀ {a : Addr}, H1 a = none → a ≠ dr ∧ a ≠ ea := fun n => dn (bfree b1 (let ⟨y, hy⟩ := d1.lst; ⟨_, hy⟩) n)
  walk_at "rx"
  refine iteD (fun h3 => ?_) fun h3 => ?_
  · walk_at "rx"
    intro z nz
    have q1 := same_new nz (o := .lst [V.int 0])
    refine r_cat (q1 _ _ hn1) upd_same (by simp; rw [ok.l]; omega) fun c1 n1 => ?_
    have q2 := same_upd q1 n1 (o := .lst (r.n.map V.int ++ [V.int 0]))
    walk_at "rx"
    refine r_slL (q2 _ _ hn1) fun c2 n2 => ?_
    have e4 : cutV (r.n.map V.int) (some 1) none = (r.n.map V.int).drop 1 := cutV_from _ 1
    rw [e4]
    have q3 := same_upd q2 n2 (o := .lst ((r.n.map V.int).drop 1))
    walk_at "rx"
    intro c3 n3
    have q4 := same_upd q3 n3 (o := .lst [])
    walk_at "rx"
    refine r_lenL (q4 _ _ hn1) ?_
    rw [List.length_map]
    refine r_mulS (by show 1 * _ ≤ _; rw [ok.l]; omega) (by rw [ok.l]; omega) ?_
    generalize timesS (Str.ofString "0") ((r.n.length : Nat) : Int) = zs
    walk_at "rx"
    intro L nL
    have q5 := same_upd q4 nL (o := .lst [V.ref c1, .ref c2, .ref c3, .non, .int 0, .str zs])
    have hL : ∀ {G : Hp}, upd G L (.lst [V.ref c1, .ref c2, .ref c3, .non, .int 0, .str zs]) L = some (.lst [V.ref c1, .ref c2, .ref c3, .non, .int 0, .str zs]) := upd_same
    have k1' := keep1 (o := .lst [V.ref c1, .ref c2, .ref c3, .non, .int 0, .str zs]) (keep1 (o := .lst []) (keep1 (o := .lst ((r.n.map V.int).drop 1)) (upd_same (H := upd H1 z (.lst [V.int 0])) (a := c1) (o := .lst (r.n.map V.int ++ [V.int 0]))) n2) n3) nL
    have k2' := keep1 (o := .lst [V.ref c1, .ref c2, .ref c3, .non, .int 0, .str zs]) (keep1 (o := .lst []) (upd_same (H := upd (upd H1 z (.lst [V.int 0])) c1 (.lst (r.n.map V.int ++ [V.int 0]))) (a := c2) (o := .lst ((r.n.map V.int).drop 1))) n3) nL
    have k3' := keep1 (o := .lst [V.ref c1, .ref c2, .ref c3, .non, .int 0, .str zs]) (upd_same (H := upd (upd (upd H1 z (.lst [V.int 0])) c1 (.lst (r.n.map V.int ++ [V.int 0]))) c2 (.lst ((r.n.map V.int).drop 1))) (a := c3) (o := .lst [])) nL
    have Ld := fr1 (q4.free nL)
    have cd1 := fr1 (q1.free n1)
    have cd2 := fr1 (q2.free n2)
    have cd3 := fr1 (q3.free n3)
    walk_at "rx"
    refine ⟨cl, N + 2, dr, _, rfl, (d1.same q5).le (by omega), by omega, fun j H3 d3 b3 j0 j1 => ?_⟩
    have hj := b3 _ _ Ld.1 hL
    have k1'' := b3 _ _ cd1.1 k1'
    have k2'' := b3 _ _ cd2.1 k2'
    have k3'' := b3 _ _ cd3.1 k3'
    have jl := j1 (by omega)
    have b03 := (b1.trans (But.of q5)).trans b3
    have fr3 : ∀ {a : Addr}, H3 a = none → a ≠ dr ∧ a ≠ ea := fun n => dn (bfree b03 (let ⟨y, hy⟩ := d3.lst; ⟨_, hy⟩) n)
    have fin4 : ∀ (c : Dat) (v : V) (f : List Addr), DF H3 c v f → (dr ∉ f ∧ ea ∉ f) → (∀ ns, c.tupD = .tup ns → ns.length ≠ (cp ws).length + 1) → c.dp ≤ 1 → ∀ R, H3 R = none → Q (.ref R) (upd H3 R (.lst [V.int r.s, .int r.b, v])) := fun c v f hc hdf hns hdp R nR => by
      refine q (.lst [.int r.s, .int r.b, c]) _ _ _ ((d3.same (same_new nR)).le (by omega)) (b03.trans (But.of (same_new nR))) (df3 upd_same (pl_int _) (pl_int _) (hc.same (same_new nR))) ?_ ?_ (dp3 rfl rfl hdp)
      · have := fr3 nR; simp only [List.mem_cons, not_or]; exact ⟨⟨this.1.symm, hdf.1⟩, this.2.symm, hdf.2⟩
      · rw [tup3 rfl rfl]
        unfold badAt
        rw [notSt (.inr (.inr fun ns e => .inl (hns ns e)))]
        rfl
    have cases6 : j = 0 ∨ j = 1 ∨ j = 2 ∨ j = 3 ∨ j = 4 ∨ j = 5 := by omega
    rcases cases6 with rfl | rfl | rfl | rfl | rfl | rfl
    · refine r_ixL hj (v := .ref c1) rfl ?_
      walk_at "rx"
      exact fin4 (.lst ((r.n ++ [0]).map Dat.int)) _ [c1] (by simp only [DF]; exact ⟨by simp; rw [ok.l]; omega, c1, _, [], rfl, rfl, k1'', by have := DFs.ofInts (H := H3) (r.n ++ [0]); rw [List.map_append (f := V.int)] at this; exact this⟩) (by simp [cd1.1.symm, cd1.2.symm]) (fun ns e => by simp only [Dat.tupD, tupDs_ints] at e; cases e; rw [List.length_map, List.length_append, ok.l]; simp) (by simp only [Dat.dp, dps_ints]; omega)
    · refine r_ixL hj (v := .ref c2) rfl ?_
      walk_at "rx"
      exact fin4 (.lst ((r.n.drop 1).map Dat.int)) _ [c2] (by simp only [DF]; exact ⟨by simp; rw [ok.l]; omega, c2, _, [], rfl, rfl, k2'', by rw [← List.map_drop]; exact DFs.ofInts _⟩) (by simp [cd2.1.symm, cd2.2.symm]) (fun ns e => by simp only [Dat.tupD, tupDs_ints] at e; cases e; rw [List.length_map, List.length_drop, ok.l]; omega) (by simp only [Dat.dp, dps_ints]; omega)
    · refine r_ixL hj (v := .ref c3) rfl ?_
      walk_at "rx"
      exact fin4 (.lst []) _ [c3] (by simp only [DF]; exact ⟨by simp, c3, [], [], rfl, rfl, k3'', by simp [DFs]⟩) (by simp [cd3.1.symm, cd3.2.symm]) (fun ns e => by simp only [Dat.tupD, Dat.tupDs] at e; cases e; simp) (by simp [Dat.dp, Dat.dps])
    · refine r_ixL hj (v := .non) rfl ?_
      walk_at "rx"
      exact fin4 .non _ [] (by simp [DF]) (by simp) (fun ns e => by cases e) (by simp [Dat.dp])
    · refine r_ixL hj (v := .int 0) rfl ?_
      walk_at "rx"
      exact fin4 (.int 0) _ [] (by simp [DF]) (by simp) (fun ns e => by cases e) (by simp [Dat.dp])
    · refine r_ixL hj (v := .str zs) rfl ?_
      walk_at "rx"
      exact fin4 (.str zs) _ [] (by simp [DF]) (by simp) (fun ns e => by cases e) (by simp [Dat.dp])
  walk_at "rd1"
  walk_at "rd1"
  walk_at "rd1"
  refine r_or2 (c1 := decide (kind = 4)) (c2 := decide ((0 : Int) < (i : Nat))) (fun R' k => ?_) (fun R' k => ?_) ?_
  · walk_at "rx"
    exact k
  · walk_at "rx"
    exact k
  refine iteB (fun h4 => ?_) fun h4 => ?_
  · walk_at "rx"
    intro c1 n1
    have q1 := same_new n1 (o := .lst [V.int r.s, .int r.b])
    walk_at "rx"
    intro c2 n2
    have q2 := same_upd q1 n2 (o := .lst [V.int r.s, .int r.b, .ref p.2, .int 0])
    walk_at "rx"
    intro c3 n3
    have q3 := same_upd q2 n3 (o := .lst [])
    walk_at "rx"
    intro L nL
    have q5 := same_upd q3 nL (o := .lst [V.ref c1, .ref c2, .ref c3, .non, .int 7, .str (Str.ofString "abc")])
    have hL : ∀ {G : Hp}, upd G L (.lst [V.ref c1, .ref c2, .ref c3, .non, .int 7, .str (Str.ofString "abc")]) L = some (.lst [V.ref c1, .ref c2, .ref c3, .non, .int 7, .str (Str.ofString "abc")]) := upd_same
    have k1' := keep1 (o := .lst [V.ref c1, .ref c2, .ref c3, .non, .int 7, .str (Str.ofString "abc")]) (keep1 (o := .lst []) (keep1 (o := .lst [V.int r.s, .int r.b, .ref p.2, .int 0]) (upd_same (H := H1) (a := c1) (o := .lst [V.int r.s, .int r.b])) n2) n3) nL
    have k2' := keep1 (o := .lst [V.ref c1, .ref c2, .ref c3, .non, .int 7, .str (Str.ofString "abc")]) (keep1 (o := .lst []) (upd_same (H := upd H1 c1 (.lst [V.int r.s, .int r.b])) (a := c2) (o := .lst [V.int r.s, .int r.b, .ref p.2, .int 0])) n3) nL
    have k3' := keep1 (o := .lst [V.ref c1, .ref c2, .ref c3, .non, .int 7, .str (Str.ofString "abc")]) (upd_same (H := upd (upd H1 c1 (.lst [V.int r.s, .int r.b])) c2 (.lst [V.int r.s, .int r.b, .ref p.2, .int 0])) (a := c3) (o := .lst [])) nL
    have Ld := fr1 (q3.free nL)
    have cd1 := fr1 n1
    have cd2 := fr1 (q1.free n2)
    have cd3 := fr1 (q2.free n3)
    walk_at "rx"
    refine ⟨cl, N + 2, dr, _, rfl, (d1.same q5).le (by omega), by omega, fun j H3 d3 b3 j0 j1 => ?_⟩
    have hj := b3 _ _ Ld.1 hL
    have k1'' := b3 _ _ cd1.1 k1'
    have k2'' := b3 _ _ cd2.1 k2'
    have k3'' := b3 _ _ cd3.1 k3'
    have jl := j1 (by omega)
    have b03 := (b1.trans (But.of q5)).trans b3
    have hn3 := b03 _ _ np2 hp2
    have fin5 : ∀ (d : Dat) (v : V) (f : List Addr), DF H3 d v f → (dr ∉ f ∧ ea ∉ f) → isSt (cp ws).length m d.tupD = false → d.dp ≤ 2 → Q v H3 := fun d v f hd hf hst hdp => by
      refine q d v f _ (d3.le (by omega)) b03 hd hf ?_ hdp
      unfold badAt
      rw [hst]; rfl
    have cases6 : j = 0 ∨ j = 1 ∨ j = 2 ∨ j = 3 ∨ j = 4 ∨ j = 5 := by omega
    rcases cases6 with rfl | rfl | rfl | rfl | rfl | rfl
    · refine r_ixL hj (v := .ref c1) rfl ?_
      exact fin5 (.lst [.int r.s, .int r.b]) _ [c1] (by simp only [DF, DFs]; exact ⟨by simp, c1, _, [], rfl, rfl, k1'', _, _, [], [], rfl, rfl, ⟨rfl, rfl⟩, _, _, [], [], rfl, rfl, ⟨rfl, rfl⟩, rfl, rfl⟩) (by simp [cd1.1.symm, cd1.2.symm]) rfl (by simp [Dat.dp, Dat.dps])
    · refine r_ixL hj (v := .ref c2) rfl ?_
      exact fin5 (.lst [.int r.s, .int r.b, .lst (r.n.map Dat.int), .int 0]) _ [c2, p.2] (by
        simp only [DF, DFs]
        exact ⟨by simp, c2, _, [p.2], rfl, rfl, k2'', _, _, [], [p.2], rfl, rfl, ⟨rfl, rfl⟩, _, _, [], [p.2], rfl, rfl, ⟨rfl, rfl⟩, _, _, [p.2], [], rfl, rfl, ⟨by rw [List.length_map, ok.l]; omega, p.2, _, [], rfl, rfl, hn3, DFs.ofInts _⟩, _, _, [], [], rfl, rfl, ⟨rfl, rfl⟩, rfl, rfl⟩) (by simp [cd2.1.symm, cd2.2.symm, np2.symm, npe.symm]) rfl (by simp [Dat.dp, Dat.dps, dps_ints])
    · refine r_ixL hj (v := .ref c3) rfl ?_
      exact fin5 (.lst []) _ [c3] (by simp only [DF]; exact ⟨by simp, c3, [], [], rfl, rfl, k3'', by simp [DFs]⟩) (by simp [cd3.1.symm, cd3.2.symm]) rfl (by simp [Dat.dp, Dat.dps])
    · refine r_ixL hj (v := .non) rfl ?_
      exact fin5 .non _ [] (by simp [DF]) (by simp) rfl (by simp [Dat.dp])
    · refine r_ixL hj (v := .int 7) rfl ?_
      exact fin5 (.int 7) _ [] (by simp [DF]) (by simp) rfl (by simp [Dat.dp])
    · refine r_ixL hj (v := .str (Str.ofString "abc")) rfl ?_
      exact fin5 (.str (Str.ofString "abc")) _ [] (by simp [DF]) (by simp) rfl (by simp [Dat.dp])
  have hi0 : i = 0 := by
    simp only [Bool.or_eq_false_iff, decide_eq_false_iff_not] at h4
    omega
  subst hi0
  obtain ⟨c0, cs, hcs⟩ : ∃ c cs, r.n = c :: cs := by
    cases e : r.n with
    | nil => have := ok.l; rw [e] at this; simp at this
    | cons c cs => exact ⟨c, cs, rfl⟩
  have zbad : ∀ d, zeroSt d = false → badAt (cp ws).length m 0 d = true := fun d h => by unfold badAt; rw [h]; simp
  -- the two ends
  have last : ∀ (H2 : Hp), Dr cl (N + 1) H2 dr → But dr H H2 → tRet (tLst (tCons (tOp (rIxL K) (tLst (tCons (tC (.int 1)) (tCons (tUn (rU fun i => .int (-i)) (tC (.int 1))) (tCons (tC (.int 3)) (tCons (tUn (rU fun i => .int (-i)) (tC (.int 3))) tNil))))) (tCl sp_pick E (tCons (tVar 0) (tCons (tC (.int 4)) tNil)))) (tCons (tVar 6) (tCons (tVar 7) tNil))))
      { nx := fun x H' => Q .non H', rt := Q } ((((((L2.start N_l_bad_standing [V.ref dr, V.str ws, V.int m, V.ref p.1, V.int (0 : Nat)]).set 5 (some (V.int r.s))).set 6 (some (V.int r.b))).set 7 (some (V.ref p.2))).set 8 (some (V.int kind)))) H2 := by
    intro H2 d2 b2
    walk_at "rx"
    intro L nL
    have q1 := same_new nL (o := .lst [V.int 1, .int (-1), .int 3, .int (-3)])
    have Ld := dn (bfree b2 (let ⟨y, hy⟩ := d2.lst; ⟨_, hy⟩) nL)
    have hL : upd H2 L (.lst [V.int 1, .int (-1), .int 3, .int (-3)]) L = some (.lst ([1, -1, 3, -3].map V.int)) := upd_same
    walk_at "rx"
    refine ⟨cl, N, dr, _, rfl, (d2.same q1).le (by omega), by omega, fun j H3 d3 b3 j0 j1 => ?_⟩
    obtain ⟨j, rfl⟩ : ∃ k : Nat, j = k := ⟨j.toNat, by omega⟩
    have jl := j1 (by omega)
    have jl' : j < ([1, -1, 3, -3] : List Int).length := by simp; omega
    have hj := b3 _ _ Ld.1 hL
    have ne0 : ([1, -1, 3, -3] : List Int)[j] ≠ 0 := by
      have : ∀ x ∈ ([1, -1, 3, -3] : List Int), x ≠ 0 := by decide
      exact this _ (List.getElem_mem jl')
    refine r_ixL hj (v := .int ([1, -1, 3, -3] : List Int)[j]) (atI_at (by rw [List.getElem?_map, List.getElem?_eq_getElem jl']; rfl)) ?_
    generalize ([1, -1, 3, -3] : List Int)[j] = a at *
    walk_at "rx"
    intro R nR
    have b03 := (b2.trans (But.of q1)).trans b3
    refine fin3 (.int a) (.int r.b) _ _ R _ (pl_int _) (pl_int _) (d3.same (same_new nR)) (b03.trans (But.of (same_new nR))) upd_same (dn (bfree b03 (let ⟨y, hy⟩ := d3.lst; ⟨_, hy⟩) nR)) (zbad _ ?_)
    rw [hcs, List.map_cons]
    simp only [zeroSt]
    rw [decide_eq_false ne0]
    rfl
  walk_at "rx"
  refine iteD (fun h5 => ?_) fun h5 => ?_
  · walk_at "rx"
    refine ⟨cl, N + 2, dr, _, rfl, d1.le (by omega), by omega, fun g H2 d2 b2 g0 g1 => ?_⟩
    have b02 := b1.trans b2
    walk_at "rx"
    refine iteD (fun h6 => ?_) fun h6 => ?_
    · walk_at "rx"
      refine ⟨cl, N + 1, dr, _, rfl, d2.le (by omega), by omega, fun k2 H3 d3 b3 k20 k21 => ?_⟩
      have b03 := b02.trans b3
      have hn3 := b03 _ _ np2 hp2
      walk_at "rx"
      intro c1 n1
      have q1 := same_new n1 (o := .lst [V.int (1 + k2)])
      walk_at "rx"
      refine r_slL (q1 _ _ hn3) fun c2 n2 => ?_
      have e4 : cutV (r.n.map V.int) (some 1) none = (r.n.map V.int).drop 1 := cutV_from _ 1
      rw [e4, hcs, List.map_cons, List.drop_succ_cons, List.drop_zero]
      have q2 := same_upd q1 n2 (o := .lst (cs.map V.int))
      have hcl : cs.length = (cp ws).length := by have := ok.l; rw [hcs] at this; simpa using this
      refine r_cat (keep1 upd_same n2) upd_same (by simp; omega) fun c3 n3 => ?_
      have q3 := same_upd q2 n3 (o := .lst ([V.int (1 + k2)] ++ cs.map V.int))
      walk_at "rx"
      intro R nR
      have q4 := same_upd q3 nR (o := .lst [V.int 0, .int r.b, .ref c3])
      have fr3 : ∀ {a : Addr}, H3 a = none → a ≠ dr ∧ a ≠ ea := fun n => dn (bfree b03 (let ⟨y, hy⟩ := d3.lst; ⟨_, hy⟩) n)
      have Rd := fr3 (q3.free nR)
      have cd3 := fr3 (q2.free n3)
      refine q (.lst [.int 0, .int r.b, .lst (((1 + k2) :: cs).map Dat.int)]) _ _ _ ((d3.same q4).le (by omega)) (b03.trans (But.of q4)) (df3 upd_same (pl_int _) (pl_int _) (f := [c3]) ?_) (by simp [Rd.1.symm, Rd.2.symm, cd3.1.symm, cd3.2.symm]) (zbad _ ?_) (dp3 rfl rfl (k := 1) (by simp only [Dat.dp, dps_ints]; omega))
      · simp only [DF]
        refine ⟨by rw [List.length_map, List.length_cons]; omega, c3, _, [], rfl, rfl, keep1 upd_same nR, DFs.ofInts ((1 + k2) :: cs)⟩
      · rw [tup3 rfl rfl]
        simp only [Dat.tupD, tupDs_ints]
        rw [List.map_cons]
        simp only [zeroSt]
        rw [decide_eq_false (show ¬ 1 + k2 = 0 by omega)]
        simp
    · walk_at "rd1"
      exact last H2 (d2.le (by omega)) b02
  · walk_at "rd1"
    exact last H1 (d1.le (by omega)) b1
end
end K
set_option Elab.async false
set_option linter.all false
set_option maxRecDepth 100000
set_option maxHeartbeats 2000000
namespace K
open PySem PySem.Spec PyProof.Rows L2 TH
local macro_rules | `(tactic| walk_at "rd1") => `(tactic| with_reducible (first
  | refine r_seq ?_ | refine r_if ?_ | refine r_ret ?_ | refine r_next ?_ | refine r_asg ?_ | refine r_drop ?_ | refine r_gname ?_ | refine r_retN ?_
  | refine r_var rfl ?_ | refine r_c ?_ | refine r_op ?_ | refine r_un ?_ | refine r_test ?_ | refine r_tB ?_ | refine r_bl ?_ | refine r_and ?_ | refine r_or ?_ | refine r_not ?_
  | refine r_andV ?_ | refine r_orV ?_ | refine r_notV ?_ | refine r_bb ?_ | refine r_ifE ?_ | refine r_gsub ?_ | refine r_nil ?_ | refine r_cons ?_ | refine r_cb ?_ | refine r_cl ?_ | refine r_clS ?_
  | refine r_part ?_ | refine r_nopart ?_ | refine r_int ?_ | refine r_sl ?_ | refine r_chain ?_ | refine r_I0 ?_ | refine r_U ?_ | refine r_eqI ?_ | refine r_neI ?_ | refine r_eqS ?_ | refine r_eqB ?_ | refine r_neB ?_ | refine r_int1 ?_ | refine r_abs1 ?_
  | refine iteT ?_ | refine iteF ?_ | refine r_isF rfl ?_ | refine r_isD (by assumption) (by decide) ?_ | refine r_brk ?_ | refine r_ct ?_ | refine r_ltS ?_ | refine r_leS ?_ | refine r_aug rfl ?_ | refine r_lc ?_ | refine r_meth ?_ | refine r_callO ?_ | refine r_make ?_ | refine r_methT ?_ | refine r_callT ?_ | refine r_ixT' ?_ | refine r_mkS ?_ | refine r_pr ?_ | refine r_sfld ?_ | refine r_fld ?_ | refine r_dnew ?_ | refine r_dput ?_ | refine r_dget ?_ | refine r_bm ?_ | refine r_rs ?_ | refine r_notInS ?_ | refine r_inS ?_ | refine r_isN ?_ | refine r_notN ?_ | refine r_for ?_ | refine r_rg1 ?_ | refine r_m1 ?_ | refine r_m0 ?_ | refine r_isS ?_ | refine r_rg2 ?_ | refine r_ipI ?_))
local macro_rules | `(tactic| walk_at "rd") => `(tactic| repeat (first | walk_at "rd1" | ((with_reducible apply r_var); (focus exact rfl)) | (with_reducible refine r_tup ?_) | (with_reducible refine r_lst ?_) | ((with_reducible refine r_ln ?_ ?_); focus (simp; done)) | ((with_reducible refine iteT' ?_ ?_); focus (simp [isB, Dat.ty, tyN]; done)) | ((with_reducible refine iteF' ?_ ?_); focus (simp [isB, Dat.ty, tyN]; done))))
local macro_rules | `(tactic| walk_at "hf") => `(tactic| first
  | assumption
  | exact upd_same
  | (refine keep1 ?_ (by assumption); walk_at "hf")
  | (refine keep2 (by assumption) ?_; walk_at "hf")
  | (refine (show Same _ _ by assumption) _ _ ?_; walk_at "hf")
  | (refine (show But _ _ _ by assumption) _ _ (by assumption) ?_; walk_at "hf"))
local macro_rules | `(tactic| walk_at "rx") => `(tactic| repeat (first | walk_at "rd1" | ((with_reducible apply r_ixL); (focus assumption); (focus exact rfl)) | ((with_reducible apply r_ixT); (focus assumption); (focus exact rfl)) | ((with_reducible apply r_lenL); (focus assumption)) | ((with_reducible apply r_lenT); (focus assumption)) | ((with_reducible apply r_var); (focus exact rfl)) | (with_reducible refine r_tup ?_) | (with_reducible refine r_lst ?_) | ((with_reducible refine r_ln ?_ ?_); focus (simp; done)) | ((with_reducible refine iteT' ?_ ?_); focus (simp [isB, Dat.ty, tyN]; done)) | ((with_reducible refine iteF' ?_ ?_); focus (simp [isB, Dat.ty, tyN]; done))))
local macro_rules | `(tactic| walk_at "rz") => `(tactic| repeat ((fail_if_success (with_reducible show tFor _ _ _ _ _ _)); (first | walk_at "rd1" | ((with_reducible apply r_ixL); (focus assumption); (focus exact rfl)) | ((with_reducible apply r_ixT); (focus assumption); (focus exact rfl)) | ((with_reducible apply r_lenL); (focus assumption)) | ((with_reducible apply r_lenT); (focus assumption)) | ((with_reducible apply r_var); (focus exact rfl)) | (with_reducible refine r_tup ?_) | (with_reducible refine r_lst ?_) | ((with_reducible refine r_ln ?_ ?_); focus (simp; done)) | ((with_reducible refine iteT' ?_ ?_); focus (simp [isB, Dat.ty, tyN]; done)) | ((with_reducible refine iteF' ?_ ?_); focus (simp [isB, Dat.ty, tyN]; done)))))
/-- data that keeps off two addresses -/
def Off (H : Hp) (dr e : Addr) (q : Dat × V) : Prop := ∃ f, DF H q.1 q.2 f ∧ dr ∉ f ∧ e ∉ f
theorem dfs_off {H : Hp} {dr e : Addr} : ∀ {l : List (Dat × V)}, (∀ q ∈ l, Off H dr e q) → ∃ fp, DFs H (l.map (·.1)) (l.map (·.2)) fp ∧ dr ∉ fp ∧ e ∉ fp
  | [], _ => ⟨[], by simp [DFs], by simp, by simp⟩
  | q :: l, h => by
    obtain ⟨f, h1, h2, h3⟩ := h q List.mem_cons_self
    obtain ⟨g, h4, h5, h6⟩ := dfs_off (l := l) fun q m => h q (List.mem_cons_of_mem _ m)
    refine ⟨f ++ g, ?_, by simp [h2, h5], by simp [h3, h6]⟩
    simp only [List.map_cons, DFs]
    exact ⟨_, _, f, g, rfl, rfl, h1, h4⟩
theorem off_of {H : Hp} {dr e : Addr} : ∀ {ds : List Dat} {xs : List V} {fp : List Addr}, DFs H ds xs fp → dr ∉ fp → e ∉ fp → ∃ l : List (Dat × V), ds = l.map (·.1) ∧ xs = l.map (·.2) ∧ ∀ q ∈ l, Off H dr e q
  | [], xs, fp, h, _, _ => by simp only [DFs] at h; exact ⟨[], rfl, h.1, fun q m => by cases m⟩
  | d :: ds, xs, fp, h, h1, h2 => by
    simp only [DFs] at h
    obtain ⟨x, ys, f, g, rfl, rfl, k1, k2⟩ := h
    rw [List.mem_append, not_or] at h1 h2
    obtain ⟨l, rfl, rfl, hl⟩ := off_of k2 h1.2 h2.2
    exact ⟨(d, x) :: l, rfl, rfl, fun q m => by
      rcases List.mem_cons.mp m with e | e
      · rw [e]; exact ⟨f, k1, h1.1, h2.1⟩
      · exact hl q e⟩
theorem Off.same {H H' : Hp} {dr e : Addr} {q : Dat × V} (h : Off H dr e q) (s : Same H H') : Off H' dr e q := by
  obtain ⟨f, h1, h2⟩ := h
  exact ⟨f, h1.same s, h2⟩
theorem Off.but {H H' : Hp} {dr e : Addr} {q : Dat × V} {ys : List V} (h : Off H dr e q) (s : But dr H H') (hd : H dr = some (.lst ys)) : Off H' dr e q := by
  obtain ⟨f, h1, h2, h3⟩ := h
  exact ⟨f, h1.but s hd h2, h2, h3⟩
theorem Off.upd {H : Hp} {dr e : Addr} {q : Dat × V} {ys : List V} {o : HO} (h : Off H dr e q) (hd : H e = some (.lst ys)) : Off (L2.upd H e o) dr e q := by
  obtain ⟨f, h1, h2, h3⟩ := h
  exact ⟨f, h1.updD hd h3, h2, h3⟩
theorem badSt_long {n : Nat} {l : List Dat} (h : l.length = 0 ∨ 6 < l.length) : badSt n (.tup l) = some (-1) := by
  simp only [badSt]
  rw [if_neg (by omega)]
/-- the first bad one -/
theorem badSt_first {n : Nat} {l : List Dat} (hl : 1 ≤ l.length ∧ l.length ≤ 6) {i : Nat} (hi : i < l.length) (hb : badAt n l.length i (l.getD i .non) = true) (hn : ∀ j < i, badAt n l.length j (l.getD j .non) = false) : badSt n (.tup l) = some (i : Int) := by
  simp only [badSt]
  rw [if_pos hl, List.find?_range_eq_some.mpr ⟨hb, by simpa using hi, fun j hj => by simpa using hn j hj⟩]
  rfl
theorem good_row {n m : Nat} {rows : List Row} (h : RowsOk rows n m) {j : Nat} (hj : j < m) : badAt n m j (rows.getD j r0).tD = false := by
  have hj' : j < rows.length := by rw [h.l]; exact hj
  unfold badAt
  rw [isSt_of (h.r _ (getD_mem hj'))]
  cases j with
  | succ j => rfl
  | zero =>
    have z := h.z
    have ok := h.r _ (getD_mem hj')
    cases e : (rows.getD 0 r0).n with
    | nil => have := ok.l; rw [e] at this; simp at this
    | cons c cs =>
      have hc : c = 0 := by have := z.2; rw [e] at this; exact this
      simp only [Row.tD, e, List.map_cons, zeroSt, z.1, hc]
      rfl
mutual
theorem tupD_idem : ∀ d : Dat, d.tupD.tupD = d.tupD
  | .non => rfl
  | .bl _ => rfl
  | .int _ => rfl
  | .str _ => rfl
  | .lst l => by simp only [Dat.tupD, tupDs_idem l]
  | .tup l => by simp only [Dat.tupD, tupDs_idem l]
theorem tupDs_idem : ∀ l : List Dat, Dat.tupDs (Dat.tupDs l) = Dat.tupDs l
  | [] => rfl
  | d :: l => by simp only [Dat.tupDs, tupD_idem d, tupDs_idem l]
end
mutual
theorem tupD_dp : ∀ d : Dat, d.tupD.dp = d.dp
  | .non => rfl
  | .bl _ => rfl
  | .int _ => rfl
  | .str _ => rfl
  | .lst l => by simp only [Dat.tupD, Dat.dp, tupDs_dps l]
  | .tup l => by simp only [Dat.tupD, Dat.dp, tupDs_dps l]
theorem tupDs_dps : ∀ l : List Dat, Dat.dps (Dat.tupDs l) = Dat.dps l
  | [] => rfl
  | d :: l => by simp only [Dat.tupDs, Dat.dps, tupD_dp d, tupDs_dps l]
end
section
variable {P : Program} {w : World} {K : PySem.W.Frag} {mg : Str → Option Value} {base : Heap} (T : Txt K mg)
include T
def sp_badss : Sp := fun vs H Q _ => ∃ cl N dr ws R rows as, ∃ m : Nat, vs = [.ref dr, .str ws, .ref R] ∧ 1 ≤ m ∧ m ≤ 6 ∧ (cp ws).length ≤ 4 ∧ RowsA H R rows as ∧ dr ∉ R :: adr as ∧ RowsOk rows (cp ws).length m ∧ Dr cl (N + 20) H dr ∧
  ∀ t d v fp H', ∀ k : Int, Dr cl N H' dr → But dr H H' → H' t = some (.tup [v, .int k]) → DF H' d v fp → dr ∉ fp → badSt (cp ws).length d.tupD = some k → d.dp ≤ 3 → Q (.ref t) H'
theorem ok_bad_standings (C1 : Cal P w K mg base 2 "_law_pick" sp_pick) (C2 : Cal P w K mg base 4 "_law_tupled" (sp_tupled 4)) (C3 : Cal P w K mg base 4 "_law_listed" (sp_listed 4)) (C4 : Cal P w K mg base 3 "_law_bad_standing" sp_bads) (F : FD K "_law_bad_standings" "_law_bad_standings" s_l_bad_standings [] (He.ga K "_law_bad_standings")) : FnT P w K mg base 5 (He.ga K "_law_bad_standings") sp_badss := by
  refine fnT_of (k := 4) F sc_l_bad_standings (fun _ _ _ _ _ _ us hl => match us, hl with | [_, _, _], _ => rfl) (fun vs H Q E h => by obtain ⟨cl, N, dr, ws, R, rows, as, m, rfl, _⟩ := h; rfl) fun cdv A outer s H vs Q E hr h => ⟨_, (tm_l_bad_standings T (C_l_pick := C1) (h_l_pick := by decide) (C_l_tupled := C2) (h_l_tupled := by decide) (C_l_listed := C3) (h_l_listed := by decide) (C_l_bad_standing := C4) (h_l_bad_standing := by decide) (hr := hr)).2, ?_⟩
  obtain ⟨cl, N, dr, ws, R, rows, as, m, rfl, hm1, hm6, hws, hA, ndr, hok, hdr, q⟩ := h
  obtain ⟨yd, hyd⟩ := hdr.lst
  obtain ⟨yc, hyc⟩ := hdr.cls
  have hR := hA.r
  have hml : rows.length = m := hok.l
  have h1000 : ∀ r ∈ rows, r.n.length ≤ 1000 := fun r hr => by have := (hok.r r hr).l; omega
  have keepA : ∀ {G : Hp}, But dr H G → RowsA G R rows as := fun b => hA.keep fun a m o e => b _ _ (fun q => ndr (q ▸ m)) e
  have notR : R ≠ dr := fun e => ndr (e ▸ List.mem_cons_self)
  unfold tm_l_bad_standings
  walk_at "rx"
  simp only [List.length_map, hA.l, hml]
  refine ⟨cl, N + 19, dr, _, rfl, hdr.le (by omega), by omega, fun kd H1 d1 b1 k0 k1 => ?_⟩
  have hA1 := keepA b1
  have hR1 := hA1.r
  walk_at "rx"
  refine iteD (fun h0 => ?_) fun h0 => ?_
  · walk_at "rx"
    refine ⟨cl, N + 18, dr, _, rfl, d1.le (by omega), by omega, fun g H2 d2 b2 g0 g1 => ?_⟩
    obtain ⟨g, rfl⟩ : ∃ k : Nat, g = k := ⟨g.toNat, by omega⟩
    have gl := g1 (by omega)
    have b02 := b1.trans b2
    have hA2 := keepA b02
    have hR2 := hA2.r
    obtain ⟨p, hp, hp0, hp1, hp2⟩ := hA2.at (i := g) (by omega)
    walk_at "rd"
    refine r_ixL hR2 (atI_at hp0) ?_
    walk_at "rx"
    have nd2 : dr ∉ adr as := fun m => ndr (List.mem_cons_of_mem _ m)
    obtain ⟨l, el1, el2, hl⟩ := off_of (e := dr) (rowsA_dfs hA2.l h1000 hA2.a) nd2 nd2
    have ll : l.length = m := by have := congrArg List.length el1; rw [List.length_map, List.length_map] at this; omega
    have hgl : g < l.length := by omega
    have eg : l[g].2 = .ref p.1 := by
      rw [el2, List.getElem?_map, List.getElem?_eq_getElem hgl] at hp0
      exact Option.some.inj hp0
    have fr2 : ∀ {a : Addr}, H2 a = none → a ≠ dr := fun n => ne_of_none' hyd (bfree b02 (let ⟨y, hy⟩ := d2.lst; ⟨_, hy⟩) n)
    rw [el2] at hR2
    intro c1 n1
    have q1 := same_new n1 (o := .lst [])
    walk_at "rx"
    intro c2 n2
    have q2 := same_upd q1 n2 (o := .tup [])
    walk_at "rx"
    refine ⟨R, 7, _, rfl, rfl, q2 _ _ hR2, by omega, by omega, by rw [List.length_map]; have := sizeLine_eq; show _ * 7 ≤ _; omega, fun r7 n3 => ?_⟩
    have q3 := same_upd q2 n3 (o := .lst (List.replicate (Int.toNat 7) (l.map (·.2))).flatten)
    walk_at "rx"
    refine r_slL upd_same fun c3 n4 => ?_
    have e7 : cutV (List.replicate (Int.toNat 7) (l.map (·.2))).flatten none (some 7) = ((List.replicate 7 l).flatten.take 7).map (·.2) := by
      rw [show (some (7 : Int)) = some ((7 : Nat) : Int) from rfl, cutV_to, List.map_take, List.map_flatten, List.map_replicate]
      rfl
    rw [e7]
    have q4 := same_upd q3 n4 (o := .lst (((List.replicate 7 l).flatten.take 7).map (·.2)))
    walk_at "rx"
    refine r_tupL (q4 _ _ hR2) fun t1 n5 => ?_
    have q5 := same_upd q4 n5 (o := .tup (l.map (·.2)))
    walk_at "rx"
    intro t2 n6
    have q6 := same_upd q5 n6 (o := .tup [V.ref p.1])
    walk_at "rx"
    refine ⟨t2, 6, _, rfl, rfl, .inl (.inl upd_same), by simp, by omega, by omega, by simp, fun t3 n7 => ?_⟩
    have q7 := same_upd q6 n7 (o := .tup (List.replicate (Int.toNat 6) [V.ref p.1]).flatten)
    have n57 : _ := keep1 (o := .tup (List.replicate (Int.toNat 6) [V.ref p.1]).flatten) (keep1 (o := .tup [V.ref p.1]) (upd_same (H := upd (upd (upd (upd H2 c1 (.lst [])) c2 (.tup [])) r7 (.lst (List.replicate (Int.toNat 7) (l.map (·.2))).flatten)) c3 (.lst (((List.replicate 7 l).flatten.take 7).map (·.2)))) (a := t1) (o := .tup (l.map (·.2)))) n6) n7
    refine ⟨t1, t3, _, _, rfl, rfl, .inl (.inl n57), .inl (.inl upd_same), by rw [List.length_map]; have := sizeLine_eq; show _ + 6 ≤ _; omega, fun e => ?_, fun _ e => ?_, fun _ _ t4 n8 => ?_⟩
    · have := congrArg List.length e; rw [List.length_map, ll] at this; simp at this; omega
    · cases e
    have q8 := same_upd q7 n8 (o := .tup (l.map (·.2) ++ (List.replicate (Int.toNat 6) [V.ref p.1]).flatten))
    walk_at "rx"
    intro L nL
    have q9 := same_upd q8 nL (o := .lst [V.ref c1, .ref c2, .ref c3, .non, .int 5, .str (Str.ofString "ab"), .bl true, .ref t4])
    obtain ⟨HL, eHL⟩ : ∃ G, G = upd (upd (upd (upd (upd (upd (upd (upd (upd H2 c1 (.lst [])) c2 (.tup [])) r7 (.lst (List.replicate (Int.toNat 7) (l.map (·.2))).flatten)) c3 (.lst (((List.replicate 7 l).flatten.take 7).map (·.2)))) t1 (.tup (l.map (·.2)))) t2 (.tup [V.ref p.1])) t3 (.tup (List.replicate (Int.toNat 6) [V.ref p.1]).flatten)) t4 (.tup (l.map (·.2) ++ (List.replicate (Int.toNat 6) [V.ref p.1]).flatten))) L (.lst [V.ref c1, .ref c2, .ref c3, .non, .int 5, .str (Str.ofString "ab"), .bl true, .ref t4]) := ⟨_, rfl⟩
    have hL : HL L = some (.lst [V.ref c1, .ref c2, .ref c3, .non, .int 5, .str (Str.ofString "ab"), .bl true, .ref t4]) := by rw [eHL]; exact upd_same
    have h4 : HL t4 = some (.tup (l.map (·.2) ++ (List.replicate (Int.toNat 6) [V.ref p.1]).flatten)) := by rw [eHL]; exact keep1 upd_same nL
    have h3 : HL c3 = some (.lst (((List.replicate 7 l).flatten.take 7).map (·.2))) := by rw [eHL]; exact keep1 (keep1 (keep1 (keep1 (keep1 upd_same n5) n6) n7) n8) nL
    have h2 : HL c2 = some (.tup []) := by rw [eHL]; exact keep1 (keep1 (keep1 (keep1 (keep1 (keep1 (keep1 upd_same n3) n4) n5) n6) n7) n8) nL
    have h1 : HL c1 = some (.lst []) := by rw [eHL]; exact keep1 (keep1 (keep1 (keep1 (keep1 (keep1 (keep1 (keep1 upd_same n2) n3) n4) n5) n6) n7) n8) nL
    rw [← eHL] at q9
    have Ld := fr2 (q8.free nL)
    have c1d := fr2 n1
    have c3d := fr2 (q3.free n4)
    clear n57
    walk_at "rd"
    rw [← eHL]
    refine ⟨cl, N + 17, dr, _, rfl, (d2.same q9).le (by omega), by omega, fun j H3 d3 b3 j0 j1 => ?_⟩
    have jl := j1 (by omega)
    have hj := b3 _ _ Ld hL
    have b03 := (b02.trans (But.of q9)).trans b3
    obtain ⟨y9, hy9⟩ := (d2.same q9).lst
    have hlH3 : ∀ q ∈ l, Off H3 dr dr q := fun q m => ((hl q m).same q9).but b3 hy9
    have dpl : ∀ q ∈ l, q.1.dp ≤ 2 := fun q m => by
      have : q.1 ∈ rows.map Row.lD := by rw [el1]; exact List.mem_map_of_mem m
      obtain ⟨r, _, e⟩ := List.mem_map.mp this
      rw [← e, lD_dp]; omega
    have fin6 : ∀ (d : Dat) (v : V) (f : List Addr), DF H3 d v f → dr ∉ f → badSt (cp ws).length d.tupD = some (-1) → d.dp ≤ 3 → ∀ t, H3 t = none → Q (.ref t) (upd H3 t (.tup [v, .int (-1)])) := fun d v f hd hf hb hdp t nt =>
      q t d v f _ (-1) ((d3.same (same_new nt)).le (by omega)) (b03.trans (But.of (same_new nt))) upd_same (hd.same (same_new nt)) hf hb hdp
    have cases8 : j = 0 ∨ j = 1 ∨ j = 2 ∨ j = 3 ∨ j = 4 ∨ j = 5 ∨ j = 6 ∨ j = 7 := by omega
    rcases cases8 with rfl | rfl | rfl | rfl | rfl | rfl | rfl | rfl
    · refine r_ixL hj (v := .ref c1) rfl ?_
      walk_at "rd"
      exact fin6 (.lst []) _ [c1] (by simp only [DF]; exact ⟨by simp, c1, [], [], rfl, rfl, b3 _ _ c1d h1, by simp [DFs]⟩) (by simp [c1d.symm]) rfl (by simp [Dat.dp, Dat.dps])
    · refine r_ixL hj (v := .ref c2) rfl ?_
      walk_at "rd"
      exact fin6 (.tup []) _ [] (by simp only [DF]; exact ⟨by simp, c2, [], rfl, b3 _ _ (fr2 (q1.free n2)) h2, by simp [DFs]⟩) (by simp) rfl (by simp [Dat.dp, Dat.dps])
    · refine r_ixL hj (v := .ref c3) rfl ?_
      walk_at "rd"
      have mem7 : ∀ q ∈ (List.replicate 7 l).flatten.take 7, q ∈ l := fun q hq => by
        obtain ⟨l', h', hq'⟩ := List.mem_flatten.mp (List.mem_of_mem_take hq)
        rw [List.eq_of_mem_replicate h'] at hq'
        exact hq'
      have len7 : ((List.replicate 7 l).flatten.take 7).length = 7 := by
        rw [List.length_take, List.length_flatten, List.map_replicate, List.sum_replicate_nat, ll]; omega
      obtain ⟨f7, k1, k2, _⟩ := dfs_off (l := (List.replicate 7 l).flatten.take 7) (H := H3) (dr := dr) (e := dr) fun q hq => hlH3 q (mem7 q hq)
      refine fin6 (.lst (((List.replicate 7 l).flatten.take 7).map (·.1))) _ (c3 :: f7) (by simp only [DF]; exact ⟨by rw [List.length_map, len7]; omega, c3, _, f7, rfl, rfl, b3 _ _ c3d h3, k1⟩) (by simp [c3d.symm, k2]) ?_ ?_
      · simp only [Dat.tupD]
        exact badSt_long (.inr (by rw [Dat.tupDs_map, List.length_map, List.length_map, len7]; omega))
      · simp only [Dat.dp]
        have := dps_le (n := 2) (l := ((List.replicate 7 l).flatten.take 7).map (·.1)) fun d hd => by
          obtain ⟨q, hq, rfl⟩ := List.mem_map.mp hd
          exact dpl q (mem7 q hq)
        omega
    · refine r_ixL hj (v := .non) rfl ?_
      walk_at "rd"
      exact fin6 .non _ [] (by simp [DF]) (by simp) rfl (by simp [Dat.dp])
    · refine r_ixL hj (v := .int 5) rfl ?_
      walk_at "rd"
      exact fin6 (.int 5) _ [] (by simp [DF]) (by simp) rfl (by simp [Dat.dp])
    · refine r_ixL hj (v := .str (Str.ofString "ab")) rfl ?_
      walk_at "rd"
      exact fin6 (.str (Str.ofString "ab")) _ [] (by simp [DF]) (by simp) rfl (by simp [Dat.dp])
    · refine r_ixL hj (v := .bl true) rfl ?_
      walk_at "rd"
      exact fin6 (.bl true) _ [] (by simp [DF]) (by simp) rfl (by simp [Dat.dp])
    · refine r_ixL hj (v := .ref t4) rfl ?_
      walk_at "rd"
      have mem6 : ∀ q ∈ l ++ List.replicate 6 l[g], q ∈ l := fun q hq => by
        rcases List.mem_append.mp hq with h | h
        · exact h
        · rw [List.eq_of_mem_replicate h]; exact List.getElem_mem _
      have e6 : l.map (·.2) ++ (List.replicate (Int.toNat 6) [V.ref p.1]).flatten = (l ++ List.replicate 6 l[g]).map (·.2) := by
        rw [List.map_append, List.map_replicate, eg]; rfl
      rw [e6] at h4
      obtain ⟨f7, k1, k2, _⟩ := dfs_off (l := l ++ List.replicate 6 l[g]) (H := H3) (dr := dr) (e := dr) fun q hq => hlH3 q (mem6 q hq)
      refine fin6 (.tup ((l ++ List.replicate 6 l[g]).map (·.1))) _ f7 (by simp only [DF]; exact ⟨by rw [List.length_map, List.length_append, List.length_replicate]; omega, t4, _, rfl, b3 _ _ (fr2 (q7.free n8)) h4, k1⟩) k2 ?_ ?_
      · simp only [Dat.tupD]
        exact badSt_long (.inr (by rw [Dat.tupDs_map, List.length_map, List.length_map, List.length_append, List.length_replicate]; omega))
      · simp only [Dat.dp]
        have := dps_le (n := 2) (l := (l ++ List.replicate 6 l[g]).map (·.1)) fun d hd => by
          obtain ⟨q, hq, rfl⟩ := List.mem_map.mp hd
          exact dpl q (mem6 q hq)
        omega
  · walk_at "rx"
    refine ⟨cl, N + 18, dr, _, rfl, d1.le (by omega), by omega, fun at_ H2 d2 b2 a0 a1 => ?_⟩
    obtain ⟨k, rfl⟩ : ∃ k : Nat, at_ = k := ⟨at_.toNat, by omega⟩
    have kl : k < m := by have := a1 (by omega); omega
    have b02 := b1.trans b2
    have hA2 := keepA b02
    have hR2 := hA2.r
    have hxs := rowsA_dfs hA2.l h1000 hA2.a
    walk_at "rx"
    refine r_srcL (fun Q' q => r_var rfl q) hR2 ?_
    intro D nD
    refine lcD (σ' := fun x => [some (.ref dr), some (.str ws), some (.ref R), some (.int m), none, none, some (.int (k : Nat)), none, none, some x]) walk_list hxs (by rw [hxs.len, List.length_map]; omega) nD (fun _ => rfl) (fun _ => rfl) Dat.listD (fun H s => .inl (.inl (s _ _ hR2))) (fun d' x g H3 hm' hdx s Qn kk => ?_) fun H3 ys fr' s3 hD hds hfr hnd => ?_
    · obtain ⟨r, _, rfl⟩ := List.mem_map.mp hm'
      walk_at "rx"
      exact ⟨_, x, g, rfl, hdx, by rw [lD_dp]; omega, kk⟩
    rw [← Dat.listDs_map, lDs_lst] at hds
    have nD0 : H D = none := bfree b02 (let ⟨y, hy⟩ := d2.lst; ⟨_, hy⟩) nD
    have Ddr : D ≠ dr := ne_of_none' hyd nD0
    have Dcl : D ≠ cl := ne_of_none' hyc nD0
    have ndf : dr ∉ fr' := fun mm => by obtain ⟨y, hy⟩ := d2.lst; have := (hfr dr mm).1; rw [hy] at this; cases this
    obtain ⟨l, el1, el2, hl⟩ := off_of (e := D) hds ndf (fun mm => (hfr D mm).2 rfl)
    subst el2
    have ll : l.length = m := by have := congrArg List.length el1; rw [List.length_map, List.length_map] at this; omega
    have d3 := d2.same s3
    have b03 := b02.trans (But.of s3)
    have hA3 := keepA b03
    have hR3 := hA3.r
    obtain ⟨p, hp, hp0, hp1, hp2⟩ := hA3.at (i := k) (by omega)
    have mp := adr_mem hp
    have offA : ∀ a ∈ R :: adr as, a ≠ D := fun a mm e => by obtain ⟨o, ho⟩ := hA.stands a mm; rw [e, nD0] at ho; cases ho
    walk_at "rd"
    refine r_ixL hR3 (atI_at hp0) ?_
    walk_at "rd"
    have okk := hok.r _ (getD_mem' (l := rows) (i := k) (d := r0) (by omega))
    refine ⟨cl, N + 14, dr, ws, D, _, m, p, rows.getD k r0, k, rfl, hm1, hm6, okk, hws, fun e => ndr (e ▸ List.mem_cons_of_mem _ mp.1), fun e => ndr (e ▸ List.mem_cons_of_mem _ mp.2), hD, offA _ (List.mem_cons_of_mem _ mp.2), hp1, hp2, d3.le (by omega), fun d v fp H4 d4 b4 hdf hdn hbad hdp => ?_⟩
    have hD4 := b4 _ _ Ddr hD
    obtain ⟨yd3, hyd3⟩ := d3.lst
    have hl4 : ∀ q ∈ l, Off H4 dr D q := fun q mm => (hl q mm).but b4 hyd3
    have b04 := b03.trans b4
    walk_at "rd"
    refine r_setL hD4 (n := k) (ixN_at (by rw [List.length_map]; omega)) ?_
    have eset : (l.map (·.2)).set k v = (l.set k (d, v)).map (·.2) := by rw [List.map_set]
    rw [eset]
    have dml : ∀ j < m, (l.getD j (.non, .non)).1 = (rows.getD j r0).lD := fun j hj => by
      have h1 : (rows.map Row.lD)[j]? = (l.map (·.1))[j]? := by rw [el1]
      rw [List.getElem?_map, List.getElem?_map, List.getElem?_eq_getElem (show j < rows.length by omega), List.getElem?_eq_getElem (show j < l.length by omega)] at h1
      rw [TH.getD_at (show j < l.length by omega), TH.getD_at (show j < rows.length by omega)]
      exact (Option.some.inj h1).symm
    refine sfH fun H5 b5 (h5 : H5 D = some (.lst ((l.set k (d, v)).map (·.2)))) => ?_
    have d5 : Dr cl (N + 14) H5 dr := d4.at (fun o e => b5 _ _ Ddr.symm e) (fun o e => b5 _ _ Dcl.symm e)
    have off5 : ∀ q : Dat × V, Off H4 dr D q → Off H5 dr D q := fun q ⟨f, k1, k2, k3⟩ => ⟨f, k1.but b5 hD4 k3, k2, k3⟩
    have b05 : But dr H H5 := fun b o nb e => b5 _ _ (fun z => by subst z; rw [nD0] at e; cases e) (b04 _ _ nb e)
    -- what is kept of found
    have inv5 : (∀ q ∈ l.set k (d, v), Off H5 dr D q) ∧ (l.set k (d, v)).length = m ∧ (∀ j < k, ((l.set k (d, v)).getD j (.non, .non)).1 = (rows.getD j r0).lD) ∧ badAt (cp ws).length m k ((l.set k (d, v)).getD k (.non, .non)).1.tupD = true ∧ ∀ q ∈ l.set k (d, v), q.1.dp ≤ 2 := by
      refine ⟨fun q hq => ?_, by rw [List.length_set]; exact ll, fun j hj => ?_, ?_, fun q hq => ?_⟩
      · rcases List.mem_or_eq_of_mem_set hq with e | e
        · exact off5 q (hl4 q e)
        · rw [e]; exact off5 _ ⟨fp, hdf, hdn⟩
      · rw [getD_set (by omega), if_neg (by omega)]; exact dml j (by omega)
      · rw [getD_set (by omega), if_pos rfl]; exact hbad
      · rcases List.mem_or_eq_of_mem_set hq with e | e
        · have : q.1 ∈ rows.map Row.lD := by rw [el1]; exact List.mem_map_of_mem e
          obtain ⟨r, _, er⟩ := List.mem_map.mp this
          rw [← er, lD_dp]; omega
        · rw [e]; exact hdp
    generalize l.set k (d, v) = l5 at h5 inv5
    obtain ⟨i1, i2, i3, i4, i5⟩ := inv5
    walk_at "rx"
    refine ⟨cl, N + 13, dr, _, rfl, d5.le (by omega), by omega, fun g H6 d6 b6 g0 g1 => ?_⟩
    have gl := g1 (by omega)
    obtain ⟨yd5, hyd5⟩ := d5.lst
    have h6 := b6 _ _ Ddr h5
    have b06 := b05.trans b6
    walk_at "rd1"
    walk_at "rd1"
    walk_at "rd1"
    refine r_cut (fun σ H' => Dr cl (N + 3) H' dr ∧ But dr H H' ∧ (∃ l6 : List (Dat × V), H' D = some (.lst (l6.map (·.2))) ∧ (∀ q ∈ l6, Off H' dr D q) ∧ l6.length = m ∧ (∀ j < k, (l6.getD j (.non, .non)).1 = (rows.getD j r0).lD) ∧ badAt (cp ws).length m k (l6.getD k (.non, .non)).1.tupD = true ∧ ∀ q ∈ l6, q.1.dp ≤ 2) ∧ ∃ x8, σ = [some (.ref dr), some (.str ws), some (.ref R), some (.int m), none, none, some (.int (k : Nat)), some (.ref D), x8, none]) (fun Rk hRk => ?_) fun σ H7 hF => ?_
    · have stay : Rk [some (.ref dr), some (.str ws), some (.ref R), some (.int m), none, none, some (.int (k : Nat)), some (.ref D), some (.int (k + 1 + g)), none] H6 :=
        hRk _ _ ⟨d6.le (by omega), b06, ⟨l5, h6, fun q mm => (i1 q mm).but b6 hyd5, i2, i3, i4, i5⟩, _, rfl⟩
      walk_at "rx"
      refine iteD (fun hs => ?_) fun hs => ?_
      · walk_at "rx"
        refine ⟨cl, N + 12, dr, _, rfl, d6.le (by omega), by omega, fun g2 H7 d7 b7 g20 g21 => ?_⟩
        obtain ⟨yd6, hyd6⟩ := d6.lst
        have h7 := b7 _ _ Ddr h6
        have b07 := b06.trans b7
        walk_at "rx"
        refine iteD (fun hz => ?_) fun hz => ?_
        · walk_at "rx"
          obtain ⟨s2, hs2⟩ : ∃ s2 : Nat, (k : Int) + 1 + g = s2 := ⟨((k : Int) + 1 + g).toNat, by omega⟩
          rw [hs2] at hs ⊢
          have s2l : s2 < m := by omega
          have hA7 := keepA b07
          have hR7 := hA7.r
          obtain ⟨p2, hp', hp0', hp1', hp2'⟩ := hA7.at (i := s2) (by omega)
          have mp' := adr_mem hp'
          refine r_ixL hR7 (atI_at hp0') ?_
          walk_at "rd"
          have ok2 := hok.r _ (getD_mem' (l := rows) (i := s2) (d := r0) (by omega))
          refine ⟨cl, N + 8, dr, ws, D, _, m, p2, rows.getD s2 r0, s2, rfl, hm1, hm6, ok2, hws, fun e => ndr (e ▸ List.mem_cons_of_mem _ mp'.1), fun e => ndr (e ▸ List.mem_cons_of_mem _ mp'.2), h7, offA _ (List.mem_cons_of_mem _ mp'.2), hp1', hp2', d7.le (by omega), fun d2 v2 fp2 H8 d8 b8 hdf2 hdn2 hbad2 hdp2 => ?_⟩
          obtain ⟨yd7, hyd7⟩ := d7.lst
          have h8 := b8 _ _ Ddr h7
          have b08 := b07.trans b8
          walk_at "rd"
          refine r_setL h8 (n := s2) (ixN_at (by rw [List.length_map]; omega)) ?_
          have eset2 : (l5.map (·.2)).set s2 v2 = (l5.set s2 (d2, v2)).map (·.2) := by rw [List.map_set]
          rw [eset2]
          refine sfH fun H9 b9 (h9 : H9 D = some (.lst ((l5.set s2 (d2, v2)).map (·.2)))) => ?_
          have d9 : Dr cl (N + 8) H9 dr := d8.at (fun o e => b9 _ _ Ddr.symm e) (fun o e => b9 _ _ Dcl.symm e)
          have b09 : But dr H H9 := fun b o nb e => b9 _ _ (fun z => by subst z; rw [nD0] at e; cases e) (b08 _ _ nb e)
          have off9 : ∀ q : Dat × V, Off H8 dr D q → Off H9 dr D q := fun q ⟨f, k1, k2, k3⟩ => ⟨f, k1.but b9 h8 k3, k2, k3⟩
          refine hRk _ _ ⟨d9.le (by omega), b09, ⟨l5.set s2 (d2, v2), h9, fun q hq => ?_, by rw [List.length_set]; exact i2, fun j hj => ?_, ?_, fun q hq => ?_⟩, _, rfl⟩
          · rcases List.mem_or_eq_of_mem_set hq with e | e
            · exact off9 q ((((i1 q e).but b6 hyd5).but b7 hyd6).but b8 hyd7)
            · rw [e]; exact off9 _ ⟨fp2, hdf2, hdn2⟩
          · rw [getD_set (by omega), if_neg (by omega)]; exact i3 j hj
          · rw [getD_set (by omega), if_neg (by omega)]; exact i4
          · rcases List.mem_or_eq_of_mem_set hq with e | e
            · exact i5 q e
            · rw [e]; exact hdp2
        · walk_at "rx"
          exact hRk _ _ ⟨d7.le (by omega), b07, ⟨l5, h7, fun q mm => ((i1 q mm).but b6 hyd5).but b7 hyd6, i2, i3, i4, i5⟩, _, rfl⟩
      · walk_at "rx"
        exact stay
    · obtain ⟨d7, b07, ⟨l6, h7, j1, j2, j3, j4, j5⟩, x8, rfl⟩ := hF
      walk_at "rx"
      refine ⟨cl, N, dr, _, rfl, d7.le (by omega), by omega, fun g2 H8 d8 b8 g20 g21 => ?_⟩
      obtain ⟨yd7, hyd7⟩ := d7.lst
      have h8 := b8 _ _ Ddr h7
      have b08 := b07.trans b8
      obtain ⟨f8, k1, k2, k3⟩ := dfs_off (l := l6) (H := H8) (dr := dr) (e := D) fun q mm => (j1 q mm).but b8 hyd7
      have hdf8 : DF H8 (.lst (l6.map (·.1))) (.ref D) (D :: f8) := by
        simp only [DF]
        exact ⟨by rw [List.length_map]; omega, D, _, f8, rfl, rfl, h8, k1⟩
      have hdp8 : (Dat.lst (l6.map (·.1))).dp ≤ 3 := by
        simp only [Dat.dp]
        have := dps_le (n := 2) (l := l6.map (·.1)) fun d hd => by
          obtain ⟨q, hq, rfl⟩ := List.mem_map.mp hd
          exact j5 q hq
        omega
      have gd : ∀ j < m, ((l6.map (·.1)).map Dat.tupD).getD j .non = (l6.getD j (.non, .non)).1.tupD := fun j hj => by
        rw [TH.getD_at (show j < ((l6.map (·.1)).map Dat.tupD).length by rw [List.length_map, List.length_map]; omega), TH.getD_at (show j < l6.length by omega)]
        simp
      have hbs : badSt (cp ws).length (Dat.lst (l6.map (·.1))).tupD = some (k : Int) := by
        simp only [Dat.tupD, Dat.tupDs_map]
        have el : ((l6.map (·.1)).map Dat.tupD).length = m := by rw [List.length_map, List.length_map]; exact j2
        refine badSt_first (by omega) (by omega) ?_ fun j hj => ?_
        · rw [el, gd k (by omega)]; exact j4
        · rw [el, gd j (by omega), j3 j hj, lD_tup]
          exact good_row hok (by omega)
      walk_at "rx"
      refine iteD (fun hz => ?_) fun hz => ?_
      · walk_at "rx"
        refine ⟨_, _, _, rfl, hdf8, by omega, fun v H9 s9 hv => ?_⟩
        walk_at "rx"
        intro t nt
        exact q t _ v [] _ k (d8.same (same_upd s9 nt)) (b08.trans (But.of (same_upd s9 nt))) upd_same (hv.same (same_new nt)) (by simp) (by rw [tupD_idem]; exact hbs) (by rw [tupD_dp]; exact hdp8)
      · walk_at "rx"
        intro t nt
        exact q t _ _ (D :: f8) _ k (d8.same (same_new nt)) (b08.trans (But.of (same_new nt))) upd_same (hdf8.same (same_new nt)) (by simp [k2, Ddr.symm]) hbs hdp8
end
end K
set_option Elab.async false
set_option linter.all false
set_option maxRecDepth 100000
set_option maxHeartbeats 2000000
namespace K
open PySem PySem.Spec PyProof.Rows L2 TH
local macro_rules | `(tactic| walk_at "rd1") => `(tactic| with_reducible (first
  | refine r_seq ?_ | refine r_if ?_ | refine r_ret ?_ | refine r_next ?_ | refine r_asg ?_ | refine r_drop ?_ | refine r_gname ?_ | refine r_retN ?_
  | refine r_var rfl ?_ | refine r_c ?_ | refine r_op ?_ | refine r_un ?_ | refine r_test ?_ | refine r_tB ?_ | refine r_bl ?_ | refine r_and ?_ | refine r_or ?_ | refine r_not ?_
  | refine r_andV ?_ | refine r_orV ?_ | refine r_notV ?_ | refine r_bb ?_ | refine r_ifE ?_ | refine r_gsub ?_ | refine r_nil ?_ | refine r_cons ?_ | refine r_cb ?_ | refine r_cl ?_ | refine r_clS ?_
  | refine r_part ?_ | refine r_nopart ?_ | refine r_int ?_ | refine r_sl ?_ | refine r_chain ?_ | refine r_I0 ?_ | refine r_U ?_ | refine r_eqI ?_ | refine r_neI ?_ | refine r_eqS ?_ | refine r_eqB ?_ | refine r_neB ?_ | refine r_int1 ?_ | refine r_abs1 ?_
  | refine iteT ?_ | refine iteF ?_ | refine r_isF rfl ?_ | refine r_isD (by assumption) (by decide) ?_ | refine r_brk ?_ | refine r_ct ?_ | refine r_ltS ?_ | refine r_leS ?_ | refine r_aug rfl ?_ | refine r_lc ?_ | refine r_meth ?_ | refine r_callO ?_ | refine r_make ?_ | refine r_methT ?_ | refine r_callT ?_ | refine r_ixT' ?_ | refine r_mkS ?_ | refine r_pr ?_ | refine r_sfld ?_ | refine r_fld ?_ | refine r_dnew ?_ | refine r_dput ?_ | refine r_dget ?_ | refine r_bm ?_ | refine r_rs ?_ | refine r_notInS ?_ | refine r_inS ?_ | refine r_isN ?_ | refine r_notN ?_ | refine r_for ?_ | refine r_rg1 ?_ | refine r_m1 ?_ | refine r_m0 ?_ | refine r_isS ?_ | refine r_rg2 ?_ | refine r_ipI ?_))
local macro_rules | `(tactic| walk_at "rd") => `(tactic| repeat (first | walk_at "rd1" | ((with_reducible apply r_var); (focus exact rfl)) | (with_reducible refine r_tup ?_) | (with_reducible refine r_lst ?_) | ((with_reducible refine r_ln ?_ ?_); focus (simp; done)) | ((with_reducible refine iteT' ?_ ?_); focus (simp [isB, Dat.ty, tyN]; done)) | ((with_reducible refine iteF' ?_ ?_); focus (simp [isB, Dat.ty, tyN]; done))))
local macro_rules | `(tactic| walk_at "hf") => `(tactic| first
  | assumption
  | exact upd_same
  | (refine keep1 ?_ (by assumption); walk_at "hf")
  | (refine keep2 (by assumption) ?_; walk_at "hf")
  | (refine (show Same _ _ by assumption) _ _ ?_; walk_at "hf")
  | (refine (show But _ _ _ by assumption) _ _ (by assumption) ?_; walk_at "hf"))
local macro_rules | `(tactic| walk_at "rx") => `(tactic| repeat (first | walk_at "rd1" | ((with_reducible apply r_ixL); (focus assumption); (focus exact rfl)) | ((with_reducible apply r_ixT); (focus assumption); (focus exact rfl)) | ((with_reducible apply r_lenL); (focus assumption)) | ((with_reducible apply r_lenT); (focus assumption)) | ((with_reducible apply r_var); (focus exact rfl)) | (with_reducible refine r_tup ?_) | (with_reducible refine r_lst ?_) | ((with_reducible refine r_ln ?_ ?_); focus (simp; done)) | ((with_reducible refine iteT' ?_ ?_); focus (simp [isB, Dat.ty, tyN]; done)) | ((with_reducible refine iteF' ?_ ?_); focus (simp [isB, Dat.ty, tyN]; done))))
local macro_rules | `(tactic| walk_at "rz") => `(tactic| repeat ((fail_if_success (with_reducible show tFor _ _ _ _ _ _)); (first | walk_at "rd1" | ((with_reducible apply r_ixL); (focus assumption); (focus exact rfl)) | ((with_reducible apply r_ixT); (focus assumption); (focus exact rfl)) | ((with_reducible apply r_lenL); (focus assumption)) | ((with_reducible apply r_lenT); (focus assumption)) | ((with_reducible apply r_var); (focus exact rfl)) | (with_reducible refine r_tup ?_) | (with_reducible refine r_lst ?_) | ((with_reducible refine r_ln ?_ ?_); focus (simp; done)) | ((with_reducible refine iteT' ?_ ?_); focus (simp [isB, Dat.ty, tyN]; done)) | ((with_reducible refine iteF' ?_ ?_); focus (simp [isB, Dat.ty, tyN]; done)))))
theorem badCall_long {sg : List Nat} {z : Str} (h : 400 < (cp z).length) : badCall sg (.str z) = some (-1) := by simp only [badCall]; rw [if_pos h]
theorem badCall_first {sg : List Nat} {z : Str} (hl : (cp z).length ≤ 400) {i : Nat} (hi : i < (cp z).length) (hb : (cp z).getD i 0 ∉ sg) (hn : ∀ j < i, (cp z).getD j 0 ∈ sg) : badCall sg (.str z) = some (i : Int) := by
  simp only [badCall]
  rw [if_neg (by omega), List.find?_range_eq_some.mpr ⟨by simpa using hb, by simpa using hi, fun j hj => by simpa using hn j hj⟩]
  rfl
section
variable {P : Program} {w : World} {K : PySem.W.Frag} {mg : Str → Option Value} {base : Heap} (T : Txt K mg)
include T
def sp_badc : Sp := fun vs H Q _ => ∃ cl N dr ws, vs = [.ref dr, .str ws] ∧ isWords (.str ws) = true ∧ Dr cl (N + 20) H dr ∧
  ∀ t d v fp H', ∀ k : Int, Dr cl N H' dr → But dr H H' → H' t = some (.tup [v, .int k]) → DF H' d v fp → dr ∉ fp → badCall (sgOf ws) d = some k → tl1000 d → Q (.ref t) H'
theorem ok_bad_calling (C : Cal P w K mg base 2 "_law_pick" sp_pick) (F : FD K "_law_bad_calling" "_law_bad_calling" s_l_bad_calling [] (He.ga K "_law_bad_calling")) : FnT P w K mg base 3 (He.ga K "_law_bad_calling") sp_badc := by
  refine fnT_of (k := 2) F sc_l_bad_calling (fun _ _ _ _ _ _ us hl => match us, hl with | [_, _], _ => rfl) (fun vs H Q E h => by obtain ⟨cl, N, dr, ws, rfl, _⟩ := h; rfl) fun cdv A outer s H vs Q E hr h => ⟨_, (tm_l_bad_calling T (C_l_pick := C) (h_l_pick := by decide) (hr := hr)).2, ?_⟩
  obtain ⟨cl, N, dr, ws, rfl, hw, hdr, q⟩ := h
  obtain ⟨w1, w2, w3, w4⟩ := words_inv hw
  obtain ⟨yd, hyd⟩ := hdr.lst
  obtain ⟨yc, hyc⟩ := hdr.cls
  unfold tm_l_bad_calling
  walk_at "rx"
  refine r_addC (by show 1 + _ ≤ _; omega) ?_
  obtain ⟨sg, hsg⟩ : ∃ z : Str, z = Str.ofString "." ++ ws := ⟨_, rfl⟩
  have csg : cp sg = sgOf ws := by rw [hsg]; exact dot_signs ws
  have lsg : (cp sg).length = (cp ws).length + 1 := by rw [csg]; rfl
  rw [← hsg]
  walk_at "rx"
  refine ⟨cl, N + 19, dr, _, rfl, hdr.le (by omega), by omega, fun m H1 d1 b1 m0 m1 => ?_⟩
  obtain ⟨m, rfl⟩ : ∃ k : Nat, m = k := ⟨m.toNat, by omega⟩
  have ml := m1 (by omega)
  walk_at "rx"
  refine ⟨_, rfl, by omega, by omega, ?_⟩
  intro D nD
  have nD0 := bfree b1 (let ⟨y, hy⟩ := d1.lst; ⟨_, hy⟩) nD
  have Ddr : D ≠ dr := ne_of_none' hyd nD0
  have Dcl : D ≠ cl := ne_of_none' hyc nD0
  have em : (1 + (m : Int)).toNat = 1 + m := by omega
  rw [em]
  refine lcG (σ' := fun x => [some (.ref dr), some (.str ws), some (.str sg), none, none, none, none, none, none, some x, none, none]) (walk_rangeS (lo := 0) (n := 1 + m)) (by simp; omega) nD (fun _ => rfl) (fun _ => rfl)
      (fun j acc H' => Dr cl (N + 19 - j) H' dr ∧ But dr H H' ∧ ∃ cs : List Nat, acc = cs.map oneV ∧ cs.length = j ∧ ∀ c ∈ cs, c ∈ cp sg)
      ⟨d1.same (same_new nD), b1.trans (But.of (same_new nD)), [], rfl, rfl, fun c h => (by cases h)⟩ (fun _ _ _ _ => trivial) (fun j x acc H4 hj hx hD hF Qn k => ?_) fun acc H4 hl hD hF => ?_
  · obtain ⟨d4, b4, cs, rfl, hcl, hcs⟩ := hF
    have hj' : j < 1 + m := by simpa using hj
    walk_at "rx"
    refine r_lenS (len1000 (by omega)) ?_
    rw [len_cp]
    walk_at "rx"
    refine ⟨cl, N + 19 - (j + 1), dr, _, rfl, d4.le (by omega), by omega, fun c H5 d5 b5 c0 c1 => ?_⟩
    obtain ⟨c, rfl⟩ : ∃ k : Nat, c = k := ⟨c.toNat, by omega⟩
    have cl1 : c < (cp sg).length := by have := c1 (by omega); omega
    refine r_ixSt (by omega) (List.getElem?_eq_getElem cl1) ?_
    refine k _ H5 (b5 _ _ Ddr hD) ⟨d5.upd Ddr Dcl, but_updD (b4.trans b5) nD0, cs ++ [(cp sg)[c]], by simp, by simp [hcl], fun e he => ?_⟩
    rcases List.mem_append.mp he with e' | e'
    · exact hcs e e'
    · rw [List.mem_singleton.mp e']; exact List.getElem_mem _
  obtain ⟨d4, b4, cs, rfl, hcl, hcs⟩ := hF
  have hcl' : cs.length = 1 + m := by simpa using hcl
  walk_at "rx"
  have hsum : ((cs.map one).map (·.length)).sum + (cs.map one).length * (Str.ofString "").length ≤ 16777216 := by
    rw [List.map_map, show ((fun x : Str => x.length) ∘ one) = fun _ => 1 from rfl, show (Str.ofString "").length = 0 from rfl, List.map_const', List.sum_replicate_nat]
    omega
  refine ⟨Str.ofString "", D, cs.map one, rfl, rfl, .inl (.inl (.inl (by rw [List.map_map]; exact hD))), hsum, ?_⟩
  have cb := cp_join cs
  generalize Txt.join (Str.ofString "") (cs.map one) = txt at *
  have d4' : Dr cl (N + 7) H4 dr := d4.le (by simp; omega)
  have hct : (cp txt).length = 1 + m := by rw [cb]; exact hcl'
  have htx : ∀ c ∈ cp txt, c ∈ sgOf ws := fun c hc => by rw [cb] at hc; rw [← csg]; exact hcs c hc
  walk_at "rx"
  obtain ⟨al, hal⟩ : ∃ z : Str, z = Str.ofString "abcdefghijklmnopqrstuvwxyzABZ ,~0" := ⟨_, rfl⟩
  have cal : cp al = cp (Str.ofString "abcdefghijklmnopqrstuvwxyzABZ ,~0") := by rw [hal]
  have lal : (cp al).length = 33 := by rw [cal]; rfl
  have al32 : (cp al).getD 32 0 = 48 := by rw [cal]; rfl
  have nodot : 46 ∉ cp al := by rw [cal]; decide +kernel
  rw [← hal]
  refine r_srcS (fun Q' q => r_c q) ?_
  intro D2 nD2
  refine lc_it walk_strS (fun i H' => ∃ cs2 : List Nat, H' D2 = some (.lst (cs2.map oneV)) ∧ Same H4 H' ∧ (∀ c ∈ cs2, c ∈ cp al ∧ c ∉ cp ws) ∧ (∀ j < i, (cp al).getD j 0 ∉ cp ws → (cp al).getD j 0 ∈ cs2) ∧ cs2.length ≤ i)
    ⟨[], upd_same, same_new nD2, fun c h => (by cases h), fun j h => absurd h (Nat.not_lt_zero _), Nat.le_refl _⟩ (fun _ _ _ _ => trivial) (fun i x H5 H6 hi hF y => ?_) fun H5 hF => ?_
  · obtain ⟨rfl, ex⟩ := y
    obtain ⟨cs2, k1, k2, k3, k4, k5⟩ := hF
    obtain ⟨rfl, hi'⟩ := signs_at ex
    refine r_gname ⟨rfl, ?_⟩
    walk_at "rx"
    refine iteDn (fun hc => ?_) fun hc => ?_
    · walk_at "rx"
      refine ⟨_, k1, by rw [List.length_map]; have := sizeLine_eq; omega, cs2 ++ [(cp al).getD i 0], by rw [upd_same]; simp, same_updD k2 nD2, fun c m => ?_, fun j hj hn => ?_, by rw [List.length_append]; simp; omega⟩
      · rcases List.mem_append.mp m with e | e
        · exact k3 c e
        · rw [List.mem_singleton.mp e]; exact ⟨getD_mem' hi', hc⟩
      · rcases Nat.lt_succ_iff_lt_or_eq.mp hj with e | e
        · exact List.mem_append_left _ (k4 j e hn)
        · rw [e]; exact List.mem_append_right _ (List.mem_singleton.mpr rfl)
    · refine ⟨cs2, k1, k2, k3, fun j hj hn => ?_, by omega⟩
      rcases Nat.lt_succ_iff_lt_or_eq.mp hj with e | e
      · exact k4 j e hn
      · rw [e] at hn; exact absurd hc hn
  obtain ⟨cs2, k1, k2, k3, k4, k5⟩ := hF
  rw [signs_len, lal] at k4 k5
  have k0 : 48 ∈ cs2 := by
    have := k4 32 (by omega)
    rw [al32] at this
    exact this fun m => by have := small_mem w1 48 m; omega
  have l1 : 1 ≤ cs2.length := List.length_pos_of_mem k0
  have off : ∀ c ∈ cs2, c ∉ sgOf ws := fun c m e => by
    rcases List.mem_cons.mp e with e | e
    · exact nodot (e ▸ (k3 c m).1)
    · exact (k3 c m).2 e
  have D2d : D2 ≠ dr := ne_of_none' hyd (bfree b4 (let ⟨y, hy⟩ := d4.lst; ⟨_, hy⟩) nD2)
  have b5 := b4.trans (But.of k2)
  have d5 := d4'.same k2
  walk_at "rx"
  rw [List.length_map]
  refine ⟨cl, N + 6, dr, _, rfl, d5.le (by omega), by omega, fun u H6 d6 b6 u0 u1 => ?_⟩
  obtain ⟨u, rfl⟩ : ∃ k : Nat, u = k := ⟨u.toNat, by omega⟩
  have ul : u < cs2.length := by have := u1 (by omega); omega
  have hD26 := b6 _ _ D2d k1
  refine r_ixL hD26 (v := oneV cs2[u]) (atI_at (by rw [List.getElem?_map, List.getElem?_eq_getElem ul]; rfl)) ?_
  have hou := off _ (List.getElem_mem ul)
  generalize cs2[u] = oc at *
  have b06 := b5.trans b6
  walk_at "rx"
  refine ⟨cl, N + 5, dr, _, rfl, d6.le (by omega), by omega, fun kind H7 d7 b7 u70 u71 => ?_⟩
  have b07 := b06.trans b7
  have hD27 := b7 _ _ D2d hD26
  -- a text handed back with a number
  have fin : ∀ (z : Str) (k : Int) (H' : Hp), Dr cl N H' dr → But dr H H' → badCall (sgOf ws) (.str z) = some k → (cp z).length ≤ 1000 → ∀ t, H' t = none → Q (.ref t) (upd H' t (.tup [.str z, .int k])) := fun z k H' hd hb hbc hl t nt =>
    q t (.str z) _ [] _ k (hd.same (same_new nt)) (hb.trans (But.of (same_new nt))) upd_same (by simp [DF]) (by simp) hbc hl
  walk_at "rx"
  refine iteD (fun h0 => ?_) fun h0 => ?_
  · walk_at "rx"
    refine r_srcS (fun Q' q => r_var rfl q) ?_
    intro D3 nD3
    refine lcV (σ' := fun x => [some (.ref dr), some (.str ws), some (.str sg), some (.str txt), some (.ref D2), some (oneV oc), some (.int kind), none, none, none, none, some x]) walk_strS (by rw [signs_len]; omega) nD3 (fun _ => rfl) (fun _ => rfl) (fun i => .str (one ((cp txt).getD i 0))) (fun H _ => trivial) (fun i x H8 hi hx s8 Qn k => ?_) fun H8 s8 hD8 => ?_
    · obtain ⟨rfl, _⟩ := signs_at hx
      walk_at "rx"
      exact k H8 (Same.refl _)
    rw [signs_len, range_map (cp txt) 0 fun c => V.str (one c)] at hD8
    walk_at "rx"
    intro t1 n1
    have q1 := same_upd s8 n1 (o := .tup [V.str txt])
    walk_at "rx"
    intro t2 n2
    have q2 := same_upd q1 n2 (o := .tup [])
    walk_at "rx"
    intro L nL
    have q3 := same_upd q2 nL (o := .lst [V.non, .int 5, .bl true, .ref D3, .ref t1, .ref t2])
    have fr7 : ∀ {a : Addr}, H7 a = none → a ≠ dr := fun n => ne_of_none' hyd (bfree b07 (let ⟨y, hy⟩ := d7.lst; ⟨_, hy⟩) n)
    have Ld := fr7 (q2.free nL)
    have D3d := fr7 nD3
    have k3' := keep1 (o := .lst [V.non, .int 5, .bl true, .ref D3, .ref t1, .ref t2]) (keep1 (o := .tup []) (keep1 (o := .tup [V.str txt]) hD8 n1) n2) nL
    have k1' := keep1 (o := .lst [V.non, .int 5, .bl true, .ref D3, .ref t1, .ref t2]) (keep1 (o := .tup []) (upd_same (H := H8) (a := t1) (o := .tup [V.str txt])) n2) nL
    have k2' := keep1 (o := .lst [V.non, .int 5, .bl true, .ref D3, .ref t1, .ref t2]) (upd_same (H := upd H8 t1 (.tup [V.str txt])) (a := t2) (o := .tup [])) nL
    walk_at "rx"
    refine ⟨cl, N + 4, dr, _, rfl, (d7.same q3).le (by omega), by omega, fun j H9 d9 b9 j0 j1 => ?_⟩
    have hj := b9 _ _ Ld (upd_same (H := upd (upd H8 t1 (.tup [V.str txt])) t2 (.tup [])) (a := L) (o := .lst [V.non, .int 5, .bl true, .ref D3, .ref t1, .ref t2]))
    have jl := j1 (by omega)
    have b09 := (b07.trans (But.of q3)).trans b9
    have fin2 : ∀ (d : Dat) (v : V) (f : List Addr), DF H9 d v f → dr ∉ f → badCall (sgOf ws) d = some (-1) → tl1000 d → ∀ t, H9 t = none → Q (.ref t) (upd H9 t (.tup [v, .int (-1)])) := fun d v f hd hf hb h1 t nt =>
      q t d v f _ (-1) ((d9.same (same_new nt)).le (by omega)) (b09.trans (But.of (same_new nt))) upd_same (hd.same (same_new nt)) hf hb h1
    have cases6 : j = 0 ∨ j = 1 ∨ j = 2 ∨ j = 3 ∨ j = 4 ∨ j = 5 := by omega
    rcases cases6 with rfl | rfl | rfl | rfl | rfl | rfl
    · refine r_ixL hj (v := .non) rfl ?_
      walk_at "rd"
      exact fin2 .non _ [] (by simp [DF]) (by simp) rfl trivial
    · refine r_ixL hj (v := .int 5) rfl ?_
      walk_at "rd"
      exact fin2 (.int 5) _ [] (by simp [DF]) (by simp) rfl trivial
    · refine r_ixL hj (v := .bl true) rfl ?_
      walk_at "rd"
      exact fin2 (.bl true) _ [] (by simp [DF]) (by simp) rfl trivial
    · refine r_ixL hj (v := .ref D3) rfl ?_
      walk_at "rd"
      exact fin2 (.lst ((cp txt).map fun c => Dat.str (one c))) _ [D3] (by simp only [DF]; exact ⟨by rw [List.length_map]; omega, D3, _, [], rfl, rfl, b9 _ _ D3d k3', dfs_strs _⟩) (by simp [D3d.symm]) rfl trivial
    · refine r_ixL hj (v := .ref t1) rfl ?_
      walk_at "rd"
      exact fin2 (.tup [.str txt]) _ [] (by simp only [DF, DFs]; exact ⟨by simp, t1, _, rfl, b9 _ _ (fr7 (s8.free n1)) k1', _, _, [], [], rfl, rfl, ⟨rfl, rfl⟩, rfl, rfl⟩) (by simp) rfl trivial
    · refine r_ixL hj (v := .ref t2) rfl ?_
      walk_at "rd"
      exact fin2 (.tup []) _ [] (by simp only [DF]; exact ⟨by simp, t2, [], rfl, b9 _ _ (fr7 (q1.free n2)) k2', by simp [DFs]⟩) (by simp) rfl trivial
  walk_at "rx"
  refine iteD (fun h1 => ?_) fun h1 => ?_
  · walk_at "rx"
    refine r_mulS (n := 401) (by rw [hct]; omega) (by omega) ?_
    walk_at "rx"
    refine ⟨cl, N + 4, dr, _, rfl, d7.le (by omega), by omega, fun j H8 d8 b8 j0 j1 => ?_⟩
    obtain ⟨j, rfl⟩ : ∃ k : Nat, j = k := ⟨j.toNat, by omega⟩
    have jl := j1 (by omega)
    walk_at "rx"
    refine r_slS (by rw [len_cp, len_times, hct]; have := sizeLine_eq; omega) ?_
    have e : cp (cutS (timesS txt ((401 : Nat) : Int)) none (some (401 + (j : Int)))) = (cp (timesS txt ((401 : Nat) : Int))).take (401 + j) := cp_to _ (401 + j)
    have el : (cp (cutS (timesS txt ((401 : Nat) : Int)) none (some (401 + (j : Int))))).length = min (401 + j) (401 * (1 + m)) := by rw [e, List.length_take, len_times, hct]
    walk_at "rx"
    exact fin _ _ H8 (d8.le (by omega)) (b07.trans b8) (badCall_long (by rw [el]; omega)) (by rw [el]; omega)
  walk_at "rx"
  refine r_lenS (len1000 (by omega)) ?_
  rw [len_cp, hct]
  walk_at "rx"
  refine ⟨cl, N + 4, dr, _, rfl, d7.le (by omega), by omega, fun a H8 d8 b8 a0 a1 => ?_⟩
  obtain ⟨a, rfl⟩ : ∃ k : Nat, a = k := ⟨a.toNat, by omega⟩
  have al2 := a1 (by omega)
  have b08 := b07.trans b8
  have hD28 := b8 _ _ D2d hD27
  have szt : txt.length ≤ sizeLine := len1000 (by omega)
  have ca : cp (cutS txt none (some ((a : Nat) : Int))) = (cp txt).take a := cp_to txt a
  have cf : cp (cutS txt (some ((a : Nat) : Int)) none) = (cp txt).drop a := cp_from txt a
  have lta : ((cp txt).take a).length = a := by rw [List.length_take]; omega
  walk_at "rx"
  refine iteD (fun h2 => ?_) fun h2 => ?_
  · walk_at "rx"
    refine r_slS szt ?_
    walk_at "rx"
    refine r_addC (by rw [ca, lta]; show _ + 1 ≤ _; omega) ?_
    walk_at "rx"
    refine r_mulS (n := 401) (by rw [hct]; omega) (by omega) ?_
    walk_at "rx"
    refine ⟨cl, N + 3, dr, _, rfl, d8.le (by omega), by omega, fun j H9 d9 b9 j0 j1 => ?_⟩
    obtain ⟨j, rfl⟩ : ∃ k : Nat, j = k := ⟨j.toNat, by omega⟩
    have jl := j1 (by omega)
    walk_at "rx"
    refine r_slS (by rw [len_cp, len_times, hct]; have := sizeLine_eq; omega) ?_
    have e : cp (cutS (timesS txt ((401 : Nat) : Int)) none (some (400 + (j : Int)))) = (cp (timesS txt ((401 : Nat) : Int))).take (400 + j) := cp_to _ (400 + j)
    have el : (cp (cutS (timesS txt ((401 : Nat) : Int)) none (some (400 + (j : Int))))).length = min (400 + j) (401 * (1 + m)) := by rw [e, List.length_take, len_times, hct]
    have lab : (cp (cutS txt none (some ((a : Nat) : Int)) ++ one oc)).length = a + 1 := by rw [cp_cat, ca, List.length_append, lta]; rfl
    refine r_addC (by rw [lab, el]; omega) ?_
    walk_at "rx"
    exact fin _ _ H9 (d9.le (by omega)) (b08.trans b9) (badCall_long (by rw [cp_cat, List.length_append, lab, el]; omega)) (by rw [cp_cat, List.length_append, lab, el]; omega)
  walk_at "rx"
  refine iteD (fun h3 => ?_) fun h3 => ?_
  · walk_at "rx"
    refine r_mulS (n := 400) (by rw [hct]; omega) (by omega) ?_
    walk_at "rx"
    refine r_slS (by rw [len_cp, len_times, hct]; have := sizeLine_eq; omega) ?_
    have e : cp (cutS (timesS txt ((400 : Nat) : Int)) none (some 399)) = (cp (timesS txt ((400 : Nat) : Int))).take 399 := cp_to _ 399
    have el : (cp (cutS (timesS txt ((400 : Nat) : Int)) none (some 399))).length = 399 := by rw [e, List.length_take, len_times, hct]; omega
    walk_at "rx"
    refine r_addC (by rw [el]; show _ + 1 ≤ _; omega) ?_
    walk_at "rx"
    have ez : cp (cutS (timesS txt ((400 : Nat) : Int)) none (some 399) ++ one oc) = cp (cutS (timesS txt ((400 : Nat) : Int)) none (some 399)) ++ [oc] := cp_cat _ _
    have lz : (cp (cutS (timesS txt ((400 : Nat) : Int)) none (some 399) ++ one oc)).length = 400 := by rw [ez, List.length_append, el]; rfl
    refine fin _ _ H8 (d8.le (by omega)) b08 (badCall_first (i := 399) (by omega) (by omega) ?_ fun j hj => ?_) (by omega)
    · rw [ez, List.getD_eq_getElem?_getD, List.getElem?_append_right (by omega), el]; exact hou
    · rw [ez, List.getD_eq_getElem?_getD, List.getElem?_append_left (by omega), ← List.getD_eq_getElem?_getD]
      have hm2 := getD_mem' (l := cp (cutS (timesS txt ((400 : Nat) : Int)) none (some 399))) (i := j) (d := 0) (by omega)
      have hm3 : (cp (cutS (timesS txt ((400 : Nat) : Int)) none (some 399))).getD j 0 ∈ cp (timesS txt ((400 : Nat) : Int)) := by
        rw [e] at hm2 ⊢
        exact List.mem_of_mem_take hm2
      exact htx _ (mem_times hm3)
  walk_at "rx"
  rw [List.length_map]
  refine ⟨cl, N + 3, dr, _, rfl, d8.le (by omega), by omega, fun g H9 d9 b9 g0 g1 => ?_⟩
  obtain ⟨g, rfl⟩ : ∃ k : Nat, g = k := ⟨g.toNat, by omega⟩
  have gl : g < cs2.length := by have := g1 (by omega); omega
  have hD29 := b9 _ _ D2d hD28
  have b09 := b08.trans b9
  refine r_ixL hD29 (v := oneV cs2[g]) (atI_at (by rw [List.getElem?_map, List.getElem?_eq_getElem gl]; rfl)) ?_
  generalize cs2[g] = lc at *
  walk_at "rx"
  refine r_slS szt ?_
  walk_at "rx"
  refine r_addC (by rw [ca, lta]; show _ + 1 ≤ _; omega) ?_
  walk_at "rx"
  refine r_slS szt ?_
  have lab : (cp (cutS txt none (some ((a : Nat) : Int)) ++ one oc)).length = a + 1 := by rw [cp_cat, ca, List.length_append, lta]; rfl
  refine r_addC (by rw [lab, cf, List.length_drop]; omega) ?_
  walk_at "rx"
  intro L nL
  have fr9 : ∀ {x : Addr}, H9 x = none → x ≠ dr := fun n => ne_of_none' hyd (bfree b09 (let ⟨y, hy⟩ := d9.lst; ⟨_, hy⟩) n)
  have q1 := same_new nL (o := .lst [V.str (Str.ofString ""), .str (one lc)])
  walk_at "rx"
  refine ⟨cl, N + 2, dr, _, rfl, (d9.same q1).le (by omega), by omega, fun j H10 d10 b10 j0 j1 => ?_⟩
  have hj := b10 _ _ (fr9 nL) (upd_same (H := H9) (a := L) (o := .lst [V.str (Str.ofString ""), .str (one lc)]))
  have jl := j1 (by omega)
  have b010 := (b09.trans (But.of q1)).trans b10
  have base : cp (cutS txt none (some ((a : Nat) : Int)) ++ one oc ++ cutS txt (some ((a : Nat) : Int)) none) = (cp txt).take a ++ (oc :: (cp txt).drop a) := by
    rw [cp_cat, cp_cat, ca, cf, cp_one, List.append_assoc]; rfl
  have lbase : (cp (cutS txt none (some ((a : Nat) : Int)) ++ one oc ++ cutS txt (some ((a : Nat) : Int)) none)).length = m + 2 := by
    rw [base, List.length_append, lta, List.length_cons, List.length_drop]; omega
  generalize cutS txt none (some ((a : Nat) : Int)) ++ one oc ++ cutS txt (some ((a : Nat) : Int)) none = bz at *
  have out : ∀ x : Str, (cp x).length ≤ 1 → badCall (sgOf ws) (.str (bz ++ x)) = some (a : Int) ∧ (cp (bz ++ x)).length ≤ 1000 := fun x hx => by
    have ex : cp (bz ++ x) = (cp txt).take a ++ (oc :: (cp txt).drop a ++ cp x) := by rw [cp_cat, base, List.append_assoc]
    have lx : (cp (bz ++ x)).length = m + 2 + (cp x).length := by rw [cp_cat, List.length_append, lbase]
    refine ⟨badCall_first (i := a) (by omega) (by omega) ?_ fun j hj => ?_, by omega⟩
    · rw [ex, List.getD_eq_getElem?_getD, List.getElem?_append_right (by omega), lta, Nat.sub_self]; exact hou
    · rw [ex, List.getD_eq_getElem?_getD, List.getElem?_append_left (by omega), ← List.getD_eq_getElem?_getD]
      exact htx _ (List.mem_of_mem_take (getD_mem' (l := (cp txt).take a) (i := j) (d := 0) (by omega)))
  have cases2 : j = 0 ∨ j = 1 := by omega
  rcases cases2 with rfl | rfl
  · refine r_ixL hj (v := .str (Str.ofString "")) rfl ?_
    walk_at "rx"
    refine r_addC (by rw [lbase]; show _ + 0 ≤ _; omega) ?_
    walk_at "rx"
    have := out (Str.ofString "") (by show 0 ≤ 1; omega)
    exact fin _ _ H10 (d10.le (by omega)) b010 this.1 this.2
  · refine r_ixL hj (v := .str (one lc)) rfl ?_
    walk_at "rx"
    refine r_addC (by rw [lbase]; show _ + 1 ≤ _; omega) ?_
    walk_at "rx"
    have := out (one lc) (by show 1 ≤ 1; omega)
    exact fin _ _ H10 (d10.le (by omega)) b010 this.1 this.2
end
end K
set_option Elab.async false
set_option linter.all false
set_option maxRecDepth 100000
set_option maxHeartbeats 2000000
namespace K
open PySem PySem.Spec PyProof.Rows L2 TH
local macro_rules | `(tactic| walk_at "rd1") => `(tactic| with_reducible (first
  | refine r_seq ?_ | refine r_if ?_ | refine r_ret ?_ | refine r_next ?_ | refine r_asg ?_ | refine r_drop ?_ | refine r_gname ?_ | refine r_retN ?_
  | refine r_var rfl ?_ | refine r_c ?_ | refine r_op ?_ | refine r_un ?_ | refine r_test ?_ | refine r_tB ?_ | refine r_bl ?_ | refine r_and ?_ | refine r_or ?_ | refine r_not ?_
  | refine r_andV ?_ | refine r_orV ?_ | refine r_notV ?_ | refine r_bb ?_ | refine r_ifE ?_ | refine r_gsub ?_ | refine r_nil ?_ | refine r_cons ?_ | refine r_cb ?_ | refine r_cl ?_ | refine r_clS ?_
  | refine r_part ?_ | refine r_nopart ?_ | refine r_int ?_ | refine r_sl ?_ | refine r_chain ?_ | refine r_I0 ?_ | refine r_U ?_ | refine r_eqI ?_ | refine r_neI ?_ | refine r_eqS ?_ | refine r_eqB ?_ | refine r_neB ?_ | refine r_int1 ?_ | refine r_abs1 ?_
  | refine iteT ?_ | refine iteF ?_ | refine r_isF rfl ?_ | refine r_isD (by assumption) (by decide) ?_ | refine r_brk ?_ | refine r_ct ?_ | refine r_ltS ?_ | refine r_leS ?_ | refine r_aug rfl ?_ | refine r_lc ?_ | refine r_meth ?_ | refine r_callO ?_ | refine r_make ?_ | refine r_methT ?_ | refine r_callT ?_ | refine r_ixT' ?_ | refine r_mkS ?_ | refine r_pr ?_ | refine r_sfld ?_ | refine r_fld ?_ | refine r_dnew ?_ | refine r_dput ?_ | refine r_dget ?_ | refine r_bm ?_ | refine r_rs ?_ | refine r_notInS ?_ | refine r_inS ?_ | refine r_isN ?_ | refine r_notN ?_ | refine r_for ?_ | refine r_rg1 ?_ | refine r_m1 ?_ | refine r_m0 ?_ | refine r_isS ?_ | refine r_rg2 ?_ | refine r_ipI ?_))
local macro_rules | `(tactic| walk_at "rd") => `(tactic| repeat (first | walk_at "rd1" | ((with_reducible apply r_var); (focus exact rfl)) | (with_reducible refine r_tup ?_) | (with_reducible refine r_lst ?_) | ((with_reducible refine r_ln ?_ ?_); focus (simp; done)) | ((with_reducible refine iteT' ?_ ?_); focus (simp [isB, Dat.ty, tyN]; done)) | ((with_reducible refine iteF' ?_ ?_); focus (simp [isB, Dat.ty, tyN]; done))))
local macro_rules | `(tactic| walk_at "hf") => `(tactic| first
  | assumption
  | exact upd_same
  | (refine keep1 ?_ (by assumption); walk_at "hf")
  | (refine keep2 (by assumption) ?_; walk_at "hf")
  | (refine (show Same _ _ by assumption) _ _ ?_; walk_at "hf")
  | (refine (show But _ _ _ by assumption) _ _ (by assumption) ?_; walk_at "hf"))
local macro_rules | `(tactic| walk_at "rx") => `(tactic| repeat (first | walk_at "rd1" | ((with_reducible apply r_ixL); (focus assumption); (focus exact rfl)) | ((with_reducible apply r_ixT); (focus assumption); (focus exact rfl)) | ((with_reducible apply r_lenL); (focus assumption)) | ((with_reducible apply r_lenT); (focus assumption)) | ((with_reducible apply r_var); (focus exact rfl)) | (with_reducible refine r_tup ?_) | (with_reducible refine r_lst ?_) | ((with_reducible refine r_ln ?_ ?_); focus (simp; done)) | ((with_reducible refine iteT' ?_ ?_); focus (simp [isB, Dat.ty, tyN]; done)) | ((with_reducible refine iteF' ?_ ?_); focus (simp [isB, Dat.ty, tyN]; done))))
local macro_rules | `(tactic| walk_at "rz") => `(tactic| repeat ((fail_if_success (with_reducible show tFor _ _ _ _ _ _)); (first | walk_at "rd1" | ((with_reducible apply r_ixL); (focus assumption); (focus exact rfl)) | ((with_reducible apply r_ixT); (focus assumption); (focus exact rfl)) | ((with_reducible apply r_lenL); (focus assumption)) | ((with_reducible apply r_lenT); (focus assumption)) | ((with_reducible apply r_var); (focus exact rfl)) | (with_reducible refine r_tup ?_) | (with_reducible refine r_lst ?_) | ((with_reducible refine r_ln ?_ ?_); focus (simp; done)) | ((with_reducible refine iteT' ?_ ?_); focus (simp [isB, Dat.ty, tyN]; done)) | ((with_reducible refine iteF' ?_ ?_); focus (simp [isB, Dat.ty, tyN]; done)))))
theorem df_pair {H : Hp} {t : Addr} {d1 d2 : Dat} {v1 v2 : V} {f1 f2 : List Addr} (h : H t = some (.tup [v1, v2])) (h1 : DF H d1 v1 f1) (h2 : DF H d2 v2 f2) : DF H (.tup [d1, d2]) (.ref t) (f1 ++ f2) := by
  simp only [DF, DFs]
  exact ⟨by simp, t, _, rfl, h, _, _, f1, f2, rfl, rfl, h1, _, _, f2, [], rfl, by simp, h2, rfl, rfl⟩
theorem df_str {H : Hp} (z : Str) : DF H (.str z) (.str z) [] := by simp [DF]
theorem df_int {H : Hp} (i : Int) : DF H (.int i) (.int i) [] := by simp [DF]
theorem RowsOk.le {rows : List Row} {n m : Nat} (h : RowsOk rows n m) (hn : n ≤ 4) : ∀ r ∈ rows, r.n.length ≤ 1000 := fun r hr => by have := (h.r r hr).l; omega
theorem badCall_ok {sg : List Nat} {z : Str} (hl : (cp z).length ≤ 400) (h : ∀ c ∈ cp z, c ∈ sg) : badCall sg (.str z) = none := by
  simp only [badCall]
  rw [if_neg (by omega), List.find?_range_eq_none.mpr fun j hj => by simpa using h _ (getD_mem' hj)]
  rfl
theorem big20 {k : Int} (h : k < 100) : isIn (.int (10 ^ Int.toNat 20)) 0 k = false := by
  have e : (10 : Int) ^ Int.toNat 20 = 100000000000000000000 := by decide +kernel
  simp only [isIn]
  rw [e, decide_eq_false (show ¬ (100000000000000000000 : Int) ≤ k by omega)]
  simp
section
variable {P : Program} {w : World} {K : PySem.W.Frag} {mg : Str → Option Value} {base : Heap} (T : Txt K mg)
include T
def sp_refused : Sp := fun vs H Q _ => ∃ cl N dr dl ws R rows as, ∃ m : Nat, vs = [.ref dr, .ref dl, .str ws, .ref R] ∧ Drl (He.ga K "Drill") H dl ws rows ∧ RowsA H R rows as ∧ dr ∉ R :: adr as ∧ RowsOk rows (cp ws).length m ∧ Dr cl (N + 150) H dr ∧ ∀ H', Dr cl N H' dr → But dr H H' → Q (.bl true) H'
theorem ok_refused (C0 : Cal P w K mg base 2 "_law_pick" sp_pick) (C1 : Cal P w K mg base 4 "_law_bad_words" sp_badw) (C2 : Cal P w K mg base 5 "_law_bad_standings" sp_badss) (C3 : Cal P w K mg base 4 "_law_listed" (sp_listed 4)) (C4 : Cal P w K mg base 5 "_law_same" (sp_same 5)) (C5 : Cal P w K mg base 16 "_law_making" sp_making)
    (C6 : Cal P w K mg base 3 "_law_bad_calling" sp_badc) (C7 : Cal P w K mg base 3 "_law_calling" sp_calling) (C8 : Cal P w K mg base 5 "_law_asking" (sp_asking (K := K))) (C9 : Cal P w K mg base 1 "_law_went" sp_went) (F : FD K "_law_refused" "_law_refused" s_l_refused [] (He.ga K "_law_refused")) : FnT P w K mg base 17 (He.ga K "_law_refused") (sp_refused (K := K)) := by
  refine fnT_of (k := 16) F sc_l_refused (fun _ _ _ _ _ _ us hl => match us, hl with | [_, _, _, _], _ => rfl) (fun vs H Q E h => by obtain ⟨cl, N, dr, dl, ws, R, rows, as, m, rfl, _⟩ := h; rfl) fun cdv A outer s H vs Q E hr h => ⟨_, (tm_l_refused T (C_l_pick := C0) (h_l_pick := by decide) (C_l_bad_words := C1) (h_l_bad_words := by decide) (C_l_bad_standings := C2) (h_l_bad_standings := by decide) (C_l_listed := C3) (h_l_listed := by decide) (C_l_same := C4) (h_l_same := by decide) (C_l_making := C5) (h_l_making := by decide) (C_l_bad_calling := C6) (h_l_bad_calling := by decide) (C_l_calling := C7) (h_l_calling := by decide) (C_l_asking := C8) (h_l_asking := by decide) (C_l_went := C9) (h_l_went := by decide) (hr := hr)).2, ?_⟩
  obtain ⟨cl, N, dr, dl, ws, R, rows, as, m, rfl, hD, hA, ndr, hok, hdr, q⟩ := h
  obtain ⟨w1, w2, w3, w4⟩ := words_inv hD.w
  have hml := hok.l
  have hl6 := hD.l
  have h1000 := hok.le w4
  have hR := hA.r
  obtain ⟨yd, hyd⟩ := hdr.lst
  have keepA : ∀ {G : Hp}, But dr H G → RowsA G R rows as := fun b => hA.keep fun a m o e => b _ _ (fun q => ndr (q ▸ m)) e
  have keepD : ∀ {G : Hp}, But dr H G → Drl (He.ga K "Drill") G dl ws rows := fun b => hD.butO b hyd
  unfold tm_l_refused
  walk_at "rx"
  simp only [List.length_map, hA.l, hml]
  refine r_addC (by show 1 + _ ≤ _; omega) ?_
  obtain ⟨sg, hsg⟩ : ∃ z : Str, z = Str.ofString "." ++ ws := ⟨_, rfl⟩
  have csg : cp sg = sgOf ws := by rw [hsg]; exact dot_signs ws
  have lsg : (cp sg).length = (cp ws).length + 1 := by rw [csg]; rfl
  rw [← hsg]
  walk_at "rx"
  refine ⟨cl, N + 120, dr, ws, rfl, hD.w, hdr.le (by omega), fun dw vw fw H1 d1 b1 hw1 hfw hbw htl hdw => ?_⟩
  have nfw : dr ∉ fw := fun mm => by have := hfw dr mm; rw [hyd] at this; cases this
  walk_at "rx"
  refine ⟨cl, N + 100, dr, ws, R, rows, as, m, rfl, by omega, by omega, w4, keepA b1, ndr, hok, d1.le (by omega), fun t dt vt ft H2 kt d2 b2 ht hdt nft hbt hdp => ?_⟩
  obtain ⟨yd1, hyd1⟩ := d1.lst
  have b02 := b1.trans b2
  have hw2 := hw1.but b2 hyd1 nfw
  walk_at "rd"
  refine r_gtup2 ht rfl ?_
  have hA2 := keepA b02
  have hdl := hA2.df (by omega) h1000
  have hdp4 : (Dat.lst (rows.map Row.lD)).dp < 4 := by have := lDs_dp rows; simp only [Dat.dp]; omega
  walk_at "rx"
  refine ⟨_, _, _, rfl, hdl, hdp4, fun vl fl H3 s3 hvl hfl hndl => ?_⟩
  walk_at "rx"
  intro L nL
  have s4 := same_upd s3 nL (o := .lst [vl, vt])
  have Ld : L ≠ dr := ne_of_none' hyd (bfree b02 (let ⟨y, hy⟩ := d2.lst; ⟨_, hy⟩) (s3.free nL))
  walk_at "rx"
  refine ⟨cl, N + 99, dr, _, rfl, (d2.same s4).le (by omega), by omega, fun j H4 d4 b4 j0 j1 => ?_⟩
  have hL4 := b4 _ _ Ld (upd_same (H := H3) (a := L) (o := .lst [vl, vt]))
  have jl := j1 (by omega)
  obtain ⟨yd2, hyd2⟩ := (d2.same s4).lst
  have b04 := (b02.trans (But.of s4)).trans b4
  have ndl : dr ∉ fl := fun mm => by obtain ⟨y, hy⟩ := d2.lst; have := hfl dr mm; rw [hy] at this; cases this
  have hvl4 := (hvl.same (same_new nL (o := .lst [vl, vt]))).but b4 hyd2 ndl
  have hdt4 := (hdt.same s4).but b4 hyd2 nft
  have hw4 := (hw2.same s4).but b4 hyd2 nfw
  obtain ⟨dh, vh, fh, hh, hhd, ej⟩ : ∃ dh vh fh, DF H4 dh vh fh ∧ dh.dp ≤ 12 ∧ atI [vl, vt] j = some vh := by
    have c2 : j = 0 ∨ j = 1 := by omega
    rcases c2 with rfl | rfl
    · exact ⟨_, _, _, hvl4, by have := lDs_dp rows; simp only [Dat.listD, lDs_lst, Dat.dp]; omega, rfl⟩
    · exact ⟨_, _, _, hdt4, by omega, rfl⟩
  refine r_ixL hL4 ej ?_
  walk_at "rx"
  refine ⟨dw, vw, fw, dh, vh, fh, rfl, hw4, hh, htl, hhd, .inl ⟨hbw, fun u H5 s5 hu => ?_⟩⟩
  walk_at "rx"
  intro u2 nu2
  have s6 := same_upd s5 nu2 (o := .tup [V.str (Str.ofString "BadWords"), vw])
  walk_at "rx"
  have nu : u2 ≠ u := (ne_of_none' hu nu2)
  refine ⟨.tup [.str "BadWords", dw], _, _, _, _, rfl, df_pair (keep1 hu nu2) (df_str _) (hw4.same s6), df_pair upd_same (df_str _) (hw4.same s6), by simp [Dat.dp, Dat.dps]; omega, fun H7 s7 => ?_⟩
  have s47 := s6.trans s7
  walk_at "rx"
  refine ⟨.str ws, _, [], dt, vt, ft, rfl, df_str _, hdt4.same s47, (show (cp ws).length ≤ 1000 by omega), by omega, .inr ⟨ws, kt, rfl, hD.w, hbt, fun u3 H8 s8 hu3 => ?_⟩⟩
  walk_at "rx"
  intro u4 nu4
  have s9 := same_upd s8 nu4 (o := .tup [V.str (Str.ofString "BadStanding"), .int kt])
  walk_at "rx"
  refine ⟨.tup [.str "BadStanding", .int kt], _, _, _, _, rfl, df_pair (keep1 hu3 nu4) (df_str _) (df_int _), df_pair upd_same (df_str _) (df_int _), by simp [Dat.dp, Dat.dps], fun H10 s10 => ?_⟩
  have s410 := (s47.trans s9).trans s10
  have b010 := b04.trans (But.of s410)
  have d10 := d4.same s410
  walk_at "rx"
  refine ⟨cl, N + 70, dr, ws, rfl, hD.w, d10.le (by omega), fun t5 dc vc fc H11 kc d11 b11 ht5 hdc nfc hbc htc => ?_⟩
  have b011 := b010.trans b11
  refine r_gtup2 ht5 rfl ?_
  walk_at "rx"
  refine ⟨cl, N + 30, dr, sg, rfl, by omega, by omega, d11.le (by omega), fun zg H12 d12 b12 hzg hzs => ?_⟩
  have b012 := b011.trans b12
  obtain ⟨yd11, hyd11⟩ := d11.lst
  have hdc12 := hdc.but b12 hyd11 nfc
  have hbg : badCall (sgOf ws) (.str zg) = none := badCall_ok (by omega) fun c hc => by rw [← csg]; exact hzs c hc
  walk_at "rx"
  intro p0 np0
  have q1 := same_new np0 (o := .tup [V.int 0])
  walk_at "rx"
  intro p1 np1
  have q2 := same_upd q1 np1 (o := .lst [V.int 0])
  walk_at "rx"
  refine r_I ⟨by decide, by decide, by decide⟩ ?_
  walk_at "rx"
  intro L2' nL2
  have q3 := same_upd q2 nL2 (o := .lst [V.int (-1), .int m, .bl true, .bl false, .non, .str (Str.ofString "0"), .ref p0, .ref p1, .int (10 ^ Int.toNat 20), .int (-m)])
  have fr12 : ∀ {a : Addr}, H12 a = none → a ≠ dr := fun n => ne_of_none' hyd (bfree b012 (let ⟨y, hy⟩ := d12.lst; ⟨_, hy⟩) n)
  have L2d := fr12 (q2.free nL2)
  have p1d := fr12 (q1.free np1)
  have p0d := fr12 np0
  walk_at "rx"
  refine ⟨cl, N + 29, dr, _, rfl, (d12.same q3).le (by omega), by omega, fun j2 H13 d13 b13 j20 j21 => ?_⟩
  have hL13 := b13 _ _ L2d (upd_same (H := upd (upd H12 p0 (.tup [V.int 0])) p1 (.lst [V.int 0])) (a := L2') (o := .lst [V.int (-1), .int m, .bl true, .bl false, .non, .str (Str.ofString "0"), .ref p0, .ref p1, .int (10 ^ Int.toNat 20), .int (-m)]))
  have hp0 := b13 _ _ p0d (keep1 (o := .lst [V.int (-1), .int m, .bl true, .bl false, .non, .str (Str.ofString "0"), .ref p0, .ref p1, .int (10 ^ Int.toNat 20), .int (-m)]) (keep1 (o := .lst [V.int 0]) (upd_same (H := H12) (a := p0) (o := .tup [V.int 0])) np1) nL2)
  have hp1 := b13 _ _ p1d (keep1 (o := .lst [V.int (-1), .int m, .bl true, .bl false, .non, .str (Str.ofString "0"), .ref p0, .ref p1, .int (10 ^ Int.toNat 20), .int (-m)]) (upd_same (H := upd H12 p0 (.tup [V.int 0])) (a := p1) (o := .lst [V.int 0])) nL2)
  have jl2 := j21 (by omega)
  obtain ⟨yd12, hyd12⟩ := (d12.same q3).lst
  have hdc13 := (hdc12.same q3).but b13 hyd12 nfc
  have b013 := (b012.trans (But.of q3)).trans b13
  obtain ⟨dx, vx, fx, hx, nfx, ix, ejx, dpx⟩ : ∃ dx vx fx, DF H13 dx vx fx ∧ dr ∉ fx ∧ isIn dx 0 (rows.length - 1) = false ∧ atI [V.int (-1), .int m, .bl true, .bl false, .non, .str (Str.ofString "0"), .ref p0, .ref p1, .int (10 ^ Int.toNat 20), .int (-m)] j2 = some vx ∧ dx.dp ≤ 1 := by
    have c10 : j2 = 0 ∨ j2 = 1 ∨ j2 = 2 ∨ j2 = 3 ∨ j2 = 4 ∨ j2 = 5 ∨ j2 = 6 ∨ j2 = 7 ∨ j2 = 8 ∨ j2 = 9 := by omega
    rcases c10 with rfl | rfl | rfl | rfl | rfl | rfl | rfl | rfl | rfl | rfl
    · exact ⟨.int (-1), _, [], df_int _, by simp, by simp [isIn], rfl, by simp [Dat.dp]⟩
    · exact ⟨.int m, _, [], df_int _, by simp, by simp [isIn]; omega, rfl, by simp [Dat.dp]⟩
    · exact ⟨.bl true, _, [], by simp [DF], by simp, rfl, rfl, by simp [Dat.dp]⟩
    · exact ⟨.bl false, _, [], by simp [DF], by simp, rfl, rfl, by simp [Dat.dp]⟩
    · exact ⟨.non, _, [], by simp [DF], by simp, rfl, rfl, by simp [Dat.dp]⟩
    · exact ⟨.str _, _, [], df_str _, by simp, rfl, rfl, by simp [Dat.dp]⟩
    · exact ⟨.tup [.int 0], _, [], by simp only [DF, DFs]; exact ⟨by simp, p0, _, rfl, hp0, _, _, [], [], rfl, rfl, ⟨rfl, rfl⟩, rfl, rfl⟩, by simp, rfl, rfl, by simp [Dat.dp, Dat.dps]⟩
    · exact ⟨.lst [.int 0], _, [p1], by simp only [DF, DFs]; exact ⟨by simp, p1, _, [], rfl, rfl, hp1, _, _, [], [], rfl, rfl, ⟨rfl, rfl⟩, rfl, rfl⟩, by simp [p1d.symm], rfl, rfl, by simp [Dat.dp, Dat.dps]⟩
    · exact ⟨.int (10 ^ Int.toNat 20), _, [], df_int _, by simp, big20 (by omega), rfl, by simp [Dat.dp]⟩
    · exact ⟨.int (-m), _, [], df_int _, by simp, by simp [isIn]; omega, rfl, by simp [Dat.dp]⟩
  refine r_ixL hL13 ejx ?_
  walk_at "rx"
  refine ⟨_, rfl, by omega, by omega, ?_⟩
  have offG : ∀ {G : Hp}, But dr H13 G → DF G dx vx fx ∧ DF G dc vc fc := fun b => ⟨hx.but b (Dr.lst d13).choose_spec nfx, hdc13.but b (Dr.lst d13).choose_spec nfc⟩
  refine forG (W := tNext) (walk_rangeS (lo := 0) (n := Int.toNat 3)) (fun i σ H' => Dr cl (N + 25 - i) H' dr ∧ But dr H13 H' ∧ ∃ x13 x14, σ = [some (.ref dr), some (.ref dl), some (.str ws), some (.ref R), some (.int m), some (.str sg), some vx, some vt, some (.int kt), some vh, some vc, some (.int kc), some (.str zg), x13, x14, none, none, none])
    ⟨d13.le (by omega), But.refl _ _, _, _, rfl⟩ (fun _ _ _ _ => trivial) (fun i x σ H14 hi hxx hF => ?_) fun σ H14 hF => ?_
  · obtain ⟨d14, b14, x13, x14, rfl⟩ := hF
    have hi3 : i < 3 := by simpa using hi
    obtain rfl : x = .int (i : Nat) := by
      rw [List.getElem?_map, List.getElem?_range (by simpa using hi3)] at hxx
      cases hxx
      simp
    walk_at "rx"
    intro L3 nL3
    have s15 := same_new nL3 (o := .lst [V.str zg, vc])
    have b014 := b013.trans b14
    have L3d : L3 ≠ dr := ne_of_none' hyd (bfree b014 (let ⟨y, hy⟩ := d14.lst; ⟨_, hy⟩) nL3)
    walk_at "rx"
    refine ⟨cl, N + 25 - (i + 1), dr, _, rfl, (d14.same s15).le (by omega), by omega, fun j3 H15 d15 b15 j30 j31 => ?_⟩
    have hL15 := b15 _ _ L3d (upd_same (H := H14) (a := L3) (o := .lst [V.str zg, vc]))
    have jl3 := j31 (by omega)
    have b1315 := (b14.trans (But.of s15)).trans b15
    have b015 := b013.trans b1315
    obtain ⟨hx15, hc15⟩ := offG b1315
    obtain ⟨de, ve, fe, hde, hte, eje⟩ : ∃ de ve fe, DF H15 de ve fe ∧ tl1000 de ∧ atI [V.str zg, vc] j3 = some ve := by
      have c2 : j3 = 0 ∨ j3 = 1 := by omega
      rcases c2 with rfl | rfl
      · exact ⟨_, _, _, df_str zg, (show (cp zg).length ≤ 1000 by omega), rfl⟩
      · exact ⟨_, _, _, hc15, htc, rfl⟩
    refine r_ixL hL15 eje ?_
    walk_at "rx"
    refine ⟨dl, ws, rows, _, dx, vx, fx, de, ve, fe, rfl, keepD b015, hx15, hde, hte, .inl ⟨ix, fun u H16 s16 hu => ?_⟩⟩
    walk_at "rx"
    intro u2 nu2
    have s17 := same_upd s16 nu2 (o := .tup [V.str (Str.ofString "NoStanding"), vx])
    walk_at "rx"
    refine ⟨.tup [.str "NoStanding", dx], _, _, _, _, rfl, df_pair (keep1 hu nu2) (df_str _) (hx15.same s17), df_pair upd_same (df_str _) (hx15.same s17), by simp [Dat.dp, Dat.dps]; omega, fun H18 s18 => ?_⟩
    walk_at "rx"
    have s1518 := s17.trans s18
    exact ⟨d15.same s1518, b1315.trans (But.of s1518), _, _, rfl⟩
  obtain ⟨d14, b14, x13, x14, rfl⟩ := hF
  have d14' : Dr cl (N + 22) H14 dr := d14.le (by simp)
  walk_at "rx"
  refine ⟨cl, N, dr, _, rfl, d14'.le (by omega), by omega, fun st H15 d15 b15 t0 t1 => ?_⟩
  obtain ⟨st, rfl⟩ : ∃ k : Nat, st = k := ⟨st.toNat, by omega⟩
  have stl : st < rows.length := by have := t1 (by omega); omega
  have b1315 := b14.trans b15
  walk_at "rx"
  refine ⟨_, _, rfl, by omega, ?_⟩
  refine forG (W := tNext) (walk_rangeS (lo := 1) (n := ((3 : Int) - 1).toNat)) (fun i σ H' => Dr cl N H' dr ∧ But dr H13 H' ∧ ∃ x13, σ = [some (.ref dr), some (.ref dl), some (.str ws), some (.ref R), some (.int m), some (.str sg), some vx, some vt, some (.int kt), some vh, some vc, some (.int kc), some (.str zg), x13, x14, some (.int (st : Nat)), none, none])
    ⟨d15, b1315, _, rfl⟩ (fun _ _ _ _ => trivial) (fun i x σ H16 hi hxx hF => ?_) fun σ H16 hF => ?_
  · obtain ⟨d16, b16, x13', rfl⟩ := hF
    have hi2 : i < 2 := by simpa using hi
    obtain rfl : x = .int (1 + (i : Nat)) := by
      rw [List.getElem?_map, List.getElem?_range (by simpa using hi2)] at hxx
      cases hxx
      rfl
    obtain ⟨hx16, hc16⟩ := offG b16
    have b016 := b013.trans b16
    walk_at "rx"
    refine ⟨dl, ws, rows, _, .int (st : Nat), _, [], dc, vc, fc, rfl, keepD b016, df_int _, hc16, htc, .inr (.inl ⟨st, kc, rfl, stl, by omega, hbc, fun u H17 s17 hu => ?_⟩)⟩
    walk_at "rx"
    intro u2 nu2
    have s18 := same_upd s17 nu2 (o := .tup [V.str (Str.ofString "BadCalling"), .int kc])
    walk_at "rx"
    refine ⟨.tup [.str "BadCalling", .int kc], _, _, _, _, rfl, df_pair (keep1 hu nu2) (df_str _) (df_int _), df_pair upd_same (df_str _) (df_int _), by simp [Dat.dp, Dat.dps], fun H19 s19 => ?_⟩
    walk_at "rx"
    have s1619 := s18.trans s19
    exact ⟨d16.same s1619, b16.trans (But.of s1619), _, rfl⟩
  obtain ⟨d16, b16, x13', rfl⟩ := hF
  have b016 := b013.trans b16
  walk_at "rx"
  refine ⟨R, ws, rows, as, st, zg, rfl, keepA b016, hD.r, w4, stl, hzg, fun c hc => by rw [← csg]; exact hzs c hc, fun t6 H17 s17 ht6 => ?_⟩
  have b017 := b016.trans (But.of s17)
  refine r_gtup2 ht6 rfl ?_
  walk_at "rx"
  refine ⟨dl, ws, rows, 1, .int (st : Nat), _, [], .str zg, _, [], rfl, keepD b017, df_int _, df_str _, (show (cp zg).length ≤ 1000 by omega), .inr (.inr ⟨st, zg, rfl, stl, by omega, rfl, hbg, fun u H18 s18 hu => ?_⟩)⟩
  rw [if_pos rfl] at hu
  walk_at "rx"
  intro u2 nu2
  have s19 := same_upd s18 nu2 (o := .tup [V.str (Str.ofString "told"), .int (((cp zg).foldl (stp ws rows) (st, 0)).1 : Nat)])
  walk_at "rx"
  refine ⟨.tup [.str "told", .int (((cp zg).foldl (stp ws rows) (st, 0)).1 : Nat)], _, _, _, _, rfl, df_pair (keep1 hu nu2) (df_str _) (df_int _), df_pair upd_same (df_str _) (df_int _), by simp [Dat.dp, Dat.dps], fun H20 s20 => ?_⟩
  have s1720 := s19.trans s20
  have b020 := b017.trans (But.of s1720)
  walk_at "rx"
  refine ⟨dl, ws, rows, 2, .int (st : Nat), _, [], .str zg, _, [], rfl, keepD b020, df_int _, df_str _, (show (cp zg).length ≤ 1000 by omega), .inr (.inr ⟨st, zg, rfl, stl, by omega, rfl, hbg, fun u3 H21 s21 hu3 => ?_⟩)⟩
  rw [if_neg (by omega)] at hu3
  walk_at "rx"
  intro u4 nu4
  have s22 := same_upd s21 nu4 (o := .tup [V.str (Str.ofString "told"), .int ((cp zg).foldl (stp ws rows) (st, 0)).2])
  walk_at "rx"
  refine ⟨.tup [.str "told", .int ((cp zg).foldl (stp ws rows) (st, 0)).2], _, _, _, _, rfl, df_pair (keep1 hu3 nu4) (df_str _) (df_int _), df_pair upd_same (df_str _) (df_int _), by simp [Dat.dp, Dat.dps], fun H23 s23 => ?_⟩
  exact q H23 (((d16.same s17).same s1720).same (s22.trans s23)) (b020.trans (But.of (s22.trans s23)))
end
end K
set_option Elab.async false
set_option linter.all false
set_option maxRecDepth 100000
set_option maxHeartbeats 2000000
namespace K
open PySem PySem.Spec PyProof.Rows L2 TH
local macro_rules | `(tactic| walk_at "rd1") => `(tactic| with_reducible (first
  | refine r_seq ?_ | refine r_if ?_ | refine r_ret ?_ | refine r_next ?_ | refine r_asg ?_ | refine r_drop ?_ | refine r_gname ?_ | refine r_retN ?_
  | refine r_var rfl ?_ | refine r_c ?_ | refine r_op ?_ | refine r_un ?_ | refine r_test ?_ | refine r_tB ?_ | refine r_bl ?_ | refine r_and ?_ | refine r_or ?_ | refine r_not ?_
  | refine r_andV ?_ | refine r_orV ?_ | refine r_notV ?_ | refine r_bb ?_ | refine r_ifE ?_ | refine r_gsub ?_ | refine r_nil ?_ | refine r_cons ?_ | refine r_cb ?_ | refine r_cl ?_ | refine r_clS ?_
  | refine r_part ?_ | refine r_nopart ?_ | refine r_int ?_ | refine r_sl ?_ | refine r_chain ?_ | refine r_I0 ?_ | refine r_U ?_ | refine r_eqI ?_ | refine r_neI ?_ | refine r_eqS ?_ | refine r_eqB ?_ | refine r_neB ?_ | refine r_int1 ?_ | refine r_abs1 ?_
  | refine iteT ?_ | refine iteF ?_ | refine r_isF rfl ?_ | refine r_isD (by assumption) (by decide) ?_ | refine r_brk ?_ | refine r_ct ?_ | refine r_ltS ?_ | refine r_leS ?_ | refine r_aug rfl ?_ | refine r_lc ?_ | refine r_meth ?_ | refine r_callO ?_ | refine r_make ?_ | refine r_methT ?_ | refine r_callT ?_ | refine r_ixT' ?_ | refine r_mkS ?_ | refine r_pr ?_ | refine r_sfld ?_ | refine r_fld ?_ | refine r_dnew ?_ | refine r_dput ?_ | refine r_dget ?_ | refine r_bm ?_ | refine r_rs ?_ | refine r_notInS ?_ | refine r_inS ?_ | refine r_isN ?_ | refine r_notN ?_ | refine r_for ?_ | refine r_rg1 ?_ | refine r_m1 ?_ | refine r_m0 ?_ | refine r_isS ?_ | refine r_rg2 ?_ | refine r_ipI ?_))
local macro_rules | `(tactic| walk_at "rd") => `(tactic| repeat (first | walk_at "rd1" | ((with_reducible apply r_var); (focus exact rfl)) | (with_reducible refine r_tup ?_) | (with_reducible refine r_lst ?_) | ((with_reducible refine r_ln ?_ ?_); focus (simp; done)) | ((with_reducible refine iteT' ?_ ?_); focus (simp [isB, Dat.ty, tyN]; done)) | ((with_reducible refine iteF' ?_ ?_); focus (simp [isB, Dat.ty, tyN]; done))))
local macro_rules | `(tactic| walk_at "hf") => `(tactic| first
  | assumption
  | exact upd_same
  | (refine keep1 ?_ (by assumption); walk_at "hf")
  | (refine keep2 (by assumption) ?_; walk_at "hf")
  | (refine (show Same _ _ by assumption) _ _ ?_; walk_at "hf")
  | (refine (show But _ _ _ by assumption) _ _ (by assumption) ?_; walk_at "hf"))
local macro_rules | `(tactic| walk_at "rx") => `(tactic| repeat (first | walk_at "rd1" | ((with_reducible apply r_ixL); (focus assumption); (focus exact rfl)) | ((with_reducible apply r_ixT); (focus assumption); (focus exact rfl)) | ((with_reducible apply r_lenL); (focus assumption)) | ((with_reducible apply r_lenT); (focus assumption)) | ((with_reducible apply r_var); (focus exact rfl)) | (with_reducible refine r_tup ?_) | (with_reducible refine r_lst ?_) | ((with_reducible refine r_ln ?_ ?_); focus (simp; done)) | ((with_reducible refine iteT' ?_ ?_); focus (simp [isB, Dat.ty, tyN]; done)) | ((with_reducible refine iteF' ?_ ?_); focus (simp [isB, Dat.ty, tyN]; done))))
local macro_rules | `(tactic| walk_at "rz") => `(tactic| repeat ((fail_if_success (with_reducible show tFor _ _ _ _ _ _)); (first | walk_at "rd1" | ((with_reducible apply r_ixL); (focus assumption); (focus exact rfl)) | ((with_reducible apply r_ixT); (focus assumption); (focus exact rfl)) | ((with_reducible apply r_lenL); (focus assumption)) | ((with_reducible apply r_lenT); (focus assumption)) | ((with_reducible apply r_var); (focus exact rfl)) | (with_reducible refine r_tup ?_) | (with_reducible refine r_lst ?_) | ((with_reducible refine r_ln ?_ ?_); focus (simp; done)) | ((with_reducible refine iteT' ?_ ?_); focus (simp [isB, Dat.ty, tyN]; done)) | ((with_reducible refine iteF' ?_ ?_); focus (simp [isB, Dat.ty, tyN]; done)))))
theorem badSt_ok {n m : Nat} {rows : List Row} (h : RowsOk rows n m) (hm : 1 ≤ m ∧ m ≤ 6) : badSt n (.tup (rows.map Row.tD)) = none := by
  have el : (rows.map Row.tD).length = m := by rw [List.length_map]; exact h.l
  simp only [badSt]
  rw [el, if_pos hm, List.find?_range_eq_none.mpr fun j hj => ?_]
  · rfl
  · have hj' : j < rows.length := by rw [h.l]; exact hj
    rw [TH.getD_at (show j < (rows.map Row.tD).length by rw [el]; exact hj)]
    have := good_row h hj
    rw [TH.getD_at hj'] at this
    simp [this]
/-- which operand is asked first by == -/
structure Txt3 (K : PySem.W.Frag) : Prop where
  nf : PySem.W.notFirst K (He.ga K "Drill") (.ref (He.ga K "Drill")) = true
  nl : PySem.W.notFirst K (He.ga K "Drill") (.type "list") = true
  ni : PySem.W.notFirst K (He.ga K "Drill") (.type "int") = true
theorem ints_inj : ∀ {l m : List Int}, l.map Dat.int = m.map Dat.int → l = m
  | [], [], _ => rfl
  | a :: l, b :: m, h => by
    simp only [List.map_cons, List.cons.injEq, Dat.int.injEq] at h
    rw [h.1, ints_inj h.2]
theorem tD_inj {r q : Row} (h : r.tD = q.tD) : r = q := by
  simp only [Row.tD, Dat.tup.injEq, List.cons.injEq, Dat.int.injEq, and_true] at h
  obtain ⟨h1, h2, h3⟩ := h
  have := ints_inj h3
  cases r
  cases q
  simp_all
theorem tDs_inj : ∀ {l m : List Row}, l.map Row.tD = m.map Row.tD → l = m
  | [], [], _ => rfl
  | a :: l, b :: m, h => by
    simp only [List.map_cons, List.cons.injEq] at h
    rw [tD_inj h.1, tDs_inj h.2]
theorem Drl.ins {C : Addr} {H : Hp} {a : Addr} {ws : Str} {rows : List Row} (h : Drl C H a ws rows) : ∃ dx fs, H a = some (.ins C dx fs) := by
  obtain ⟨⟨dx, ts, tr, tb, tl, sg, xs, ls, h1, _⟩, _⟩ := h
  exact ⟨dx, _, h1⟩
theorem eq_drl {K : PySem.W.Frag} (o : IsO K (He.ga K "Drill")) (T3 : Txt3 K) {H : Hp} {Q : VK} {E : XK} {a b : Addr} {ws ws2 : Str} {rows rows2 : List Row} (h1 : Drl (He.ga K "Drill") H a ws rows) (h2 : Drl (He.ga K "Drill") H b ws2 rows2) (q : Q (.bl (decide (ws = ws2) && decide (rows = rows2))) H) :
    rEqO (He.ga K "Drill") (sp_eq (K := K)) E K (.ref a) (.ref b) H Q := by
  obtain ⟨dx, fs, e1⟩ := h1.ins
  obtain ⟨dx2, fs2, e2⟩ := h2.ins
  exact ⟨a, dx, fs, _, rfl, e1, .base (.ins e2 o.cl o.ha o.hn o.htk o.hm), T3.nf, a, ws, rows, _, rfl, h1, .inr ⟨b, ws2, rows2, rfl, h2, _, rfl, q⟩⟩
theorem eq_lst {K : PySem.W.Frag} (T3 : Txt3 K) {H : Hp} {Q : VK} {E : XK} {a b : Addr} {ws : Str} {rows : List Row} {xs : List V} (h1 : Drl (He.ga K "Drill") H a ws rows) (h2 : H b = some (.lst xs)) (q : Q (.bl false) H) :
    rEqO (He.ga K "Drill") (sp_eq (K := K)) E K (.ref a) (.ref b) H Q := by
  obtain ⟨dx, fs, e1⟩ := h1.ins
  exact ⟨a, dx, fs, _, rfl, e1, .base (.lst h2), T3.nl, a, ws, rows, _, rfl, h1, .inl ⟨by simp [tyN, h2], _, rfl, q⟩⟩
theorem eq_int {K : PySem.W.Frag} (T3 : Txt3 K) {H : Hp} {Q : VK} {E : XK} {a : Addr} {i : Int} {ws : Str} {rows : List Row} (h1 : Drl (He.ga K "Drill") H a ws rows) (q : Q (.bl false) H) :
    rEqO (He.ga K "Drill") (sp_eq (K := K)) E K (.ref a) (.int i) H Q := by
  obtain ⟨dx, fs, e1⟩ := h1.ins
  exact ⟨a, dx, fs, _, rfl, e1, .base (.int i), T3.ni, a, ws, rows, _, rfl, h1, .inl ⟨by simp [tyN], _, rfl, q⟩⟩
theorem mk_ok {K : PySem.W.Frag} {ws : Str} {rows : List Row} {d2 : Dat} {v2 : V} {f2 : List Addr} {H : Hp} {QQ : Addr → Hp → Prop} {E : XK} (hw : isWords (.str ws) = true) (hd2 : DF H d2 v2 f2) (e : d2.tupD = .tup (rows.map Row.tD)) (hb : badSt (cp ws).length (.tup (rows.map Row.tD)) = none) (hdp : d2.dp ≤ 12)
    (k : ∀ x H', Same H H' → H x = none → Drl (He.ga K "Drill") H' x ws rows → QQ x H') : ∀ x dx, H x = Option.none → H dx = Option.none → dx ≠ x → sp_init (K := K) [.ref x, .str ws, v2] (upd (upd H dx (.own x)) x (.ins (He.ga K "Drill") dx [])) (fun v H2 => v = .non ∧ QQ x H2) E := by
  intro x dx nx ndx ne
  have s0 : Same H (upd (upd H dx (.own x)) x (.ins (He.ga K "Drill") dx [])) := same_upd (same_new ndx) (by rw [upd_ne ne.symm]; exact nx)
  refine ⟨x, dx, .str ws, _, [], d2, v2, f2, rfl, upd_same, df_str _, hd2.same s0, (show (cp ws).length ≤ 1000 by have := words_inv hw; omega), hdp, (fun h => absurd (hw.symm.trans h) (by decide)), fun ws' ew _ => ?_⟩
  cases ew
  refine ⟨fun k' hk => absurd ((e ▸ hk : badSt (cp ws).length (.tup (rows.map Row.tD)) = some k').symm.trans hb) nofun, fun rows' er _ H' b' hD => ?_⟩
  rw [e] at er
  have : rows' = rows := by
    have h1 : rows.map Row.tD = rows'.map Row.tD := by injection er
    exact (tDs_inj h1).symm
  subst this
  exact ⟨rfl, k x H' (fun b o hb' => b' b o (fun q => by subst q; rw [nx] at hb'; cases hb') (s0 b o hb')) nx hD⟩
section
variable {P : Program} {w : World} {K : PySem.W.Frag} {mg : Str → Option Value} {base : Heap} (T : Txt K mg) (T3 : Txt3 K)
include T T3
def sp_equals : Sp := fun vs H Q _ => ∃ cl N dr dl ws R rows as, ∃ m : Nat, vs = [.ref dr, .ref dl, .str ws, .ref R] ∧ Drl (He.ga K "Drill") H dl ws rows ∧ RowsA H R rows as ∧ dr ∉ R :: adr as ∧ RowsOk rows (cp ws).length m ∧ Dr cl (N + 40) H dr ∧ ∀ H', Dr cl N H' dr → But dr H H' → Q (.bl true) H'
theorem ok_equals (C0 : Cal P w K mg base 2 "_law_pick" sp_pick) (C1 : Cal P w K mg base 4 "_law_listed" (sp_listed 4)) (C2 : Cal P w K mg base 3 "_law_words" sp_words5) (C3 : Cal P w K mg base 5 "_law_handed" sp_handed) (C4 : Cal P w K mg base 5 "_law_same" (sp_same 5))
    (F1 : FnT P w K mg base 14 (He.fAd K ("Drill", some "__init__")) (sp_init (K := K))) (F2 : FnT P w K mg base 1 (He.fAd K ("Drill", some "__eq__")) (sp_eq (K := K))) (F : FD K "_law_equals" "_law_equals" s_l_equals [] (He.ga K "_law_equals")) : FnT P w K mg base 16 (He.ga K "_law_equals") (sp_equals (K := K)) := by
  refine fnT_of (k := 15) F sc_l_equals (fun _ _ _ _ _ _ us hl => match us, hl with | [_, _, _, _], _ => rfl) (fun vs H Q E h => by obtain ⟨cl, N, dr, dl, ws, R, rows, as, m, rfl, _⟩ := h; rfl) fun cdv A outer s H vs Q E hr h => ⟨_, (tm_l_equals T (C_l_pick := C0) (h_l_pick := by decide) (C_l_listed := C1) (h_l_listed := by decide) (C_l_words := C2) (h_l_words := by decide) (C_l_handed := C3) (h_l_handed := by decide) (C_l_same := C4) (h_l_same := by decide) (F_Drill := F1) (h_Drill := by decide) (F_Drill_Xeq := F2) (h_Drill_Xeq := by decide) (hr := hr)).2, ?_⟩
  obtain ⟨cl, N, dr, dl, ws, R, rows, as, m, rfl, hD, hA, ndr, hok, hdr, q⟩ := h
  obtain ⟨w1, w2, w3, w4⟩ := words_inv hD.w
  have hml := hok.l
  have hl6 := hD.l
  have h1000 := hok.le w4
  have hR := hA.r
  obtain ⟨yd, hyd⟩ := hdr.lst
  obtain ⟨yc, hyc⟩ := hdr.cls
  have keepA : ∀ {G : Hp}, But dr H G → RowsA G R rows as := fun b => hA.keep fun a m o e => b _ _ (fun q => ndr (q ▸ m)) e
  have keepD : ∀ {G : Hp}, But dr H G → Drl (He.ga K "Drill") G dl ws rows := fun b => hD.butO b hyd
  have hdp4 : (Dat.lst (rows.map Row.lD)).dp < 4 := by have := lDs_dp rows; simp only [Dat.dp]; omega
  unfold tm_l_equals
  walk_at "rx"
  refine ⟨_, _, _, rfl, hA.df (by omega) h1000, hdp4, fun vo fo H1 s1 hvo hfo hndo => ?_⟩
  simp only [Dat.listD, lDs_lst] at hvo
  obtain ⟨Ro, aso, rfl, rfl, hAo⟩ := df_rowsA hvo
  have hRo := hAo.r
  have hR1 := s1 _ _ hR
  walk_at "rx"
  rw [List.length_map, hA.l, hml]
  refine ⟨cl, N + 39, dr, _, rfl, (hdr.same s1).le (by omega), by omega, fun k H2 d2 b2 k0 k1 => ?_⟩
  obtain ⟨k, rfl⟩ : ∃ j : Nat, k = j := ⟨k.toNat, by omega⟩
  have kl : k < m := by have := k1 (by omega); omega
  have b02 := (But.of s1).trans b2
  have ndo : dr ∉ Ro :: adr aso := fun mm => by have := hfo dr mm; rw [hyd] at this; cases this
  have nco : cl ∉ Ro :: adr aso := fun mm => by have := hfo cl mm; rw [hyc] at this; cases this
  have hAo2 : RowsA H2 Ro rows aso := hAo.keep fun a mm o e => b2 _ _ (fun q => ndo (q ▸ mm)) e
  have hA2 := keepA b02
  have hR2 := hA2.r
  have hRo2 := hAo2.r
  obtain ⟨p, hp, hp0, hp1, hp2⟩ := hA2.at (i := k) (by omega)
  obtain ⟨po, hpo, hpo0, hpo1, hpo2⟩ := hAo2.at (i := k) (by omega)
  have mpo := adr_mem hpo
  have okk := hok.r _ (getD_mem' (l := rows) (i := k) (d := r0) (by omega))
  walk_at "rd"
  refine r_ixL hR2 (atI_at hp0) ?_
  walk_at "rd"
  refine r_ixL hp1 (v := .int (rows.getD k r0).b) rfl ?_
  walk_at "rd"
  refine r_I (by omega) ?_
  walk_at "rd"
  refine r_ixL hRo2 (atI_at hpo0) ?_
  walk_at "rd"
  refine r_setL hpo1 (n := 1) rfl ?_
  have hA3 := hAo2.setR hndo hpo (rows.getD k r0).s (1 + (rows.getD k r0).b % 12)
  have pfr := hfo _ (List.mem_cons_of_mem _ mpo.1)
  have hpd : po.1 ≠ dr := fun e => ndo (e ▸ List.mem_cons_of_mem _ mpo.1)
  have hpc : po.1 ≠ cl := fun e => nco (e ▸ List.mem_cons_of_mem _ mpo.1)
  obtain ⟨H3, eH3⟩ : ∃ G, G = upd H2 po.1 (.lst [V.int (rows.getD k r0).s, .int (1 + (rows.getD k r0).b % 12), .ref po.2]) := ⟨_, rfl⟩
  have d3 : Dr cl (N + 39) H3 dr := by rw [eH3]; exact d2.upd hpd hpc
  have b03 : But dr H H3 := by rw [eH3]; exact but_updD b02 pfr
  rw [← eH3] at hA3
  refine sfE eH3.symm ?_
  generalize hrows3 : rows.set k ⟨(rows.getD k r0).s, 1 + (rows.getD k r0).b % 12, (rows.getD k r0).n⟩ = rows3 at hA3
  have g3 : rows3.getD k r0 = ⟨(rows.getD k r0).s, 1 + (rows.getD k r0).b % 12, (rows.getD k r0).n⟩ := by rw [← hrows3, getD_set (by omega), if_pos rfl]
  have ne3 : rows ≠ rows3 := fun e => by
    have h1 := congrArg (fun l : List Row => (l.getD k r0).b) e
    simp only [g3] at h1
    have := okk.b
    omega
  have hb3 : 1 ≤ 1 + (rows.getD k r0).b % 12 ∧ 1 + (rows.getD k r0).b % 12 ≤ 12 := by omega
  have ok3 : RowsOk rows3 (cp ws).length m := by
    refine ⟨by rw [← hrows3, List.length_set]; exact hml, by rw [← hrows3]; exact all_set hok.r ⟨okk.s, hb3, okk.l, okk.n⟩, ?_⟩
    · rw [← hrows3, getD_set (by omega)]
      by_cases e : 0 = k
      · rw [if_pos e]
        subst e
        exact hok.z
      · rw [if_neg e]; exact hok.z
  have sz : ws.length ≤ sizeLine := len1000 (by omega)
  walk_at "rd"
  refine r_lenS sz ?_
  rw [len_cp]
  walk_at "rd"
  refine ⟨cl, N + 10, dr, _, rfl, by omega, d3.le (by omega), fun ws2 H4 d4 b4 z1 z2 z3 => ?_⟩
  have b04 := b03.trans b4
  have hw2 : isWords (.str ws2) = true := by simp only [isWords, z1, z2, z3, Bool.true_and, Bool.and_eq_true, decide_eq_true_eq]; omega
  have hA4 : RowsA H4 Ro rows3 aso := hA3.keep fun a mm o e => b4 _ _ (fun q => ndo (q ▸ mm)) e
  walk_at "rd"
  refine ⟨cl, N, dr, R, rows, as, rfl, keepA b04, ndr, by omega, fun r hr => by have := (hok.r r hr).l; omega, d4.le (by omega), fun vh dh fh H5 d5 b5 hvh hfh hnh ht hl hdh => ?_⟩
  have b05 := b04.trans b5
  walk_at "rd"
  refine mk_ok hD.w hvh ht (badSt_ok hok (by omega)) (by omega) fun x H6 s6 nx hDx => ?_
  have b06 := b05.trans (But.of s6)
  have d6 := d5.same s6
  walk_at "rd"
  refine eq_drl T.o_Drill T3 (keepD b06) hDx ?_
  rw [decide_eq_true rfl, decide_eq_true rfl]
  walk_at "rd"
  refine ⟨.bl true, _, [], _, [], rfl, by simp [DF], by simp [DF], by simp [Dat.dp], fun H7 s7 => ?_⟩
  have b07 := b06.trans (But.of s7)
  have d7 := d6.same s7
  have hA7 : RowsA H7 Ro rows3 aso := hA4.keep fun a mm o e => s7 _ _ (s6 _ _ (b5 _ _ (fun q => ndo (q ▸ mm)) e))
  walk_at "rd"
  refine mk_ok (rows := rows3) hD.w (hA7.df (by have := ok3.l; omega) (ok3.le w4)) (by simp only [Dat.tupD, lDs_tup]) (badSt_ok ok3 (by omega)) (by have := lDs_dp rows3; simp only [Dat.dp]; omega) fun x8 H8 s8 nx8 hDx8 => ?_
  have b08 := b07.trans (But.of s8)
  walk_at "rd"
  refine eq_drl T.o_Drill T3 (keepD b08) hDx8 ?_
  rw [decide_eq_true rfl, decide_eq_false ne3]
  walk_at "rd"
  refine ⟨.bl false, _, [], _, [], rfl, by simp [DF], by simp [DF], by simp [Dat.dp], fun H9 s9 => ?_⟩
  have b09 := b08.trans (But.of s9)
  have ok2 : RowsOk rows (cp ws2).length m := by rw [z3]; exact hok
  walk_at "rd"
  refine mk_ok (rows := rows) hw2 ((keepA b09).df (by omega) h1000) (by simp only [Dat.tupD, lDs_tup]) (badSt_ok ok2 (by omega)) (by omega) fun x10 H10 s10 nx10 hDx10 => ?_
  have b010 := b09.trans (But.of s10)
  walk_at "rd"
  refine eq_drl T.o_Drill T3 (keepD b010) hDx10 ?_
  rw [decide_eq_true rfl, Bool.and_true]
  walk_at "rd"
  have ec : decide (ws = ws2) = decide (ws2 = ws) := by rw [Bool.eq_iff_iff]; simp [eq_comm]
  rw [ec]
  refine ⟨.bl (decide (ws2 = ws)), _, [], _, [], rfl, by simp [DF], by simp [DF], by simp [Dat.dp], fun H11 s11 => ?_⟩
  have b011 := b010.trans (But.of s11)
  walk_at "rd"
  refine eq_lst T3 (keepD b011) (keepA b011).r ?_
  walk_at "rd"
  refine ⟨.bl false, _, [], _, [], rfl, by simp [DF], by simp [DF], by simp [Dat.dp], fun H12 s12 => ?_⟩
  have b012 := b011.trans (But.of s12)
  walk_at "rd"
  refine eq_int T3 (keepD b012) ?_
  walk_at "rd"
  refine ⟨.bl false, _, [], _, [], rfl, by simp [DF], by simp [DF], by simp [Dat.dp], fun H13 s13 => ?_⟩
  exact q H13 ((((((d7.same s8).same s9).same s10).same s11).same s12).same s13) (b012.trans (But.of s13))
end
end K
set_option Elab.async false
set_option linter.all false
set_option maxRecDepth 100000
set_option maxHeartbeats 2000000
namespace K
open PySem PySem.Spec PyProof.Rows L2 TH
local macro_rules | `(tactic| walk_at "rd1") => `(tactic| with_reducible (first
  | refine r_seq ?_ | refine r_if ?_ | refine r_ret ?_ | refine r_next ?_ | refine r_asg ?_ | refine r_drop ?_ | refine r_gname ?_ | refine r_retN ?_
  | refine r_var rfl ?_ | refine r_c ?_ | refine r_op ?_ | refine r_un ?_ | refine r_test ?_ | refine r_tB ?_ | refine r_bl ?_ | refine r_and ?_ | refine r_or ?_ | refine r_not ?_
  | refine r_andV ?_ | refine r_orV ?_ | refine r_notV ?_ | refine r_bb ?_ | refine r_ifE ?_ | refine r_gsub ?_ | refine r_nil ?_ | refine r_cons ?_ | refine r_cb ?_ | refine r_cl ?_ | refine r_clS ?_
  | refine r_part ?_ | refine r_nopart ?_ | refine r_int ?_ | refine r_sl ?_ | refine r_chain ?_ | refine r_I0 ?_ | refine r_U ?_ | refine r_eqI ?_ | refine r_neI ?_ | refine r_eqS ?_ | refine r_eqB ?_ | refine r_neB ?_ | refine r_int1 ?_ | refine r_abs1 ?_
  | refine iteT ?_ | refine iteF ?_ | refine r_isF rfl ?_ | refine r_isD (by assumption) (by decide) ?_ | refine r_brk ?_ | refine r_ct ?_ | refine r_ltS ?_ | refine r_leS ?_ | refine r_aug rfl ?_ | refine r_lc ?_ | refine r_meth ?_ | refine r_callO ?_ | refine r_make ?_ | refine r_methT ?_ | refine r_callT ?_ | refine r_ixT' ?_ | refine r_mkS ?_ | refine r_pr ?_ | refine r_sfld ?_ | refine r_fld ?_ | refine r_dnew ?_ | refine r_dput ?_ | refine r_dget ?_ | refine r_bm ?_ | refine r_rs ?_ | refine r_notInS ?_ | refine r_inS ?_ | refine r_isN ?_ | refine r_notN ?_ | refine r_for ?_ | refine r_rg1 ?_ | refine r_m1 ?_ | refine r_m0 ?_ | refine r_isS ?_ | refine r_rg2 ?_ | refine r_ipI ?_))
local macro_rules | `(tactic| walk_at "rd") => `(tactic| repeat (first | walk_at "rd1" | ((with_reducible apply r_var); (focus exact rfl)) | (with_reducible refine r_tup ?_) | (with_reducible refine r_lst ?_) | ((with_reducible refine r_ln ?_ ?_); focus (simp; done)) | ((with_reducible refine iteT' ?_ ?_); focus (simp [isB, Dat.ty, tyN]; done)) | ((with_reducible refine iteF' ?_ ?_); focus (simp [isB, Dat.ty, tyN]; done))))
local macro_rules | `(tactic| walk_at "hf") => `(tactic| first
  | assumption
  | exact upd_same
  | (refine keep1 ?_ (by assumption); walk_at "hf")
  | (refine keep2 (by assumption) ?_; walk_at "hf")
  | (refine (show Same _ _ by assumption) _ _ ?_; walk_at "hf")
  | (refine (show But _ _ _ by assumption) _ _ (by assumption) ?_; walk_at "hf"))
local macro_rules | `(tactic| walk_at "rx") => `(tactic| repeat (first | walk_at "rd1" | ((with_reducible apply r_ixL); (focus assumption); (focus exact rfl)) | ((with_reducible apply r_ixT); (focus assumption); (focus exact rfl)) | ((with_reducible apply r_lenL); (focus assumption)) | ((with_reducible apply r_lenT); (focus assumption)) | ((with_reducible apply r_var); (focus exact rfl)) | (with_reducible refine r_tup ?_) | (with_reducible refine r_lst ?_) | ((with_reducible refine r_ln ?_ ?_); focus (simp; done)) | ((with_reducible refine iteT' ?_ ?_); focus (simp [isB, Dat.ty, tyN]; done)) | ((with_reducible refine iteF' ?_ ?_); focus (simp [isB, Dat.ty, tyN]; done))))
local macro_rules | `(tactic| walk_at "rz") => `(tactic| repeat ((fail_if_success (with_reducible show tFor _ _ _ _ _ _)); (first | walk_at "rd1" | ((with_reducible apply r_ixL); (focus assumption); (focus exact rfl)) | ((with_reducible apply r_ixT); (focus assumption); (focus exact rfl)) | ((with_reducible apply r_lenL); (focus assumption)) | ((with_reducible apply r_lenT); (focus assumption)) | ((with_reducible apply r_var); (focus exact rfl)) | (with_reducible refine r_tup ?_) | (with_reducible refine r_lst ?_) | ((with_reducible refine r_ln ?_ ?_); focus (simp; done)) | ((with_reducible refine iteT' ?_ ?_); focus (simp [isB, Dat.ty, tyN]; done)) | ((with_reducible refine iteF' ?_ ?_); focus (simp [isB, Dat.ty, tyN]; done)))))
/-- a world: its drill at dl, its tuple at w; its lists keep off av -/
structure Wd (C : Addr) (H : Hp) (av : List Addr) (dl w : Addr) (ws : Str) (rows : List Row) : Prop where
  h : ∃ R as m, H w = some (.tup [.str ws, .ref R]) ∧ RowsA H R rows as ∧ (∀ a ∈ av, a ∉ R :: adr as) ∧ RowsOk rows (cp ws).length m ∧ 1 ≤ m ∧ m ≤ 6
  d : Drl C H dl ws rows
theorem Drl.off {C : Addr} {H H' : Hp} {a : Addr} {ws : Str} {rows : List Row} (h : Drl C H a ws rows) (s : ∀ b o, (∀ ys, o ≠ .lst ys) → H b = some o → H' b = some o) : Drl C H' a ws rows := by
  obtain ⟨⟨dx, ts, tr, tb, tl, sg, xs, ls, h1, h2, h3, h4, h5, h6, h7, h8⟩, hw, hl, hr⟩ := h
  refine ⟨⟨dx, ts, tr, tb, tl, sg, xs, ls, s _ _ (fun _ => nofun) h1, h2, s _ _ (fun _ => nofun) h3, DFs.frame (fun c zs e => s _ _ (fun _ => nofun) e) (fun c m => by cases m) h4, s _ _ (fun _ => nofun) h5, s _ _ (fun _ => nofun) h6, h7, fun j x hx => ?_⟩, hw, hl, hr⟩
  obtain ⟨d, kvs, e, k1, k2⟩ := h8 j x hx
  exact ⟨d, kvs, e, s _ _ (fun _ => nofun) k1, k2⟩
/-- it stands where what is no list stands, and its own lists -/
theorem Wd.at {C : Addr} {H H' : Hp} {av : List Addr} {dl w : Addr} {ws : Str} {rows : List Row} (h : Wd C H av dl w ws rows) (s : ∀ b o, (∀ ys, o ≠ .lst ys) → H b = some o → H' b = some o) (sl : ∀ b o, b ∉ av → (∃ ys, o = .lst ys) → H b = some o → H' b = some o) : Wd C H' av dl w ws rows := by
  obtain ⟨⟨R, as, m, h1, h2, h3, h4, h5⟩, hd⟩ := h
  refine ⟨⟨R, as, m, s _ _ (fun _ => nofun) h1, ?_, h3, h4, h5⟩, hd.off s⟩
  refine h2.keep fun a mm o e => ?_
  have na : a ∉ av := fun q => h3 a q mm
  by_cases hl : ∃ ys, o = .lst ys
  · exact sl a o na hl e
  · exact s a o (fun ys q => hl ⟨ys, q⟩) e
theorem Wd.same {C : Addr} {H H' : Hp} {av : List Addr} {dl w : Addr} {ws : Str} {rows : List Row} (h : Wd C H av dl w ws rows) (s : Same H H') : Wd C H' av dl w ws rows := h.at (fun b o _ e => s b o e) fun b o _ _ e => s b o e
theorem Wd.but {C : Addr} {H H' : Hp} {av : List Addr} {dl w dr : Addr} {ws : Str} {rows : List Row} {ys : List V} (h : Wd C H av dl w ws rows) (s : But dr H H') (hd : H dr = some (.lst ys)) (m : dr ∈ av) : Wd C H' av dl w ws rows :=
  h.at (fun b o n e => s b o (fun q => by subst q; rw [hd] at e; cases e; exact n _ rfl) e) fun b o n _ e => s b o (fun q => n (q ▸ m)) e
theorem r_gnest {σ : L2.St} {H : Hp} {K : PySem.W.Frag} {n n2 i j k : Nat} {T w : Addr} {dl x y : V} {Qs : L2.St → Hp → Prop} (h1 : H T = some (.tup [dl, .ref w])) (h2 : H w = some (.tup [x, y])) (hn : n = 2) (hn2 : n2 = 2) (q : Qs (((σ.set i (some dl)).set j (some x)).set k (some y)) H) :
    gTup K n (gCons (gName i) (gCons (gTup K n2 (gCons (gName j) (gCons (gName k) gNil))) gNil)) (.ref T) σ H Qs :=
  ⟨T, [dl, .ref w], rfl, .inl (.inl h1), hn.symm ▸ rfl, dl, [.ref w], rfl, .ref w, [], rfl, w, [x, y], rfl, .inl (.inl h2), hn2.symm ▸ rfl, x, [y], rfl, y, [], rfl, rfl, rfl, q⟩
/-- a for over the drills and the worlds -/
theorem forZ {K : PySem.W.Frag} {H0 H : Hp} {σ : L2.St} {tb : TS} {De : Ends} {D W dr cl : Addr} {C : Addr} {c N n1 n2 : Nat} {l : List (Addr × Addr × Str × List Row)} {scv x9 : Option V}
    (hD : H0 D = some (.lst (l.map fun q => V.ref q.1))) (hW : H0 W = some (.lst (l.map fun q => V.ref q.2.1))) (Dd : D ≠ dr) (Wd' : W ≠ dr) (hdr : ∃ ys, H0 dr = some (.lst ys)) (hn1 : n1 = 2) (hn2 : n2 = 2)
    (wd : ∀ q ∈ l, Wd C H0 [dr, W, D] q.1 q.2.1 q.2.2.1 q.2.2.2)
    (h0 : Dr cl (N + c * l.length) H dr) (b0 : But dr H0 H) (hσ : ∃ x4 x5 x6 x7 x8, σ = [scv, some (.ref dr), some (.ref W), some (.ref D), x4, x5, x6, x7, x8, x9])
    (hs : ∀ (dl w R : Addr) (ws : Str) (rows : List Row) (as : List (Addr × Addr)) (m M : Nat) (x4 x7 : Option V) (H' : Hp), Drl C H' dl ws rows → RowsA H' R rows as → dr ∉ R :: adr as → RowsOk rows (cp ws).length m → 1 ≤ m → m ≤ 6 → Dr cl (M + c) H' dr → But dr H0 H' →
      ∀ nx : L2.St → Hp → Prop, (∀ x4 x5 x6 x7 x8 H'', Dr cl M H'' dr → But dr H0 H'' → nx [scv, some (.ref dr), some (.ref W), some (.ref D), x4, x5, x6, x7, x8, x9] H'') →
        tb { De with nx := nx, ct := nx, bk := De.nx } [scv, some (.ref dr), some (.ref W), some (.ref D), x4, some (.str ws), some (.ref R), x7, some (.ref dl), x9] H')
    (hd : ∀ x4 x5 x6 x7 x8 H', Dr cl N H' dr → But dr H0 H' → De.nx [scv, some (.ref dr), some (.ref W), some (.ref D), x4, x5, x6, x7, x8, x9] H') :
    tFor (iZipG K (tCons (tVar 3) (tCons (tVar 2) tNil))) (gTup K n1 (gCons (gName 8) (gCons (gTup K n2 (gCons (gName 5) (gCons (gName 6) gNil))) gNil))) tb De σ H := by
  obtain ⟨x4, x5, x6, x7, x8, rfl⟩ := hσ
  obtain ⟨yd, hyd⟩ := hdr
  refine r_for (r_zipG (a := .lst D) (b := .lst W) (xs := l.map fun q => V.ref q.1) (ys := l.map fun q => V.ref q.2.1) (H' := H) (fun Q' q => r_cons (r_var rfl (r_cons (r_var rfl (r_nil q))))) (.inl (.inl (b0 _ _ Dd hD))) (.inl (.inl (b0 _ _ Wd' hW))) ?_)
  have wz := walk_zipG (K := K) (a := .lst D) (b := .lst W) (xs := l.map fun q => V.ref q.1) (ys := l.map fun q => V.ref q.2.1)
  rw [List.length_map, List.length_map, Nat.min_self] at wz
  refine for_it wz (fun i σ H' => Dr cl (N + c * (l.length - i)) H' dr ∧ But dr H0 H' ∧ ∃ x4 x5 x6 x7 x8, σ = [scv, some (.ref dr), some (.ref W), some (.ref D), x4, x5, x6, x7, x8, x9]) ⟨h0, b0, _, _, _, _, _, rfl⟩ (fun i σ H' _ hF => ⟨.inl (.inl (hF.2.1 _ _ Dd hD)), .inl (.inl (hF.2.1 _ _ Wd' hW))⟩) (fun i v σ H1 H2 hi hF y => ?_) fun σ H1 hF => ?_
  · obtain ⟨d1, b1, x4, x5, x6, x7, x8, rfl⟩ := hF
    obtain ⟨T, x, y, rfl, nT, rfl, e1, e2⟩ := y
    have eq : l[i]? = some l[i] := by simp [hi]
    have e1' : (l.map fun q => V.ref q.1)[i]? = some x := e1
    have e2' : (l.map fun q => V.ref q.2.1)[i]? = some y := e2
    rw [List.getElem?_map, eq] at e1' e2'
    cases e1'
    cases e2'
    have s1 := same_new nT (o := .tup [V.ref l[i].1, V.ref l[i].2.1])
    have b2 := b1.trans (But.of s1)
    obtain ⟨⟨R, as, m, h1, h2, h3, h4, h5⟩, hd'⟩ := (wd _ (List.getElem_mem hi)).but b2 hyd (by simp)
    refine r_gnest upd_same h1 hn1 hn2 ?_
    have e : N + c * (l.length - i) = (N + c * (l.length - (i + 1))) + c := by
      rw [show l.length - i = (l.length - (i + 1)) + 1 by omega, Nat.mul_add, Nat.mul_one]; omega
    rw [e] at d1
    exact hs l[i].1 l[i].2.1 R l[i].2.2.1 l[i].2.2.2 as m _ x4 x7 _ hd' h2 (h3 dr (by simp)) h4 h5.1 h5.2 (d1.same s1) b2 _ fun x4 x5 x6 x7 x8 H'' hd2 hb2 => ⟨hd2, hb2, _, _, _, _, _, rfl⟩
  · obtain ⟨d1, b1, x4, x5, x6, x7, x8, rfl⟩ := hF
    rw [Nat.sub_self, Nat.mul_zero, Nat.add_zero] at d1
    exact hd _ _ _ _ _ _ d1 b1
theorem world_data {K : PySem.W.Frag} {C : Addr} {H : Hp} {av : List Addr} {dl w : Addr} {ws : Str} {rows : List Row} (h : Wd C H av dl w ws rows) : Dp K H (.ref w) (.tuple [.str ws, .list (pysOf (rows.map Row.lD))]) ∧ SeqAt.shaped (.tuple [.str ws, .list (pysOf (rows.map Row.lD))]) = true := by
  obtain ⟨⟨R, as, m, h1, h2, h3, h4, h5⟩, hd⟩ := h
  obtain ⟨w1, w2, w3, w4⟩ := words_inv hd.w
  refine ⟨dp_of (df_pair (d1 := .str ws) (d2 := .lst (rows.map Row.lD)) h1 (df_str _) (h2.df (by have := h4.l; omega) (h4.le w4))), ?_⟩
  have hs : PyData.strOk ws = true := by
    unfold PyData.strOk
    rw [← Array.all_toList]
    simp only [List.all_eq_true, decide_eq_true_eq]
    exact fun c m => by have := small_mem w1 c m; omega
  unfold SeqAt.shaped
  have := dep_lDs rows
  simp only [PyData.canLay0, PyData.canLayAll0, hs, lay_lDs, PyData.depth, PyData.depthAll, Bool.and_true, Bool.true_and, decide_eq_true_eq]
  have hx : ∀ dd : Nat, dd ≤ 2 → max 0 (max (dd + 1) 0) + 1 ≤ 64 := fun dd h => by rw [Nat.zero_max, Nat.max_zero]; omega
  exact decide_eq_true (hx _ this)
theorem world_eqv (ws ws2 : Str) (rows rows2 : List Row) : PyData.eqv (.tuple [.str ws, .list (pysOf (rows.map Row.lD))]) (.tuple [.str ws2, .list (pysOf (rows2.map Row.lD))]) = (decide (ws = ws2) && decide (rows = rows2)) := by
  simp only [PyData.eqv, PyData.eqvAll, eqv_lDs, Bool.and_true]
  congr 1
section
variable {P : Program} {w : World} {K : PySem.W.Frag} {mg : Str → Option Value} {base : Heap} (T : Txt K mg)
include T
def sp_law : Sp := fun vs H Q _ => ∃ (sc : Addr) (zs : List Int), vs = [.ref sc] ∧ SqL K H sc (zs.map V.int) ∧ zs.length ≤ 63 ∧ (∀ z ∈ zs, z.natAbs.log2 < 2 ^ 21) ∧ ∀ H', Q (.bl true) H'
theorem ok_law (C0 : Cal P w K mg base 1 "_law_draw" (sp_draw (K := K))) (C1 : Cal P w K mg base 2 "_law_pick" sp_pick) (C2 : Cal P w K mg base 3 "_law_words" sp_words5) (C3 : Cal P w K mg base 3 "_law_rows" sp_rows) (C4 : Cal P w K mg base 5 "_law_handed" sp_handed) (C5 : Cal P w K mg base 5 "_law_same" (sp_same 5)) (C6 : Cal P w K mg base 4 "_law_listed" (sp_listed 4))
    (C7 : Cal P w K mg base 4 "_law_spoil" (sp_spoil 4)) (C8 : Cal P w K mg base 3 "_law_calling" sp_calling) (C9 : Cal P w K mg base 5 "_law_walks" (sp_walks (K := K))) (C10 : Cal P w K mg base 4 "_law_tupled" (sp_tupled 4)) (C11 : Cal P w K mg base 5 "_law_shown" (sp_shown (K := K))) (C12 : Cal P w K mg base 16 "_law_equals" (sp_equals (K := K))) (C13 : Cal P w K mg base 17 "_law_refused" (sp_refused (K := K)))
    (F1 : FnT P w K mg base 14 (He.fAd K ("Drill", some "__init__")) (sp_init (K := K))) (F2 : FnT P w K mg base 1 (He.fAd K ("Drill", some "__eq__")) (sp_eq (K := K))) (T3 : Txt3 K) {fd : FuncData} (F : FunD K "law" "law" (defArgs s_law) (defBody s_law) (defScope s_law) [] [] (He.ga K "law") fd) : FnOk P w K mg base (L2N.CX P w) 18 (He.ga K "law") fd P_law (sp_law (K := K)) := by
  refine FunD.ok (k := 17) F sc_law (fun vs H Q E h => by obtain ⟨sc, zs, rfl, _⟩ := h; rfl) fun cdv A outer s H vs Q E hr h => ⟨_, (tm_law T (C_l_draw := C0) (h_l_draw := by decide) (C_l_pick := C1) (h_l_pick := by decide) (C_l_words := C2) (h_l_words := by decide) (C_l_rows := C3) (h_l_rows := by decide) (C_l_handed := C4) (h_l_handed := by decide) (C_l_same := C5) (h_l_same := by decide) (C_l_listed := C6) (h_l_listed := by decide) (C_l_spoil := C7) (h_l_spoil := by decide) (C_l_calling := C8) (h_l_calling := by decide) (C_l_walks := C9) (h_l_walks := by decide) (C_l_tupled := C10) (h_l_tupled := by decide) (C_l_shown := C11) (h_l_shown := by decide) (C_l_equals := C12) (h_l_equals := by decide) (C_l_refused := C13) (h_l_refused := by decide) (F_Drill := F1) (h_Drill := by decide) (F_Drill_Xeq := F2) (h_Drill_Xeq := by decide) (hr := hr)).2, ?_⟩
  obtain ⟨sc, zs, rfl, hsc, hzl, hz, q⟩ := h
  unfold tm_law
  walk_at "rx"
  refine ⟨sc, zs, rfl, hsc, hzl, hz, fun dr cl H1 s1 ndr ncl d1 => ?_⟩
  walk_at "rx"
  intro W nW
  have s2 := same_new nW (o := .lst [])
  walk_at "rx"
  intro D nD
  have s3 := same_upd s2 nD (o := .lst [])
  obtain ⟨yd, hyd⟩ := d1.lst
  obtain ⟨yc, hyc⟩ := d1.cls
  have Wdr : W ≠ dr := ne_of_none' hyd nW
  have Wcl : W ≠ cl := ne_of_none' hyc nW
  have Ddr : D ≠ dr := ne_of_none' (s2 _ _ hyd) nD
  have Dcl : D ≠ cl := ne_of_none' (s2 _ _ hyc) nD
  have DW : D ≠ W := ne_of_none' (upd_same (H := H1) (a := W) (o := .lst [])) nD
  refine ⟨_, rfl, by omega, by omega, ?_⟩
  refine forG (W := tNext) (walk_rangeS (lo := 0) (n := Int.toNat 2)) (fun i σ H' => Dr cl (2 ^ 58 - 200 * i) H' dr ∧ (∃ l : List (Addr × Addr × Str × List Row), H' D = some (.lst (l.map fun q => V.ref q.1)) ∧ H' W = some (.lst (l.map fun q => V.ref q.2.1)) ∧ l.length = i ∧ ∀ q ∈ l, Wd (He.ga K "Drill") H' [dr, W, D] q.1 q.2.1 q.2.2.1 q.2.2.2) ∧ ∃ x4 x5 x6 x7, σ = [some (.ref sc), some (.ref dr), some (.ref W), some (.ref D), x4, x5, x6, x7, none, none])
    ⟨(d1.same s3).le (by omega), ⟨[], upd_same, keep1 upd_same nD, rfl, fun q m => by cases m⟩, _, _, _, _, rfl⟩ (fun _ _ _ _ => trivial) (fun i x σ H2 hi hx hF => ?_) fun σ H2 hF => ?_
  · obtain ⟨d2, ⟨l, hD2, hW2, hll, hwd⟩, x4, x5, x6, x7, rfl⟩ := hF
    have hi2 : i < 2 := by simpa using hi
    walk_at "rx"
    refine ⟨cl, 2 ^ 58 - 200 * i - 1, dr, _, rfl, d2.le (by omega), by omega, fun a H3 d3 b3 a0 a1 => ?_⟩
    obtain ⟨a, rfl⟩ : ∃ k : Nat, a = k := ⟨a.toNat, by omega⟩
    have al := a1 (by omega)
    have avst : ∀ {G : Hp}, But dr H2 G → G D = some (.lst (l.map fun q => V.ref q.1)) ∧ G W = some (.lst (l.map fun q => V.ref q.2.1)) := fun b => ⟨b _ _ Ddr hD2, b _ _ Wdr hW2⟩
    obtain ⟨yd2, hyd2⟩ := d2.lst
    obtain ⟨yc2, hyc2⟩ := d2.cls
    walk_at "rx"
    refine ⟨cl, 2 ^ 58 - 200 * i - 30, dr, 1 + a, (by rw [Int.natCast_add]; rfl), by omega, d3.le (by omega), fun ws H4 d4 b4 z1 z2 z3 => ?_⟩
    have b24 := b3.trans b4
    have hw : isWords (.str ws) = true := by simp only [isWords, z1, z2, z3, Bool.true_and, Bool.and_eq_true, decide_eq_true_eq]; omega
    walk_at "rx"
    refine ⟨cl, 2 ^ 58 - 200 * i - 31, dr, _, rfl, d4.le (by omega), by omega, fun b H5 d5 b5 e0 e1 => ?_⟩
    obtain ⟨b, rfl⟩ : ∃ k : Nat, b = k := ⟨b.toNat, by omega⟩
    have bl := e1 (by omega)
    have b25 := b24.trans b5
    walk_at "rx"
    refine ⟨cl, 2 ^ 58 - 200 * i - 100, dr, ws, 1 + b, (by rw [Int.natCast_add]; rfl), by omega, by omega, by omega, d5.le (by omega), fun R as rows H6 d6 b6 hA hfr hnd hok => ?_⟩
    have b26 := b25.trans b6
    have fr5 : ∀ {x : Addr}, H5 x = none → H2 x = none := fun n => bfree b25 (let ⟨y, hy⟩ := d5.lst; ⟨_, hy⟩) n
    have ndr' : dr ∉ R :: adr as := fun m => by have := fr5 (hfr dr m); rw [hyd2] at this; cases this
    have ncl' : cl ∉ R :: adr as := fun m => by have := fr5 (hfr cl m); rw [hyc2] at this; cases this
    have nW' : W ∉ R :: adr as := fun m => by have := fr5 (hfr W m); rw [hW2] at this; cases this
    have nD' : D ∉ R :: adr as := fun m => by have := fr5 (hfr D m); rw [hD2] at this; cases this
    walk_at "rx"
    refine ⟨cl, 2 ^ 58 - 200 * i - 101, dr, R, rows, as, rfl, hA, ndr', by have := hok.l; omega, fun r hr => by have := (hok.r r hr).l; omega, d6.le (by omega), fun vh dh fh H7 d7 b7 hvh hfh hnh ht hlD hdh => ?_⟩
    have b27 := b26.trans b7
    have hA7 : RowsA H7 R rows as := hA.keep fun a m o e => b7 _ _ (fun q => ndr' (q ▸ m)) e
    have fr6 : ∀ {x : Addr}, H6 x = none → H2 x = none := fun n => bfree b26 (let ⟨y, hy⟩ := d6.lst; ⟨_, hy⟩) n
    obtain ⟨hD7, hW7⟩ := avst b27
    walk_at "rx"
    refine tyL hD7 ?_
    walk_at "rx"
    refine mk_ok hw hvh ht (badSt_ok hok (by omega)) (by omega) fun x H8 s8 nx hDx => ?_
    have hD8 := s8 _ _ hD7
    walk_at "rx"
    refine r_app hD8 (by rw [List.length_map]; omega) ?_
    have hvh8 := hvh.same s8
    have Dfh : D ∉ fh := fun m => by have := fr6 (hfh D m); rw [hD2] at this; cases this
    have Wfh : W ∉ fh := fun m => by have := fr6 (hfh W m); rw [hW2] at this; cases this
    have drfh : dr ∉ fh := fun m => by have := fr6 (hfh dr m); rw [hyd2] at this; cases this
    have clfh : cl ∉ fh := fun m => by have := fr6 (hfh cl m); rw [hyc2] at this; cases this
    obtain ⟨H9, eH9⟩ : ∃ G, G = upd H8 D (.lst ((l.map fun q => V.ref q.1) ++ [V.ref x])) := ⟨_, rfl⟩
    have b9 : But D H8 H9 := by rw [eH9]; exact fun b o n e => keep2 n e
    have hD9 : H9 D = some (.lst ((l.map fun q => V.ref q.1) ++ [V.ref x])) := by rw [eH9]; exact upd_same
    have hvh9 := hvh8.but b9 hD8 Dfh
    have hA9 : RowsA H9 R rows as := hA7.keep fun a m o e => b9 _ _ (fun q => nD' (q ▸ m)) (s8 _ _ e)
    have hDx9 := hDx.butO b9 hD8
    have hW9 := b9 _ _ DW.symm (s8 _ _ hW7)
    have d9 : Dr cl (2 ^ 58 - 200 * i - 101) H9 dr := (d7.same s8).at (fun o e => b9 _ _ Ddr.symm e) (fun o e => b9 _ _ Dcl.symm e)
    have wd9 : ∀ q ∈ l, Wd (He.ga K "Drill") H9 [dr, W, D] q.1 q.2.1 q.2.2.1 q.2.2.2 := fun q m => (((hwd q m).but b27 hyd2 (by simp)).same s8).but b9 hD8 (by simp)
    refine sfE eH9.symm ?_
    walk_at "rx"
    refine ⟨dh, vh, fh, rfl, hvh9, by omega, fun vl fl H10 s10 hvl hfl hnl => ?_⟩
    rw [hlD] at hvl
    have hA10 : RowsA H10 R rows as := hA9.keep fun a m o e => s10 _ _ e
    have h1000 := hok.le (by omega)
    walk_at "rx"
    refine ⟨.lst (rows.map Row.lD), vl, fl, _, _, rfl, hvl, hA10.df (by have := hok.l; omega) h1000, by have := lDs_dp rows; simp only [Dat.dp]; omega, fun H11 s11 => ?_⟩
    have s911 := s10.trans s11
    have hvh11 := hvh9.same s911
    walk_at "rx"
    refine ⟨dh, vh, fh, rfl, hvh11, hnh, by omega, fun H12 k12 => ?_⟩
    have nl12 : ∀ b o, (∀ ys, o ≠ .lst ys) → H11 b = some o → H12 b = some o := fun b o n e => k12 b o (fun m => by obtain ⟨ys, hy⟩ := DF.lists hvh11 b m; rw [hy] at e; cases e; exact n _ rfl) e
    have hD12 := k12 _ _ Dfh (s911 _ _ hD9)
    have hW12 := k12 _ _ Wfh (s911 _ _ hW9)
    have d12 : Dr cl (2 ^ 58 - 200 * i - 101) H12 dr := (d9.same s911).at (fun o e => k12 _ _ drfh e) (fun o e => k12 _ _ clfh e)
    have afh : ∀ a ∈ R :: adr as, a ∉ fh := fun a m m' => by obtain ⟨o, ho⟩ := hA.stands a m; have := hfh a m'; rw [ho] at this; cases this
    have hA12 : RowsA H12 R rows as := hA9.keep fun a m o e => k12 _ _ (afh a m) (s911 _ _ e)
    have hDx12 := (hDx9.same s911).off nl12
    have tr : ∀ b o, b ≠ dr → b ≠ D → b ∉ fh → H2 b = some o → H12 b = some o := fun b o n1 n2 n3 e => k12 _ _ n3 (s911 _ _ (b9 _ _ n2 (s8 _ _ (b27 _ _ n1 e))))
    have wd12 : ∀ q ∈ l, Wd (He.ga K "Drill") H12 [dr, W, D] q.1 q.2.1 q.2.2.1 q.2.2.2 := fun q m => by
      obtain ⟨⟨R', as', m', h1, h2, h3, h4, h5⟩, hd⟩ := hwd q m
      have nl : ∀ b o, (∀ ys, o ≠ .lst ys) → H2 b = some o → H12 b = some o := fun b o n e => nl12 b o n (s911 _ _ (b9 _ _ (fun q => by subst q; rw [hD2] at e; cases e; exact n _ rfl) (s8 _ _ (b27 _ _ (fun q => by subst q; rw [hyd2] at e; cases e; exact n _ rfl) e))))
      refine ⟨⟨R', as', m', nl _ _ (fun _ => nofun) h1, h2.keep fun a mm o e => ?_, h3, h4, h5⟩, hd.off nl⟩
      have nd : a ≠ dr := fun q => h3 dr (by simp) (q ▸ mm)
      exact tr a o nd (fun q => h3 D (by simp) (q ▸ mm)) (fun m2 => by have := hfh a m2; rw [b26 _ _ nd e] at this; cases this) e
    walk_at "rx"
    refine tyL hW12 ?_
    walk_at "rx"
    intro t nt
    walk_at "rx"
    refine r_app (keep1 hW12 nt) (by rw [List.length_map]; omega) ?_
    have st := same_new nt (o := .tup [V.str ws, .ref R])
    have tW : t ≠ W := ne_of_none' hW12 nt
    obtain ⟨H13, eH13⟩ : ∃ G, G = upd (upd H12 t (.tup [V.str ws, .ref R])) W (.lst ((l.map fun q => V.ref q.2.1) ++ [V.ref t])) := ⟨_, rfl⟩
    have b13 : But W (upd H12 t (.tup [V.str ws, .ref R])) H13 := by rw [eH13]; exact fun b o n e => keep2 n e
    have hW13 : H13 W = some (.lst ((l.map fun q => V.ref q.2.1) ++ [V.ref t])) := by rw [eH13]; exact upd_same
    refine sfE eH13.symm ?_
    have hWt := keep1 (o := .tup [V.str ws, .ref R]) hW12 nt
    refine ⟨((d12.same st).at (fun o e => b13 _ _ Wdr.symm e) (fun o e => b13 _ _ Wcl.symm e)).le (by omega), ⟨l ++ [(x, t, ws, rows)], ?_, ?_, by rw [List.length_append, hll]; rfl, fun q m => ?_⟩, _, _, _, _, rfl⟩
    · rw [List.map_append]; exact b13 _ _ DW (st _ _ hD12)
    · rw [List.map_append]; exact hW13
    · rcases List.mem_append.mp m with e | e
      · exact ((wd12 q e).same st).but b13 hWt (by simp)
      · rw [List.mem_singleton.mp e]
        have nl13 : ∀ b o, (∀ ys, o ≠ .lst ys) → upd H12 t (.tup [V.str ws, .ref R]) b = some o → H13 b = some o := fun b o n e => b13 b o (fun q => by subst q; rw [hWt] at e; cases e; exact n _ rfl) e
        refine ⟨⟨R, as, 1 + b, b13 _ _ tW upd_same, hA12.keep fun a m o e => b13 _ _ (fun q => nW' (q ▸ m)) (st _ _ e), fun a ha => ?_, hok, by omega, by omega⟩, (hDx12.same st).off nl13⟩
        simp only [List.mem_cons, List.not_mem_nil, or_false] at ha
        rcases ha with rfl | rfl | rfl
        · exact ndr'
        · exact nW'
        · exact nD'
  · obtain ⟨d2, ⟨l, hD2, hW2, hll, hwd⟩, x4, x5, x6, x7, rfl⟩ := hF
    have hl2 : l.length = 2 := by rw [hll]; simp
    have d2' : Dr cl (2 ^ 57) H2 dr := d2.le (by simp)
    clear d2 hll
    obtain ⟨yd2, hyd2⟩ := d2'.lst
    walk_at "rx"
    refine ⟨_, rfl, by omega, by omega, ?_⟩
    refine forG (W := tNext) (walk_rangeS (lo := 0) (n := Int.toNat 3)) (fun i σ H' => Dr cl (2 ^ 56 + 200 * (3 - i)) H' dr ∧ But dr H2 H' ∧ ∃ x4 x5 x6 x7 x8, σ = [some (.ref sc), some (.ref dr), some (.ref W), some (.ref D), x4, x5, x6, x7, x8, none])
      ⟨d2'.le (by omega), But.refl _ _, _, _, _, _, _, rfl⟩ (fun _ _ _ _ => trivial) (fun i x σ H3 hi hx hF => ?_) fun σ H3 hF => ?_
    · obtain ⟨d3, b3, x4, x5, x6, x7, x8, rfl⟩ := hF
      have hi3 : i < 3 := by simpa using hi
      refine forZ (c := 50) (N := 2 ^ 56 + 200 * (3 - (i + 1))) hD2 hW2 Ddr Wdr ⟨_, hyd2⟩ rfl rfl hwd (d3.le (by omega)) b3 ⟨_, _, _, _, _, rfl⟩ (fun dl w R ws rows as m M x4 x7 H4 hDl hA ndr' hok hm1 hm6 d4 b4 nx hnx => ?_) fun x4 x5 x6 x7 x8 H4 d4 b4 => ?_
      · obtain ⟨w1, w2, w3, w4⟩ := words_inv hDl.w
        obtain ⟨yd4, hyd4⟩ := d4.lst
        walk_at "rx"
        refine r_addC (by show 1 + _ ≤ _; omega) ?_
        walk_at "rx"
        refine ⟨cl, M, dr, _, rfl, by rw [dot_signs]; show 1 ≤ _ + 1; omega, by rw [dot_signs]; show _ + 1 ≤ 5; omega, d4.le (by omega), fun z H5 d5 b5 hz hzs => ?_⟩
        rw [dot_signs] at hzs
        walk_at "rx"
        refine ⟨dl, ws, R, rows, as, z, rfl, hDl.butO b5 hyd4, hA.keep fun a m o e => b5 _ _ (fun q => ndr' (q ▸ m)) e, badCall_ok hz hzs, fun H6 s6 => ?_⟩
        walk_at "rx"
        exact hnx _ _ _ _ _ _ (d5.same s6) ((b4.trans b5).trans (But.of s6))
      · exact ⟨d4, b4, _, _, _, _, _, rfl⟩
    · obtain ⟨d3, b3, x4, x5, x6, x7, x8, rfl⟩ := hF
      match l, hl2, hD2, hW2, hwd with
      | [q0, q1], _, hD2, hW2, hwd =>
      have wd0 := (hwd q0 List.mem_cons_self).but b3 hyd2 List.mem_cons_self
      have wd1 := (hwd q1 (List.mem_cons_of_mem _ List.mem_cons_self)).but b3 hyd2 List.mem_cons_self
      have hD3 := b3 _ _ Ddr hD2
      have hW3 := b3 _ _ Wdr hW2
      obtain ⟨p0, p1⟩ := world_data (K := K) wd0
      obtain ⟨p2, p3⟩ := world_data (K := K) wd1
      walk_at "rx"
      refine ⟨_, _, p0, p2, p1, p3, ?_⟩
      rw [world_eqv]
      generalize hbe : (decide (q0.2.2.1 = q1.2.2.1) && decide (q0.2.2.2 = q1.2.2.2)) = be
      have hbe2 : (decide (q1.2.2.1 = q0.2.2.1) && decide (q1.2.2.2 = q0.2.2.2)) = be := by
        rw [← hbe]
        congr 1 <;> (rw [Bool.eq_iff_iff]; simp only [decide_eq_true_eq]; exact eq_comm)
      walk_at "rx"
      refine eq_drl T.o_Drill T3 wd0.d wd1.d ?_
      rw [hbe]
      walk_at "rx"
      refine ⟨.bl be, _, [], _, [], rfl, by simp [DF], by simp [DF], by simp [Dat.dp], fun H4 s4 => ?_⟩
      walk_at "rx"
      refine r_ixL (s4 _ _ hD3) (v := .ref q1.1) rfl ?_
      walk_at "rx"
      refine r_ixL (s4 _ _ hD3) (v := .ref q0.1) rfl ?_
      refine eq_drl T.o_Drill T3 (wd1.same s4).d (wd0.same s4).d ?_
      rw [hbe2]
      walk_at "rx"
      refine ⟨.bl be, _, [], _, [], rfl, by simp [DF], by simp [DF], by simp [Dat.dp], fun H5 s5 => ?_⟩
      have b5 := (b3.trans (But.of s4)).trans (But.of s5)
      have d5 : Dr cl (2 ^ 56) H5 dr := ((d3.same s4).same s5).le (Nat.le_add_right _ _)
      walk_at "rz"
      refine forZ (c := 60) (N := 2 ^ 55 + 5000) (l := [q0, q1]) hD2 hW2 Ddr Wdr ⟨_, hyd2⟩ rfl rfl hwd (d5.le (by show 2 ^ 55 + 5000 + 60 * 2 ≤ 2 ^ 56; omega)) b5 ⟨_, _, _, _, _, rfl⟩ (fun dl w R ws rows as m M x4 x7 H6 hDl hA ndr' hok hm1 hm6 d6 b6 nx hnx => ?_) fun x4 x5 x6 x7 x8 H6 d6 b6 => ?_
      · have h1000 := hok.le (by have := words_inv hDl.w; omega)
        walk_at "rx"
        refine ⟨_, _, _, rfl, hA.df (by have := hok.l; omega) h1000, by have := lDs_dp rows; simp only [Dat.dp]; omega, fun v H7 s7 hv => ?_⟩
        simp only [Dat.tupD, lDs_tup] at hv
        walk_at "rx"
        refine ⟨dl, ws, rows, v, rfl, hDl.same s7, hv, fun H8 s8 => ?_⟩
        have s68 := s7.trans s8
        walk_at "rx"
        refine ⟨cl, M, dr, dl, ws, R, rows, as, m, rfl, hDl.same s68, hA.keep fun a m o e => s68 _ _ e, ndr', hok, (d6.same s68).le (by omega), fun H9 d9 b9 => ?_⟩
        walk_at "rx"
        exact hnx _ _ _ _ _ _ d9 ((b6.trans (But.of s68)).trans b9)
      · walk_at "rz"
        refine r_for (r_rg1 (r_cons (r_c (r_nil ⟨_, rfl, by omega, by omega, ?_⟩))))
        refine forG (W := tNext) (walk_rangeS (lo := 0) (n := Int.toNat 2)) (fun i σ H' => Dr cl (2 ^ 55 + 1000 + 400 * (2 - i)) H' dr ∧ But dr H2 H' ∧ ∃ x4 x5 x6 x7 x8, σ = [some (.ref sc), some (.ref dr), some (.ref W), some (.ref D), x4, x5, x6, x7, x8, some (.bl be)])
          ⟨d6.le (by omega), b6, _, _, _, _, _, rfl⟩ (fun _ _ _ _ => trivial) (fun i x σ H7 hi hx hF => ?_) fun σ H7 hF => ?_
        · obtain ⟨d7, b7, x4, x5, x6, x7, x8, rfl⟩ := hF
          have hi2 : i < 2 := by simpa using hi
          refine forZ (c := 160) (N := 2 ^ 55 + 1000 + 400 * (2 - (i + 1))) (l := [q0, q1]) hD2 hW2 Ddr Wdr ⟨_, hyd2⟩ rfl rfl hwd (d7.le (by show _ + 160 * 2 ≤ _; omega)) b7 ⟨_, _, _, _, _, rfl⟩ (fun dl w R ws rows as m M x4 x7 H8 hDl hA ndr' hok hm1 hm6 d8 b8 nx hnx => ?_) fun x4 x5 x6 x7 x8 H8 d8 b8 => ?_
          · walk_at "rx"
            refine ⟨cl, M, dr, dl, ws, R, rows, as, m, rfl, hDl, hA, ndr', hok, d8.le (by omega), fun H9 d9 b9 => ?_⟩
            walk_at "rx"
            exact hnx _ _ _ _ _ _ d9 (b8.trans b9)
          · exact ⟨d8, b8, _, _, _, _, _, rfl⟩
        · obtain ⟨d7, b7, x4, x5, x6, x7, x8, rfl⟩ := hF
          walk_at "rz"
          refine forZ (c := 60) (N := 2 ^ 55) (l := [q0, q1]) hD2 hW2 Ddr Wdr ⟨_, hyd2⟩ rfl rfl hwd (d7.le (by show 2 ^ 55 + 60 * 2 ≤ _; omega)) b7 ⟨_, _, _, _, _, rfl⟩ (fun dl w R ws rows as m M x4 x7 H8 hDl hA ndr' hok hm1 hm6 d8 b8 nx hnx => ?_) fun x4 x5 x6 x7 x8 H8 d8 b8 => ?_
          · obtain ⟨w1, w2, w3, w4⟩ := words_inv hDl.w
            have h1000 := hok.le w4
            walk_at "rx"
            refine ⟨_, _, _, rfl, hA.df (by have := hok.l; omega) h1000, by have := lDs_dp rows; simp only [Dat.dp]; omega, fun v H9 s9 hv => ?_⟩
            simp only [Dat.tupD, lDs_tup] at hv
            walk_at "rx"
            refine ⟨dl, ws, rows, v, rfl, hDl.same s9, hv, fun H10 s10 => ?_⟩
            have s810 := s9.trans s10
            have d10 := d8.same s810
            obtain ⟨yd10, hyd10⟩ := d10.lst
            walk_at "rx"
            refine r_addC (by show 1 + _ ≤ _; omega) ?_
            walk_at "rx"
            refine ⟨cl, M, dr, _, rfl, by rw [dot_signs]; show 1 ≤ _ + 1; omega, by rw [dot_signs]; show _ + 1 ≤ 5; omega, d10.le (by omega), fun z H11 d11 b11 hz hzs => ?_⟩
            rw [dot_signs] at hzs
            walk_at "rx"
            refine ⟨dl, ws, R, rows, as, z, rfl, (hDl.same s810).butO b11 hyd10, hA.keep fun a m o e => b11 _ _ (fun q => ndr' (q ▸ m)) (s810 _ _ e), badCall_ok hz hzs, fun H12 s12 => ?_⟩
            walk_at "rx"
            exact hnx _ _ _ _ _ _ (d11.same s12) (((b8.trans (But.of s810)).trans b11).trans (But.of s12))
          · walk_at "rx"
            exact q H8
end
end K
set_option Elab.async false
set_option linter.all false
set_option maxRecDepth 100000
set_option maxHeartbeats 4000000
namespace K
open PySem PySem.Spec PyProof.Rows L2 TH
abbrev s_BadWords_Xinit : Stmt := (inClass (topS 2) 0)
abbrev s_BadStanding_Xinit : Stmt := (inClass (topS 3) 0)
abbrev s_BadCalling_Xinit : Stmt := (inClass (topS 4) 0)
abbrev s_NoStanding_Xinit : Stmt := (inClass (topS 5) 0)
abbrev s_Drill_Xiter : Stmt := (inClass (topS 15) 8)
def d_BadWords_Xinit : DefY := ⟨fun K => He.fAd K ("BadWords", some "__init__"), "__init__", "BadWords.__init__", defArgs s_BadWords_Xinit, defBody s_BadWords_Xinit, defScope s_BadWords_Xinit, []⟩
def d_BadStanding_Xinit : DefY := ⟨fun K => He.fAd K ("BadStanding", some "__init__"), "__init__", "BadStanding.__init__", defArgs s_BadStanding_Xinit, defBody s_BadStanding_Xinit, defScope s_BadStanding_Xinit, []⟩
def d_BadCalling_Xinit : DefY := ⟨fun K => He.fAd K ("BadCalling", some "__init__"), "__init__", "BadCalling.__init__", defArgs s_BadCalling_Xinit, defBody s_BadCalling_Xinit, defScope s_BadCalling_Xinit, []⟩
def d_NoStanding_Xinit : DefY := ⟨fun K => He.fAd K ("NoStanding", some "__init__"), "__init__", "NoStanding.__init__", defArgs s_NoStanding_Xinit, defBody s_NoStanding_Xinit, defScope s_NoStanding_Xinit, []⟩
def d_is_integer : DefY := ⟨fun K => He.fAd K ("is_integer", none), "is_integer", "is_integer", defArgs s_is_integer, defBody s_is_integer, defScope s_is_integer, []⟩
def d_deep : DefY := ⟨fun K => He.fAd K ("deep", none), "deep", "deep", defArgs s_deep, defBody s_deep, defScope s_deep, [.int 12]⟩
def d_is_lot : DefY := ⟨fun K => He.fAd K ("is_lot", none), "is_lot", "is_lot", defArgs s_is_lot, defBody s_is_lot, defScope s_is_lot, []⟩
def d_is_words : DefY := ⟨fun K => He.fAd K ("is_words", none), "is_words", "is_words", defArgs s_is_words, defBody s_is_words, defScope s_is_words, []⟩
def d_check_calling : DefY := ⟨fun K => He.fAd K ("check_calling", none), "check_calling", "check_calling", defArgs s_check_calling, defBody s_check_calling, defScope s_check_calling, [.int 400]⟩
def d_is_standing : DefY := ⟨fun K => He.fAd K ("is_standing", none), "is_standing", "is_standing", defArgs s_is_standing, defBody s_is_standing, defScope s_is_standing, []⟩
def d_bad_standing : DefY := ⟨fun K => He.fAd K ("bad_standing", none), "bad_standing", "bad_standing", defArgs s_bad_standing, defBody s_bad_standing, defScope s_bad_standing, []⟩
def d_Drill_Xinit : DefY := ⟨fun K => He.fAd K ("Drill", some "__init__"), "__init__", "Drill.__init__", defArgs s_Drill_Xinit, defBody s_Drill_Xinit, defScope s_Drill_Xinit, []⟩
def d_Drill_is_steady : DefY := ⟨fun K => pgt K (He.fAd K ("Drill", some "is_steady")), "is_steady", "Drill.is_steady", defArgs s_Drill_is_steady, defBody s_Drill_is_steady, defScope s_Drill_is_steady, []⟩
def d_Drill_check_standing : DefY := ⟨fun K => He.fAd K ("Drill", some "check_standing"), "check_standing", "Drill.check_standing", defArgs s_Drill_check_standing, defBody s_Drill_check_standing, defScope s_Drill_check_standing, []⟩
def d_Drill_Xcall : DefY := ⟨fun K => He.fAd K ("Drill", some "__call__"), "__call__", "Drill.__call__", defArgs s_Drill_Xcall, defBody s_Drill_Xcall, defScope s_Drill_Xcall, []⟩
def d_Drill_walk : DefY := ⟨fun K => He.fAd K ("Drill", some "walk"), "walk", "Drill.walk", defArgs s_Drill_walk, defBody s_Drill_walk, defScope s_Drill_walk, []⟩
def d_Drill_Xlen : DefY := ⟨fun K => He.fAd K ("Drill", some "__len__"), "__len__", "Drill.__len__", defArgs s_Drill_Xlen, defBody s_Drill_Xlen, defScope s_Drill_Xlen, []⟩
def d_Drill_Xgetitem : DefY := ⟨fun K => He.fAd K ("Drill", some "__getitem__"), "__getitem__", "Drill.__getitem__", defArgs s_Drill_Xgetitem, defBody s_Drill_Xgetitem, defScope s_Drill_Xgetitem, []⟩
def d_Drill_Xiter : DefY := ⟨fun K => He.fAd K ("Drill", some "__iter__"), "__iter__", "Drill.__iter__", defArgs s_Drill_Xiter, defBody s_Drill_Xiter, defScope s_Drill_Xiter, []⟩
def d_Drill_Xeq : DefY := ⟨fun K => He.fAd K ("Drill", some "__eq__"), "__eq__", "Drill.__eq__", defArgs s_Drill_Xeq, defBody s_Drill_Xeq, defScope s_Drill_Xeq, []⟩
def d_l_draw : DefY := ⟨fun K => He.fAd K ("_law_draw", none), "_law_draw", "_law_draw", defArgs s_l_draw, defBody s_l_draw, defScope s_l_draw, []⟩
def d_l_mix : DefY := ⟨fun K => He.fAd K ("_law_mix", none), "_law_mix", "_law_mix", defArgs s_l_mix, defBody s_l_mix, defScope s_l_mix, []⟩
def d_l_pick : DefY := ⟨fun K => He.fAd K ("_law_pick", none), "_law_pick", "_law_pick", defArgs s_l_pick, defBody s_l_pick, defScope s_l_pick, []⟩
def d_l_listed : DefY := ⟨fun K => He.fAd K ("_law_listed", none), "_law_listed", "_law_listed", defArgs s_l_listed, defBody s_l_listed, defScope s_l_listed, []⟩
def d_l_tupled : DefY := ⟨fun K => He.fAd K ("_law_tupled", none), "_law_tupled", "_law_tupled", defArgs s_l_tupled, defBody s_l_tupled, defScope s_l_tupled, []⟩
def d_l_words : DefY := ⟨fun K => He.fAd K ("_law_words", none), "_law_words", "_law_words", defArgs s_l_words, defBody s_l_words, defScope s_l_words, []⟩
def d_l_same : DefY := ⟨fun K => He.fAd K ("_law_same", none), "_law_same", "_law_same", defArgs s_l_same, defBody s_l_same, defScope s_l_same, []⟩
def d_l_rows : DefY := ⟨fun K => He.fAd K ("_law_rows", none), "_law_rows", "_law_rows", defArgs s_l_rows, defBody s_l_rows, defScope s_l_rows, []⟩
def d_l_handed : DefY := ⟨fun K => He.fAd K ("_law_handed", none), "_law_handed", "_law_handed", defArgs s_l_handed, defBody s_l_handed, defScope s_l_handed, []⟩
def d_l_spoil : DefY := ⟨fun K => He.fAd K ("_law_spoil", none), "_law_spoil", "_law_spoil", defArgs s_l_spoil, defBody s_l_spoil, defScope s_l_spoil, []⟩
def d_l_went : DefY := ⟨fun K => He.fAd K ("_law_went", none), "_law_went", "_law_went", defArgs s_l_went, defBody s_l_went, defScope s_l_went, []⟩
def d_l_walks : DefY := ⟨fun K => He.fAd K ("_law_walks", none), "_law_walks", "_law_walks", defArgs s_l_walks, defBody s_l_walks, defScope s_l_walks, []⟩
def d_l_shown : DefY := ⟨fun K => He.fAd K ("_law_shown", none), "_law_shown", "_law_shown", defArgs s_l_shown, defBody s_l_shown, defScope s_l_shown, []⟩
def d_l_calling : DefY := ⟨fun K => He.fAd K ("_law_calling", none), "_law_calling", "_law_calling", defArgs s_l_calling, defBody s_l_calling, defScope s_l_calling, []⟩
def d_l_told : DefY := ⟨fun K => He.fAd K ("_law_told", none), "_law_told", "_law_told", defArgs s_l_told, defBody s_l_told, defScope s_l_told, []⟩
def d_l_making : DefY := ⟨fun K => He.fAd K ("_law_making", none), "_law_making", "_law_making", defArgs s_l_making, defBody s_l_making, defScope s_l_making, []⟩
def d_l_asking : DefY := ⟨fun K => He.fAd K ("_law_asking", none), "_law_asking", "_law_asking", defArgs s_l_asking, defBody s_l_asking, defScope s_l_asking, []⟩
def d_l_bad_words : DefY := ⟨fun K => He.fAd K ("_law_bad_words", none), "_law_bad_words", "_law_bad_words", defArgs s_l_bad_words, defBody s_l_bad_words, defScope s_l_bad_words, []⟩
def d_l_bad_standing : DefY := ⟨fun K => He.fAd K ("_law_bad_standing", none), "_law_bad_standing", "_law_bad_standing", defArgs s_l_bad_standing, defBody s_l_bad_standing, defScope s_l_bad_standing, []⟩
def d_l_bad_standings : DefY := ⟨fun K => He.fAd K ("_law_bad_standings", none), "_law_bad_standings", "_law_bad_standings", defArgs s_l_bad_standings, defBody s_l_bad_standings, defScope s_l_bad_standings, []⟩
def d_l_bad_calling : DefY := ⟨fun K => He.fAd K ("_law_bad_calling", none), "_law_bad_calling", "_law_bad_calling", defArgs s_l_bad_calling, defBody s_l_bad_calling, defScope s_l_bad_calling, []⟩
def d_l_refused : DefY := ⟨fun K => He.fAd K ("_law_refused", none), "_law_refused", "_law_refused", defArgs s_l_refused, defBody s_l_refused, defScope s_l_refused, []⟩
def d_l_equals : DefY := ⟨fun K => He.fAd K ("_law_equals", none), "_law_equals", "_law_equals", defArgs s_l_equals, defBody s_l_equals, defScope s_l_equals, []⟩
def d_law : DefY := ⟨fun K => He.fAd K ("law", none), "law", "law", defArgs s_law, defBody s_law, defScope s_law, []⟩
def fn : List DefY := [d_BadWords_Xinit, d_BadStanding_Xinit, d_BadCalling_Xinit, d_NoStanding_Xinit, d_is_integer, d_deep, d_is_lot, d_is_words, d_check_calling, d_is_standing, d_bad_standing, d_Drill_Xinit, d_Drill_is_steady, d_Drill_check_standing, d_Drill_Xcall, d_Drill_walk, d_Drill_Xlen, d_Drill_Xgetitem, d_Drill_Xiter, d_Drill_Xeq, d_l_draw, d_l_mix, d_l_pick, d_l_listed, d_l_tupled, d_l_words, d_l_same, d_l_rows, d_l_handed, d_l_spoil, d_l_went, d_l_walks, d_l_shown, d_l_calling, d_l_told, d_l_making, d_l_asking, d_l_bad_words, d_l_bad_standing, d_l_bad_standings, d_l_bad_calling, d_l_refused, d_l_equals, d_law]
def fa : List FaY := [
  fun K => (He.Fa.free "ValueError").ok K,
  fun K => (He.Fa.free "abs").ok K,
  fun K => (He.Fa.free "all").ok K,
  fun K => (He.Fa.free "bool").ok K,
  fun K => (He.Fa.free "enumerate").ok K,
  fun K => (He.Fa.free "int").ok K,
  fun K => (He.Fa.free "isinstance").ok K,
  fun K => (He.Fa.free "len").ok K,
  fun K => (He.Fa.free "list").ok K,
  fun K => (He.Fa.free "range").ok K,
  fun K => (He.Fa.free "sorted").ok K,
  fun K => (He.Fa.free "str").ok K,
  fun K => (He.Fa.free "sum").ok K,
  fun K => (He.Fa.free "tuple").ok K,
  fun K => (He.Fa.free "zip").ok K,
  fun K => (He.Fa.glo "TailError").ok K,
  fun K => (He.Fa.glo "BadWords").ok K,
  fun K => (He.Fa.glo "BadStanding").ok K,
  fun K => (He.Fa.glo "BadCalling").ok K,
  fun K => (He.Fa.glo "NoStanding").ok K,
  fun K => (He.Fa.glo "Drill").ok K,
  fun K => (He.Fa.cls "Drill").ok K,
  fun K => (He.Fa.noat "Drill" "words").ok K,
  fun K => (He.Fa.noat "Drill" "standings").ok K,
  fun K => (He.Fa.noat "Drill" "signs").ok K,
  fun K => (He.Fa.noat "Drill" "strides").ok K,
  fun K => (He.Fa.noat "Drill" "bodies").ok K,
  fun K => (He.Fa.noat "Drill" "leads").ok K,
  fun K => isoB K (He.ga K "Drill"),
  fun K => (He.Fa.mkr "Drill").ok K,
  fun K => propB K (He.ga K "Drill") "is_steady" (He.fAd K ("Drill", some "is_steady")),
  fun K => (He.Fa.meth "Drill" "check_standing").ok K,
  fun K => spcB K (He.ga K "Drill") "__call__" (He.fAd K ("Drill", some "__call__")),
  fun K => (He.Fa.meth "Drill" "walk").ok K,
  fun K => spcB K (He.ga K "Drill") "__len__" (He.fAd K ("Drill", some "__len__")),
  fun K => spcB K (He.ga K "Drill") "__getitem__" (He.fAd K ("Drill", some "__getitem__")),
  fun K => spcB K (He.ga K "Drill") "__iter__" (He.fAd K ("Drill", some "__iter__")),
  fun K => (He.Fa.free "iter").ok K,
  fun K => spcB K (He.ga K "Drill") "__eq__" (He.fAd K ("Drill", some "__eq__")),
  fun K => oexB K (He.ga K "BadWords"),
  fun K => initB K (He.ga K "BadWords") (He.fAd K ("BadWords", some "__init__")),
  fun K => findB K (He.ga K "BadWords") "words" none,
  fun K => oexB K (He.ga K "BadStanding"),
  fun K => initB K (He.ga K "BadStanding") (He.fAd K ("BadStanding", some "__init__")),
  fun K => findB K (He.ga K "BadStanding") "number" none,
  fun K => oexB K (He.ga K "BadCalling"),
  fun K => initB K (He.ga K "BadCalling") (He.fAd K ("BadCalling", some "__init__")),
  fun K => findB K (He.ga K "BadCalling") "number" none,
  fun K => oexB K (He.ga K "NoStanding"),
  fun K => initB K (He.ga K "NoStanding") (He.fAd K ("NoStanding", some "__init__")),
  fun K => findB K (He.ga K "NoStanding") "standing" none,
  fun K => (He.Fa.glo "is_integer").ok K,
  fun K => (He.Fa.glo "deep").ok K,
  fun K => (He.Fa.glo "is_lot").ok K,
  fun K => (He.Fa.glo "is_words").ok K,
  fun K => (He.Fa.glo "check_calling").ok K,
  fun K => (He.Fa.glo "is_standing").ok K,
  fun K => (He.Fa.glo "bad_standing").ok K,
  fun K => (He.Fa.glo "_law_draw").ok K,
  fun K => (He.Fa.glo "_law_mix").ok K,
  fun K => (He.Fa.glo "_law_pick").ok K,
  fun K => (He.Fa.glo "_law_listed").ok K,
  fun K => (He.Fa.glo "_law_tupled").ok K,
  fun K => (He.Fa.glo "_law_words").ok K,
  fun K => (He.Fa.glo "_law_same").ok K,
  fun K => (He.Fa.glo "_law_rows").ok K,
  fun K => (He.Fa.glo "_law_handed").ok K,
  fun K => (He.Fa.glo "_law_spoil").ok K,
  fun K => (He.Fa.glo "_law_went").ok K,
  fun K => (He.Fa.glo "_law_walks").ok K,
  fun K => (He.Fa.glo "_law_shown").ok K,
  fun K => (He.Fa.glo "_law_calling").ok K,
  fun K => (He.Fa.glo "_law_told").ok K,
  fun K => (He.Fa.glo "_law_making").ok K,
  fun K => (He.Fa.glo "_law_asking").ok K,
  fun K => (He.Fa.glo "_law_bad_words").ok K,
  fun K => (He.Fa.glo "_law_bad_standing").ok K,
  fun K => (He.Fa.glo "_law_bad_standings").ok K,
  fun K => (He.Fa.glo "_law_bad_calling").ok K,
  fun K => (He.Fa.glo "_law_refused").ok K,
  fun K => (He.Fa.glo "_law_equals").ok K,
  fun K => (He.Fa.glo "law").ok K,
  fun K => excB K (He.ga K "BadWords"),
  fun K => excB K (He.ga K "BadStanding"),
  fun K => excB K (He.ga K "NoStanding"),
  fun K => excB K (He.ga K "BadCalling"),
  fun K => xfB K (He.ga K "BadWords"),
  fun K => xfB K (He.ga K "BadStanding"),
  fun K => xfB K (He.ga K "NoStanding"),
  fun K => xfB K (He.ga K "BadCalling"),
  fun K => kitB' K (.ref (He.ga K "BadWords")) (.ref (He.ga K "BadWords")) (decide (("BadWords" : Str) = "BadWords")),
  fun K => kitB' K (.ref (He.ga K "BadWords")) (.ref (He.ga K "BadStanding")) (decide (("BadWords" : Str) = "BadStanding")),
  fun K => kitB' K (.ref (He.ga K "BadWords")) (.ref (He.ga K "NoStanding")) (decide (("BadWords" : Str) = "NoStanding")),
  fun K => kitB' K (.ref (He.ga K "BadWords")) (.ref (He.ga K "BadCalling")) (decide (("BadWords" : Str) = "BadCalling")),
  fun K => kitB' K (.ref (He.ga K "BadStanding")) (.ref (He.ga K "BadWords")) (decide (("BadStanding" : Str) = "BadWords")),
  fun K => kitB' K (.ref (He.ga K "BadStanding")) (.ref (He.ga K "BadStanding")) (decide (("BadStanding" : Str) = "BadStanding")),
  fun K => kitB' K (.ref (He.ga K "BadStanding")) (.ref (He.ga K "NoStanding")) (decide (("BadStanding" : Str) = "NoStanding")),
  fun K => kitB' K (.ref (He.ga K "BadStanding")) (.ref (He.ga K "BadCalling")) (decide (("BadStanding" : Str) = "BadCalling")),
  fun K => kitB' K (.ref (He.ga K "NoStanding")) (.ref (He.ga K "BadWords")) (decide (("NoStanding" : Str) = "BadWords")),
  fun K => kitB' K (.ref (He.ga K "NoStanding")) (.ref (He.ga K "BadStanding")) (decide (("NoStanding" : Str) = "BadStanding")),
  fun K => kitB' K (.ref (He.ga K "NoStanding")) (.ref (He.ga K "NoStanding")) (decide (("NoStanding" : Str) = "NoStanding")),
  fun K => kitB' K (.ref (He.ga K "NoStanding")) (.ref (He.ga K "BadCalling")) (decide (("NoStanding" : Str) = "BadCalling")),
  fun K => kitB' K (.ref (He.ga K "BadCalling")) (.ref (He.ga K "BadWords")) (decide (("BadCalling" : Str) = "BadWords")),
  fun K => kitB' K (.ref (He.ga K "BadCalling")) (.ref (He.ga K "BadStanding")) (decide (("BadCalling" : Str) = "BadStanding")),
  fun K => kitB' K (.ref (He.ga K "BadCalling")) (.ref (He.ga K "NoStanding")) (decide (("BadCalling" : Str) = "NoStanding")),
  fun K => kitB' K (.ref (He.ga K "BadCalling")) (.ref (He.ga K "BadCalling")) (decide (("BadCalling" : Str) = "BadCalling")),
  fun K => kitB' K (.ref (He.ga K "BadWords")) (.type "ValueError") true,
  fun K => kitB' K (.ref (He.ga K "BadStanding")) (.type "ValueError") true,
  fun K => kitB' K (.ref (He.ga K "NoStanding")) (.type "ValueError") true,
  fun K => kitB' K (.ref (He.ga K "BadCalling")) (.type "ValueError") true,
  fun K => exmB K (.ref (He.ga K "BadWords")) (.ref (He.ga K "TailError")) true,
  fun K => exmB K (.ref (He.ga K "BadStanding")) (.ref (He.ga K "TailError")) true,
  fun K => exmB K (.ref (He.ga K "NoStanding")) (.ref (He.ga K "TailError")) true,
  fun K => exmB K (.ref (He.ga K "BadCalling")) (.ref (He.ga K "TailError")) true,
  fun K => creadB K (He.ga K "Drill") (.type "type") "REST" 0,
  fun K => conB K (He.ga K "Drill") "REST" 0,
  fun K => PySem.W.notFirst K (He.ga K "Drill") (.ref (He.ga K "Drill")),
  fun K => PySem.W.notFirst K (He.ga K "Drill") (.type "list"),
  fun K => PySem.W.notFirst K (He.ga K "Drill") (.type "int")]
abbrev iLaw : Nat := 40
def names0 : List Str := ["TailError", "BadWords", "BadStanding", "BadCalling", "NoStanding", "is_integer", "deep", "is_lot", "is_words", "check_calling", "is_standing", "bad_standing", "Drill", "_law_draw", "_law_mix", "_law_pick", "_law_listed", "_law_tupled", "_law_words", "_law_same", "_law_rows", "_law_handed", "_law_spoil", "_law_went", "_law_walks", "_law_shown", "_law_calling", "_law_told", "_law_making", "_law_asking"]
def names1 : List Str := ["_law_bad_words", "_law_bad_standing", "_law_bad_standings", "_law_bad_calling", "_law_refused", "_law_equals"]
def names : List Str := names0 ++ names1
abbrev R : PySem.W.OpenRow := PySem.W.OpenLaw.row PySem.Challenge.rw_tailheard_k01_drills_led
abbrev hk : PySem.W.Hook := hookY 6 fa fn
def ob (s : PySem.W.SharedT) : AlY := obsYG 6 fa fn (HandSHeadRun.getT s)
theorem ob_eq (s : PySem.W.SharedT) : ob s = hk.obs s.abs := obsYG_eq (HandSHeadRun.getT_eq s)
theorem run (w : World) : HandSHeadRun.RunEq R (PySem.W.view R.prog [iLaw]) hk ob 20000 names w := by
  intro os
  kernel_rfl
end K
set_option Elab.async false
set_option linter.all false
set_option maxRecDepth 100000
set_option maxHeartbeats 4000000
namespace K
open PySem PySem.Spec PyProof.Rows L2 TH
theorem kp_of {K : PySem.W.Frag} {x q : Str} {st : Stmt} {dvs : List V} {f : Addr} (F : FD K x q st dvs f) : PySem.W.keepIn K (.ref f) = true := F.elim fun _ z => z.kp
theorem prop_ok {K : PySem.W.Frag} {C p : Addr} {f : Str} (h : propB K C f p = true) : PropOf K C f p (pgt K p) := by
  obtain ⟨a, b, c, rest, e⟩ := propB_ok h
  refine ⟨a, b, c, ?_⟩
  generalize pgetter K p = g at e
  unfold pgt
  rw [e]
  exact ⟨rest, rfl⟩
section
variable {h : Heap} {K : PySem.W.Frag} {mg : Str → Option Value}
theorem txt_of (X : K.In h) (G : h.Ns mainGlobals mg) (c : SaysY fa fn K) : Txt K mg where
  f_ValueError := He.free_ok X G (c.fact 0 (f := fun K => (He.Fa.free "ValueError").ok K) rfl)
  f_abs := He.free_ok X G (c.fact 1 (f := fun K => (He.Fa.free "abs").ok K) rfl)
  f_all := He.free_ok X G (c.fact 2 (f := fun K => (He.Fa.free "all").ok K) rfl)
  f_bool := He.free_ok X G (c.fact 3 (f := fun K => (He.Fa.free "bool").ok K) rfl)
  f_enumerate := He.free_ok X G (c.fact 4 (f := fun K => (He.Fa.free "enumerate").ok K) rfl)
  f_int := He.free_ok X G (c.fact 5 (f := fun K => (He.Fa.free "int").ok K) rfl)
  f_isinstance := He.free_ok X G (c.fact 6 (f := fun K => (He.Fa.free "isinstance").ok K) rfl)
  f_len := He.free_ok X G (c.fact 7 (f := fun K => (He.Fa.free "len").ok K) rfl)
  f_list := He.free_ok X G (c.fact 8 (f := fun K => (He.Fa.free "list").ok K) rfl)
  f_range := He.free_ok X G (c.fact 9 (f := fun K => (He.Fa.free "range").ok K) rfl)
  f_sorted := He.free_ok X G (c.fact 10 (f := fun K => (He.Fa.free "sorted").ok K) rfl)
  f_str := He.free_ok X G (c.fact 11 (f := fun K => (He.Fa.free "str").ok K) rfl)
  f_sum := He.free_ok X G (c.fact 12 (f := fun K => (He.Fa.free "sum").ok K) rfl)
  f_tuple := He.free_ok X G (c.fact 13 (f := fun K => (He.Fa.free "tuple").ok K) rfl)
  f_zip := He.free_ok X G (c.fact 14 (f := fun K => (He.Fa.free "zip").ok K) rfl)
  g_TailError := He.glo_ok X G (c.fact 15 (f := fun K => (He.Fa.glo "TailError").ok K) rfl)
  g_BadWords := He.glo_ok X G (c.fact 16 (f := fun K => (He.Fa.glo "BadWords").ok K) rfl)
  g_BadStanding := He.glo_ok X G (c.fact 17 (f := fun K => (He.Fa.glo "BadStanding").ok K) rfl)
  g_BadCalling := He.glo_ok X G (c.fact 18 (f := fun K => (He.Fa.glo "BadCalling").ok K) rfl)
  g_NoStanding := He.glo_ok X G (c.fact 19 (f := fun K => (He.Fa.glo "NoStanding").ok K) rfl)
  g_Drill := He.glo_ok X G (c.fact 20 (f := fun K => (He.Fa.glo "Drill").ok K) rfl)
  c_Drill := He.cls_ok (c.fact 21 (f := fun K => (He.Fa.cls "Drill").ok K) rfl)
  n_Drill_words := He.noat_ok (c.fact 22 (f := fun K => (He.Fa.noat "Drill" "words").ok K) rfl)
  n_Drill_standings := He.noat_ok (c.fact 23 (f := fun K => (He.Fa.noat "Drill" "standings").ok K) rfl)
  n_Drill_signs := He.noat_ok (c.fact 24 (f := fun K => (He.Fa.noat "Drill" "signs").ok K) rfl)
  n_Drill_strides := He.noat_ok (c.fact 25 (f := fun K => (He.Fa.noat "Drill" "strides").ok K) rfl)
  n_Drill_bodies := He.noat_ok (c.fact 26 (f := fun K => (He.Fa.noat "Drill" "bodies").ok K) rfl)
  n_Drill_leads := He.noat_ok (c.fact 27 (f := fun K => (He.Fa.noat "Drill" "leads").ok K) rfl)
  o_Drill := isoB_ok (He.cls_ok (c.fact 21 (f := fun K => (He.Fa.cls "Drill").ok K) rfl)) (c.fact 28 (f := fun K => isoB K (He.ga K "Drill")) rfl)
  m_Drill := He.mkr_ok (c.fact 29 (f := fun K => (He.Fa.mkr "Drill").ok K) rfl)
  p_Drill_is_steady := prop_ok (c.fact 30 (f := fun K => propB K (He.ga K "Drill") "is_steady" (He.fAd K ("Drill", some "is_steady"))) rfl)
  q_Drill_check_standing := He.meth_ok (c.fact 31 (f := fun K => (He.Fa.meth "Drill" "check_standing").ok K) rfl)
  k_Drill := callB_ok (c.fact 32 (f := fun K => spcB K (He.ga K "Drill") "__call__" (He.fAd K ("Drill", some "__call__"))) rfl)
  q_Drill_walk := He.meth_ok (c.fact 33 (f := fun K => (He.Fa.meth "Drill" "walk").ok K) rfl)
  S_Drill_Xlen := spcB_ok (c.fact 34 (f := fun K => spcB K (He.ga K "Drill") "__len__" (He.fAd K ("Drill", some "__len__"))) rfl)
  S_Drill_Xgetitem := spcB_ok (c.fact 35 (f := fun K => spcB K (He.ga K "Drill") "__getitem__" (He.fAd K ("Drill", some "__getitem__"))) rfl)
  i_Drill := ⟨spcB_ok (c.fact 36 (f := fun K => spcB K (He.ga K "Drill") "__iter__" (He.fAd K ("Drill", some "__iter__"))) rfl), (c.def_ 18 (d := d_Drill_Xiter) rfl).imp fun _ z => z, He.cls_ok (c.fact 21 (f := fun K => (He.Fa.cls "Drill").ok K) rfl), He.noat_ok (c.fact 23 (f := fun K => (He.Fa.noat "Drill" "standings").ok K) rfl), He.free_ok X G (c.fact 37 (f := fun K => (He.Fa.free "iter").ok K) rfl), ⟨rfl, rfl, rfl, by decide +kernel, rfl, by decide +kernel, by decide +kernel⟩, rfl, rfl, fun _ _ _ _ _ _ us hl => match us, hl with | [_], _ => rfl, ⟨_, _, _, _, _, rfl⟩⟩
  S_Drill_Xeq := spcB_ok (c.fact 38 (f := fun K => spcB K (He.ga K "Drill") "__eq__" (He.fAd K ("Drill", some "__eq__"))) rfl)
theorem rse_BadWords {P : Program} {w : World} {base : Heap} (X : K.In h) (G : h.Ns mainGlobals mg) (c : SaysY fa fn K) : Rse P w K mg base "BadWords" "words" :=
  ⟨oexB_ok (c.fact 39 (f := fun K => oexB K (He.ga K "BadWords")) rfl), ⟨_, (initB_ok (c.fact 40 (f := fun K => initB K (He.ga K "BadWords") (He.fAd K ("BadWords", some "__init__"))) rfl)).1, (initB_ok (c.fact 40 (f := fun K => initB K (He.ga K "BadWords") (He.fAd K ("BadWords", some "__init__"))) rfl)).2, init_ok (q := "BadWords.__init__") (st := s_BadWords_Xinit) (c.def_ 0 (d := d_BadWords_Xinit) rfl) (oexB_ok (c.fact 39 (f := fun K => oexB K (He.ga K "BadWords")) rfl)) (findB_ok (c.fact 41 (f := fun K => findB K (He.ga K "BadWords") "words" none) rfl)) ⟨rfl, rfl, rfl, by decide +kernel, rfl, by decide +kernel, by decide +kernel⟩ rfl rfl (by decide +kernel) (by decide +kernel) (fun _ _ _ _ _ _ us hl => match us, hl with | [_, _], _ => rfl) ⟨_, _, _, _, rfl⟩⟩, He.glo_ok X G (c.fact 16 (f := fun K => (He.Fa.glo "BadWords").ok K) rfl)⟩
theorem rse_BadStanding {P : Program} {w : World} {base : Heap} (X : K.In h) (G : h.Ns mainGlobals mg) (c : SaysY fa fn K) : Rse P w K mg base "BadStanding" "number" :=
  ⟨oexB_ok (c.fact 42 (f := fun K => oexB K (He.ga K "BadStanding")) rfl), ⟨_, (initB_ok (c.fact 43 (f := fun K => initB K (He.ga K "BadStanding") (He.fAd K ("BadStanding", some "__init__"))) rfl)).1, (initB_ok (c.fact 43 (f := fun K => initB K (He.ga K "BadStanding") (He.fAd K ("BadStanding", some "__init__"))) rfl)).2, init_ok (q := "BadStanding.__init__") (st := s_BadStanding_Xinit) (c.def_ 1 (d := d_BadStanding_Xinit) rfl) (oexB_ok (c.fact 42 (f := fun K => oexB K (He.ga K "BadStanding")) rfl)) (findB_ok (c.fact 44 (f := fun K => findB K (He.ga K "BadStanding") "number" none) rfl)) ⟨rfl, rfl, rfl, by decide +kernel, rfl, by decide +kernel, by decide +kernel⟩ rfl rfl (by decide +kernel) (by decide +kernel) (fun _ _ _ _ _ _ us hl => match us, hl with | [_, _], _ => rfl) ⟨_, _, _, _, rfl⟩⟩, He.glo_ok X G (c.fact 17 (f := fun K => (He.Fa.glo "BadStanding").ok K) rfl)⟩
theorem rse_BadCalling {P : Program} {w : World} {base : Heap} (X : K.In h) (G : h.Ns mainGlobals mg) (c : SaysY fa fn K) : Rse P w K mg base "BadCalling" "number" :=
  ⟨oexB_ok (c.fact 45 (f := fun K => oexB K (He.ga K "BadCalling")) rfl), ⟨_, (initB_ok (c.fact 46 (f := fun K => initB K (He.ga K "BadCalling") (He.fAd K ("BadCalling", some "__init__"))) rfl)).1, (initB_ok (c.fact 46 (f := fun K => initB K (He.ga K "BadCalling") (He.fAd K ("BadCalling", some "__init__"))) rfl)).2, init_ok (q := "BadCalling.__init__") (st := s_BadCalling_Xinit) (c.def_ 2 (d := d_BadCalling_Xinit) rfl) (oexB_ok (c.fact 45 (f := fun K => oexB K (He.ga K "BadCalling")) rfl)) (findB_ok (c.fact 47 (f := fun K => findB K (He.ga K "BadCalling") "number" none) rfl)) ⟨rfl, rfl, rfl, by decide +kernel, rfl, by decide +kernel, by decide +kernel⟩ rfl rfl (by decide +kernel) (by decide +kernel) (fun _ _ _ _ _ _ us hl => match us, hl with | [_, _], _ => rfl) ⟨_, _, _, _, rfl⟩⟩, He.glo_ok X G (c.fact 18 (f := fun K => (He.Fa.glo "BadCalling").ok K) rfl)⟩
theorem rse_NoStanding {P : Program} {w : World} {base : Heap} (X : K.In h) (G : h.Ns mainGlobals mg) (c : SaysY fa fn K) : Rse P w K mg base "NoStanding" "standing" :=
  ⟨oexB_ok (c.fact 48 (f := fun K => oexB K (He.ga K "NoStanding")) rfl), ⟨_, (initB_ok (c.fact 49 (f := fun K => initB K (He.ga K "NoStanding") (He.fAd K ("NoStanding", some "__init__"))) rfl)).1, (initB_ok (c.fact 49 (f := fun K => initB K (He.ga K "NoStanding") (He.fAd K ("NoStanding", some "__init__"))) rfl)).2, init_ok (q := "NoStanding.__init__") (st := s_NoStanding_Xinit) (c.def_ 3 (d := d_NoStanding_Xinit) rfl) (oexB_ok (c.fact 48 (f := fun K => oexB K (He.ga K "NoStanding")) rfl)) (findB_ok (c.fact 50 (f := fun K => findB K (He.ga K "NoStanding") "standing" none) rfl)) ⟨rfl, rfl, rfl, by decide +kernel, rfl, by decide +kernel, by decide +kernel⟩ rfl rfl (by decide +kernel) (by decide +kernel) (fun _ _ _ _ _ _ us hl => match us, hl with | [_, _], _ => rfl) ⟨_, _, _, _, rfl⟩⟩, He.glo_ok X G (c.fact 19 (f := fun K => (He.Fa.glo "NoStanding").ok K) rfl)⟩
theorem fd_BadWords_Xinit (c : SaysY fa fn K) : FD K "__init__" "BadWords.__init__" s_BadWords_Xinit [] (He.fAd K ("BadWords", some "__init__")) := (c.def_ 0 (d := d_BadWords_Xinit) rfl)
theorem fd_BadStanding_Xinit (c : SaysY fa fn K) : FD K "__init__" "BadStanding.__init__" s_BadStanding_Xinit [] (He.fAd K ("BadStanding", some "__init__")) := (c.def_ 1 (d := d_BadStanding_Xinit) rfl)
theorem fd_BadCalling_Xinit (c : SaysY fa fn K) : FD K "__init__" "BadCalling.__init__" s_BadCalling_Xinit [] (He.fAd K ("BadCalling", some "__init__")) := (c.def_ 2 (d := d_BadCalling_Xinit) rfl)
theorem fd_NoStanding_Xinit (c : SaysY fa fn K) : FD K "__init__" "NoStanding.__init__" s_NoStanding_Xinit [] (He.fAd K ("NoStanding", some "__init__")) := (c.def_ 3 (d := d_NoStanding_Xinit) rfl)
theorem fd_is_integer (c : SaysY fa fn K) : FD K "is_integer" "is_integer" s_is_integer [] (He.ga K "is_integer") := (c.def_ 4 (d := d_is_integer) rfl)
theorem cal_is_integer {P : Program} {w : World} {base : Heap} {n : Nat} {sp : Sp} (X : K.In h) (G : h.Ns mainGlobals mg) (c : SaysY fa fn K) (F : FnT P w K mg base n (He.ga K "is_integer") sp) : Cal P w K mg base n "is_integer" sp := ⟨F, kp_of (fd_is_integer c), He.glo_ok X G (c.fact 51 (f := fun K => (He.Fa.glo "is_integer").ok K) rfl)⟩
theorem at_is_integer (X : K.In h) (G : h.Ns mainGlobals mg) (c : SaysY fa fn K) : mg "is_integer" = some (.ref (He.ga K "is_integer")) := He.glo_ok X G (c.fact 51 (f := fun K => (He.Fa.glo "is_integer").ok K) rfl)
theorem fd_deep (c : SaysY fa fn K) : FD K "deep" "deep" s_deep [.int 12] (He.ga K "deep") := (c.def_ 5 (d := d_deep) rfl)
theorem cal_deep {P : Program} {w : World} {base : Heap} {n : Nat} {sp : Sp} (X : K.In h) (G : h.Ns mainGlobals mg) (c : SaysY fa fn K) (F : FnT P w K mg base n (He.ga K "deep") sp) : Cal P w K mg base n "deep" sp := ⟨F, kp_of (fd_deep c), He.glo_ok X G (c.fact 52 (f := fun K => (He.Fa.glo "deep").ok K) rfl)⟩
theorem at_deep (X : K.In h) (G : h.Ns mainGlobals mg) (c : SaysY fa fn K) : mg "deep" = some (.ref (He.ga K "deep")) := He.glo_ok X G (c.fact 52 (f := fun K => (He.Fa.glo "deep").ok K) rfl)
theorem fd_is_lot (c : SaysY fa fn K) : FD K "is_lot" "is_lot" s_is_lot [] (He.ga K "is_lot") := (c.def_ 6 (d := d_is_lot) rfl)
theorem cal_is_lot {P : Program} {w : World} {base : Heap} {n : Nat} {sp : Sp} (X : K.In h) (G : h.Ns mainGlobals mg) (c : SaysY fa fn K) (F : FnT P w K mg base n (He.ga K "is_lot") sp) : Cal P w K mg base n "is_lot" sp := ⟨F, kp_of (fd_is_lot c), He.glo_ok X G (c.fact 53 (f := fun K => (He.Fa.glo "is_lot").ok K) rfl)⟩
theorem at_is_lot (X : K.In h) (G : h.Ns mainGlobals mg) (c : SaysY fa fn K) : mg "is_lot" = some (.ref (He.ga K "is_lot")) := He.glo_ok X G (c.fact 53 (f := fun K => (He.Fa.glo "is_lot").ok K) rfl)
theorem fd_is_words (c : SaysY fa fn K) : FD K "is_words" "is_words" s_is_words [] (He.ga K "is_words") := (c.def_ 7 (d := d_is_words) rfl)
theorem cal_is_words {P : Program} {w : World} {base : Heap} {n : Nat} {sp : Sp} (X : K.In h) (G : h.Ns mainGlobals mg) (c : SaysY fa fn K) (F : FnT P w K mg base n (He.ga K "is_words") sp) : Cal P w K mg base n "is_words" sp := ⟨F, kp_of (fd_is_words c), He.glo_ok X G (c.fact 54 (f := fun K => (He.Fa.glo "is_words").ok K) rfl)⟩
theorem at_is_words (X : K.In h) (G : h.Ns mainGlobals mg) (c : SaysY fa fn K) : mg "is_words" = some (.ref (He.ga K "is_words")) := He.glo_ok X G (c.fact 54 (f := fun K => (He.Fa.glo "is_words").ok K) rfl)
theorem fd_check_calling (c : SaysY fa fn K) : FD K "check_calling" "check_calling" s_check_calling [.int 400] (He.ga K "check_calling") := (c.def_ 8 (d := d_check_calling) rfl)
theorem cal_check_calling {P : Program} {w : World} {base : Heap} {n : Nat} {sp : Sp} (X : K.In h) (G : h.Ns mainGlobals mg) (c : SaysY fa fn K) (F : FnT P w K mg base n (He.ga K "check_calling") sp) : Cal P w K mg base n "check_calling" sp := ⟨F, kp_of (fd_check_calling c), He.glo_ok X G (c.fact 55 (f := fun K => (He.Fa.glo "check_calling").ok K) rfl)⟩
theorem at_check_calling (X : K.In h) (G : h.Ns mainGlobals mg) (c : SaysY fa fn K) : mg "check_calling" = some (.ref (He.ga K "check_calling")) := He.glo_ok X G (c.fact 55 (f := fun K => (He.Fa.glo "check_calling").ok K) rfl)
theorem fd_is_standing (c : SaysY fa fn K) : FD K "is_standing" "is_standing" s_is_standing [] (He.ga K "is_standing") := (c.def_ 9 (d := d_is_standing) rfl)
theorem cal_is_standing {P : Program} {w : World} {base : Heap} {n : Nat} {sp : Sp} (X : K.In h) (G : h.Ns mainGlobals mg) (c : SaysY fa fn K) (F : FnT P w K mg base n (He.ga K "is_standing") sp) : Cal P w K mg base n "is_standing" sp := ⟨F, kp_of (fd_is_standing c), He.glo_ok X G (c.fact 56 (f := fun K => (He.Fa.glo "is_standing").ok K) rfl)⟩
theorem at_is_standing (X : K.In h) (G : h.Ns mainGlobals mg) (c : SaysY fa fn K) : mg "is_standing" = some (.ref (He.ga K "is_standing")) := He.glo_ok X G (c.fact 56 (f := fun K => (He.Fa.glo "is_standing").ok K) rfl)
theorem fd_bad_standing (c : SaysY fa fn K) : FD K "bad_standing" "bad_standing" s_bad_standing [] (He.ga K "bad_standing") := (c.def_ 10 (d := d_bad_standing) rfl)
theorem cal_bad_standing {P : Program} {w : World} {base : Heap} {n : Nat} {sp : Sp} (X : K.In h) (G : h.Ns mainGlobals mg) (c : SaysY fa fn K) (F : FnT P w K mg base n (He.ga K "bad_standing") sp) : Cal P w K mg base n "bad_standing" sp := ⟨F, kp_of (fd_bad_standing c), He.glo_ok X G (c.fact 57 (f := fun K => (He.Fa.glo "bad_standing").ok K) rfl)⟩
theorem at_bad_standing (X : K.In h) (G : h.Ns mainGlobals mg) (c : SaysY fa fn K) : mg "bad_standing" = some (.ref (He.ga K "bad_standing")) := He.glo_ok X G (c.fact 57 (f := fun K => (He.Fa.glo "bad_standing").ok K) rfl)
theorem fd_Drill_Xinit (c : SaysY fa fn K) : FD K "__init__" "Drill.__init__" s_Drill_Xinit [] (He.fAd K ("Drill", some "__init__")) := (c.def_ 11 (d := d_Drill_Xinit) rfl)
theorem fd_Drill_is_steady (c : SaysY fa fn K) : FD K "is_steady" "Drill.is_steady" s_Drill_is_steady [] (pgt K (He.fAd K ("Drill", some "is_steady"))) := (c.def_ 12 (d := d_Drill_is_steady) rfl)
theorem fd_Drill_check_standing (c : SaysY fa fn K) : FD K "check_standing" "Drill.check_standing" s_Drill_check_standing [] (He.fAd K ("Drill", some "check_standing")) := (c.def_ 13 (d := d_Drill_check_standing) rfl)
theorem fd_Drill_Xcall (c : SaysY fa fn K) : FD K "__call__" "Drill.__call__" s_Drill_Xcall [] (He.fAd K ("Drill", some "__call__")) := (c.def_ 14 (d := d_Drill_Xcall) rfl)
theorem fd_Drill_walk (c : SaysY fa fn K) : FD K "walk" "Drill.walk" s_Drill_walk [] (He.fAd K ("Drill", some "walk")) := (c.def_ 15 (d := d_Drill_walk) rfl)
theorem fd_Drill_Xlen (c : SaysY fa fn K) : FD K "__len__" "Drill.__len__" s_Drill_Xlen [] (He.fAd K ("Drill", some "__len__")) := (c.def_ 16 (d := d_Drill_Xlen) rfl)
theorem fd_Drill_Xgetitem (c : SaysY fa fn K) : FD K "__getitem__" "Drill.__getitem__" s_Drill_Xgetitem [] (He.fAd K ("Drill", some "__getitem__")) := (c.def_ 17 (d := d_Drill_Xgetitem) rfl)
theorem fd_Drill_Xiter (c : SaysY fa fn K) : FD K "__iter__" "Drill.__iter__" s_Drill_Xiter [] (He.fAd K ("Drill", some "__iter__")) := (c.def_ 18 (d := d_Drill_Xiter) rfl)
theorem fd_Drill_Xeq (c : SaysY fa fn K) : FD K "__eq__" "Drill.__eq__" s_Drill_Xeq [] (He.fAd K ("Drill", some "__eq__")) := (c.def_ 19 (d := d_Drill_Xeq) rfl)
theorem fd_l_draw (c : SaysY fa fn K) : FD K "_law_draw" "_law_draw" s_l_draw [] (He.ga K "_law_draw") := (c.def_ 20 (d := d_l_draw) rfl)
theorem cal_l_draw {P : Program} {w : World} {base : Heap} {n : Nat} {sp : Sp} (X : K.In h) (G : h.Ns mainGlobals mg) (c : SaysY fa fn K) (F : FnT P w K mg base n (He.ga K "_law_draw") sp) : Cal P w K mg base n "_law_draw" sp := ⟨F, kp_of (fd_l_draw c), He.glo_ok X G (c.fact 58 (f := fun K => (He.Fa.glo "_law_draw").ok K) rfl)⟩
theorem at_l_draw (X : K.In h) (G : h.Ns mainGlobals mg) (c : SaysY fa fn K) : mg "_law_draw" = some (.ref (He.ga K "_law_draw")) := He.glo_ok X G (c.fact 58 (f := fun K => (He.Fa.glo "_law_draw").ok K) rfl)
theorem fd_l_mix (c : SaysY fa fn K) : FD K "_law_mix" "_law_mix" s_l_mix [] (He.ga K "_law_mix") := (c.def_ 21 (d := d_l_mix) rfl)
theorem cal_l_mix {P : Program} {w : World} {base : Heap} {n : Nat} {sp : Sp} (X : K.In h) (G : h.Ns mainGlobals mg) (c : SaysY fa fn K) (F : FnT P w K mg base n (He.ga K "_law_mix") sp) : Cal P w K mg base n "_law_mix" sp := ⟨F, kp_of (fd_l_mix c), He.glo_ok X G (c.fact 59 (f := fun K => (He.Fa.glo "_law_mix").ok K) rfl)⟩
theorem at_l_mix (X : K.In h) (G : h.Ns mainGlobals mg) (c : SaysY fa fn K) : mg "_law_mix" = some (.ref (He.ga K "_law_mix")) := He.glo_ok X G (c.fact 59 (f := fun K => (He.Fa.glo "_law_mix").ok K) rfl)
theorem fd_l_pick (c : SaysY fa fn K) : FD K "_law_pick" "_law_pick" s_l_pick [] (He.ga K "_law_pick") := (c.def_ 22 (d := d_l_pick) rfl)
theorem cal_l_pick {P : Program} {w : World} {base : Heap} {n : Nat} {sp : Sp} (X : K.In h) (G : h.Ns mainGlobals mg) (c : SaysY fa fn K) (F : FnT P w K mg base n (He.ga K "_law_pick") sp) : Cal P w K mg base n "_law_pick" sp := ⟨F, kp_of (fd_l_pick c), He.glo_ok X G (c.fact 60 (f := fun K => (He.Fa.glo "_law_pick").ok K) rfl)⟩
theorem at_l_pick (X : K.In h) (G : h.Ns mainGlobals mg) (c : SaysY fa fn K) : mg "_law_pick" = some (.ref (He.ga K "_law_pick")) := He.glo_ok X G (c.fact 60 (f := fun K => (He.Fa.glo "_law_pick").ok K) rfl)
theorem fd_l_listed (c : SaysY fa fn K) : FD K "_law_listed" "_law_listed" s_l_listed [] (He.ga K "_law_listed") := (c.def_ 23 (d := d_l_listed) rfl)
theorem cal_l_listed {P : Program} {w : World} {base : Heap} {n : Nat} {sp : Sp} (X : K.In h) (G : h.Ns mainGlobals mg) (c : SaysY fa fn K) (F : FnT P w K mg base n (He.ga K "_law_listed") sp) : Cal P w K mg base n "_law_listed" sp := ⟨F, kp_of (fd_l_listed c), He.glo_ok X G (c.fact 61 (f := fun K => (He.Fa.glo "_law_listed").ok K) rfl)⟩
theorem at_l_listed (X : K.In h) (G : h.Ns mainGlobals mg) (c : SaysY fa fn K) : mg "_law_listed" = some (.ref (He.ga K "_law_listed")) := He.glo_ok X G (c.fact 61 (f := fun K => (He.Fa.glo "_law_listed").ok K) rfl)
theorem fd_l_tupled (c : SaysY fa fn K) : FD K "_law_tupled" "_law_tupled" s_l_tupled [] (He.ga K "_law_tupled") := (c.def_ 24 (d := d_l_tupled) rfl)
theorem cal_l_tupled {P : Program} {w : World} {base : Heap} {n : Nat} {sp : Sp} (X : K.In h) (G : h.Ns mainGlobals mg) (c : SaysY fa fn K) (F : FnT P w K mg base n (He.ga K "_law_tupled") sp) : Cal P w K mg base n "_law_tupled" sp := ⟨F, kp_of (fd_l_tupled c), He.glo_ok X G (c.fact 62 (f := fun K => (He.Fa.glo "_law_tupled").ok K) rfl)⟩
theorem at_l_tupled (X : K.In h) (G : h.Ns mainGlobals mg) (c : SaysY fa fn K) : mg "_law_tupled" = some (.ref (He.ga K "_law_tupled")) := He.glo_ok X G (c.fact 62 (f := fun K => (He.Fa.glo "_law_tupled").ok K) rfl)
theorem fd_l_words (c : SaysY fa fn K) : FD K "_law_words" "_law_words" s_l_words [] (He.ga K "_law_words") := (c.def_ 25 (d := d_l_words) rfl)
theorem cal_l_words {P : Program} {w : World} {base : Heap} {n : Nat} {sp : Sp} (X : K.In h) (G : h.Ns mainGlobals mg) (c : SaysY fa fn K) (F : FnT P w K mg base n (He.ga K "_law_words") sp) : Cal P w K mg base n "_law_words" sp := ⟨F, kp_of (fd_l_words c), He.glo_ok X G (c.fact 63 (f := fun K => (He.Fa.glo "_law_words").ok K) rfl)⟩
theorem at_l_words (X : K.In h) (G : h.Ns mainGlobals mg) (c : SaysY fa fn K) : mg "_law_words" = some (.ref (He.ga K "_law_words")) := He.glo_ok X G (c.fact 63 (f := fun K => (He.Fa.glo "_law_words").ok K) rfl)
theorem fd_l_same (c : SaysY fa fn K) : FD K "_law_same" "_law_same" s_l_same [] (He.ga K "_law_same") := (c.def_ 26 (d := d_l_same) rfl)
theorem cal_l_same {P : Program} {w : World} {base : Heap} {n : Nat} {sp : Sp} (X : K.In h) (G : h.Ns mainGlobals mg) (c : SaysY fa fn K) (F : FnT P w K mg base n (He.ga K "_law_same") sp) : Cal P w K mg base n "_law_same" sp := ⟨F, kp_of (fd_l_same c), He.glo_ok X G (c.fact 64 (f := fun K => (He.Fa.glo "_law_same").ok K) rfl)⟩
theorem at_l_same (X : K.In h) (G : h.Ns mainGlobals mg) (c : SaysY fa fn K) : mg "_law_same" = some (.ref (He.ga K "_law_same")) := He.glo_ok X G (c.fact 64 (f := fun K => (He.Fa.glo "_law_same").ok K) rfl)
theorem fd_l_rows (c : SaysY fa fn K) : FD K "_law_rows" "_law_rows" s_l_rows [] (He.ga K "_law_rows") := (c.def_ 27 (d := d_l_rows) rfl)
theorem cal_l_rows {P : Program} {w : World} {base : Heap} {n : Nat} {sp : Sp} (X : K.In h) (G : h.Ns mainGlobals mg) (c : SaysY fa fn K) (F : FnT P w K mg base n (He.ga K "_law_rows") sp) : Cal P w K mg base n "_law_rows" sp := ⟨F, kp_of (fd_l_rows c), He.glo_ok X G (c.fact 65 (f := fun K => (He.Fa.glo "_law_rows").ok K) rfl)⟩
theorem at_l_rows (X : K.In h) (G : h.Ns mainGlobals mg) (c : SaysY fa fn K) : mg "_law_rows" = some (.ref (He.ga K "_law_rows")) := He.glo_ok X G (c.fact 65 (f := fun K => (He.Fa.glo "_law_rows").ok K) rfl)
theorem fd_l_handed (c : SaysY fa fn K) : FD K "_law_handed" "_law_handed" s_l_handed [] (He.ga K "_law_handed") := (c.def_ 28 (d := d_l_handed) rfl)
theorem cal_l_handed {P : Program} {w : World} {base : Heap} {n : Nat} {sp : Sp} (X : K.In h) (G : h.Ns mainGlobals mg) (c : SaysY fa fn K) (F : FnT P w K mg base n (He.ga K "_law_handed") sp) : Cal P w K mg base n "_law_handed" sp := ⟨F, kp_of (fd_l_handed c), He.glo_ok X G (c.fact 66 (f := fun K => (He.Fa.glo "_law_handed").ok K) rfl)⟩
theorem at_l_handed (X : K.In h) (G : h.Ns mainGlobals mg) (c : SaysY fa fn K) : mg "_law_handed" = some (.ref (He.ga K "_law_handed")) := He.glo_ok X G (c.fact 66 (f := fun K => (He.Fa.glo "_law_handed").ok K) rfl)
theorem fd_l_spoil (c : SaysY fa fn K) : FD K "_law_spoil" "_law_spoil" s_l_spoil [] (He.ga K "_law_spoil") := (c.def_ 29 (d := d_l_spoil) rfl)
theorem cal_l_spoil {P : Program} {w : World} {base : Heap} {n : Nat} {sp : Sp} (X : K.In h) (G : h.Ns mainGlobals mg) (c : SaysY fa fn K) (F : FnT P w K mg base n (He.ga K "_law_spoil") sp) : Cal P w K mg base n "_law_spoil" sp := ⟨F, kp_of (fd_l_spoil c), He.glo_ok X G (c.fact 67 (f := fun K => (He.Fa.glo "_law_spoil").ok K) rfl)⟩
theorem at_l_spoil (X : K.In h) (G : h.Ns mainGlobals mg) (c : SaysY fa fn K) : mg "_law_spoil" = some (.ref (He.ga K "_law_spoil")) := He.glo_ok X G (c.fact 67 (f := fun K => (He.Fa.glo "_law_spoil").ok K) rfl)
theorem fd_l_went (c : SaysY fa fn K) : FD K "_law_went" "_law_went" s_l_went [] (He.ga K "_law_went") := (c.def_ 30 (d := d_l_went) rfl)
theorem cal_l_went {P : Program} {w : World} {base : Heap} {n : Nat} {sp : Sp} (X : K.In h) (G : h.Ns mainGlobals mg) (c : SaysY fa fn K) (F : FnT P w K mg base n (He.ga K "_law_went") sp) : Cal P w K mg base n "_law_went" sp := ⟨F, kp_of (fd_l_went c), He.glo_ok X G (c.fact 68 (f := fun K => (He.Fa.glo "_law_went").ok K) rfl)⟩
theorem at_l_went (X : K.In h) (G : h.Ns mainGlobals mg) (c : SaysY fa fn K) : mg "_law_went" = some (.ref (He.ga K "_law_went")) := He.glo_ok X G (c.fact 68 (f := fun K => (He.Fa.glo "_law_went").ok K) rfl)
theorem fd_l_walks (c : SaysY fa fn K) : FD K "_law_walks" "_law_walks" s_l_walks [] (He.ga K "_law_walks") := (c.def_ 31 (d := d_l_walks) rfl)
theorem cal_l_walks {P : Program} {w : World} {base : Heap} {n : Nat} {sp : Sp} (X : K.In h) (G : h.Ns mainGlobals mg) (c : SaysY fa fn K) (F : FnT P w K mg base n (He.ga K "_law_walks") sp) : Cal P w K mg base n "_law_walks" sp := ⟨F, kp_of (fd_l_walks c), He.glo_ok X G (c.fact 69 (f := fun K => (He.Fa.glo "_law_walks").ok K) rfl)⟩
theorem at_l_walks (X : K.In h) (G : h.Ns mainGlobals mg) (c : SaysY fa fn K) : mg "_law_walks" = some (.ref (He.ga K "_law_walks")) := He.glo_ok X G (c.fact 69 (f := fun K => (He.Fa.glo "_law_walks").ok K) rfl)
theorem fd_l_shown (c : SaysY fa fn K) : FD K "_law_shown" "_law_shown" s_l_shown [] (He.ga K "_law_shown") := (c.def_ 32 (d := d_l_shown) rfl)
theorem cal_l_shown {P : Program} {w : World} {base : Heap} {n : Nat} {sp : Sp} (X : K.In h) (G : h.Ns mainGlobals mg) (c : SaysY fa fn K) (F : FnT P w K mg base n (He.ga K "_law_shown") sp) : Cal P w K mg base n "_law_shown" sp := ⟨F, kp_of (fd_l_shown c), He.glo_ok X G (c.fact 70 (f := fun K => (He.Fa.glo "_law_shown").ok K) rfl)⟩
theorem at_l_shown (X : K.In h) (G : h.Ns mainGlobals mg) (c : SaysY fa fn K) : mg "_law_shown" = some (.ref (He.ga K "_law_shown")) := He.glo_ok X G (c.fact 70 (f := fun K => (He.Fa.glo "_law_shown").ok K) rfl)
theorem fd_l_calling (c : SaysY fa fn K) : FD K "_law_calling" "_law_calling" s_l_calling [] (He.ga K "_law_calling") := (c.def_ 33 (d := d_l_calling) rfl)
theorem cal_l_calling {P : Program} {w : World} {base : Heap} {n : Nat} {sp : Sp} (X : K.In h) (G : h.Ns mainGlobals mg) (c : SaysY fa fn K) (F : FnT P w K mg base n (He.ga K "_law_calling") sp) : Cal P w K mg base n "_law_calling" sp := ⟨F, kp_of (fd_l_calling c), He.glo_ok X G (c.fact 71 (f := fun K => (He.Fa.glo "_law_calling").ok K) rfl)⟩
theorem at_l_calling (X : K.In h) (G : h.Ns mainGlobals mg) (c : SaysY fa fn K) : mg "_law_calling" = some (.ref (He.ga K "_law_calling")) := He.glo_ok X G (c.fact 71 (f := fun K => (He.Fa.glo "_law_calling").ok K) rfl)
theorem fd_l_told (c : SaysY fa fn K) : FD K "_law_told" "_law_told" s_l_told [] (He.ga K "_law_told") := (c.def_ 34 (d := d_l_told) rfl)
theorem cal_l_told {P : Program} {w : World} {base : Heap} {n : Nat} {sp : Sp} (X : K.In h) (G : h.Ns mainGlobals mg) (c : SaysY fa fn K) (F : FnT P w K mg base n (He.ga K "_law_told") sp) : Cal P w K mg base n "_law_told" sp := ⟨F, kp_of (fd_l_told c), He.glo_ok X G (c.fact 72 (f := fun K => (He.Fa.glo "_law_told").ok K) rfl)⟩
theorem at_l_told (X : K.In h) (G : h.Ns mainGlobals mg) (c : SaysY fa fn K) : mg "_law_told" = some (.ref (He.ga K "_law_told")) := He.glo_ok X G (c.fact 72 (f := fun K => (He.Fa.glo "_law_told").ok K) rfl)
theorem fd_l_making (c : SaysY fa fn K) : FD K "_law_making" "_law_making" s_l_making [] (He.ga K "_law_making") := (c.def_ 35 (d := d_l_making) rfl)
theorem cal_l_making {P : Program} {w : World} {base : Heap} {n : Nat} {sp : Sp} (X : K.In h) (G : h.Ns mainGlobals mg) (c : SaysY fa fn K) (F : FnT P w K mg base n (He.ga K "_law_making") sp) : Cal P w K mg base n "_law_making" sp := ⟨F, kp_of (fd_l_making c), He.glo_ok X G (c.fact 73 (f := fun K => (He.Fa.glo "_law_making").ok K) rfl)⟩
theorem at_l_making (X : K.In h) (G : h.Ns mainGlobals mg) (c : SaysY fa fn K) : mg "_law_making" = some (.ref (He.ga K "_law_making")) := He.glo_ok X G (c.fact 73 (f := fun K => (He.Fa.glo "_law_making").ok K) rfl)
theorem fd_l_asking (c : SaysY fa fn K) : FD K "_law_asking" "_law_asking" s_l_asking [] (He.ga K "_law_asking") := (c.def_ 36 (d := d_l_asking) rfl)
theorem cal_l_asking {P : Program} {w : World} {base : Heap} {n : Nat} {sp : Sp} (X : K.In h) (G : h.Ns mainGlobals mg) (c : SaysY fa fn K) (F : FnT P w K mg base n (He.ga K "_law_asking") sp) : Cal P w K mg base n "_law_asking" sp := ⟨F, kp_of (fd_l_asking c), He.glo_ok X G (c.fact 74 (f := fun K => (He.Fa.glo "_law_asking").ok K) rfl)⟩
theorem at_l_asking (X : K.In h) (G : h.Ns mainGlobals mg) (c : SaysY fa fn K) : mg "_law_asking" = some (.ref (He.ga K "_law_asking")) := He.glo_ok X G (c.fact 74 (f := fun K => (He.Fa.glo "_law_asking").ok K) rfl)
theorem fd_l_bad_words (c : SaysY fa fn K) : FD K "_law_bad_words" "_law_bad_words" s_l_bad_words [] (He.ga K "_law_bad_words") := (c.def_ 37 (d := d_l_bad_words) rfl)
theorem cal_l_bad_words {P : Program} {w : World} {base : Heap} {n : Nat} {sp : Sp} (X : K.In h) (G : h.Ns mainGlobals mg) (c : SaysY fa fn K) (F : FnT P w K mg base n (He.ga K "_law_bad_words") sp) : Cal P w K mg base n "_law_bad_words" sp := ⟨F, kp_of (fd_l_bad_words c), He.glo_ok X G (c.fact 75 (f := fun K => (He.Fa.glo "_law_bad_words").ok K) rfl)⟩
theorem at_l_bad_words (X : K.In h) (G : h.Ns mainGlobals mg) (c : SaysY fa fn K) : mg "_law_bad_words" = some (.ref (He.ga K "_law_bad_words")) := He.glo_ok X G (c.fact 75 (f := fun K => (He.Fa.glo "_law_bad_words").ok K) rfl)
theorem fd_l_bad_standing (c : SaysY fa fn K) : FD K "_law_bad_standing" "_law_bad_standing" s_l_bad_standing [] (He.ga K "_law_bad_standing") := (c.def_ 38 (d := d_l_bad_standing) rfl)
theorem cal_l_bad_standing {P : Program} {w : World} {base : Heap} {n : Nat} {sp : Sp} (X : K.In h) (G : h.Ns mainGlobals mg) (c : SaysY fa fn K) (F : FnT P w K mg base n (He.ga K "_law_bad_standing") sp) : Cal P w K mg base n "_law_bad_standing" sp := ⟨F, kp_of (fd_l_bad_standing c), He.glo_ok X G (c.fact 76 (f := fun K => (He.Fa.glo "_law_bad_standing").ok K) rfl)⟩
theorem at_l_bad_standing (X : K.In h) (G : h.Ns mainGlobals mg) (c : SaysY fa fn K) : mg "_law_bad_standing" = some (.ref (He.ga K "_law_bad_standing")) := He.glo_ok X G (c.fact 76 (f := fun K => (He.Fa.glo "_law_bad_standing").ok K) rfl)
theorem fd_l_bad_standings (c : SaysY fa fn K) : FD K "_law_bad_standings" "_law_bad_standings" s_l_bad_standings [] (He.ga K "_law_bad_standings") := (c.def_ 39 (d := d_l_bad_standings) rfl)
theorem cal_l_bad_standings {P : Program} {w : World} {base : Heap} {n : Nat} {sp : Sp} (X : K.In h) (G : h.Ns mainGlobals mg) (c : SaysY fa fn K) (F : FnT P w K mg base n (He.ga K "_law_bad_standings") sp) : Cal P w K mg base n "_law_bad_standings" sp := ⟨F, kp_of (fd_l_bad_standings c), He.glo_ok X G (c.fact 77 (f := fun K => (He.Fa.glo "_law_bad_standings").ok K) rfl)⟩
theorem at_l_bad_standings (X : K.In h) (G : h.Ns mainGlobals mg) (c : SaysY fa fn K) : mg "_law_bad_standings" = some (.ref (He.ga K "_law_bad_standings")) := He.glo_ok X G (c.fact 77 (f := fun K => (He.Fa.glo "_law_bad_standings").ok K) rfl)
theorem fd_l_bad_calling (c : SaysY fa fn K) : FD K "_law_bad_calling" "_law_bad_calling" s_l_bad_calling [] (He.ga K "_law_bad_calling") := (c.def_ 40 (d := d_l_bad_calling) rfl)
theorem cal_l_bad_calling {P : Program} {w : World} {base : Heap} {n : Nat} {sp : Sp} (X : K.In h) (G : h.Ns mainGlobals mg) (c : SaysY fa fn K) (F : FnT P w K mg base n (He.ga K "_law_bad_calling") sp) : Cal P w K mg base n "_law_bad_calling" sp := ⟨F, kp_of (fd_l_bad_calling c), He.glo_ok X G (c.fact 78 (f := fun K => (He.Fa.glo "_law_bad_calling").ok K) rfl)⟩
theorem at_l_bad_calling (X : K.In h) (G : h.Ns mainGlobals mg) (c : SaysY fa fn K) : mg "_law_bad_calling" = some (.ref (He.ga K "_law_bad_calling")) := He.glo_ok X G (c.fact 78 (f := fun K => (He.Fa.glo "_law_bad_calling").ok K) rfl)
theorem fd_l_refused (c : SaysY fa fn K) : FD K "_law_refused" "_law_refused" s_l_refused [] (He.ga K "_law_refused") := (c.def_ 41 (d := d_l_refused) rfl)
theorem cal_l_refused {P : Program} {w : World} {base : Heap} {n : Nat} {sp : Sp} (X : K.In h) (G : h.Ns mainGlobals mg) (c : SaysY fa fn K) (F : FnT P w K mg base n (He.ga K "_law_refused") sp) : Cal P w K mg base n "_law_refused" sp := ⟨F, kp_of (fd_l_refused c), He.glo_ok X G (c.fact 79 (f := fun K => (He.Fa.glo "_law_refused").ok K) rfl)⟩
theorem at_l_refused (X : K.In h) (G : h.Ns mainGlobals mg) (c : SaysY fa fn K) : mg "_law_refused" = some (.ref (He.ga K "_law_refused")) := He.glo_ok X G (c.fact 79 (f := fun K => (He.Fa.glo "_law_refused").ok K) rfl)
theorem fd_l_equals (c : SaysY fa fn K) : FD K "_law_equals" "_law_equals" s_l_equals [] (He.ga K "_law_equals") := (c.def_ 42 (d := d_l_equals) rfl)
theorem cal_l_equals {P : Program} {w : World} {base : Heap} {n : Nat} {sp : Sp} (X : K.In h) (G : h.Ns mainGlobals mg) (c : SaysY fa fn K) (F : FnT P w K mg base n (He.ga K "_law_equals") sp) : Cal P w K mg base n "_law_equals" sp := ⟨F, kp_of (fd_l_equals c), He.glo_ok X G (c.fact 80 (f := fun K => (He.Fa.glo "_law_equals").ok K) rfl)⟩
theorem at_l_equals (X : K.In h) (G : h.Ns mainGlobals mg) (c : SaysY fa fn K) : mg "_law_equals" = some (.ref (He.ga K "_law_equals")) := He.glo_ok X G (c.fact 80 (f := fun K => (He.Fa.glo "_law_equals").ok K) rfl)
theorem fd_law (c : SaysY fa fn K) : ∃ fd, FunD K "law" "law" (defArgs s_law) (defBody s_law) (defScope s_law) [] [] (He.ga K "law") fd := (c.def_ 43 (d := d_law) rfl)
theorem at_law (X : K.In h) (G : h.Ns mainGlobals mg) (c : SaysY fa fn K) : mg "law" = some (.ref (He.ga K "law")) := He.glo_ok X G (c.fact 81 (f := fun K => (He.Fa.glo "law").ok K) rfl)
theorem txte_of (c : SaysY fa fn K) : TxtE K where
  xc := fun q m => by
    simp only [errs, List.mem_cons, List.not_mem_nil, or_false] at m
    rcases m with rfl | rfl | rfl | rfl
    · exact excB_ok (c.fact 82 (f := fun K => excB K (He.ga K "BadWords")) rfl)
    · exact excB_ok (c.fact 83 (f := fun K => excB K (He.ga K "BadStanding")) rfl)
    · exact excB_ok (c.fact 84 (f := fun K => excB K (He.ga K "NoStanding")) rfl)
    · exact excB_ok (c.fact 85 (f := fun K => excB K (He.ga K "BadCalling")) rfl)
  xf := fun q m => by
    simp only [errs, List.mem_cons, List.not_mem_nil, or_false] at m
    rcases m with rfl | rfl | rfl | rfl
    · exact xfB_ok (c.fact 86 (f := fun K => xfB K (He.ga K "BadWords")) rfl)
    · exact xfB_ok (c.fact 87 (f := fun K => xfB K (He.ga K "BadStanding")) rfl)
    · exact xfB_ok (c.fact 88 (f := fun K => xfB K (He.ga K "NoStanding")) rfl)
    · exact xfB_ok (c.fact 89 (f := fun K => xfB K (He.ga K "BadCalling")) rfl)
  no := fun q m => by
    simp only [errs, List.mem_cons, List.not_mem_nil, or_false] at m
    rcases m with rfl | rfl | rfl | rfl
    · exact findB_ok (c.fact 41 (f := fun K => findB K (He.ga K "BadWords") "words" none) rfl)
    · exact findB_ok (c.fact 44 (f := fun K => findB K (He.ga K "BadStanding") "number" none) rfl)
    · exact findB_ok (c.fact 50 (f := fun K => findB K (He.ga K "NoStanding") "standing" none) rfl)
    · exact findB_ok (c.fact 47 (f := fun K => findB K (He.ga K "BadCalling") "number" none) rfl)
  is := fun q m r m2 => by
    simp only [errs, List.mem_cons, List.not_mem_nil, or_false] at m m2
    rcases m with rfl | rfl | rfl | rfl <;> rcases m2 with rfl | rfl | rfl | rfl
    · exact of_decide_eq_true (c.fact 90 (f := fun K => kitB' K (.ref (He.ga K "BadWords")) (.ref (He.ga K "BadWords")) (decide (("BadWords" : Str) = "BadWords"))) rfl)
    · exact of_decide_eq_true (c.fact 91 (f := fun K => kitB' K (.ref (He.ga K "BadWords")) (.ref (He.ga K "BadStanding")) (decide (("BadWords" : Str) = "BadStanding"))) rfl)
    · exact of_decide_eq_true (c.fact 92 (f := fun K => kitB' K (.ref (He.ga K "BadWords")) (.ref (He.ga K "NoStanding")) (decide (("BadWords" : Str) = "NoStanding"))) rfl)
    · exact of_decide_eq_true (c.fact 93 (f := fun K => kitB' K (.ref (He.ga K "BadWords")) (.ref (He.ga K "BadCalling")) (decide (("BadWords" : Str) = "BadCalling"))) rfl)
    · exact of_decide_eq_true (c.fact 94 (f := fun K => kitB' K (.ref (He.ga K "BadStanding")) (.ref (He.ga K "BadWords")) (decide (("BadStanding" : Str) = "BadWords"))) rfl)
    · exact of_decide_eq_true (c.fact 95 (f := fun K => kitB' K (.ref (He.ga K "BadStanding")) (.ref (He.ga K "BadStanding")) (decide (("BadStanding" : Str) = "BadStanding"))) rfl)
    · exact of_decide_eq_true (c.fact 96 (f := fun K => kitB' K (.ref (He.ga K "BadStanding")) (.ref (He.ga K "NoStanding")) (decide (("BadStanding" : Str) = "NoStanding"))) rfl)
    · exact of_decide_eq_true (c.fact 97 (f := fun K => kitB' K (.ref (He.ga K "BadStanding")) (.ref (He.ga K "BadCalling")) (decide (("BadStanding" : Str) = "BadCalling"))) rfl)
    · exact of_decide_eq_true (c.fact 98 (f := fun K => kitB' K (.ref (He.ga K "NoStanding")) (.ref (He.ga K "BadWords")) (decide (("NoStanding" : Str) = "BadWords"))) rfl)
    · exact of_decide_eq_true (c.fact 99 (f := fun K => kitB' K (.ref (He.ga K "NoStanding")) (.ref (He.ga K "BadStanding")) (decide (("NoStanding" : Str) = "BadStanding"))) rfl)
    · exact of_decide_eq_true (c.fact 100 (f := fun K => kitB' K (.ref (He.ga K "NoStanding")) (.ref (He.ga K "NoStanding")) (decide (("NoStanding" : Str) = "NoStanding"))) rfl)
    · exact of_decide_eq_true (c.fact 101 (f := fun K => kitB' K (.ref (He.ga K "NoStanding")) (.ref (He.ga K "BadCalling")) (decide (("NoStanding" : Str) = "BadCalling"))) rfl)
    · exact of_decide_eq_true (c.fact 102 (f := fun K => kitB' K (.ref (He.ga K "BadCalling")) (.ref (He.ga K "BadWords")) (decide (("BadCalling" : Str) = "BadWords"))) rfl)
    · exact of_decide_eq_true (c.fact 103 (f := fun K => kitB' K (.ref (He.ga K "BadCalling")) (.ref (He.ga K "BadStanding")) (decide (("BadCalling" : Str) = "BadStanding"))) rfl)
    · exact of_decide_eq_true (c.fact 104 (f := fun K => kitB' K (.ref (He.ga K "BadCalling")) (.ref (He.ga K "NoStanding")) (decide (("BadCalling" : Str) = "NoStanding"))) rfl)
    · exact of_decide_eq_true (c.fact 105 (f := fun K => kitB' K (.ref (He.ga K "BadCalling")) (.ref (He.ga K "BadCalling")) (decide (("BadCalling" : Str) = "BadCalling"))) rfl)
  ve := fun q m => by
    simp only [errs, List.mem_cons, List.not_mem_nil, or_false] at m
    rcases m with rfl | rfl | rfl | rfl
    · exact of_decide_eq_true (c.fact 106 (f := fun K => kitB' K (.ref (He.ga K "BadWords")) (.type "ValueError") true) rfl)
    · exact of_decide_eq_true (c.fact 107 (f := fun K => kitB' K (.ref (He.ga K "BadStanding")) (.type "ValueError") true) rfl)
    · exact of_decide_eq_true (c.fact 108 (f := fun K => kitB' K (.ref (He.ga K "NoStanding")) (.type "ValueError") true) rfl)
    · exact of_decide_eq_true (c.fact 109 (f := fun K => kitB' K (.ref (He.ga K "BadCalling")) (.type "ValueError") true) rfl)
  te := fun q m => by
    simp only [errs, List.mem_cons, List.not_mem_nil, or_false] at m
    rcases m with rfl | rfl | rfl | rfl
    · exact of_decide_eq_true (c.fact 110 (f := fun K => exmB K (.ref (He.ga K "BadWords")) (.ref (He.ga K "TailError")) true) rfl)
    · exact of_decide_eq_true (c.fact 111 (f := fun K => exmB K (.ref (He.ga K "BadStanding")) (.ref (He.ga K "TailError")) true) rfl)
    · exact of_decide_eq_true (c.fact 112 (f := fun K => exmB K (.ref (He.ga K "NoStanding")) (.ref (He.ga K "TailError")) true) rfl)
    · exact of_decide_eq_true (c.fact 113 (f := fun K => exmB K (.ref (He.ga K "BadCalling")) (.ref (He.ga K "TailError")) true) rfl)
theorem txt2_of (c : SaysY fa fn K) : Txt2 K := ⟨(creadB_ok (c.fact 114 (f := fun K => creadB K (He.ga K "Drill") (.type "type") "REST" 0) rfl)).elim fun u z => ⟨_, u, z⟩, conB_ok (c.fact 115 (f := fun K => conB K (He.ga K "Drill") "REST" 0) rfl)⟩
theorem txt3_of (c : SaysY fa fn K) : Txt3 K := ⟨(c.fact 116 (f := fun K => PySem.W.notFirst K (He.ga K "Drill") (.ref (He.ga K "Drill"))) rfl), (c.fact 117 (f := fun K => PySem.W.notFirst K (He.ga K "Drill") (.type "list")) rfl), (c.fact 118 (f := fun K => PySem.W.notFirst K (He.ga K "Drill") (.type "int")) rfl)⟩
end
end K
set_option Elab.async false
set_option linter.all false
set_option maxRecDepth 100000
set_option maxHeartbeats 4000000
namespace K
open PySem PySem.Spec PyProof.Rows L2 TH
theorem intBits_log (z : Int) (h : Builtin.Int.intBits z ≤ 1048576) : z.natAbs.log2 < 2 ^ 21 := by
  unfold Builtin.Int.intBits at h
  split at h
  · rename_i e
    have : z.natAbs = 0 := by first | exact Nat.eq_zero_of_not_pos (by simpa using e) | simpa using e | omega
    rw [this]; decide
  · omega
theorem facts {P : Program} {w : World} {K : PySem.W.Frag} {h : Heap} {mg : Str → Option Value} {f : Addr} (X : K.In h) (G : h.Ns mainGlobals mg) (hfa : mg ("law" : Str) = some (.ref f)) (c : SaysY fa fn K) :
    ∃ fd : FuncData, (∀ (s : Shared) (v : Value), BindsTo s fd ⟨[v], []⟩ [("_law_script", v)]) ∧ ∀ base : Heap, K.In base → base.Ns mainGlobals mg → FnOk P w K mg base (L2N.CX P w) 18 f fd ["_law_script"] (sp_law (K := K)) := by
  obtain ⟨fd, Fl⟩ := fd_law c
  have e := hfa.symm.trans (at_law X G c)
  cases e
  have b := FunD.bindsA (ps := ["_law_script"]) Fl fun _ _ _ _ _ _ us hl => match us, hl with | [_], _ => rfl
  refine ⟨fd, fun s v => b s [v] rfl, fun base _ _ => ?_⟩
  have T := txt_of X G c
  have TE := txte_of c
  have T2 := txt2_of c
  have T3 := txt3_of c
  have R1 : Rse P w K mg base "BadWords" "words" := rse_BadWords X G c
  have R2 : Rse P w K mg base "BadStanding" "number" := rse_BadStanding X G c
  have R3 : Rse P w K mg base "NoStanding" "standing" := rse_NoStanding X G c
  have R4 : Rse P w K mg base "BadCalling" "number" := rse_BadCalling X G c
  have c_int := cal_is_integer X G c (ok_is_integer (P := P) (w := w) (base := base) T (fd_is_integer c))
  have c_deep := cal_deep X G c (ok_deep1 (P := P) (w := w) (base := base) T (fd_deep c) (kp_of (fd_deep c)) (at_deep X G c) 12)
  have c_lot := cal_is_lot X G c (ok_is_lot (P := P) (w := w) (base := base) T (fd_is_lot c))
  have c_words := cal_is_words X G c (ok_is_words T c_lot (fd_is_words c))
  have c_check := cal_check_calling X G c (ok_check T R4 (fd_check_calling c))
  have c_st := cal_is_standing X G c (ok_is_standing T c_int (fd_is_standing c))
  have c_bst := cal_bad_standing X G c (ok_bad_standing T c_st (fd_bad_standing c))
  have f_init := ok_init T c_words c_deep c_bst R1 R2 (fd_Drill_Xinit c)
  have f_chk := ok_chk T c_int R3 (fd_Drill_check_standing c)
  have f_call := ok_call T f_chk c_check (fd_Drill_Xcall c)
  have f_walk := ok_walk T f_chk c_check (fd_Drill_walk c)
  have f_len := ok_len (P := P) (w := w) (base := base) T (fd_Drill_Xlen c)
  have f_get := ok_get T c_int R3 (fd_Drill_Xgetitem c)
  have f_steady := ok_steady (P := P) (w := w) (base := base) T (fd_Drill_is_steady c)
  have f_eq := ok_eq (P := P) (w := w) (base := base) T (fd_Drill_Xeq c)
  have c_mix := cal_l_mix X G c (ok_mix (P := P) (w := w) (base := base) T (fd_l_mix c))
  have c_pick := cal_l_pick X G c (ok_pick T c_mix (fd_l_pick c))
  have c_tupled := cal_l_tupled X G c (ok_tupled (P := P) (w := w) (base := base) T (fd_l_tupled c) (kp_of (fd_l_tupled c)) (at_l_tupled X G c) 4)
  have c_listed := cal_l_listed X G c (ok_listed (P := P) (w := w) (base := base) T (fd_l_listed c) (kp_of (fd_l_listed c)) (at_l_listed X G c) 4)
  have c_same4 := cal_l_same X G c (ok_same (P := P) (w := w) (base := base) T (fd_l_same c) (kp_of (fd_l_same c)) (at_l_same X G c) 4)
  have c_same5 := cal_l_same X G c (ok_same (P := P) (w := w) (base := base) T (fd_l_same c) (kp_of (fd_l_same c)) (at_l_same X G c) 5)
  have c_spoil := cal_l_spoil X G c (ok_spoil (P := P) (w := w) (base := base) T (fd_l_spoil c) (kp_of (fd_l_spoil c)) (at_l_spoil X G c) 4)
  have c_draw := cal_l_draw X G c (ok_draw (P := P) (w := w) (base := base) T (fd_l_draw c))
  have c_lwords := cal_l_words X G c (ok_lwords T c_pick (fd_l_words c))
  have c_rows := cal_l_rows X G c (ok_rows T c_pick (fd_l_rows c))
  have c_handed := cal_l_handed X G c (ok_handed T c_pick c_tupled c_listed (fd_l_handed c))
  have c_went := cal_l_went X G c (ok_went (P := P) (w := w) (base := base) T (fd_l_went c))
  have c_walks := cal_l_walks X G c (ok_walks T c_went c_same4 f_call f_walk (fd_l_walks c))
  have c_shown := cal_l_shown X G c (ok_shown T T2 c_same4 f_len f_get f_steady (fd_l_shown c))
  have c_calling := cal_l_calling X G c (ok_calling T c_pick (fd_l_calling c))
  have c_told : CalP P w K mg base 1 "_law_told" (sp_told (K := K)) := ⟨ok_told T TE (fd_l_told c), kp_of (fd_l_told c), at_l_told X G c⟩
  have c_making := cal_l_making X G c (ok_making T TE c_told f_init (fd_l_making c))
  have c_asking := cal_l_asking X G c (ok_asking T TE c_told f_get f_call f_walk (fd_l_asking c))
  have c_badw := cal_l_bad_words X G c (ok_bad_words T c_pick c_lwords (fd_l_bad_words c))
  have c_bads := cal_l_bad_standing X G c (ok_bad_standing1 T c_pick (fd_l_bad_standing c))
  have c_badss := cal_l_bad_standings X G c (ok_bad_standings T c_pick c_tupled c_listed c_bads (fd_l_bad_standings c))
  have c_badc := cal_l_bad_calling X G c (ok_bad_calling T c_pick (fd_l_bad_calling c))
  have c_refused := cal_l_refused X G c (ok_refused T c_pick c_badw c_badss c_listed c_same5 c_making c_badc c_calling c_asking c_went (fd_l_refused c))
  have c_equals := cal_l_equals X G c (ok_equals T T3 c_pick c_listed c_lwords c_handed c_same5 f_init f_eq (fd_l_equals c))
  exact ok_law T c_draw c_pick c_lwords c_rows c_handed c_same5 c_listed c_spoil c_calling c_walks c_tupled c_shown c_equals c_refused f_init f_eq T3 Fl
end K
set_option Elab.async false
set_option linter.all false
set_option maxRecDepth 100000
set_option maxHeartbeats 0
open PySem PySem.W PySem.Calls PyProof.Rows
theorem PySem.Challenge.cw_tailheard_k01_drills_led_holds : PySem.Challenge.rw_tailheard_k01_drills_led.Holds := by
  w_on; o_law
  refine HandSHeadRun.head_any (r := OpenLaw.row PySem.Challenge.rw_tailheard_k01_drills_led) (q := view (OpenLaw.row PySem.Challenge.rw_tailheard_k01_drills_led).prog [K.iLaw]) (H := K.hk) (ob := K.ob) (M := 20000) (loose := K.names) (d := HandSHeadRun.topDef (OpenLaw.row PySem.Challenge.rw_tailheard_k01_drills_led).prog K.iLaw) (kwd := []) K.ob_eq
    (by kernel_rfl) (fun s => by kernel_rfl) K.run (by kernel_rfl) (by kernel_rfl) (by kernel_rfl) (by rfl) (by first | assumption | decide +kernel) (by decide +kernel) ⟨rfl, rfl, rfl, rfl, rfl, by decide +kernel⟩ ?hw ?hc
  case hw => w_witness2
  case hc =>
    refine TH.walk_ofY (l := PySem.Challenge.rw_tailheard_k01_drills_led) (n := 63) (k := 18) (x := "_law_script") (CX := fun w => L2N.CX (PySem.Challenge.rw_tailheard_k01_drills_led).prog w) rfl (by decide) (by kernel_rfl) ⟨rfl, by decide, by decide⟩ ?F (fun w H s e s' h => by
      obtain ⟨_, _, _, _, _, _, _, _, _, _, _, _, z⟩ := h
      exact z.elim)
    intro w mg fa h Y G hmg0
    obtain ⟨Kf, KX, c⟩ := Y
    have hmg : mg ("law" : PySem.Str) = some (.ref fa) := by
      have e : (HandSHeadRun.topDef (OpenLaw.row PySem.Challenge.rw_tailheard_k01_drills_led).prog K.iLaw).name = ("law" : PySem.Str) := by kernel_rfl
      rw [← e]
      exact hmg0
    obtain ⟨fd, hb, hF⟩ := K.facts (P := (PySem.Challenge.rw_tailheard_k01_drills_led).prog) (w := w) KX G hmg c
    exact ⟨Kf, fd, K.sp_law (K := Kf), KX, hb, fun H a ns hl hbits hS => ⟨a, ns, rfl, hS, hl, fun z hz => K.intBits_log z (hbits z hz), fun _ => rfl⟩, hF⟩
