import PyProof.Rows.All
import Wide.All
import OpenK.AllK
import Wide.FinOn
import KE.KStateDown
import KE.KExcSuper
import KE.KDictZip
import HandS.ForMost
import HandS.More
import HandS.WordsExc
import HandS.Defaults
import HandS.MakeKw
import HandS.Star
import HandS.IsInst
import HandS.DictComp
import HandS.Walk
import HandS.Zip
import HandS.RaiseMore
import HandS.TupAny
import HandS.Deep
import HandS.TupLen
import HandS.NoneIn
import HandS.Small
import HandS.TryMany
import HandS.ExcInit
import HandS.ExcField
import HandS.Lambda
import HandS.EndTab
import HandS.HeadHook4
import PySem.Challenge.RW_refundtrees_k75_whole_builds_written
import HandS.SortInts
import HandS.Dict
import PyProof.Rows.StrSplitJoin
import HandS.Text
import HandS.Conv
import PyProof.StrLawsChain
import HandS.Zip0
import HandS.Style
import PyProof.NeKinds
import PyProof.ReprBulk
import HandS.Codes
import KE.KSuper
import HandS.Head0
import HandS.Head1
import HandS.Head2
import HandS.HeadEnd
import HandS.HeadHook1
import HandS.HeadHook2
import HandS.HeadHook3
import HandS.HeadWalk
set_option Elab.async false
set_option linter.all false
set_option maxRecDepth 100000
set_option maxHeartbeats 4000000
namespace K75
open PySem PySem.Spec PyProof.Rows L2
/-! ### the text by places -/
def top (i : Nat) : Stmt := PySem.Challenge.pw_refundtrees_k75_whole_builds_written.main.body.getD i (.Pass ⟨0, 0, 0, 0⟩)
abbrev sNoBuildInit : Stmt := inClass (top 5) 0
abbrev sNoNoteInit : Stmt := inClass (top 13) 0
abbrev sIsWhole : Stmt := top 17
abbrev sIsNumber : Stmt := top 18
abbrev sIsWord : Stmt := top 19
abbrev sIsRow : Stmt := top 20
abbrev sAreUnlike : Stmt := top 21
abbrev sAreTuples : Stmt := top 22
abbrev sAreSkills : Stmt := top 32
abbrev sAreNeeds : Stmt := top 33
abbrev sIsWant : Stmt := top 34
abbrev sAreBars : Stmt := top 35
abbrev sAreNumbered : Stmt := top 36
abbrev sLookAtParts : Stmt := top 37
abbrev sBookInit : Stmt := inClass (top 38) 0
abbrev sBookAsked : Stmt := inClass (top 38) 1
abbrev sAreSkillsOf : Stmt := top 40
abbrev sInOrder : Stmt := top 41
abbrev sIsBuild : Stmt := top 42
abbrev sWriteBuild : Stmt := top 44
abbrev sReadBuild : Stmt := top 45
abbrev sLawPool : Stmt := top 47
abbrev sLawTake : Stmt := top 48
abbrev sLawOne : Stmt := top 49
abbrev sLawTurned : Stmt := top 50
abbrev sLawTree : Stmt := top 51
abbrev sLawRows : Stmt := top 52
abbrev sLawBook : Stmt := top 53
abbrev sLawMade : Stmt := top 54
abbrev sLawNames : Stmt := top 55
abbrev sLawSubsets : Stmt := top 56
abbrev sLawCaught : Stmt := top 57
abbrev sLaw : Stmt := top 58
/-! ### a def as it stands, a def that keeps a promise -/
abbrev FnP (K : PySem.W.Frag) (x : Str) (st : Stmt) (f : Addr) (fd : FuncData) : Prop := FunD K x x (defArgs st) (defBody st) (defScope st) [] [] f fd
def Df (K : PySem.W.Frag) (mg : Str → Option Value) (x : Str) (st : Stmt) : Prop := ∃ (f : Addr) (fd : FuncData), mg x = some (.ref f) ∧ FnP K x st f fd
/-- the def x keeps sp, with k rooms -/
structure Cl (P : Program) (w : World) (K : PySem.W.Frag) (mg : Str → Option Value) (base : Heap) (CX : CXT) (k : Nat) (x : Str) (sp : Sp) : Prop where
  ex : ∃ (f : Addr) (fd : FuncData) (ps : List Str), FnOk P w K mg base CX k f fd ps sp ∧ mg x = some (.ref f) ∧ PySem.W.keepIn K (.ref f) = true ∧ Binds K fd ps []
section
variable {P : Program} {w : World} {K : PySem.W.Frag} {mg : Str → Option Value} {base : Heap}
theorem cl_of {x : Str} {st : Stmt} {N ps : List Str} {k : Nat} {sp : Sp} (D : Df K mg x st) (S : FnScope N ps (defScope st))
    (hb : ∀ (kV doc pm : Value) (an : Option Addr) (cdv ct : Value) (us : List Value), us.length = ps.length → bindArgs (PySem.W.fnOf x x (defArgs st) (defBody st) (defScope st) .none kV doc pm an cdv ct) ⟨us, []⟩ = pure (ps.zip us))
    (len : ∀ vs H Q E, sp vs H Q E → vs.length = ps.length)
    (body : ∀ (f : Addr) (cdv : Value) (A : Around) (outer : List Env) (s : Shared) (H : Hp) (vs : List V) (Q : VK) (E : XK), Room k (A.deeper (envOfC x (defScope st) s.heap.objs.size f cdv)) → sp vs H Q E →
      ∃ t, PSs (cxOf CX0 P w K mg base N x (defScope st) f cdv A outer s H E).nox (defBody st) t ∧ t { nx := fun _ H' => Q .non H', rt := Q } (start N vs) H) : Cl P w K mg base CX0 (k + 1) x sp := by
  obtain ⟨f, fd, hm, F⟩ := D
  refine ⟨f, fd, ps, F.ok S len fun cdv A outer s H vs Q E hr h => ?_, hm, F.kp, F.bindsN hb⟩
  obtain ⟨t, h1, h2⟩ := body f cdv A outer s H vs Q E hr h
  exact ⟨t, h1.nox, h2⟩
/-- .. that may raise -/
theorem cl_ofX {x : Str} {st : Stmt} {N ps : List Str} {k : Nat} {sp : Sp} (D : Df K mg x st) (S : FnScope N ps (defScope st))
    (hb : ∀ (kV doc pm : Value) (an : Option Addr) (cdv ct : Value) (us : List Value), us.length = ps.length → bindArgs (PySem.W.fnOf x x (defArgs st) (defBody st) (defScope st) .none kV doc pm an cdv ct) ⟨us, []⟩ = pure (ps.zip us))
    (len : ∀ vs H Q E, sp vs H Q E → vs.length = ps.length)
    (body : ∀ (f : Addr) (cdv : Value) (A : Around) (outer : List Env) (s : Shared) (H : Hp) (vs : List V) (Q : VK) (E : XK), Room k (A.deeper (envOfC x (defScope st) s.heap.objs.size f cdv)) → sp vs H Q E →
      ∃ t, PSs (cxOf (L2.CX P w) P w K mg base N x (defScope st) f cdv A outer s H E) (defBody st) t ∧ t { nx := fun _ H' => Q .non H', rt := Q } (start N vs) H) : Cl P w K mg base (L2.CX P w) (k + 1) x sp := by
  obtain ⟨f, fd, hm, F⟩ := D
  exact ⟨f, fd, ps, F.ok S len fun cdv A outer s H vs Q E hr h => body f cdv A outer s H vs Q E hr h, hm, F.kp, F.bindsN hb⟩
end
section
variable {X : Cx} {CX : CXT} {k j : Nat} {x : Str} {sp : Sp} {p pos : Pos} {e : Expr} {es : List Expr} {t : TA}
/-- f(e, ..): nothing is raised -/
theorem pe_k (c : Cl X.prog X.w X.K X.mg X.base CX0 k x sp) (hr : Room j X.A) (ha : PA X (e :: es) t) (hk : k ≤ j := by decide) (hg : Gl X x := by rfl)
    (hdb : (x == ("__debug__" : Str)) = false := by decide) (he : starEach (e :: es) X.env = (false, eval e X.env) :: starEach es X.env := by rfl) (hpl : (backTo pos (starEach es X.env)).any (·.1) = false := by rfl) :
    PE X (.Call (.Name x p) (e :: es) [] pos) (tCall sp [] E0 t) := by
  obtain ⟨f, fd, ps, F, hm, kp, b⟩ := c.ex
  exact pe_call F (hr.mono hk) hg hm kp b .nil pass0 ha hdb he hpl
end
/-! ### built-ins -/
theorem b_isi : bootBuiltins "isinstance" = some (.builtin "isinstance") := by decide +kernel
theorem b_len : bootBuiltins "len" = some (.builtin "len") := by decide +kernel
theorem b_all : bootBuiltins "all" = some (.builtin "all") := by decide +kernel
theorem b_max : bootBuiltins "max" = some (.builtin "max") := by decide +kernel
theorem b_min : bootBuiltins "min" = some (.builtin "min") := by decide +kernel
theorem b_sum : bootBuiltins "sum" = some (.builtin "sum") := by decide +kernel
theorem b_sorted : bootBuiltins "sorted" = some (.builtin "sorted") := by decide +kernel
theorem b_repr : bootBuiltins "repr" = some (.builtin "repr") := by decide +kernel
theorem b_str : bootBuiltins "str" = some (.type "str") := by decide +kernel
theorem b_int : bootBuiltins "int" = some (.type "int") := by decide +kernel
theorem b_bool : bootBuiltins "bool" = some (.type "bool") := by decide +kernel
theorem b_list : bootBuiltins "list" = some (.type "list") := by decide +kernel
theorem b_tuple : bootBuiltins "tuple" = some (.type "tuple") := by decide +kernel
theorem b_dict : bootBuiltins "dict" = some (.type "dict") := by decide +kernel
theorem b_zip : bootBuiltins "zip" = some (.type "zip") := by decide +kernel
theorem b_super : bootBuiltins "super" = some (.type "super") := by decide +kernel
/-- what the top leaves of plain names -/
structure Tx (K : PySem.W.Frag) (mg : Str → Option Value) : Prop where
  isi : mg "isinstance" = none
  len : mg "len" = none
  all : mg "all" = none
  max : mg "max" = none
  min : mg "min" = none
  sum : mg "sum" = none
  sorted : mg "sorted" = none
  repr : mg "repr" = none
  str : mg "str" = none
  int : mg "int" = none
  bool : mg "bool" = none
  list : mg "list" = none
  tuple : mg "tuple" = none
  dict : mg "dict" = none
  zip : mg "zip" = none
  range : mg "range" = none
  super : mg "super" = none
  letters : ∃ t, mg "LETTERS" = some (.str "abcdefghijklmnopqrstuvwxyz" t)
  mLet : ∃ t, mg "MOST_LETTERS" = some (.int 8 t)
  mSki : ∃ t, mg "MOST_SKILLS" = some (.int 12 t)
  mTie : ∃ t, mg "MOST_TIERS" = some (.int 4 t)
  mPoi : ∃ t, mg "MOST_POINTS" = some (.int 12 t)
  mWan : ∃ t, mg "MOST_WANTS" = some (.int 12 t)
  mBar : ∃ t, mg "MOST_BARS" = some (.int 6 t)
  mGiv : ∃ t, mg "MOST_GIVEN" = some (.int 3 t)
  mPri : ∃ t, mg "MOST_PRICE" = some (.int 99 t)
/-- a module's int, text -/
theorem pe_gi {X : Cx} {x : Str} {i : Int} {pos : Pos} (h : ∃ t, X.mg x = some (.int i t)) (hg : Gl X x := by rfl) (hd : (x == ("__debug__" : Str)) = false := by decide) : PE X (.Name x pos) (tC (.int i)) := by
  obtain ⟨t, h⟩ := h
  exact pe_glob hg h ⟨t, rfl⟩ hd
theorem pe_gs {X : Cx} {x z : Str} {pos : Pos} (h : ∃ t, X.mg x = some (.str z t)) (hg : Gl X x := by rfl) (hd : (x == ("__debug__" : Str)) = false := by decide) : PE X (.Name x pos) (tC (.str z)) := by
  obtain ⟨t, h⟩ := h
  exact pe_glob hg h ⟨t, rfl⟩ hd
/-- a built-in type as a value -/
theorem pe_bt {X : Cx} {x : Str} {n : String} {pos : Pos} (hm : X.mg x = none) (hv : bootBuiltins x = some (.type n)) (hg : Gl X x := by rfl) (hn : x ≠ "__name__" := by decide) (hd : (x == ("__debug__" : Str)) = false := by decide) : PE X (.Name x pos) (tC (.ty n)) :=
  pe_bltn hg hm hv rfl hn hd
end K75
set_option Elab.async false
set_option linter.all false
set_option maxRecDepth 100000
set_option maxHeartbeats 4000000
namespace K75
open PySem PySem.Spec PyProof.Rows L2
section
variable {P : Program} {w : World} {K : PySem.W.Frag} {mg : Str → Option Value} {base : Heap}
/-! ### rules whose reading names the written part by a letter of its own (within a comprehension's block) -/
def rLenS (K : PySem.W.Frag) : List V → Hp → VK → Prop := fun xs H Q => ∃ (p : Addr) (ys : List V), xs = [.ref p] ∧ (SqL K H p ys ∨ SqT K H p ys) ∧ Q (.int ys.length) H
section
variable {X : Cx} (K : PySem.W.Frag)
theorem k_isi (h : X.K = K := by rfl) : CallR X (.builtin "isinstance") (rIsi K) := by
  subst h
  exact call_isi
theorem k_len (h : X.K = K := by rfl) : CallR X (.builtin "len") (rLenS K) := by
  subst h
  exact call_len_seq
theorem k_in (h : X.K = K := by rfl) : OpR X (compareOp .In) (rIn K false) := by
  subst h
  exact op_in_seq
theorem k_notIn (h : X.K = K := by rfl) : OpR X (compareOp .NotIn) (rIn K true) := by
  subst h
  exact op_notIn_seq
theorem k_ixL (h : X.K = K := by rfl) : IxR X (rIxL K) := by
  subst h
  exact ix_list
theorem k_ixT (h : X.K = K := by rfl) : IxR X (rIxT K) := by
  subst h
  exact ix_tup
theorem k_fld {e : Expr} {ta : TE} {f : Str} {pos : Pos} (he : PE X e ta) (h : X.K = K := by rfl) (hb : attributeBase e f X.env (eval e X.env) = eval e X.env := by rfl) : PE X (.Attribute e f pos) (tFld K ta f) := by
  subst h
  exact pe_fld he hb
theorem k_tup {es : List Expr} {k : Nat} {t : TGs} {n : Nat} {pos : Pos} (ht : PGs X es t) (h : X.K = K := by rfl) (hc : X.calm = true := by rfl)
    (hn : (assignEach es X.env).length = n := by rfl) (hst : (assignEach es X.env).findIdx? (·.1) = none := by rfl) : PG X (.Tuple es k pos) (gTup K n t) := by
  subst h
  exact pg_tup hc ht hn hst
/-- isinstance(x, T) -/
theorem pe_is {x : Str} {n : String} {p p2 pos : Pos} {e : Expr} {te : TE} (he : PE X e te) (hi : X.mg "isinstance" = none) (hm : X.mg x = none) (hv : bootBuiltins x = some (.type n)) (hK : X.K = K := by rfl) (hgi : Gl X "isinstance" := by rfl) (hg : Gl X x := by rfl)
    (hn : x ≠ "__name__" := by decide) (hd : (x == ("__debug__" : Str)) = false := by decide) (hst : starEach [e, .Name x p2] X.env = (false, eval e X.env) :: starEach [.Name x p2] X.env := by rfl) (hst2 : starEach [.Name x p2] X.env = (false, eval (.Name x p2) X.env) :: starEach [] X.env := by rfl)
    (hpl : (backTo pos (starEach [.Name x p2] X.env)).any (·.1) = false := by rfl) :
    PE X (.Call (.Name "isinstance" p) [e, .Name x p2] [] pos) (tCB (rIsi K) (tCons te (tCons (tC (.ty n)) tNil))) :=
  pe_callB (k_isi K hK) hgi hi b_isi (pa_cons he (pa_cons (pe_bltn hg hm hv rfl hn hd) pa_nil (by exact hst2)) (by exact hst)) (he := hst) (hpl := hpl)
/-- len(x) -/
theorem pe_len {p pos : Pos} {e : Expr} {te : TE} (he : PE X e te) (hm : X.mg "len" = none) (hK : X.K = K := by rfl) (hg : Gl X "len" := by rfl)
    (hst : starEach [e] X.env = (false, eval e X.env) :: starEach [] X.env := by rfl) : PE X (.Call (.Name "len" p) [e] [] pos) (tCB (rLenS K) (tCons te tNil)) :=
  pe_callB (k_len K hK) hg hm b_len (pa_cons he pa_nil (by exact hst)) (he := hst) (hpl := rfl)
end
def spWhole : Sp := fun vs H Q _ => ∃ i : Int, vs = [.int i] ∧ Q (.bl true) H
theorem scWhole : FnScope ["value"] ["value"] (defScope sIsWhole) := ⟨rfl, rfl, rfl, by decide +kernel, rfl, by decide +kernel, by decide +kernel⟩
theorem cl_whole (T : Tx K mg) (D : Df K mg "is_whole" sIsWhole) : Cl P w K mg base CX0 1 "is_whole" spWhole := by
  refine cl_of D scWhole (fun _ _ _ _ _ _ us hl => match us, hl with | [_], _ => rfl) (fun vs H Q E h => ?_) (fun f cdv A outer s H vs Q E hr h => ?_)
  · obtain ⟨i, rfl, _⟩ := h
    rfl
  · obtain ⟨i, rfl, q⟩ := h
    refine ⟨_, pss_one (ps_ret (pe_and (pe_is K (pv 0) T.isi T.int b_int) (pe_one (pe_not (pe_is K (pv 0) T.isi T.bool b_bool))))), ?_⟩
    refine ⟨_, rfl, _, _, _, _, true, rfl, .ty _, .base (.int i), kit_ty (by decide +kernel), true, rfl, iteT ?_⟩
    exact ⟨_, rfl, _, _, _, _, false, rfl, .ty _, .base (.int i), kit_ty (by decide +kernel), false, rfl, q⟩
def spNumber : Sp := fun vs H Q _ => ∃ i lo hi : Int, vs = [.int i, .int lo, .int hi] ∧ Q (.bl (decide (lo ≤ i) && decide (i ≤ hi))) H
theorem scNumber : FnScope ["value", "low", "high"] ["value", "low", "high"] (defScope sIsNumber) := ⟨rfl, rfl, rfl, by decide +kernel, rfl, by decide +kernel, by decide +kernel⟩
theorem cl_number (T : Tx K mg) (D : Df K mg "is_number" sIsNumber) (cW : Cl P w K mg base CX0 1 "is_whole" spWhole) : Cl P w K mg base CX0 2 "is_number" spNumber := by
  refine cl_of D scNumber (fun _ _ _ _ _ _ us hl => match us, hl with | [_, _, _], _ => rfl) (fun vs H Q E h => ?_) (fun f cdv A outer s H vs Q E hr h => ?_)
  · obtain ⟨i, lo, hi, rfl, _⟩ := h
    rfl
  · obtain ⟨i, lo, hi, rfl, q⟩ := h
    refine ⟨_, pss_one (ps_ret (pe_and (pe_k cW hr (pa_cons (pv 0) pa_nil)) (pe_one (pe_chain op_le op_le (pv 1) (pv 0) (pv 2))))), ?_⟩
    refine ⟨_, rfl, i, rfl, true, rfl, iteT ?_⟩
    refine ⟨_, rfl, _, rfl, _, _, rfl, rfl, _, rfl, ?_⟩
    by_cases h1 : lo ≤ i
    · rw [decide_eq_true h1] at q ⊢
      refine iteT ⟨_, rfl, _, _, rfl, rfl, ?_⟩
      simpa using q
    · rw [decide_eq_false h1] at q ⊢
      refine iteF ?_
      simpa using q
end
end K75
set_option Elab.async false
set_option linter.all false
set_option maxRecDepth 100000
set_option maxHeartbeats 4000000
namespace K75
open PySem PySem.Spec PyProof.Rows L2
/-! ### comprehensions: what is made so far -/
/-- behind i turns the new list at D holds G i, all that stood stands -/
def PvS (H1 : Hp) (D : Addr) (G : Nat → List V) (i : Nat) (H : Hp) : Prop := Same H1 H ∧ H D = some (.lst (G i))
theorem same_upd {H1 H : Hp} {D : Addr} {o : HO} (s : Same H1 H) (h : H1 D = none) : Same H1 (upd H D o) := fun b u e => by
  rw [upd_ne (ne_of_none e h)]
  exact s b u e
theorem PvS.zero {H1 : Hp} {D : Addr} {G : Nat → List V} (hD : H1 D = none) (h0 : G 0 = []) : PvS H1 D G 0 (upd H1 D (.lst [])) := ⟨same_upd (Same.refl _) hD, by rw [h0]; exact upd_same⟩
theorem PvS.next {H1 H H4 : Hp} {D : Addr} {G : Nat → List V} {i : Nat} {y : V} (p : PvS H1 D G i H) (hD : H1 D = none) (s : Same H H4) (hz : (G i).length ≤ 1000000) (e : G (i + 1) = G i ++ [y]) :
    ∃ acc, H4 D = some (.lst acc) ∧ acc.length < sizeLine ∧ PvS H1 D G (i + 1) (upd H4 D (.lst (acc ++ [y]))) :=
  ⟨G i, s _ _ p.2, Nat.lt_of_le_of_lt hz (by decide), same_upd (p.1.trans s) hD, by rw [e]; exact upd_same⟩
theorem PvS.skip {H1 H H3 : Hp} {D : Addr} {G : Nat → List V} {i : Nat} (p : PvS H1 D G i H) (s : Same H H3) (e : G (i + 1) = G i) : PvS H1 D G (i + 1) H3 := ⟨p.1.trans s, by rw [e]; exact s _ _ p.2⟩
theorem take_next {α β : Type} {xs : List α} {i : Nat} {x : α} (f : α → β) (h : xs[i]? = some x) : (xs.take (i + 1)).map f = (xs.take i).map f ++ [f x] := by
  rw [List.take_add_one, h, List.map_append]
  rfl
theorem take_len {α β : Type} {xs : List α} {f : α → β} {n i : Nat} (h : xs.length ≤ n) : ((xs.take i).map f).length ≤ n := by
  rw [List.length_map, List.length_take]
  omega
theorem take_all {α β : Type} {xs : List α} {f : α → β} : (xs.take xs.length).map f = xs.map f := by rw [List.take_length]
/-! ### words -/
def lettersL : List Nat := ("abcdefghijklmnopqrstuvwxyz" : Str).cps.toList
def wordS (x : Str) : Bool := decide (1 ≤ (x.length : Int)) && decide ((x.length : Int) ≤ 8) && x.cps.toList.all fun c => decide (c ∈ lettersL)
def wordV : V → Bool
  | .str x => wordS x
  | _ => false
/-- a value that is_word is asked of here -/
def AskW (v : V) : Prop := (∃ x : Str, v = .str x ∧ x.length ≤ 1000000) ∨ v = .non ∨ ∃ i, v = .int i
def spWord : Sp := fun vs H Q _ => ∃ v, vs = [v] ∧ AskW v ∧ ∀ H', Same H H' → Q (.bl (wordV v)) H'
section
variable {P : Program} {w : World} {K : PySem.W.Frag} {mg : Str → Option Value} {base : Heap}
theorem scWord : FnScope ["value", "sign"] ["value"] (defScope sIsWord) := ⟨rfl, rfl, rfl, by decide +kernel, rfl, by decide +kernel, by decide +kernel⟩
theorem cl_word (T : Tx K mg) (D : Df K mg "is_word" sIsWord) : Cl P w K mg base CX0 1 "is_word" spWord := by
  refine cl_of D scWord (fun _ _ _ _ _ _ us hl => match us, hl with | [_], _ => rfl) (fun vs H Q E h => ?_) (fun f cdv A outer s H vs Q E hr h => ?_)
  · obtain ⟨i, rfl, _⟩ := h
    rfl
  · obtain ⟨v, rfl, hv, q⟩ := h
    refine ⟨_, pss_cons (ps_if (PW.pt (pw_or (pt_not (pt_val (pe_is K (pv 0) T.isi T.str b_str))) (pw_or1 (pt_not (pt_chain op_le op_le pe_int (pe_callB call_len_str (by rfl) T.len b_len (pa_cons (pv 0) pa_nil)) (pe_gi T.mLet)))))) (pss_one (ps_ret pe_bl)) pss_nil)
      (pss_one (ps_ret (pe_callB (cr_all rfl) (by rfl) T.all b_all (pa_cons (pe_lc (own := [("sign", 1)]) (g := gName 1) (tt := tYes) rfl scWord.nd (pi_str (pv 0)) (blkOk_by (N := ["value", "sign"]) (sc := defScope sIsWord) (by decide +kernel))
        (fun _ _ _ _ _ => pg_name (i := 1) scWord.nd rfl (Or.inl rfl)) (fun _ _ _ _ _ => pts_nil) (fun _ _ _ _ _ => pe_cmpR op_in_sign (pv 1) (pe_gs T.letters) rfl)) pa_nil)))), ?_⟩
    rcases hv with ⟨x, rfl, hx⟩ | rfl | ⟨i, rfl⟩
    · refine ⟨_, rfl, _, _, _, _, true, rfl, .ty _, .base (.str x), kit_ty (by decide +kernel), true, rfl, iteF ?_⟩
      refine ⟨_, rfl, x, rfl, Nat.le_trans hx (by decide), _, _, rfl, rfl, _, rfl, ?_⟩
      by_cases h1 : 1 ≤ (x.length : Int)
      · rw [decide_eq_true h1]
        refine iteT ⟨_, _, rfl, rfl, _, rfl, ?_⟩
        by_cases h2 : (x.length : Int) ≤ 8
        · rw [decide_eq_true h2]
          refine iteF ?_
          refine ⟨_, rfl, x, rfl, fun D hD => ?_⟩
          have hl : x.cps.toList.length ≤ 1000000 := by
            rw [Array.length_toList]
            exact hx
          refine lc_it walk_str (PvS H D fun i => (x.cps.toList.take i).map fun c => V.bl (decide (c ∈ lettersL))) (.zero hD rfl) (fun _ _ _ _ => trivial) ?_ ?_
          · rintro i _ H1 _ hi p ⟨rfl, c, hc, rfl⟩
            refine ⟨rfl, ?_⟩
            refine ⟨_, rfl, c, _, rfl, rfl, ?_⟩
            refine p.next hD (Same.refl _) (take_len hl) ?_
            exact take_next (fun c => V.bl (decide (c ∈ lettersL))) (by rw [Array.getElem?_toList]; exact hc)
          · intro H1 p
            refine ⟨D, x.cps.toList.map fun c => decide (c ∈ lettersL), rfl, .of ?_, ?_⟩
            · rw [p.2, List.map_map]
              congr 2
              show (x.cps.toList.take x.cps.size).map _ = _
              rw [← Array.length_toList, List.take_length]
              rfl
            · have e : wordV (.str x) = (x.cps.toList.map fun c => decide (c ∈ lettersL)).all id := by
                show wordS x = _
                unfold wordS
                rw [decide_eq_true h1, decide_eq_true h2, List.all_map]
                rfl
              rw [← e]
              exact q _ p.1
        · rw [decide_eq_false h2]
          have e : wordV (.str x) = false := by
            show wordS x = _
            unfold wordS
            rw [decide_eq_false h2]
            simp
          rw [e] at q
          exact iteT (q _ (Same.refl _))
      · rw [decide_eq_false h1]
        have e : wordV (.str x) = false := by
          show wordS x = _
          unfold wordS
          rw [decide_eq_false h1]
          simp
        rw [e] at q
        exact iteF ⟨_, rfl, iteT (q _ (Same.refl _))⟩
    · exact ⟨_, rfl, _, _, _, _, false, rfl, .ty _, .base .non, kit_ty (by decide +kernel), false, rfl, iteT (q _ (Same.refl _))⟩
    · exact ⟨_, rfl, _, _, _, _, false, rfl, .ty _, .base (.int i), kit_ty (by decide +kernel), false, rfl, iteT (q _ (Same.refl _))⟩
end
end K75
set_option Elab.async false
set_option linter.all false
set_option maxRecDepth 100000
set_option maxHeartbeats 4000000
namespace K75
open PySem PySem.Spec PyProof.Rows L2
/-! ### a list of tuples -/
def RowsAt (H : Hp) (a : Addr) (rows : List (List V)) : Prop := ∃ ts : List Addr, H a = some (.lst (ts.map V.ref)) ∧ ts.length = rows.length ∧ ∀ (i : Nat) (t : Addr) (xs : List V), ts[i]? = some t → rows[i]? = some xs → H t = some (.tup xs)
theorem RowsAt.same {H H' : Hp} {a : Addr} {rows : List (List V)} (r : RowsAt H a rows) (s : Same H H') : RowsAt H' a rows := by
  obtain ⟨ts, h1, h2, h3⟩ := r
  exact ⟨ts, s _ _ h1, h2, fun i t xs e1 e2 => s _ _ (h3 i t xs e1 e2)⟩
theorem ref_at {ts : List Addr} {i : Nat} {x : V} (h : (ts.map V.ref)[i]? = some x) : ∃ t, ts[i]? = some t ∧ x = .ref t := by
  rw [List.getElem?_map] at h
  cases e : ts[i]? with
  | none =>
    rw [e] at h
    cases h
  | some t =>
    rw [e] at h
    exact ⟨t, rfl, (Option.some.inj h).symm⟩
theorem row_at {α β : Type} {ts : List α} {rows : List β} (h : ts.length = rows.length) {i : Nat} {t : α} (e : ts[i]? = some t) : ∃ xs, rows[i]? = some xs := by
  have q := (List.getElem?_eq_some_iff.mp e).1
  exact ⟨rows[i]'(by omega), by simp⟩
theorem mem_at {α : Type} {l : List α} {i : Nat} {x : α} (e : l[i]? = some x) : x ∈ l := List.mem_of_getElem? e
/-! ### a dict comprehension over anything that is walked -/
theorem dc_it {J : It} {n : Nat} {G : Hp → Prop} {Y : Nat → Hp → V → Hp → Prop} (w : Walk J n G Y) {g : TG} {tt : TT} {tk tv : TE} {vs : List Nat} {σ : L2.St} {H1 : Hp} {D : Addr} {Qd : Hp → Prop} (Pv : Nat → Hp → Prop) (h0 : Pv 0 (upd H1 D (.dK []))) (hG : ∀ i H, Pv i H → G H)
    (turn : ∀ i x H H', i < n → Pv i H → Y i H x H' → g x (wipe σ vs) H' fun σ2 H2 => wipe σ2 vs = wipe σ vs ∧ tt σ2 H2 fun b H3 =>
      if b = true then tk σ2 H3 fun y H4 => tv σ2 H4 fun z H5 => ∃ kvs k, y = kV k ∧ H5 D = some (.dK kvs) ∧ kvs.length < sizeLine ∧ Pv (i + 1) (upd H5 D (.dK (putK kvs k z))) else Pv (i + 1) H3) (done : ∀ H, Pv n H → Qd H) :
    ∃ W : Nat → Nat → Hp → Prop, (∃ m, W 0 m (upd H1 D (.dK []))) ∧ ∀ i m H, W i m H →
      (J.stop i H ∧ Qd H) ∨ (J.go i H ∧ ∃ Nx : Hp → Prop, (∀ H', Nx H' → ∃ m', m' < m ∧ W (i + 1) m' H') ∧ ∀ x H', J.yld i H x H' → g x (wipe σ vs) H' fun σ2 H2 => wipe σ2 vs = wipe σ vs ∧ tt σ2 H2 fun b H3 =>
        if b = true then tk σ2 H3 fun y H4 => tv σ2 H4 fun z H5 => ∃ kvs k, y = kV k ∧ H5 D = some (.dK kvs) ∧ kvs.length < sizeLine ∧ Nx (upd H5 D (.dK (putK kvs k z))) else Nx H3) := by
  refine ⟨fun i m H => m + i = n ∧ Pv i H, ⟨n, rfl, h0⟩, fun i m H hW => ?_⟩
  obtain ⟨hm, p⟩ := hW
  cases m with
  | zero =>
    have e : i = n := by omega
    rw [e] at p ⊢
    exact .inl ⟨w.stops H (hG _ _ p), done H p⟩
  | succ m =>
    have lt : i < n := by omega
    exact .inr ⟨w.goes i H lt (hG _ _ p), Pv (i + 1), fun H' p' => ⟨m, by omega, by omega, p'⟩, fun x H' y => turn i x H H' lt p (w.yields i H x H' lt (hG _ _ p) y)⟩
/-- {k: True for k in ks} -/
def foldK {κ : Type} [DecidableEq κ] (ks : List κ) : List (κ × V) := ks.foldl (fun acc k => putK acc k (.bl true)) []
theorem foldK_snoc {κ : Type} [DecidableEq κ] (l : List κ) (k : κ) : foldK (l ++ [k]) = putK (foldK l) k (.bl true) := by
  unfold foldK
  rw [List.foldl_append]
  rfl
theorem putK_old {κ : Type} [DecidableEq κ] {kvs : List (κ × V)} {k : κ} {v : V} (h : k ∈ kvs.map (·.1)) : (putK kvs k v).map (·.1) = kvs.map (·.1) ∧ (putK kvs k v).length = kvs.length := by
  have q : (kvs.any fun kv => decide (kv.1 = k)) = true := by
    obtain ⟨p, hp, e⟩ := List.mem_map.mp h
    exact List.any_eq_true.mpr ⟨p, hp, decide_eq_true e⟩
  unfold putK
  rw [if_pos q]
  refine ⟨?_, List.length_map _⟩
  rw [List.map_map]
  refine List.map_congr_left fun p _ => ?_
  show (if p.1 = k then (p.1, v) else p).1 = p.1
  split <;> rfl
theorem nodup_snoc {α : Type} {l : List α} {k : α} : (l ++ [k]).Nodup ↔ l.Nodup ∧ k ∉ l := by
  rw [List.nodup_append]
  constructor
  · rintro ⟨h1, _, h3⟩
    exact ⟨h1, fun hk => h3 k hk k (by simp) rfl⟩
  · rintro ⟨h1, h2⟩
    refine ⟨h1, by simp, fun a ha b hb e => ?_⟩
    have e2 : b = k := by simpa using hb
    rw [e2] at e
    exact h2 (e ▸ ha)
theorem foldK_facts {κ : Type} [DecidableEq κ] : ∀ (n : Nat) (l : List κ), l.length = n → (∀ k, k ∈ (foldK l).map (·.1) ↔ k ∈ l) ∧ (foldK l).length ≤ l.length ∧ ((foldK l).length = l.length ↔ l.Nodup)
  | 0, l, h => by
    have e : l = [] := List.eq_nil_of_length_eq_zero h
    subst e
    simp [foldK]
  | n + 1, l, h => by
    have hne : l ≠ [] := fun e => by
      rw [e] at h
      cases h
    obtain ⟨r, k, rfl⟩ : ∃ r k, l = r ++ [k] := ⟨l.dropLast, l.getLast hne, (List.dropLast_concat_getLast hne).symm⟩
    have hr : r.length = n := by
      rw [List.length_append, List.length_singleton] at h
      omega
    obtain ⟨h1, h2, h3⟩ := foldK_facts n r hr
    rw [foldK_snoc, List.length_append, List.length_singleton]
    by_cases hk : k ∈ r
    · obtain ⟨e1, e2⟩ := putK_old (v := .bl true) ((h1 k).mpr hk)
      rw [e1, e2]
      refine ⟨fun j => ?_, by omega, ⟨fun e => by omega, fun nd => absurd hk (nodup_snoc.mp nd).2⟩⟩
      rw [h1 j, List.mem_append, List.mem_singleton]
      exact ⟨.inl, fun z => z.elim id fun e => e ▸ hk⟩
    · have hv : valV (foldK r) k = none := by
        cases e : valV (foldK r) k with
        | none => rfl
        | some v => exact absurd ((h1 k).mp (valV_in e)) hk
      rw [putK_new _ hv, List.length_append, List.length_singleton]
      refine ⟨fun j => ?_, by omega, ⟨fun e => nodup_snoc.mpr ⟨h3.mp (by omega), hk⟩, fun nd => by
        have := h3.mpr (nodup_snoc.mp nd).1
        omega⟩⟩
      rw [List.map_append, List.mem_append, h1 j, List.mem_append]
      simp
theorem foldK_len {κ : Type} [DecidableEq κ] (l : List κ) : decide ((foldK l).length = l.length) = decide l.Nodup := decide_eq_decide.mpr (foldK_facts _ l rfl).2.2
theorem foldK_le {κ : Type} [DecidableEq κ] (l : List κ) : (foldK l).length ≤ l.length := (foldK_facts _ l rfl).2.1
/-! ### is_row, are_tuples, are_unlike -/
def spRow : Sp := fun vs H Q _ => ∃ (a : Addr) (xs : List V), vs = [.ref a] ∧ (H a = some (.lst xs) ∨ H a = some (.tup xs)) ∧ ∀ H', Same H H' → Q (.bl true) H'
def spTuples : Sp := fun vs H Q _ => ∃ (a : Addr) (rows : List (List V)) (n m : Nat), vs = [.ref a, .int n, .int m] ∧ RowsAt H a rows ∧ (∀ r ∈ rows, r.length = n) ∧ rows.length ≤ m ∧ m ≤ 1000 ∧ ∀ H', Same H H' → Q (.bl true) H'
def spUnlikeK : Sp := fun vs H Q _ => ∃ (a : Addr) (ks : List Key), vs = [.ref a] ∧ (H a = some (.lst (ks.map kV)) ∨ H a = some (.tup (ks.map kV))) ∧ ks.length ≤ 1000000 ∧ ∀ H', Same H H' → Q (.bl (decide ks.Nodup)) H'
section
variable {P : Program} {w : World} {K : PySem.W.Frag} {mg : Str → Option Value} {base : Heap}
theorem scRow : FnScope ["value"] ["value"] (defScope sIsRow) := ⟨rfl, rfl, rfl, by decide +kernel, rfl, by decide +kernel, by decide +kernel⟩
theorem cl_row (T : Tx K mg) (D : Df K mg "is_row" sIsRow) : Cl P w K mg base CX0 1 "is_row" spRow := by
  refine cl_of D scRow (fun _ _ _ _ _ _ us hl => match us, hl with | [_], _ => rfl) (fun vs H Q E h => ?_) (fun f cdv A outer s H vs Q E hr h => ?_)
  · obtain ⟨a, xs, rfl, _⟩ := h
    rfl
  · obtain ⟨a, xs, rfl, ha, q⟩ := h
    refine ⟨_, pss_one (ps_ret (pe_callB call_isiT (by rfl) T.isi b_isi (pa_cons (pv 0) (pa_cons (pe_tup (pa_cons (pe_bt T.list b_list) (pa_cons (pe_bt T.tuple b_tuple) pa_nil))) pa_nil)))), ?_⟩
    refine ⟨_, rfl, by show 2 ≤ sizeLine; decide, fun p hp => ?_⟩
    rcases ha with ha | ha
    · exact ⟨_, p, _, _, [.type "list", .type "tuple"], true, rfl, upd_same, .cons (.ty _) (.cons (.ty _) .nil), .base (.lst ((upd_ne (ne_of_none ha hp)).trans ha)), kitAny_cons (b := true) (kit_ty (b := "list") (by decide +kernel)) (fun z => nomatch z) (fun _ => rfl), q _ (same_upd (Same.refl _) hp)⟩
    · exact ⟨_, p, _, _, [.type "list", .type "tuple"], true, rfl, upd_same, .cons (.ty _) (.cons (.ty _) .nil), .base (.tup ((upd_ne (ne_of_none ha hp)).trans ha)), kitAny_cons (b := false) (kit_ty (b := "list") (by decide +kernel)) (fun _ => kitAny_cons (b := true) (kit_ty (b := "tuple") (by decide +kernel)) (fun z => nomatch z) (fun _ => rfl)) (fun z => nomatch z), q _ (same_upd (Same.refl _) hp)⟩
theorem scTuples : FnScope ["value", "size", "most", "one"] ["value", "size", "most"] (defScope sAreTuples) := ⟨rfl, rfl, rfl, by decide +kernel, rfl, by decide +kernel, by decide +kernel⟩
theorem cl_tuples (T : Tx K mg) (D : Df K mg "are_tuples" sAreTuples) (cR : Cl P w K mg base CX0 1 "is_row" spRow) : Cl P w K mg base CX0 2 "are_tuples" spTuples := by
  refine cl_of D scTuples (fun _ _ _ _ _ _ us hl => match us, hl with | [_, _, _], _ => rfl) (fun vs H Q E h => ?_) (fun f cdv A outer s H vs Q E hr h => ?_)
  · obtain ⟨a, rows, n, m, rfl, _⟩ := h
    rfl
  · obtain ⟨a, rows, n, m, rfl, R, hn, hm, hm2, q⟩ := h
    obtain ⟨ts, h1, h2, h3⟩ := id R
    refine ⟨_, pss_cons (ps_if (PW.pt (pw_or (pt_not (pt_val (pe_k cR hr (pa_cons (pv 0) pa_nil)))) (pw_or1 (pt_cmpR op_gt (pe_len K (pv 0) T.len) (pv 2) (nomark _))))) (pss_one (ps_ret pe_bl)) pss_nil)
      (pss_one (ps_ret (pe_callB (cr_all rfl) (by rfl) T.all b_all (pa_cons (pe_lc (own := [("one", 3)]) (g := gName 3) (tt := tYes) rfl scTuples.nd (pi_list (pv 0)) (blkOk_by (N := ["value", "size", "most", "one"]) (sc := defScope sAreTuples) (by decide +kernel))
        (fun _ _ _ _ _ => pg_name (i := 3) scTuples.nd rfl (Or.inl rfl)) (fun _ _ _ _ _ => pts_nil) (fun _ _ _ _ _ => by exact (pe_and (pe_is K (pv 3) T.isi T.tuple b_tuple) (pe_one (pe_cmpR op_eq (pe_len K (pv 3) T.len) (pv 1) (nomark _)))))) pa_nil)))), ?_⟩
    refine ⟨_, rfl, a, _, rfl, .inl h1, fun H1 s1 => ⟨true, rfl, iteF ?_⟩⟩
    refine ⟨_, rfl, a, _, rfl, .inl (.of (s1 _ _ h1)), _, rfl, _, _, rfl, rfl, _, rfl, ?_⟩
    rw [decide_eq_false (by rw [List.length_map, h2]; omega)]
    refine iteF ?_
    refine ⟨_, rfl, a, rfl, ⟨_, .of (s1 _ _ h1)⟩, fun E hE => ?_⟩
    refine lc_it (walk_list (xs := ts.map V.ref)) (PvS H1 E fun i => (ts.take i).map fun _ => V.bl true) (.zero hE rfl) (fun i H2 _ p => .of (p.1 _ _ (s1 _ _ h1))) ?_ ?_
    · rintro i x H2 _ hi p ⟨rfl, hx⟩
      obtain ⟨t, ht, rfl⟩ := ref_at hx
      obtain ⟨xs, hxs⟩ := row_at h2 ht
      have hl := hn xs (mem_at hxs)
      have hT := p.1 _ _ (s1 _ _ (h3 i t xs ht hxs))
      refine ⟨rfl, ?_⟩
      refine ⟨_, rfl, _, _, _, _, true, rfl, .ty _, .base (.tup hT), kit_ty (by decide +kernel), true, rfl, iteT ?_⟩
      refine ⟨_, rfl, t, xs, rfl, .inr (.of hT), _, rfl, rfl, ?_⟩
      rw [decide_eq_true (by rw [hl])]
      exact p.next hE (Same.refl _) (take_len (by omega)) (take_next (fun _ => V.bl true) ht)
    · intro H2 p
      have e : (ts.take (ts.map V.ref).length).map (fun _ => V.bl true) = (ts.map fun _ => true).map V.bl := by
        rw [List.length_map, List.take_length, List.map_map]
        rfl
      refine ⟨E, ts.map fun _ => true, rfl, .of (p.2.trans (congrArg (fun z => some (HO.lst z)) e)), ?_⟩
      have e2 : (ts.map fun _ => true).all id = true := by simp
      rw [e2]
      exact q _ (s1.trans p.1)
theorem scUnlike : FnScope ["some", "one"] ["some"] (defScope sAreUnlike) := ⟨rfl, rfl, rfl, by decide +kernel, rfl, by decide +kernel, by decide +kernel⟩
theorem cl_unlikeK (T : Tx K mg) (D : Df K mg "are_unlike" sAreUnlike) : Cl P w K mg base CX0 1 "are_unlike" spUnlikeK := by
  refine cl_of D scUnlike (fun _ _ _ _ _ _ us hl => match us, hl with | [_], _ => rfl) (fun vs H Q E h => ?_) (fun f cdv A outer s H vs Q E hr h => ?_)
  · obtain ⟨a, ks, rfl, _⟩ := h
    rfl
  · obtain ⟨a, ks, rfl, ha, hz, q⟩ := h
    have key : ∀ (D : Addr) (i : Nat) (k : Key) (H1 : Hp), H D = none → ks[i]? = some k → (Same H H1 ∧ H1 D = some (.dK (foldK (ks.take i)))) →
        ∃ kvs k', kV k = kV k' ∧ H1 D = some (.dK kvs) ∧ kvs.length < sizeLine ∧ (Same H (upd H1 D (.dK (putK kvs k' (.bl true)))) ∧ (upd H1 D (.dK (putK kvs k' (.bl true)))) D = some (.dK (foldK (ks.take (i + 1))))) := fun D i k H1 hD hk p => by
      refine ⟨_, k, rfl, p.2, Nat.lt_of_le_of_lt (Nat.le_trans (foldK_le _) ?_) (show 1000000 < sizeLine by decide), same_upd p.1 hD, ?_⟩
      · rw [List.length_take]
        omega
      · rw [upd_same, List.take_add_one, hk]
        show _ = some (HO.dK (foldK (ks.take i ++ [k])))
        rw [foldK_snoc]
    have fin : ∀ (D : Addr) (H1 : Hp), H D = none → (Same H H1 ∧ H1 D = some (.dK (foldK (ks.take ks.length)))) → ∀ (xs : List V), xs = ks.map kV → H1 D = some (.dK (foldK ks)) ∧ Same H H1 ∧ decide (V.int ((foldK ks).length : Nat) = V.int (xs.length : Nat)) = decide ks.Nodup := fun D H1 hD p xs hx => by
      rw [List.take_length] at p
      refine ⟨p.2, p.1, ?_⟩
      rw [hx, List.length_map, ← foldK_len ks]
      by_cases e : (foldK ks).length = ks.length
      · rw [decide_eq_true e, e]
        exact decide_eq_true rfl
      · rw [decide_eq_false e]
        refine decide_eq_false fun z => e ?_
        injection z with z
        exact Int.ofNat.inj z
    rcases ha with ha | ha
    · refine ⟨_, pss_one (ps_ret (pe_cmpR op_eq (pe_callB call_lenD (by rfl) T.len b_len (pa_cons (pe_dc (own := [("one", 1)]) (g := gName 1) (tt := tYes) rfl scUnlike.nd (pi_list (pv 0)) (blkOk_by (N := ["some", "one"]) (sc := defScope sAreUnlike) (by decide +kernel))
        (fun _ _ _ _ _ => pg_name (i := 1) scUnlike.nd rfl (Or.inl rfl)) (fun _ _ _ _ _ => pts_nil) (fun _ _ _ _ _ => pv 1) (fun _ _ _ _ _ => pe_bl)) pa_nil)) (pe_len K (pv 0) T.len) (nomark _))), ?_⟩
      refine ⟨_, rfl, a, rfl, ⟨_, .of ha⟩, fun D hD => ?_⟩
      refine dc_it (walk_list (xs := ks.map kV)) (fun i H1 => Same H H1 ∧ H1 D = some (.dK (foldK (ks.take i)))) ⟨same_upd (Same.refl _) hD, upd_same⟩ (fun i H1 p => .of (p.1 _ _ ha)) ?_ ?_
      · rintro i x H1 _ hi p ⟨rfl, hx⟩
        rw [List.getElem?_map] at hx
        obtain ⟨k, hk, rfl⟩ := Option.map_eq_some_iff.mp hx
        exact ⟨rfl, _, rfl, key D i k _ hD hk p⟩
      · intro H1 p
        rw [List.length_map] at p
        obtain ⟨p1, p2, p3⟩ := fin D H1 hD p _ rfl
        refine ⟨D, _, rfl, p1, ?_⟩
        refine ⟨_, rfl, a, _, rfl, .inl (.of (p2 _ _ ha)), rfl, ?_⟩
        rw [p3]
        exact q _ p2
    · refine ⟨_, pss_one (ps_ret (pe_cmpR op_eq (pe_callB call_lenD (by rfl) T.len b_len (pa_cons (pe_dc (own := [("one", 1)]) (g := gName 1) (tt := tYes) rfl scUnlike.nd (pi_tup (pv 0)) (blkOk_by (N := ["some", "one"]) (sc := defScope sAreUnlike) (by decide +kernel))
        (fun _ _ _ _ _ => pg_name (i := 1) scUnlike.nd rfl (Or.inl rfl)) (fun _ _ _ _ _ => pts_nil) (fun _ _ _ _ _ => pv 1) (fun _ _ _ _ _ => pe_bl)) pa_nil)) (pe_len K (pv 0) T.len) (nomark _))), ?_⟩
      refine ⟨_, rfl, a, rfl, ⟨_, .of ha⟩, fun D hD => ?_⟩
      refine dc_it (walk_tup (xs := ks.map kV)) (fun i H1 => Same H H1 ∧ H1 D = some (.dK (foldK (ks.take i)))) ⟨same_upd (Same.refl _) hD, upd_same⟩ (fun i H1 p => .of (p.1 _ _ ha)) ?_ ?_
      · rintro i x H1 _ hi p ⟨rfl, hx⟩
        rw [List.getElem?_map] at hx
        obtain ⟨k, hk, rfl⟩ := Option.map_eq_some_iff.mp hx
        exact ⟨rfl, _, rfl, key D i k _ hD hk p⟩
      · intro H1 p
        rw [List.length_map] at p
        obtain ⟨p1, p2, p3⟩ := fin D H1 hD p _ rfl
        refine ⟨D, _, rfl, p1, ?_⟩
        refine ⟨_, rfl, a, _, rfl, .inr (.of (p2 _ _ ha)), rfl, ?_⟩
        rw [p3]
        exact q _ p2
end
end K75
set_option Elab.async false
set_option linter.all false
set_option maxRecDepth 100000
set_option maxHeartbeats 4000000
namespace K75
open PySem PySem.W PySem.Calls PyProof.Rows PySem.HandSPX
/-! ### an own error whose __init__ says super().__init__(msg); self.attr = arg -/
abbrev iniFd (qual : Str) (st : Stmt) (kV doc pm : Value) (an : Option Addr) (cdv ct : Value) (cc : Addr) : FuncData := ksFn "__init__" qual (L2.defArgs st) (L2.defBody st) (L2.defScope st) .none kV doc pm an cdv ct cc
/-- the text of such an __init__ -/
structure IniD (P : Program) (qual : Str) (st : Stmt) (attr arg msg : Str) : Prop where
  body : ∃ (p0 p1 p2 p3 p4 p5 p6 p7 p8 p9 : Pos) (j : Nat), L2.defBody st = [.Expr (.Call (.Attribute (.Call (.Name "super" p0) [] [] p1) "__init__" p2) [.Constant (.str msg) j p3] [] p4) p5, .Assign [.Attribute (.Name "self" p6) attr p7] (.Name arg p8) p9] ∧
    ∀ env : Env, ∃ pl : Sem Bool, eval (.Call (.Attribute (.Call (.Name "super" p0) [] [] p1) "__init__" p2) [.Constant (.str msg) j p3] [] p4) env = (do
      let ov ← attributeBase (.Call (.Name "super" p0) [] [] p1) "__init__" env (eval (.Call (.Name "super" p0) [] [] p1) env)
      standAt p2.atName
      let (f, first) ← holding [ov] (getMethod ov "__init__" pl)
      callWith p4 f first (backTo p4 (starEach [.Constant (.str msg) j p3] env)) [])
  bind : ∀ (kV doc pm : Value) (an : Option Addr) (cdv ct : Value) (cc : Addr) (x v : Value), bindArgs (iniFd qual st kV doc pm an cdv ct cc) ⟨[x, v], []⟩ = pure [(("self" : Str), x), (arg, v)]
  cell : ∀ y ∈ (L2.defScope st).names, y.2 ≠ .cell
  locS : (L2.defScope st).names.lookup ("self" : Str) = some .local
  locA : (L2.defScope st).names.lookup arg = some .local
  sup : (L2.defScope st).names.lookup ("super" : Str) = some .globalImplicit
  cls : (L2.defScope st).names.lookup ("__class__" : Str) = some .free
  kind : (L2.defScope st).kind = .function
  co : (L2.defScope st).isCoroutine = false
  gen : (L2.defScope st).isGenerator = false
  first : ∃ ar : Arg, ((L2.defArgs st).posonlyargs ++ (L2.defArgs st).args).head? = some ar ∧ ar.arg = "self"
  ne : (("self" : Str) == arg) = false
  dbg : (arg == ("__debug__" : Str)) = false
  top : (P.main.scope.names.lookup ("super" : Str)).isSome = false
/-- what the written part says of the class at C, its __init__ at fI, its cell cc -/
structure ExT (P : Program) (K : Frag) (mg : Str → Option Value) (nm qual attr arg msg : Str) (st : Stmt) (C fI cc : Addr) : Prop where
  ini : IniD P qual st attr arg msg
  gC : mg nm = some (.ref C)
  supN : mg "super" = none
  cls : ∃ nm q N bs bm sn sub ab col dd k0 k1 k2 k3 k5, K.lookup C = some (excClassObj nm q C N bs bm true sn sub ab col dd k0 k1 k2 k3 k5 "ValueError.__new__") ∧ refsVE bm = true
  sa : findIn K (.ref C) "__setattr__" = some (some (.builtin "object.__setattr__"))
  noA : findIn K (.ref C) attr = some none
  iC : findIn K (.ref C) "__init__" = some (some (.ref fI))
  tI : typeIn K (.ref fI) = some (.type "function")
  kC : keepIn K (.ref C) = true
  exC : subIn K (.ref C) (.type "BaseException") = some true
  tyC : typeIn K (.ref C) = some (.type "type")
  veC : subIn K (.ref C) (.type "ValueError") = some true
  selfC : mroIn K C (.ref C) = some true
  supC : ks_superIn K C C "__init__" = some (some (.builtin "ValueError.__init__"))
  opq : nsIn K cStatics "thirdparty.any" = some none
  fn : ∃ (oc : Value) (od : Option Addr) (kV doc pm : Value) (an : Option Addr) (cda : Addr) (ct : Value) (osl : Array (Option Value)), K.lookup fI = some ⟨oc, od, .func (iniFd qual st kV doc pm an (.ref cda) ct cc), osl⟩ ∧ codeIn K (.ref cda) qual = true ∧
    ∃ (ccl : Value) (cdd : Option Addr) (vs : Array Value) (ccs : Array (Option Value)) (file : Str) (tf : Tok), K.lookup cda = some ⟨ccl, cdd, .fields vs, ccs⟩ ∧ vs[2]? = some (.str file tf) ∧ (P.main.file == file) = true
  cell : ∃ (cl : Value) (cld : Option Addr) (csl : Array (Option Value)), K.lookup cc = some ⟨cl, cld, .cell (some (.ref C)), csl⟩
section
variable {prog : Program} {w : World} {A : Around} {E : Value → Shared → Prop} {R : Result → Shared → Prop} {K : Frag} {mg mb : Str → Option Value} {nm qual attr arg msg : Str} {st : Stmt} {C fI cc : Addr}
/-- the wrapper of ValueError.__init__, called: the args are laid anew -/
theorem call_mw {hp : Heap} {g : Array GenState} {d : Drawn} {t : Nat} {os : OsState} {u x t0 : Addr} {rest : List Value} {Q : Value → Shared → Prop} {nm q : Str} {N : Addr} {bs bm : List Value} {hdct : Bool} {sn : List Str} {sub : List Value} {ab : Bool} {col : Option Bool} {dd : Option Addr} {k0 k1 k2 k3 k5 : Option Value}
    (hC : hp.get? C = some (excClassObj nm q C N bs bm hdct sn sub ab col dd k0 k1 k2 k3 k5 "ValueError.__new__")) (hx : hp.get? x = some (excO C t0)) (hu : hp.get? u = some (kxs_mw "ValueError.__init__" x)) (hz : rest.length ≤ sizeLine)
    (hq : ∀ h' t1, (∀ b o, b ≠ x → hp.get? b = some o → h'.get? b = some o) → h'.get? x = some (excO C t1) → Q .none ⟨h', g, d, t, os⟩) : wpAny (model prog w) A (call (.ref u) rest) Q E ⟨hp, g, d, t, os⟩ := by
  have FB := F.excBase_ValueError
  refine wpAny_call (codeAny_of_tree ?_)
  show wpAny _ A.in1 (callAny (.ref u) ⟨rest, []⟩) _ _ _
  simp only [callAny]
  refine wpAny_bind (wpAny_load hu ?_)
  have k1 : (Value.type "method-wrapper" == Value.type "method" || Value.type "method-wrapper" == Value.type "builtin_function_or_method" || Value.type "method-wrapper" == Value.type "method-wrapper") = true := by decide
  simp only [kxs_mw, k1, if_true]
  refine KFB.if_so (by decide) (wpAny_bind (check_bound_init FB.toExcCallFacts hC hx rfl (wpAny_bind (wpAny_pure (wpAny_pure ?_)))))
  exact ⟨plainId_quiet FB.init.plain _, codeAny_builtin FB.initEntry (exc_init_tree (cls := .ref C) (t0 := t0) (dv := none) (c2 := .none) (c3 := .none) (b4 := .bool false) hx hz fun h' k e _ => hq h' _ k e)⟩
/-- what __init__ leaves of a fresh exception at x -/
structure IniEnd (h h' : Heap) (x C dx t1 : Addr) (attr : Str) (v : Value) : Prop where
  keep : ∀ b o, b ≠ x → h.get? b = some o → h'.get? b = some o
  obj : h'.get? x = some { cls := .ref C, dict := some dx, data := .fields #[.ref t1, .none, .none, .none, .bool false, .none] }
  dbig : h.objs.size ≤ dx
  dne : dx ≠ x
  ns : h'.Ns1 dx (fun y => if y = attr then some v else none)
theorem ini_run {s : Shared} (T : ExT prog K mg nm qual attr arg msg st C fI cc) {x t0 : Addr} {v : Value} (X : K.In s.heap) (hlim : s.heap.NoLimit) (hG : s.heap.Ns mainGlobals mg) (hB : s.heap.Ns builtinsNs mb) (hbb : ∀ x : Str, x ≠ "__name__" → mb x = bootBuiltins x)
    (hx : s.heap.get? x = some (excO C t0)) (hnx : K.lookup x = none) (hroom : A.depth < recursionLimit) (hq : ∀ h' tk dx t1, IniEnd s.heap h' x C dx t1 attr v → R (.ok (.ret .none)) { s with heap := h', toks := tk }) :
    codeAny (model prog w) A (.call (.ref fI) ⟨[.ref x, v], []⟩) R s := by
  obtain ⟨oc, od, kV, doc, pm, an, cda, ct, osl, ho, hcd, ccl, cdd, vs, ccs, file, tf, hcc, hvs, hfile⟩ := T.fn
  obtain ⟨nmC, q, N, bs, bm, sn, sub, ab, col, dd, k0, k1, k2, k3, k5, hC, hbm⟩ := T.cls
  obtain ⟨cl, cld, csl, hcell⟩ := T.cell
  obtain ⟨ar, har, ear⟩ := T.ini.first
  have hcl : clsIn K C = some { name := nmC, bases := bs, mro := .ref C :: bm, ns := N, qualname := q, hasDict := true, slotNames := sn, subclasses := sub, abstract := ab, collection := col, hasDel := false } := by unfold clsIn; rw [hC] <;> rfl
  have xC : x ≠ C := fun z => by rw [z, hC] at hnx; cases hnx
  refine ks_codeAny_call_defAt (fd := iniFd qual st kV doc pm an (.ref cda) ct cc) (binds := [("self", .ref x), (arg, v)]) hroom (X _ _ ho) rfl hlim (codeRec_of X hcd) rfl (BindsTo.of_eq (T.ini.bind ..)) T.ini.cell (fun y hy => ?_) (fun h1 hns hk => ?_) T.ini.co T.ini.gen T.ini.kind
  · rcases List.mem_cons.mp hy with rfl | hy
    · exact T.ini.locS
    · rcases List.mem_cons.mp hy with rfl | hy
      · exact T.ini.locA
      · cases hy
  obtain ⟨p0, p1, p2, p3, p4, p5, p6, p7, p8, p9, j, hbody, hev⟩ := T.ini.body
  obtain ⟨pl, he⟩ := hev (callEnv (iniFd qual st kV doc pm an (.ref cda) ct cc) s.heap.objs.size fI)
  have X1 : K.In h1 := X.keeps hk
  have selfL : ([(("self" : Str), Value.ref x), (arg, v)].reverse).lookup ("self" : Str) = some (Value.ref x) := by
    show List.lookup ("self" : Str) [(arg, v), (("self" : Str), Value.ref x)] = _
    rw [List.lookup_cons, T.ini.ne]
    rfl
  have argL : ([(("self" : Str), Value.ref x), (arg, v)].reverse).lookup arg = some v := by
    show List.lookup arg [(arg, v), (("self" : Str), Value.ref x)] = _
    rw [List.lookup_cons, beq_self_eq_true]
  have hd1 : h1.get? C = some (excClassObj nmC q C N bs bm true sn sub ab col dd k0 k1 k2 k3 k5 "ValueError.__new__") := X1 _ _ hC
  have hlt : x < s.heap.objs.size := Heap.lt_size hx
  have hgl : h1.Ns mainGlobals mg := hG.keeps hk
  have hbl : h1.Ns builtinsNs mb := hB.keeps hk
  rw [show L2.defBody st = _ from hbody]
  have hi : interactive (callEnv (iniFd qual st kV doc pm an (.ref cda) ct cc) s.heap.objs.size fI) = false := by
    have k : (callEnv (iniFd qual st kV doc pm an (.ref cda) ct cc) s.heap.objs.size fI).scope.kind = .function := T.ini.kind
    simp [interactive, k]
  -- super().__init__(msg)
  refine ks_wpAt_execs_cons (ks_wpAt_Expr_any (hi := hi) (ks_wpAt_MethodCall (ks_wpAt_super_base (ar := ar) T.ini.sup T.ini.cls (by decide) rfl (X1 _ _ ho) rfl har rfl (X1 _ _ hcc) rfl hvs hfile T.ini.top ?_) he))
  refine ks_loadName_global T.ini.kind T.ini.sup (loadGlobal_builtin hgl T.supN hbl ((hbb _ (by decide +kernel)).trans b_super) ⟨rfl, ?_⟩)
  refine wpAny_loadName_free T.ini.kind T.ini.cls rfl ⟨_, X1 _ _ hcell, rfl⟩ ?_
  rw [ear]
  refine wpAny_loadName_local T.ini.kind T.ini.locS hns selfL ?_
  refine ks_wpAny_isType_cls hd1 rfl ⟨rfl, ?_⟩
  refine ks_wpAny_call_super hd1 rfl (hk _ _ hx) rfl (fun c e => nomatch e) (looks_mroIn X1 T.selfC) (fun h2 hso k2' => ?_)
  have X2 : K.In h2 := X1.keeps k2'
  have hI : Looks (model prog w) h2 (isInstance (.ref x) (.type "ValueError")) true := by
    have IA : InstAt h2 x (excO C t0) C none := ⟨k2' _ _ (hk _ _ hx), rfl, rfl, trivial⟩
    exact IA.type.andThen (looks_subIn X2 T.veC)
  have hal : alongIn K "__init__" ((((Value.ref C :: bm) : List Value).dropWhile (· != .ref C)).drop 1) = some (some (.builtin "ValueError.__init__")) := by
    have q := T.supC
    unfold ks_superIn at q
    rw [hcl] at q
    exact q
  refine kxs_getMethod kxs_ValueError hso (looks_opaque X2 T.opq) (l₀ := .ref C :: bm) (fun A Q E s k q => wpAny_bind ((looks_clsIn X2 hcl) A _ E s k (wpAny_pure q))) rfl X2 hal hI xC (by decide) ?_
  refine kxs_callWith (i := "ValueError.__init__") (x := x) (u := h2.objs.size) rfl (evalArgs_plain ?_)
  show wpAny _ _ (spliced ((false, eval (.Constant (.str msg) j p3) (callEnv (iniFd qual st kV doc pm an (.ref cda) ct cc) s.heap.objs.size fI)) :: [])) _ _ _
  refine Calls.spliced_cons (Calls.Constant_str (Calls.spliced_nil ?_))
  have hmw : (h2.push (kxs_mw "ValueError.__init__" x)).get? h2.objs.size = some (kxs_mw "ValueError.__init__" x) := Heap.get?_push_at rfl rfl
  have k3' : ∀ b o, h2.get? b = some o → (h2.push (kxs_mw "ValueError.__init__" x)).get? b = some o := fun b o e => Heap.get?_push_of_some _ e
  refine ⟨hmw, ?_⟩
  refine call_mw (k3' _ _ (k2' _ _ hd1)) (k3' _ _ (k2' _ _ (hk _ _ hx))) hmw (by show 1 ≤ sizeLine; decide) fun h4 t1 k4 hx4 => ?_
  -- self.attr = arg
  have kk : ∀ b o, b ≠ x → s.heap.get? b = some o → h4.get? b = some o := fun b o hb e => k4 b o hb (k3' _ _ (k2' _ _ (hk _ _ e)))
  have X4 : K.In h4 := fun a o e => kk a o (fun z => by rw [z, hnx] at e; cases e) (X a o e)
  have hns4 : h4.Ns s.heap.objs.size (fun y => ([(("self" : Str), Value.ref x), (arg, v)].reverse).lookup y) := by
    obtain ⟨o, es, ep, e1, e2⟩ := hns
    exact ⟨o, es, ep, k4 _ _ (fun z => by rw [z] at hlt; exact Nat.lt_irrefl _ hlt) (k3' _ _ (k2' _ _ e1)), e2⟩
  refine ks_wpAt_execs_cons (wpAt_of_wpAny (plainObj_wpAny_Assign_Attribute ?_))
  refine wpAny_Name (wpAny_loadName_local T.ini.kind T.ini.locA hns4 argL ?_) T.ini.dbg
  refine wpAny_Name (wpAny_loadName_local T.ini.kind T.ini.locS hns4 selfL ?_) (by decide)
  refine set_plain X4 (ox := excO C t1) (od := none) ⟨hx4, rfl, rfl, trivial⟩ T.sa ?_
  refine exc_osa X4 hx4 hcl (show refsVE (.ref C :: bm) = true from hbm) rfl T.noA (fun h5 tk5 dx k5' dn dne hx5 hn5 => ?_)
  refine wpAt_of_wpAny (wpAny_execs_nil (hq h5 tk5 dx t1 ⟨fun b o hb e => k5' b o hb (kk b o hb e), hx5, ?_, dne, hn5⟩))
  have z1 : s.heap.objs.size < h4.objs.size := hns4.lt
  exact Nat.le_of_lt (Nat.lt_of_lt_of_le z1 dn)
end
end K75
set_option Elab.async false
set_option linter.all false
set_option maxRecDepth 100000
set_option maxHeartbeats 4000000
namespace K75
section
open PySem PySem.W PySem.Calls PyProof.Rows PySem.HandSPX
/-- a made error -/
structure Made (h h' : Heap) (e C d : Addr) (attr : Str) (v : Value) : Prop where
  keep : ∀ b o, h.get? b = some o → h'.get? b = some o
  new : h.objs.size ≤ e
  obj : ∃ oe vs, h'.get? e = some oe ∧ oe.cls = .ref C ∧ oe.dict = some d ∧ oe.data = .fields vs ∧ vs[1]? = some .none
  dbig : h.objs.size ≤ d
  dne : d ≠ e
  ns : h'.Ns1 d (fun y => if y = attr then some v else none)
section
variable {prog : Program} {w : World} {A : Around} {E : Value → Shared → Prop} {R : Result → Shared → Prop} {K : Frag} {mg mb : Str → Option Value} {nm qual attr arg msg : Str} {st : Stmt} {C fI cc : Addr}
theorem exc_made {s : Shared} (T : ExT prog K mg nm qual attr arg msg st C fI cc) {v : Value} (X : K.In s.heap) (hlim : s.heap.NoLimit) (hG : s.heap.Ns mainGlobals mg) (hB : s.heap.Ns builtinsNs mb) (hbb : ∀ x : Str, x ≠ "__name__" → mb x = bootBuiltins x) (hroom : A.depth + 1 < recursionLimit)
    (hq : ∀ h' tk e d, Made s.heap h' e C d attr v → R (.ok (.ret (.ref e))) { s with heap := h', toks := tk }) : codeAny (model prog w) A (.call (.ref C) ⟨[v], []⟩) R s := by
  obtain ⟨nmC, q, N, bs, bm, sn, sub, ab, col, dd, k0, k1, k2, k3, k5, hC, hbm⟩ := T.cls
  obtain ⟨hp, g, dr, tk, os⟩ := s
  have k : ∀ b o, hp.get? b = some o → ((hp.push (kdv_tup [v])).push (excO C hp.objs.size)).get? b = some o := fun b o e => Heap.get?_push_of_some _ (Heap.get?_push_of_some _ e)
  have hget : ((hp.push (kdv_tup [v])).push (excO C hp.objs.size)).get? (hp.objs.size + 1) = some (excO C hp.objs.size) := by heap_get
  have hnx : K.lookup (hp.objs.size + 1) = none := by
    cases e : K.lookup (hp.objs.size + 1) with
    | none => rfl
    | some o =>
      have z : hp.get? (hp.objs.size + 1) = some o := X _ _ e
      exact absurd (Nat.lt_of_succ_lt (Heap.lt_size z)) (Nat.lt_irrefl _)
  have one : [v].length ≤ sizeLine := by show 1 ≤ sizeLine; decide
  refine call_own F.excBase_ValueError (fun X => refsVE_contains X bm hbm) (X _ _ hC) (looks_findIn X T.iC) (fun self => bind_fn X self T.tI) one ?_
  refine ini_run (s := ⟨(hp.push (kdv_tup [v])).push (excO C hp.objs.size), g, dr, tk, os⟩) T (X.keeps k) (hlim.keeps k) (hG.keeps k) (hB.keeps k) hbb hget hnx ?_ fun h' tk' dx t1 M => ?_
  · show A.depth + 1 < recursionLimit
    exact hroom
  · obtain ⟨k', hx, dn, dne, hns⟩ := M
    have old : ∀ b o, hp.get? b = some o → h'.get? b = some o := fun b o e => k' b o (Nat.ne_of_lt (Nat.lt_succ_of_lt (Heap.lt_size e))) (k b o e)
    have z : hp.objs.size + 1 + 1 ≤ dx := by
      have q := dn
      rw [Heap.size_push, Heap.size_push] at q
      exact q
    exact ⟨rfl, hq h' tk' (hp.objs.size + 1) dx ⟨old, Nat.le_succ _, ⟨_, _, hx, rfl, rfl, rfl, rfl⟩, Nat.le_trans (Nat.le_trans (Nat.le_succ _) (Nat.le_succ _)) z, dne, hns⟩⟩
end
end
open PySem PySem.Spec PyProof.Rows L2
theorem relO_one {v : V} {v' : Value} (r : RelV v v') (attr f : Str) : RelO (List.lookup f [(attr, v)]) (if f = attr then some v' else none) := by
  by_cases hw : f = attr
  · subst hw
    rw [if_pos rfl, List.lookup_cons, beq_self_eq_true]
    exact r
  · rw [if_neg hw]
    have qw : (f == attr) = false := by simpa using hw
    rw [List.lookup_cons, qw]
    trivial
section
variable {X : Cx} {C fI cc : Addr} {nm qual attr arg msg : Str} {st : Stmt}
/-- nm(e) -/
def tMkE (C : Addr) (attr : Str) (ta : TA) : L2.St → Hp → XK → Prop := fun σ H Q => ta σ H fun vs H1 => ∃ v, vs = [v] ∧ ∀ d, H1 d = none → Q (.ref C) (some d) (upd H1 d (.xd [(attr, v)]))
theorem pmk_exc {a : Expr} {ta : TA} {p pos : Pos} {k : Nat} (T : ExT X.prog X.K X.mg nm qual attr arg msg st C fI cc) (hr : Room k X.A) (ha : PA X [a] ta) (hg : Gl X nm := by rfl) (hd : (nm == ("__debug__" : Str)) = false := by decide)
    (he : starEach (a :: []) X.env = (false, eval a X.env) :: starEach [] X.env := by rfl) (hpl : (backTo pos (starEach [] X.env)).any (·.1) = false := by rfl) :
    PMk X (.Call (.Name nm p) [a] [] pos) (tMkE C attr ta) := by
  intro pins s σ H Q I h
  refine wpAny_Call_Name_kw (ld_glob I hg T.gC ?_ hd)
  refine PySem.W.callWith_K (h₀ := X.base) I.ok.mod.kin T.kC (thn (ha.run pos pins s σ H _ I h) fun us s1 hh => ?_) he hpl
  obtain ⟨vs, H1, I1, r1, v, ev, q1⟩ := hh
  subst ev
  refine ⟨I1.kIn, ?_⟩
  cases r1 with
  | cons rv rn =>
    rename_i v' us'
    cases rn
    show wpAny _ _ (call (.ref C) [v']) _ _ _
    have hlim := I1.nolimit
    have hG : s1.heap.Ns mainGlobals X.mg := I1.mod.glob.keeps I1.bk
    obtain ⟨mb, hB0, hbb⟩ := I1.mod.blt
    have hB : s1.heap.Ns builtinsNs mb := hB0.keeps I1.bk
    have hI := I1
    obtain ⟨hp, g, dr, tk, os⟩ := s1
    refine wpAny_call (exc_made T I1.kIn hlim hG hB hbb (by have := hr.dp; omega) fun h' tk' e d M => ?_)
    show MkP X pins σ Q (.ref e) ⟨h', g, dr, tk', os⟩
    obtain ⟨oe, fv, hoe, hc, hd, hdat, h1⟩ := M.obj
    have hns := M.ns
    obtain ⟨G', g1, g2⟩ := restrict h' fun b => decide (b ≠ e)
    have gk : ∀ b, b ≠ e → G'.get? b = h'.get? b := fun b hb => g1 b (decide_eq_true hb)
    have ge : G'.get? e = none := g2 e (by simp)
    have old : ∀ b o, hp.get? b = some o → G'.get? b = some o := fun b o q => (gk b (Nat.ne_of_lt (Nat.lt_of_lt_of_le (Heap.lt_size q) M.new))).trans (M.keep b o q)
    have ob : ObjOk X.prog X.w (upd H1 d (.xd [(attr, v)])) G' d (.xd [(attr, v)]) :=
      ⟨_, hns.at (fun o q => (gk d M.dne).trans q), fun f => relO_one rv attr f⟩
    have J : Inv X pins σ (upd H1 d (.xd [(attr, v)])) ⟨G', g, dr, tk', os⟩ := I1.laid (t' := tk') old M.dbig ob
    refine ⟨e, oe, fv, ⟨G', g, dr, tk', os⟩, _, .ref C, some d, rfl, J, fun b o q => ?_, ge, hoe, ⟨hc, hd⟩, hdat, h1, ?_, rfl, I1.bare, raises_own T.exC T.tyC, q1 d (I1.hok.fresh M.dbig)⟩
    · by_cases hb : b = e
      · have q' : G'.get? b = some o := q
        rw [hb, ge] at q'; cases q'
      · exact (gk b hb).symm.trans q
    · rw [upd_ne (Ne.symm M.dne)]
      exact I1.hok.fresh M.new
/-- raise nm(e) -/
def tRaiseE (C : Addr) (attr : Str) (W : WX) (ta : TA) : TS := fun _ σ H => tMkE C attr ta σ H fun cls d H' => W cls d σ H'
theorem ps_raiseE {a : Expr} {ta : TA} {W : WX} {p pos pos2 : Pos} {k : Nat} (hc : X.calm = true) (T : ExT X.prog X.K X.mg nm qual attr arg msg st C fI cc) (hr : Room k X.A) (tk : Takes X W) (ha : PA X [a] ta) (hg : Gl X nm := by rfl) (hd : (nm == ("__debug__" : Str)) = false := by decide)
    (he : starEach (a :: []) X.env = (false, eval a X.env) :: starEach [] X.env := by rfl) (hpl : (backTo pos (starEach [] X.env)).any (·.1) = false := by rfl) :
    PS X (.Raise (some (.Call (.Name nm p) [a] [] pos)) none pos2) (tRaiseE C attr W ta) := ps_raise hc tk (pmk_exc T hr ha hg hd he hpl)
end
end K75
set_option Elab.async false
set_option linter.all false
set_option maxRecDepth 100000
set_option maxHeartbeats 4000000
namespace K75
open PySem PySem.Spec PyProof.Rows L2
/-! ### several clauses 'except x as n', one name n in slot i -/
abbrev EndsAs (D : Ends) (i : Nat) : Ends := { nx := fun σ' H' => D.nx (σ'.set i none) H', rt := D.rt, bk := fun σ' H' => D.bk (σ'.set i none) H', ct := fun σ' H' => D.ct (σ'.set i none) H' }
def wManyAs (K : PySem.W.Frag) (m i : Nat) (Wout : WX) (D : Ends) : List (Value × (Addr → Value → Option Addr → TS)) → WX
  | [] => Wout
  | (c, ts) :: r => fun cls d σ H => ∃ b, PySem.W.exmOne K cls c = some b ∧ (b = true → ∀ a, σ.length = m → H a = none → ts a cls d (EndsAs D i) (σ.set i (some (.ref a))) H) ∧ (b = false → wManyAs K m i Wout D r cls d σ H)
inductive HdsAs (X : Cx) (n : Str) : List ExceptHandler → List (Value × (Addr → Value → Option Addr → TS)) → Prop
  | nil : HdsAs X n [] []
  | cons {x : Str} {c : Value} {ts : Addr → Value → Option Addr → TS} {b₀ : Stmt} {suite : List Stmt} {np pos' : Pos} {hds : List ExceptHandler} {l : List (Value × (Addr → Value → Option Addr → TS))} (hc : Names X x c)
      (hsu : ∀ (a : Addr) (oe : Obj) (cls : Value) (d : Option Addr) (pn : List (Addr × Obj)), Zc cls d oe → (∃ vs, oe.data = .fields vs) → PSs (X.suite a ((a, oe) :: pn)) (b₀ :: suite) (ts a cls d)) (r : HdsAs X n hds l) :
      HdsAs X n (.ExceptHandler (some (.Name x np)) (some n) (b₀ :: suite) pos' :: hds) ((c, ts) :: l)
section
variable {X : Cx} {n : Str} {i : Nat} {body : List Stmt} {h₀ : ExceptHandler} {hds : List ExceptHandler} {l : List (Value × (Addr → Value → Option Addr → TS))} {pos : Pos} {tb : WX → TS} {Wout : WX}
theorem ps_try_manyAs (hs : X.stack = X.env :: X.outer) (hf : X.env.frame = some X.env.locals) (hN : X.N.Nodup) (hi : X.N[i]? = some n) (hln : X.env.kindOf n = some .local) (tk : Takes X Wout)
    (hb : ∀ (W : WX) (pn : List (Addr × Obj)) (xe : Value → Shared → Prop), Takes (X.tr pn xe) W → PassesOwn (model X.prog X.w) X.A X.env xe → PSs (X.tr pn xe) body (tb W))
    (hh : HdsAs X n (h₀ :: hds) l) : PS X (.Try body (h₀ :: hds) [] [] pos) (fun D σ H => tb (wManyAs X.K X.N.length i Wout D l) D σ H) := by
  refine ⟨fun pins s σ H D I h => ?_⟩
  have ok := I.ok
  have hfr : X.A.frames = some (X.env :: X.outer) := by rw [ok.frames, hs]
  have hloc : Loc X.env.scope n := .inl hln
  refine wpAny_Try_except ?_
  refine wpAny_mono ((hb (wManyAs X.K X.N.length i Wout D l) (X.pn ++ pins) (fun e s₁ => wpAny (model X.prog X.w) X.A (noteFrame e X.env) (fun _ s₂ => wpAny (model X.prog X.w) X.A (setFlight e none) (fun _ s₃ =>
    wpAny (model X.prog X.w) X.A (handleBy e X.env (h₀ :: hds)) (SP X pins D) X.xe s₃) X.xe s₂) X.xe s₁) (fun u s' xx => ?_) PassesOwn.looking).run [] s σ H D (I.toTry _) h) (fun f s1 hsp => ?_) (fun e s1 he => he)
  · -- the catch
    obtain ⟨a, B, sI, pins', σ', H', cls, d, rfl, J', nb, up, sky, na, os, ag, w⟩ := xx
    have J : Inv X pins σ' H' sI := J'.ofTry ok
    have sky' : Sky B (X.env :: X.outer) a (Zc cls d) X.env.locals s'.heap := by rw [← hs]; exact sky
    show wpAny (model X.prog X.w) X.A (noteFrame (.ref a) X.env) _ _ _
    refine Sky.land Zc.steady hfr hf sky' fun h3 fl3 up3 => ?_
    have J3 : Inv X pins σ' H' { s' with heap := h3 } := J.landed nb fl3.1 (up.trans up3) os ag
    obtain ⟨oe3, vs3, he3, hz3, hd3⟩ := fl3.there
    have notFr : ∀ {h : Heap} {o : Obj} {vs : Array Value}, h.FunFrames B (X.env :: X.outer) → h.get? a = some o → o.data = .fields vs → a ∉ frs (X.env :: X.outer) := fun {h o vs} ff e dd hm => by
      obtain ⟨_, o', e', hnf⟩ := ff.mem hm
      rw [e] at e'; cases e'
      exact hnf _ dd
    have nfr := notFr fl3.2.2.1 he3 hd3
    have nL : a ≠ X.env.locals := fun z => nfr (List.mem_filterMap.mpr ⟨X.env, List.mem_cons_self, by rw [hf, z]⟩)
    have nF : a ∉ X.fs := fun hm => by
      obtain ⟨e, he, q⟩ := List.mem_filterMap.mp hm
      exact nfr (List.mem_filterMap.mpr ⟨e, List.mem_cons_of_mem _ he, q⟩)
    have S3 := J3.suite he3 hd3 na nL nF
    have go : ∀ {hds' : List ExceptHandler} {l' : List (Value × (Addr → Value → Option Addr → TS))}, HdsAs X n hds' l' → wManyAs X.K X.N.length i Wout D l' cls d σ' H' →
        wpAny (model X.prog X.w) X.A (handleBy (.ref a) X.env hds') (SP X pins D) X.xe { s' with heap := h3 } := by
      intro hds' l' hk
      induction hk with
      | nil =>
        intro w
        refine wpAny_handleBy_nil ?_
        obtain ⟨k1, k2, k3, oe, vs, T, oT, ts', he, hz, hd, h1, hr⟩ := id fl3
        unfold PySem.passOn
        refine wpAny_bind (wpAny_field he hd h1 ?_)
        rw [if_neg (show ¬ ((Value.ref T == Value.none) = true) from by simp)]
        have fin : wpAny (model X.prog X.w) X.A (setFlight (.ref a) X.env.frame) (fun _ s4 => wpAny (model X.prog X.w) X.A (throw (.ref a) : Sem Flow) (SP X pins D) X.xe s4) X.xe { s' with heap := h3 } := by
          rw [hf]
          refine HandSPX.setFlight_upZ fl3 fun h4 hh4 up4 => wpAny_throw (tk _ _ ?_)
          exact ⟨a, B, sI, pins, σ', H', cls, d, rfl, J, nb, (up.trans up3).trans up4, .inr (.inr (by rw [hs]; exact hh4)), na, os, ag, w⟩
        first
          | exact wpAny_bind (wpAny_pure (wpAny_bind fin))
          | exact wpAny_bind fin
      | @cons x c ts b₀ suite np pos' hds2 l2 hc hsu r ih =>
        intro w
        obtain ⟨b, hb1, hyes, hno⟩ := w
        refine wpAny_handleBy_cons (codeAny_handlers_test ?_) (by intro q; cases q)
        have LT : PySem.W.Looks (model X.prog X.w) h3 (typeOf (.ref a)) cls := fun A Q E s k q => wpAny_typeOf_ref (k _ _ he3) (by rw [hz3.1]; exact q)
        have LM := PySem.W.exm_one (M := model X.prog X.w) (J3.kIn) LT hb1
        have test : ∀ {Q : Value → Shared → Prop} {E : Value → Shared → Prop}, Q c { s' with heap := h3 } → wpAny (model X.prog X.w) (X.A.mark (some (.ref a))) (eval (.Name x np) X.env) Q E { s' with heap := h3 } := fun {Q E} q => by
          obtain ⟨hg, hdbg, hm | ⟨hm, hv, hnn⟩⟩ := hc
          · exact ld_glob (X := X.suite a ((a, oe3) :: (X.pn ++ pins))) S3 hg hm q hdbg
          · exact ld_blt (X := X.suite a ((a, oe3) :: (X.pn ++ pins))) S3 hg hm hv q hnn hdbg
        refine test (LM.here ?_)
        cases b with
        | true =>
          refine codeAny_handlers_suite_as ?_
          refine HandSPX.lands_againZ fl3 fun h4 fl4 up4 => ?_
          have J4 : Inv X pins σ' H' { s' with heap := h4 } := J.landed nb fl4.1 ((up.trans up3).trans up4) os ag
          obtain ⟨oe4, vs4, he4, hz4, hd4⟩ := fl4.there
          have S4 := J4.suite he4 hd4 na nL nF
          refine store_ok (X := X.suite a ((a, oe4) :: (X.pn ++ pins))) (v := .ref a) S4 hN hi hloc rfl (fun s5 S5 => ?_) (.inr hln)
          refine wpAny_mono ((hsu a oe4 cls d (X.pn ++ pins) hz4 ⟨_, hd4⟩).run [] s5 _ H' _ S5 (hyes rfl a J.len na)) (fun f s6 hsp => ?_) (fun _ _ z => False.elim z)
          have end_ : ∀ {σ6 : L2.St} {H6 : Hp} {Q : Shared → Prop}, Inv (X.suite a ((a, oe4) :: (X.pn ++ pins))) [] σ6 H6 s6 → (∀ s7, Inv X pins (σ6.set i none) H6 s7 → Q s7) →
              wpAny (model X.prog X.w) X.A (do bindName X.env n .none; unbindBehindTheSuite X.env n pos') (fun _ s7 => Q s7) X.xe s6 := fun {σ6 H6 Q} S6 hq => gone_ok (S6.unsuite ok) hN hi hln hq
          cases f with
          | next =>
            obtain ⟨σ6, H6, S6, q6⟩ := hsp
            exact end_ S6 fun s7 J7 => ⟨_, _, J7, q6⟩
          | brk =>
            obtain ⟨σ6, H6, S6, q6⟩ := hsp
            exact end_ S6 fun s7 J7 => ⟨_, _, J7, q6⟩
          | cont =>
            obtain ⟨σ6, H6, S6, q6⟩ := hsp
            exact end_ S6 fun s7 J7 => ⟨_, _, J7, q6⟩
          | ret u =>
            obtain ⟨v6, σ6, H6, S6, r6, q6⟩ := hsp
            exact end_ S6 fun s7 J7 => ⟨_, _, _, J7, r6, q6⟩
        | false =>
          show wpAny _ X.A (handleBy (.ref a) X.env hds2) _ _ _
          exact ih (hno rfl)
    exact go hh w
  · cases f with
    | next =>
      obtain ⟨σ', H', J', q⟩ := hsp
      exact wpAny_execs_nil ⟨σ', H', J'.ofTry ok, q⟩
    | brk =>
      obtain ⟨σ', H', J', q⟩ := hsp
      exact ⟨σ', H', J'.ofTry ok, q⟩
    | cont =>
      obtain ⟨σ', H', J', q⟩ := hsp
      exact ⟨σ', H', J'.ofTry ok, q⟩
    | ret u =>
      obtain ⟨v, σ', H', J', r, q⟩ := hsp
      exact ⟨v, σ', H', J'.ofTry ok, r, q⟩
end
end K75
set_option Elab.async false
set_option linter.all false
set_option maxRecDepth 100000
set_option maxHeartbeats 4000000
namespace K75
open PySem PySem.Spec PyProof.Rows L2
/-! ### repr -/
def Shw (K : PySem.W.Frag) (H : Hp) (v : V) (d : PyData) : Prop := (Dp K H v d ∧ d.hasDict = false) ∨ ∃ (a : Addr) (x : Str) (i : Int), v = .ref a ∧ H a = some (.dK [(.inr x, .int i)]) ∧ d = .dict [(.str x, .int i)]
def rRepr (K : PySem.W.Frag) : List V → Hp → VK → Prop := fun xs H Q => ∃ (v : V) (d : PyData), xs = [v] ∧ Shw K H v d ∧ d.showable = true ∧ d.depth ≤ 8 ∧ d.shown.length ≤ sizeLine ∧ Q (.str d.shown) H
section
variable {X : Cx}
theorem shw_reads {pins : List (Addr × Obj)} {σ : L2.St} {H : Hp} {s : Shared} (I : Inv X pins σ H s) {v : V} {u : Value} {d : PyData} (h : Shw X.K H v d) (r : RelV v u) : ∃ as, Reads s.heap u d as ∧ (d.hasDict = true → sysModules ∉ as) := by
  rcases h with ⟨h1, h2⟩ | ⟨a, x, i, rfl, ha, rfl⟩
  · obtain ⟨as, hr⟩ := Dp.reads I d v u h1 r
    exact ⟨as, hr, PyData.noDict_hsm h2⟩
  · obtain rfl : u = Value.ref a := r
    obtain ⟨_, hne, vs, hkv, o, es, ep, ho, hx, hd, _, hp, _⟩ := I.hok a _ ha
    cases hkv with
    | @cons _ q _ qs h1 hn =>
      cases hn
      obtain ⟨qk, qv⟩ := q
      obtain ⟨e1, t2, e2⟩ := h1
      simp only at e1 e2
      subst e1 e2
      cases hes : es.toList with
      | nil =>
        rw [hes] at hp
        cases hp
      | cons e er =>
        rw [hes] at hp
        cases hp with
        | cons k1 k2 k3 =>
          cases k3
          have k1' : keyIs (.inr x) e.key = true := k1
          rcases keyIs_shape k1' with ⟨j, t, z, _⟩ | ⟨y, t, z, ek⟩
          · cases z
          · cases z
            refine ⟨_, Reads.dict (as := []) (bs := []) (kvs := [(.str x, .int i)]) ho hx.1 hd ?_ ?_, fun _ hm => ?_⟩
            · rw [hes]
              show ReadsAll s.heap [e.key] [.str x] []
              rw [ek]
              exact .cons (as := []) (bs := []) (.str x t) .nil
            · rw [hes]
              show ReadsAll s.heap [e.val] [.int i] []
              rw [k2]
              exact .cons (as := []) (bs := []) (.int i t2) .nil
            · have e3 : sysModules = a := by simpa using hm
              rw [← e3, beq_self_eq_true] at hne
              cases hne
theorem k_repr (K : PySem.W.Frag) (hg : X.A.guards = some []) (hu : X.A.units + 64 < cLine) (hK : X.K = K := by rfl) : CallR X (.builtin "repr") (rRepr K) := by
  subst hK
  intro pins s σ H xs us Q I r h
  obtain ⟨v, d, rfl, hv, hs, hd, hz, q⟩ := h
  obtain ⟨u, rfl, ru⟩ := vals1 r
  obtain ⟨as, hr, hsm⟩ := shw_reads I hv ru
  cases hr with
  | none => exact PySem.P.repr_of_none ⟨.str _, H, I.tok _, ⟨_, rfl⟩, by simpa only [PyData.shown] using q⟩
  | bool b => exact PySem.P.repr_of_bool ⟨.str _, H, I.tok _, ⟨_, rfl⟩, by simpa only [PyData.shown] using q⟩
  | int i t =>
    have z : i.natAbs.log2 < 1920 := by simpa [PyData.showable] using hs
    exact PySem.P.repr_of_int z ⟨.str _, H, I.tok _, ⟨_, rfl⟩, by simpa only [PyData.shown] using q⟩
  | str x t =>
    simp only [PyData.shown] at hz q
    exact PySem.P.repr_of_str ⟨.str _, H, I.tok _, ⟨_, rfl⟩, q⟩ hz
  | list h1 h2 h3 h4 => exact repr_of_reads' (.list h1 h2 h3 h4) hs hsm hg (by omega) (fun _ _ e => e) (fun h' u' tk hk => ⟨.str _, H, I.kept hk, ⟨_, rfl⟩, q⟩) hz
  | tuple h1 h2 h3 h4 => exact repr_of_reads' (.tuple h1 h2 h3 h4) hs hsm hg (by omega) (fun _ _ e => e) (fun h' u' tk hk => ⟨.str _, H, I.kept hk, ⟨_, rfl⟩, q⟩) hz
  | dict h1 h2 h3 h4 h5 => exact repr_of_reads' (.dict h1 h2 h3 h4 h5) hs hsm hg (by omega) (fun _ _ e => e) (fun h' u' tk hk => ⟨.str _, H, I.kept hk, ⟨_, rfl⟩, q⟩) hz
end
end K75
set_option Elab.async false
set_option linter.all false
set_option maxRecDepth 100000
set_option maxHeartbeats 4000000
namespace K75
open PySem PySem.Spec PyProof.Rows L2 LamX
/-! ### code that is never reached -/
def tNevE : TS := fun _ _ _ => False
theorem ps_nevE {X : Cx} {st : Stmt} : PS X st tNevE := ⟨fun _ _ _ _ _ _ h => h.elim⟩
theorem pss_nevE {X : Cx} {st : List Stmt} : PSs X st tNevE := ⟨fun _ _ _ _ _ _ h => h.elim⟩
/-- a call that does not come back -/
theorem pe_gone {X : Cx} {e : Expr} {te : TE} (h : PE X e te) : PE X e (fun σ H _ => te σ H fun _ _ => False) := ⟨fun pins s σ H Q I q => thn (h.run pins s σ H _ I q) fun _ _ ⟨_, _, _, _, z⟩ => z.elim⟩
/-- the eleven own errors as the top leaves them; N: NoNote, B: NoBuild -/
structure CgT (K : PySem.W.Frag) (mg : Str → Option Value) (N B : Addr) : Prop where
  g0 : ∃ C, mg "NoBook" = some (.ref C) ∧ PySem.W.exmOne K (.ref N) (.ref C) = some false ∧ PySem.W.exmOne K (.ref B) (.ref C) = some false
  g1 : ∃ C, mg "NoSkill" = some (.ref C) ∧ PySem.W.exmOne K (.ref N) (.ref C) = some false ∧ PySem.W.exmOne K (.ref B) (.ref C) = some false
  g2 : mg "NoBuild" = some (.ref B) ∧ PySem.W.exmOne K (.ref N) (.ref B) = some false ∧ PySem.W.exmOne K (.ref B) (.ref B) = some true
  g3 : ∃ C, mg "NoStep" = some (.ref C) ∧ PySem.W.exmOne K (.ref N) (.ref C) = some false
  g4 : ∃ C, mg "NoPlain" = some (.ref C) ∧ PySem.W.exmOne K (.ref N) (.ref C) = some false
  g5 : ∃ C, mg "NoNumber" = some (.ref C) ∧ PySem.W.exmOne K (.ref N) (.ref C) = some false
  g6 : ∃ C, mg "NoWorth" = some (.ref C) ∧ PySem.W.exmOne K (.ref N) (.ref C) = some false
  g7 : ∃ C, mg "NoSeen" = some (.ref C) ∧ PySem.W.exmOne K (.ref N) (.ref C) = some false
  g8 : ∃ C, mg "NoKind" = some (.ref C) ∧ PySem.W.exmOne K (.ref N) (.ref C) = some false
  g9 : ∃ C, mg "NothingBack" = some (.ref C) ∧ PySem.W.exmOne K (.ref N) (.ref C) = some false
  g10 : mg "NoNote" = some (.ref N) ∧ PySem.W.exmOne K (.ref N) (.ref N) = some true
  xN : XfC K N
  xB : XfC K B
  nN : PySem.W.findIn K (.ref N) "line" = some none
  nB : PySem.W.findIn K (.ref B) "build" = some none
/-- what is told of an error: its own dict holds v under attr, v is shown as d is -/
def ErrAt (K : PySem.W.Frag) (attr : Str) (dd : Option Addr) (H : Hp) (d : PyData) : Prop := ∃ (a : Addr) (v : V), dd = some a ∧ H a = some (.xd [(attr, v)]) ∧ Shw K H v d ∧ d.showable = true ∧ d.depth ≤ 8 ∧ d.shown.length ≤ sizeLine
/-- _law_caught: what is made of the lambda's reading -/
def TTc (K : PySem.W.Frag) (N B : Addr) : (XK → Hp → VK → Prop) → Hp → VK → Prop := fun tl H Q =>
  tl (fun cls dd H' => (cls = .ref N ∧ ∃ d, ErrAt K "line" dd H' d ∧ ∀ H2 p, Same H' H2 → H2 p = some (.lst [.str "note", .str d.shown]) → Q (.ref p) H2) ∨
    (cls = .ref B ∧ ∃ d, ErrAt K "build" dd H' d ∧ ∀ H2 p, Same H' H2 → H2 p = some (.lst [.str "build", .str d.shown]) → Q (.ref p) H2)) H (fun _ _ => False)
section
variable {X : Cx}
theorem scCaught : FnScope ["_law_call", "e"] ["_law_call"] (defScope sLawCaught) := ⟨rfl, rfl, rfl, by decide +kernel, rfl, by decide +kernel, by decide +kernel⟩
theorem caught_gives {N B g : Addr} {cdg : Value} {q : Str} (T : Tx X.K X.mg) (G : CgT X.K X.mg N B) (hgd : X.A.guards = some []) (hu : X.A.units + 100 < cLine) : GivesTo X ["_law_call", "e"] "_law_caught" (defScope sLawCaught) g cdg (defBody sLawCaught) "_law_call" q (TTc X.K N B) := by
  intro f c' s H Q tl act hc h
  obtain ⟨C0, g0, n0, b0⟩ := G.g0
  obtain ⟨C1, g1, n1, b1⟩ := G.g1
  obtain ⟨g2, n2, b2⟩ := G.g2
  obtain ⟨C3, g3, n3⟩ := G.g3
  obtain ⟨C4, g4, n4⟩ := G.g4
  obtain ⟨C5, g5, n5⟩ := G.g5
  obtain ⟨C6, g6, n6⟩ := G.g6
  obtain ⟨C7, g7, n7⟩ := G.g7
  obtain ⟨D8, g8, n8⟩ := G.g8
  obtain ⟨C9, g9, n9⟩ := G.g9
  obtain ⟨g10, n10⟩ := G.g10
  have hgd2 : ∀ (a : Addr) (pn : List (Addr × Obj)), ((cxOf C8.CX0 X.prog X.w X.K X.mg X.base ["_law_call", "e"] "_law_caught" (defScope sLawCaught) g cdg X.A X.stack s H C8.E0).nox.suite a pn).A.guards = some [] := fun a pn => hgd
  have hu2 : ∀ (a : Addr) (pn : List (Addr × Obj)), ((cxOf C8.CX0 X.prog X.w X.K X.mg X.base ["_law_call", "e"] "_law_caught" (defScope sLawCaught) g cdg X.A X.stack s H C8.E0).nox.suite a pn).A.units + 64 < cLine := fun a pn => by
    show X.A.units + 3 + 64 < cLine
    omega
  refine ⟨_, pss_cons (ps_try_manyAs (i := 1) (n := "e") (tb := fun W D σ H => ∃ Ech : XK, (∀ cls d σ' H', Ech cls d H' → W cls d σ' H') ∧ σ[0]? = some (some (.ref f)) ∧ H c' = some (CodeO c' q) ∧ tl Ech H (fun _ _ => False))
      rfl rfl scCaught.nd rfl rfl LamX.takes0 (fun W pn xe tk _ => ?_)
      (.cons ⟨rfl, by decide, .inl g0⟩ (fun _ _ _ _ _ _ _ => pss_nevE) (.cons ⟨rfl, by decide, .inl g1⟩ (fun _ _ _ _ _ _ _ => pss_nevE)
      (.cons ⟨rfl, by decide, .inl g2⟩ (fun a oe cls d pn hz hf => pss_one (ps_ret (pe_lst (pa_cons pe_str (pa_cons (pe_callB (k_repr X.K (hgd2 a _) (hu2 a _)) (by rfl) T.repr b_repr (pa_cons (pe_xf G.xB G.nB hz hf (pv 1)) pa_nil)) pa_nil)))))
      (.cons ⟨rfl, by decide, .inl g3⟩ (fun _ _ _ _ _ _ _ => pss_nevE) (.cons ⟨rfl, by decide, .inl g4⟩ (fun _ _ _ _ _ _ _ => pss_nevE) (.cons ⟨rfl, by decide, .inl g5⟩ (fun _ _ _ _ _ _ _ => pss_nevE)
      (.cons ⟨rfl, by decide, .inl g6⟩ (fun _ _ _ _ _ _ _ => pss_nevE) (.cons ⟨rfl, by decide, .inl g7⟩ (fun _ _ _ _ _ _ _ => pss_nevE) (.cons ⟨rfl, by decide, .inl g8⟩ (fun _ _ _ _ _ _ _ => pss_nevE)
      (.cons ⟨rfl, by decide, .inl g9⟩ (fun _ _ _ _ _ _ _ => pss_nevE)
      (.cons ⟨rfl, by decide, .inl g10⟩ (fun a oe cls d pn hz hf => pss_one (ps_ret (pe_lst (pa_cons pe_str (pa_cons (pe_callB (k_repr X.K (hgd2 a _) (hu2 a _)) (by rfl) T.repr b_repr (pa_cons (pe_xf G.xN G.nN hz hf (pv 1)) pa_nil)) pa_nil))))) .nil)))))))))))) pss_nevE, ?_⟩
  · refine ⟨fun pins s' σ H' D I h' => ?_⟩
    obtain ⟨Ech, hW, h1, h2, h3⟩ := h'
    exact (pss_one (ps_expr (pe_gone (act W pn xe Ech _ _ tk hW)))).run pins s' σ H' D I ⟨h1, h2, h3⟩
  · refine ⟨_, fun cls d σ' H' z => ?_, rfl, hc, h⟩
    rcases z with ⟨rfl, dt, ⟨a, v, rfl, ha, hv, h1, h2, h3⟩, k⟩ | ⟨rfl, dt, ⟨a, v, rfl, ha, hv, h1, h2, h3⟩, k⟩
    · refine ⟨false, n0, nofun, fun _ => ⟨false, n1, nofun, fun _ => ⟨false, n2, nofun, fun _ => ⟨false, n3, nofun, fun _ => ⟨false, n4, nofun, fun _ => ⟨false, n5, nofun, fun _ => ⟨false, n6, nofun, fun _ => ⟨false, n7, nofun, fun _ => ⟨false, n8, nofun, fun _ => ⟨false, n9, nofun, fun _ => ⟨true, n10, fun _ b hl hb => ?_, nofun⟩⟩⟩⟩⟩⟩⟩⟩⟩⟩⟩
      refine ⟨.ref b, ?_, rfl, rfl, a, _, v, rfl, ha, rfl, v, dt, rfl, hv, h1, h2, h3, by show 2 ≤ sizeLine; decide, fun p hp => k _ p (same_upd (Same.refl _) hp) upd_same⟩
      rw [List.getElem?_set_self (by rw [hl]; show 1 < 2; decide)]
    · refine ⟨false, b0, nofun, fun _ => ⟨false, b1, nofun, fun _ => ⟨true, b2, fun _ b hl hb => ?_, nofun⟩⟩⟩
      refine ⟨.ref b, ?_, rfl, rfl, a, _, v, rfl, ha, rfl, v, dt, rfl, hv, h1, h2, h3, by show 2 ≤ sizeLine; decide, fun p hp => k _ p (same_upd (Same.refl _) hp) upd_same⟩
      rw [List.getElem?_set_self (by rw [hl]; show 1 < 2; decide)]
end
end K75
set_option Elab.async false
set_option linter.all false
set_option maxRecDepth 100000
set_option maxHeartbeats 4000000
namespace K75
open PySem PySem.Spec PyProof.Rows L2
/-! ### code that is never reached -/
def tNev : TS := fun _ _ _ => False
theorem ps_nev {X : Cx} {st : Stmt} : PS X st tNev := ⟨fun _ _ _ _ _ _ h => h.elim⟩
theorem pss_nev {X : Cx} {st : List Stmt} : PSs X st tNev := ⟨fun _ _ _ _ _ _ h => h.elim⟩
/-! ### comprehensions whose turns change nothing -/
section
variable {J : It} {n : Nat} {G : Hp → Prop} {Y : Nat → Hp → V → Hp → Prop} {g : TG} {tt : TT} {te : TE} {vs : List Nat} {σ : L2.St} {H1 : Hp} {D : Addr} {Qd : Hp → Prop}
/-- behind i turns: what the turns told gave -/
def selV (ys : List (Option V)) : List V := ys.filterMap id
theorem selV_len (ys : List (Option V)) : (selV ys).length ≤ ys.length := List.length_filterMap_le ..
theorem selV_next {ys : List (Option V)} {i : Nat} {y : V} (h : ys[i]? = some (some y)) : selV (ys.take (i + 1)) = selV (ys.take i) ++ [y] := by
  unfold selV
  rw [List.take_add_one, h, List.filterMap_append]
  rfl
theorem selV_skip {ys : List (Option V)} {i : Nat} (h : ys[i]? = some none) : selV (ys.take (i + 1)) = selV (ys.take i) := by
  unfold selV
  rw [List.take_add_one, h, List.filterMap_append]
  simp
theorem lc_sel (w : Walk J n G Y) (ys : List (Option V)) (hl : ys.length = n) (hz : n ≤ 1000000) (hD : H1 D = none) (hG : ∀ H, Same H1 H → G H)
    (turn : ∀ i x H H' y, ys[i]? = some y → Same H1 H → Y i H x H' → ∀ (R : VK) (R0 : Hp → Prop), (∀ z H4, y = some z → Same H H4 → R z H4) → (∀ H4, y = none → Same H H4 → R0 H4) →
      g x (wipe σ vs) H' fun σ2 H2 => wipe σ2 vs = wipe σ vs ∧ tt σ2 H2 fun b H3 => if b = true then te σ2 H3 R else R0 H3)
    (done : ∀ H, Same H1 H → H D = some (.lst (selV ys)) → Qd H) :
    ∃ W : Nat → Nat → Hp → Prop, (∃ m, W 0 m (upd H1 D (.lst []))) ∧ ∀ i m H, W i m H →
      (J.stop i H ∧ Qd H) ∨ (J.go i H ∧ ∃ Nx : Hp → Prop, (∀ H', Nx H' → ∃ m', m' < m ∧ W (i + 1) m' H') ∧ ∀ x H', J.yld i H x H' → g x (wipe σ vs) H' fun σ2 H2 => wipe σ2 vs = wipe σ vs ∧ tt σ2 H2 fun b H3 =>
        if b = true then te σ2 H3 fun y H4 => ∃ acc, H4 D = some (.lst acc) ∧ acc.length < sizeLine ∧ Nx (upd H4 D (.lst (acc ++ [y]))) else Nx H3) := by
  refine lc_it w (PvS H1 D fun i => selV (ys.take i)) (.zero hD rfl) (fun i H _ p => hG H p.1) (fun i x H H' hi p y => ?_) fun H p => done H p.1 ?_
  · have hi' : i < ys.length := by omega
    refine turn i x H H' _ (List.getElem?_eq_getElem hi') p.1 y _ _ (fun z H4 ez s => ?_) fun H4 ez s => ?_
    · refine p.next hD s (Nat.le_trans (selV_len _) ?_) (selV_next ((List.getElem?_eq_getElem hi').trans (congrArg some ez)))
      rw [List.length_take]
      omega
    · exact p.skip s (selV_skip ((List.getElem?_eq_getElem hi').trans (congrArg some ez)))
  · have e : H D = some (.lst (selV (ys.take n))) := p.2
    rw [← hl, List.take_length] at e
    exact e
theorem selV_all (ys : List V) : selV (ys.map some) = ys := by
  unfold selV
  induction ys with
  | nil => rfl
  | cons y ys ih =>
    show y :: List.filterMap id (ys.map some) = _
    rw [ih]
theorem lc_map (w : Walk J n G Y) (ys : List V) (hl : ys.length = n) (hz : n ≤ 1000000) (hD : H1 D = none) (hG : ∀ H, Same H1 H → G H)
    (turn : ∀ i x H H' y, ys[i]? = some y → Same H1 H → Y i H x H' → ∀ R : VK, (∀ H4, Same H H4 → R y H4) → g x (wipe σ vs) H' fun σ2 H2 => wipe σ2 vs = wipe σ vs ∧ te σ2 H2 R)
    (done : ∀ H, Same H1 H → H D = some (.lst ys) → Qd H) :
    ∃ W : Nat → Nat → Hp → Prop, (∃ m, W 0 m (upd H1 D (.lst []))) ∧ ∀ i m H, W i m H →
      (J.stop i H ∧ Qd H) ∨ (J.go i H ∧ ∃ Nx : Hp → Prop, (∀ H', Nx H' → ∃ m', m' < m ∧ W (i + 1) m' H') ∧ ∀ x H', J.yld i H x H' → g x (wipe σ vs) H' fun σ2 H2 => wipe σ2 vs = wipe σ vs ∧ tYes σ2 H2 fun b H3 =>
        if b = true then te σ2 H3 fun y H4 => ∃ acc, H4 D = some (.lst acc) ∧ acc.length < sizeLine ∧ Nx (upd H4 D (.lst (acc ++ [y]))) else Nx H3) := by
  refine lc_sel w (ys.map some) (by rw [List.length_map]; exact hl) hz hD hG (fun i x H H' y hy s hY R R0 h1 h2 => ?_) fun H s e => done H s (by rw [selV_all] at e; exact e)
  rw [List.getElem?_map] at hy
  obtain ⟨z, hz, rfl⟩ := Option.map_eq_some_iff.mp hy
  exact turn i x H H' z hz s hY R fun H4 s4 => h1 z H4 rfl s4
/-- .. over a list of tuples -/
theorem lc_rows {K : PySem.W.Frag} {a : Addr} {rows : List (List V)} {ts : List Addr} (ha : H1 a = some (.lst (ts.map V.ref))) (ht : ts.length = rows.length) (hr : ∀ (i : Nat) (t : Addr) (xs : List V), ts[i]? = some t → rows[i]? = some xs → H1 t = some (.tup xs)) (ys : List V) (hl : ys.length = rows.length) (hz : rows.length ≤ 1000000) (hD : H1 D = none)
    (turn : ∀ (i : Nat) (t : Addr) (xs : List V) (H : Hp) (y : V), rows[i]? = some xs → ys[i]? = some y → Same H1 H → H t = some (.tup xs) → ∀ R : VK, (∀ H4, Same H H4 → R y H4) → g (.ref t) (wipe σ vs) H fun σ2 H2 => wipe σ2 vs = wipe σ vs ∧ te σ2 H2 R)
    (done : ∀ H, Same H1 H → H D = some (.lst ys) → Qd H) :
    ∃ W : Nat → Nat → Hp → Prop, (∃ m, W 0 m (upd H1 D (.lst []))) ∧ ∀ i m H, W i m H →
      ((Itl K a).stop i H ∧ Qd H) ∨ ((Itl K a).go i H ∧ ∃ Nx : Hp → Prop, (∀ H', Nx H' → ∃ m', m' < m ∧ W (i + 1) m' H') ∧ ∀ x H', (Itl K a).yld i H x H' → g x (wipe σ vs) H' fun σ2 H2 => wipe σ2 vs = wipe σ vs ∧ tYes σ2 H2 fun b H3 =>
        if b = true then te σ2 H3 fun y H4 => ∃ acc, H4 D = some (.lst acc) ∧ acc.length < sizeLine ∧ Nx (upd H4 D (.lst (acc ++ [y]))) else Nx H3) := by
  refine lc_map (walk_list (xs := ts.map V.ref)) ys (by rw [List.length_map, hl, ht]) (by rw [List.length_map, ht]; exact hz) hD (fun H s => .of (s _ _ ha)) ?_ done
  rintro i x H _ y hy s ⟨rfl, hx⟩ R hR
  obtain ⟨t, e, rfl⟩ := ref_at hx
  obtain ⟨xs, hxs⟩ := row_at ht e
  exact turn i t xs _ y hxs hy s (s _ _ (hr i t xs e hxs)) R hR
end
/-! ### equality of data told by their texts -/
theorem dp_ints {K : PySem.W.Frag} {H : Hp} : ∀ l : List Int, DpAll K H (l.map V.int) (l.map PyData.int)
  | [] => .nil
  | i :: l => .cons (.int i) (dp_ints l)
theorem dp_strs {K : PySem.W.Frag} {H : Hp} : ∀ l : List Str, DpAll K H (l.map V.str) (l.map PyData.str)
  | [] => .nil
  | i :: l => .cons (.str i) (dp_strs l)
theorem lay_ints : ∀ l : List Int, PyData.canLayAll0 (l.map PyData.int) = true
  | [] => by simp [PyData.canLayAll0]
  | z :: zs => by simp [PyData.canLayAll0, PyData.canLay0, lay_ints zs]
theorem lay_strs : ∀ l : List Str, (∀ x ∈ l, PyData.strOk x = true) → PyData.canLayAll0 (l.map PyData.str) = true
  | [], _ => by simp [PyData.canLayAll0]
  | z :: zs, h => by
    have h1 := h z List.mem_cons_self
    have h2 := lay_strs zs fun x hx => h x (List.mem_cons_of_mem _ hx)
    simp [PyData.canLayAll0, PyData.canLay0, h1, h2]
theorem dep_ints : ∀ l : List Int, PyData.depthAll (l.map PyData.int) = 0
  | [] => by simp [PyData.depthAll]
  | z :: zs => by simp [PyData.depthAll, PyData.depth, dep_ints zs]
theorem dep_strs : ∀ l : List Str, PyData.depthAll (l.map PyData.str) = 0
  | [] => by simp [PyData.depthAll]
  | z :: zs => by simp [PyData.depthAll, PyData.depth, dep_strs zs]
theorem shp_ints (l : List Int) : SeqAt.shaped (.list (l.map PyData.int)) = true := by
  show (PyData.canLay0 _ && decide (PyData.depth _ ≤ 64)) = true
  simp [PyData.canLay0, PyData.depth, lay_ints, dep_ints]
theorem shp_strs (l : List Str) (h : ∀ x ∈ l, PyData.strOk x = true) : SeqAt.shaped (.list (l.map PyData.str)) = true := by
  show (PyData.canLay0 _ && decide (PyData.depth _ ≤ 64)) = true
  simp [PyData.canLay0, PyData.depth, lay_strs l h, dep_strs]
theorem shp_tstrs (l : List Str) (h : ∀ x ∈ l, PyData.strOk x = true) : SeqAt.shaped (.tuple (l.map PyData.str)) = true := by
  show (PyData.canLay0 _ && decide (PyData.depth _ ≤ 64)) = true
  simp [PyData.canLay0, PyData.depth, lay_strs l h, dep_strs]
theorem shp_refl {d : PyData} (h : SeqAt.shaped d = true) : PyData.eqv d d = true := by
  have h' : (PyData.canLay0 d && decide (PyData.depth d ≤ 64)) = true := h
  exact SeqAt.eqv_refl d (Bool.and_eq_true_iff.mp h').1
section
variable {P : Program} {w : World} {K : PySem.W.Frag} {mg : Str → Option Value} {base : Heap}
/-! ### are_skills -/
def skRow (p : Str × Int) : List V := [.str p.1, .int p.2]
structure SkOk (ss : List (Str × Int)) : Prop where
  lo : 1 ≤ ss.length
  hi : ss.length ≤ 12
  wd : ∀ p ∈ ss, wordS p.1 = true ∧ p.1.length ≤ 1000
  tr : ∀ p ∈ ss, 1 ≤ p.2 ∧ p.2 ≤ 4
  nd : (ss.map (·.1)).Nodup
  so : (ss.map (·.2)).Pairwise (· ≤ ·)
def spSkills : Sp := fun vs H Q _ => ∃ (a : Addr) (ss : List (Str × Int)), vs = [.ref a] ∧ RowsAt H a (ss.map skRow) ∧ SkOk ss ∧ ∀ H', Same H H' → Q (.bl true) H'
theorem perm_sorted : ∀ {l l' : List Int}, l'.Perm l → l'.Pairwise (· ≤ ·) → l.Pairwise (· ≤ ·) → l' = l := fun p h1 h2 => p.eq_of_pairwise (fun a b _ _ h1 h2 => Int.le_antisymm h1 h2) h1 h2
theorem scSkills : FnScope ["value", "name", "tier", "tiers"] ["value"] (defScope sAreSkills) := ⟨rfl, rfl, rfl, by decide +kernel, rfl, by decide +kernel, by decide +kernel⟩
theorem cl_skills (T : Tx K mg) (D : Df K mg "are_skills" sAreSkills) (cT : Cl P w K mg base CX0 2 "are_tuples" spTuples) (cW : Cl P w K mg base CX0 1 "is_word" spWord) (cN : Cl P w K mg base CX0 2 "is_number" spNumber) (cU : Cl P w K mg base CX0 1 "are_unlike" spUnlikeK) : Cl P w K mg base CX0 3 "are_skills" spSkills := by
  refine cl_of D scSkills (fun _ _ _ _ _ _ us hl => match us, hl with | [_], _ => rfl) (fun vs H Q E h => ?_) (fun f cdv A outer s H vs Q E hr h => ?_)
  · obtain ⟨a, ss, rfl, _⟩ := h
    rfl
  · obtain ⟨a, ss, rfl, R, O, q⟩ := h
    have hu : (A.deeper (envOfC "are_skills" (defScope sAreSkills) s.heap.objs.size f cdv)).units + 64 < cLine := hr.units
    obtain ⟨ts, h1, h2, h3⟩ := id R
    have o1 := O.lo
    have o2 := O.hi
    have hl : ts.length = ss.length := by rw [h2, List.length_map]
    refine ⟨_, pss_cons (ps_if (PW.pt (pw_or (pt_not (pt_val (pe_k cT hr (pa_cons (pv 0) (pa_cons pe_int (pa_cons (pe_gi T.mSki) pa_nil)))))) (pw_or1 (pt_cmpR op_eq (pe_len K (pv 0) T.len) pe_int (nomark _))))) pss_nev pss_nil)
      (pss_cons (ps_if (pt_not (pt_val (pe_callB (cr_all rfl) (by rfl) T.all b_all (pa_cons (pe_lc (own := [("name", 1), ("tier", 2)]) (g := gTup K 2 (gCons (gName 1) (gCons (gName 2) gNil))) (tt := tYes) rfl scSkills.nd (pi_list (pv 0)) (blkOk_by (N := ["value", "name", "tier", "tiers"]) (sc := defScope sAreSkills) (by decide +kernel))
        (fun _ _ _ _ _ => by exact (k_tup K (pgs_cons (pg_name (i := 1) scSkills.nd rfl (Or.inl rfl)) (pgs_cons (pg_name (i := 2) scSkills.nd rfl (Or.inl rfl)) pgs_nil)))) (fun _ _ _ _ _ => pts_nil)
        (fun _ _ _ _ _ => by exact (pe_and (pe_k cW hr (pa_cons (pv 1) pa_nil)) (pe_one (pe_k cN hr (pa_cons (pv 2) (pa_cons pe_int (pa_cons (pe_gi T.mTie) pa_nil)))))))) pa_nil)))) pss_nev pss_nil)
      (pss_cons (ps_setLc (i := 3) (own := [("name", 1), ("tier", 2)]) (g := gTup K 2 (gCons (gName 1) (gCons (gName 2) gNil))) (tt := tYes) rfl scSkills.nd rfl (by rfl) (by rfl) (pi_list (pv 0)) (blkOk_by (N := ["value", "name", "tier", "tiers"]) (sc := defScope sAreSkills) (by decide +kernel))
        (fun _ _ _ _ _ => by exact (k_tup K (pgs_cons (pg_name (i := 1) scSkills.nd rfl (Or.inl rfl)) (pgs_cons (pg_name (i := 2) scSkills.nd rfl (Or.inl rfl)) pgs_nil)))) (fun _ _ _ _ _ => pts_nil)
        (fun _ _ _ _ _ => by exact (pe_callTy call_int1 (by rfl) T.int b_int (pa_cons (pv 2) pa_nil))))
      (pss_one (ps_ret (pe_and (pe_k cU hr (pa_cons (pe_lc (own := [("name", 1), ("tier", 2)]) (g := gTup K 2 (gCons (gName 1) (gCons (gName 2) gNil))) (tt := tYes) rfl scSkills.nd (pi_list (pv 0)) (blkOk_by (N := ["value", "name", "tier", "tiers"]) (sc := defScope sAreSkills) (by decide +kernel))
        (fun _ _ _ _ _ => by exact (k_tup K (pgs_cons (pg_name (i := 1) scSkills.nd rfl (Or.inl rfl)) (pgs_cons (pg_name (i := 2) scSkills.nd rfl (Or.inl rfl)) pgs_nil)))) (fun _ _ _ _ _ => pts_nil)
        (fun _ _ _ _ _ => by exact (pv 1))) pa_nil)) (pe_one (pe_cmpR (op_eqD hu) (pv 3) (pe_callB cr_sortedI (by rfl) T.sorted b_sorted (pa_cons (pv 3) pa_nil)) (nomark _)))))))), ?_⟩
    refine ⟨_, rfl, a, _, 2, 12, rfl, R, ?_, ?_, by decide, fun H1 s1 => ?_⟩
    · intro r hr
      obtain ⟨p, _, rfl⟩ := List.mem_map.mp hr
      rfl
    · rw [List.length_map]
      exact o2
    refine ⟨true, rfl, iteF ?_⟩
    refine ⟨_, rfl, a, _, rfl, .inl (.of (s1 _ _ h1)), rfl, ?_⟩
    rw [decide_eq_false (by rw [List.length_map, hl]; intro z; injection z with z; omega)]
    refine ⟨_, rfl, iteF ?_⟩
    have rAt : ∀ {H2 : Hp}, Same H1 H2 → ∀ (i : Nat) (t : Addr) (xs : List V), ts[i]? = some t → (ss.map skRow)[i]? = some xs → H2 t = some (.tup xs) := fun s2 i t xs e1 e2 => s2 _ _ (s1 _ _ (h3 i t xs e1 e2))
    have sk : ∀ {i : Nat} {xs : List V}, (ss.map skRow)[i]? = some xs → ∃ p, ss[i]? = some p ∧ xs = [.str p.1, .int p.2] := fun {i xs} e => by
      rw [List.getElem?_map] at e
      obtain ⟨p, hp, rfl⟩ := Option.map_eq_some_iff.mp e
      exact ⟨p, hp, rfl⟩
    have z0 : (ss.map skRow).length ≤ 1000000 := by
      rw [List.length_map]
      omega
    refine ⟨_, rfl, a, rfl, ⟨_, .of (s1 _ _ h1)⟩, fun D hD => ?_⟩
    refine lc_rows (s1 _ _ h1) h2 (rAt (Same.refl _)) (ss.map fun _ => V.bl true) (by simp) z0 hD ?_ ?_
    · intro i t xs H2 y hxs hy s2 ht R' hR
      obtain ⟨p, hp, rfl⟩ := sk hxs
      rw [List.getElem?_map, hp] at hy
      cases hy
      have wp := O.wd p (mem_at hp)
      have tp := O.tr p (mem_at hp)
      refine ⟨t, _, rfl, .of ht, rfl, _, _, rfl, _, _, rfl, rfl, rfl, ?_⟩
      refine ⟨_, rfl, .str p.1, rfl, .inl ⟨_, rfl, by omega⟩, fun H3 s3 => ⟨true, congrArg V.bl wp.1, iteT ?_⟩⟩
      refine ⟨_, rfl, p.2, 1, 4, rfl, ?_⟩
      rw [decide_eq_true tp.1, decide_eq_true tp.2]
      exact hR H3 s3
    intro H2 s2 hD2
    refine ⟨D, ss.map fun _ => true, rfl, .of (hD2.trans (by rw [List.map_map]; rfl)), true, by simp, iteF ?_⟩
    refine ⟨_, rfl, a, rfl, ⟨_, .of (s2 _ _ (s1 _ _ h1))⟩, fun D2 hD2 => ?_⟩
    refine lc_rows (s2 _ _ (s1 _ _ h1)) h2 (rAt s2) (ss.map fun p => V.int p.2) (by simp) z0 hD2 ?_ ?_
    · intro i t xs H3 y hxs hy s3 ht R' hR
      obtain ⟨p, hp, rfl⟩ := sk hxs
      rw [List.getElem?_map, hp] at hy
      cases hy
      exact ⟨t, _, rfl, .of ht, rfl, _, _, rfl, _, _, rfl, rfl, rfl, _, rfl, .inl ⟨p.2, rfl, hR _ (Same.refl _)⟩⟩
    intro H3 s3 hD3
    refine ⟨_, rfl, a, rfl, ⟨_, .of (s3 _ _ (s2 _ _ (s1 _ _ h1)))⟩, fun D4 hD4 => ?_⟩
    refine lc_rows (s3 _ _ (s2 _ _ (s1 _ _ h1))) h2 (rAt (s2.trans s3)) (ss.map fun p => V.str p.1) (by simp) z0 hD4 ?_ ?_
    · intro i t xs H4 y hxs hy s4 ht R' hR
      obtain ⟨p, hp, rfl⟩ := sk hxs
      rw [List.getElem?_map, hp] at hy
      cases hy
      exact ⟨t, _, rfl, .of ht, rfl, _, _, rfl, _, _, rfl, rfl, rfl, _, rfl, hR _ (Same.refl _)⟩
    intro H4 s4 hD4
    refine ⟨D4, (ss.map (·.1)).map Sum.inr, rfl, .inl (hD4.trans (by rw [List.map_map, List.map_map]; rfl)), by simp; omega, fun H5 s5 => ?_⟩
    have nd : ((ss.map (·.1)).map (Sum.inr : Str → Key)).Nodup := List.Pairwise.map _ (fun _ _ h z => h (Sum.inr.inj z)) O.nd
    rw [decide_eq_true nd]
    refine ⟨true, rfl, iteT ?_⟩
    have hT : H5 D2 = some (.lst ((ss.map (·.2)).map V.int)) := by
      rw [List.map_map]
      exact s5 _ _ (s4 _ _ hD3)
    refine ⟨_, rfl, _, rfl, D2, ss.map (·.2), rfl, .of hT, fun ns' p hp so hp5 => ?_⟩
    rw [perm_sorted hp so O.so]
    refine ⟨.list ((ss.map (·.2)).map PyData.int), .list ((ss.map (·.2)).map PyData.int), .lst (.of ((upd_ne (ne_of_none hT hp5)).trans hT)) (dp_ints _), .lst (.of upd_same) (dp_ints _), shp_ints _, shp_ints _, ?_⟩
    rw [shp_refl (shp_ints _)]
    exact q _ (s1.trans (s2.trans (s3.trans (s4.trans (s5.trans (same_upd (Same.refl _) hp5))))))
end
end K75
set_option Elab.async false
set_option linter.all false
set_option maxRecDepth 100000
set_option maxHeartbeats 4000000
namespace K75
open PySem PySem.Spec PyProof.Rows L2


section
variable {P : Program} {w : World} {K : PySem.W.Frag} {mg : Str → Option Value} {base : Heap}
/-! ### are_needs -/
def ndRow (p : Int × Int) : List V := [.int p.1, .int p.2]
structure NdOk (ss : List (Int × Int)) : Prop where
  hi : ss.length ≤ 3
  tr : ∀ p ∈ ss, (2 ≤ p.1 ∧ p.1 ≤ 4) ∧ 0 ≤ p.2 ∧ p.2 ≤ 12
  nd : (ss.map (·.1)).Nodup
  so : (ss.map (·.1)).Pairwise (· ≤ ·)
def spNeeds : Sp := fun vs H Q _ => ∃ (a : Addr) (ss : List (Int × Int)), vs = [.ref a] ∧ RowsAt H a (ss.map ndRow) ∧ NdOk ss ∧ ∀ H', Same H H' → Q (.bl true) H'
theorem scNeeds : FnScope ["value", "tier", "many", "tiers"] ["value"] (defScope sAreNeeds) := ⟨rfl, rfl, rfl, by decide +kernel, rfl, by decide +kernel, by decide +kernel⟩
theorem cl_needs (T : Tx K mg) (D : Df K mg "are_needs" sAreNeeds) (cT : Cl P w K mg base CX0 2 "are_tuples" spTuples) (cN : Cl P w K mg base CX0 2 "is_number" spNumber) (cU : Cl P w K mg base CX0 1 "are_unlike" spUnlikeK) : Cl P w K mg base CX0 3 "are_needs" spNeeds := by
  refine cl_of D scNeeds (fun _ _ _ _ _ _ us hl => match us, hl with | [_], _ => rfl) (fun vs H Q E h => ?_) (fun f cdv A outer s H vs Q E hr h => ?_)
  · obtain ⟨a, ss, rfl, _⟩ := h
    rfl
  · obtain ⟨a, ss, rfl, R, O, q⟩ := h
    have hu : (A.deeper (envOfC "are_needs" (defScope sAreNeeds) s.heap.objs.size f cdv)).units + 64 < cLine := hr.units
    obtain ⟨ts, h1, h2, h3⟩ := id R
    have o2 := O.hi
    have hl : ts.length = ss.length := by rw [h2, List.length_map]
    refine ⟨_, (pss_cons (ps_if (pt_not (pt_val (pe_k cT hr (pa_cons (pv 0) (pa_cons pe_int (pa_cons (pe_op op_sub (pe_gi T.mTie) pe_int) pa_nil)))))) pss_nev pss_nil) (pss_cons (ps_if (pt_not (pt_val (pe_callB (cr_all rfl) (by rfl) T.all b_all (pa_cons (pe_lc (own := [("tier", 1), ("many", 2)]) (g := gTup K 2 (gCons (gName 1) (gCons (gName 2) gNil))) (tt := tYes) rfl scNeeds.nd (pi_list (pv 0)) (blkOk_by (N := ["value", "tier", "many", "tiers"]) (sc := defScope sAreNeeds) (by decide +kernel)) (fun _ _ _ _ _ => by exact (k_tup K (pgs_cons (pg_name (i := 1) scNeeds.nd rfl (Or.inl rfl)) (pgs_cons (pg_name (i := 2) scNeeds.nd rfl (Or.inl rfl)) pgs_nil)))) (fun _ _ _ _ _ => pts_nil) (fun _ _ _ _ _ => by exact (pe_and (pe_k cN hr (pa_cons (pv 1) (pa_cons pe_int (pa_cons (pe_gi T.mTie) pa_nil)))) (pe_one (pe_k cN hr (pa_cons (pv 2) (pa_cons pe_int (pa_cons (pe_gi T.mSki) pa_nil)))))))) pa_nil)))) pss_nev pss_nil) (pss_cons (ps_setLc (i := 3) (own := [("tier", 1), ("many", 2)]) (g := gTup K 2 (gCons (gName 1) (gCons (gName 2) gNil))) (tt := tYes) rfl scNeeds.nd rfl (by rfl) (by rfl) (pi_list (pv 0)) (blkOk_by (N := ["value", "tier", "many", "tiers"]) (sc := defScope sAreNeeds) (by decide +kernel)) (fun _ _ _ _ _ => by exact (k_tup K (pgs_cons (pg_name (i := 1) scNeeds.nd rfl (Or.inl rfl)) (pgs_cons (pg_name (i := 2) scNeeds.nd rfl (Or.inl rfl)) pgs_nil)))) (fun _ _ _ _ _ => pts_nil) (fun _ _ _ _ _ => by exact ((pe_callTy call_int1 (by rfl) T.int b_int (pa_cons (pv 1) pa_nil))))) (pss_one (ps_ret (pe_and (pe_k cU hr (pa_cons (pv 3) pa_nil)) (pe_one (pe_cmpR (op_eqD hu) (pv 3) (pe_callB cr_sortedI (by rfl) T.sorted b_sorted (pa_cons (pv 3) pa_nil)) (nomark _))))))))), ?_⟩
    refine ⟨_, rfl, _, _, rfl, rfl, a, _, 2, 3, rfl, R, ?_, ?_, by decide, fun H1 s1 => ?_⟩
    · intro r hr
      obtain ⟨p, _, rfl⟩ := List.mem_map.mp hr
      rfl
    · rw [List.length_map]
      exact o2
    refine ⟨true, rfl, iteF ?_⟩
    have rAt : ∀ {H2 : Hp}, Same H1 H2 → ∀ (i : Nat) (t : Addr) (xs : List V), ts[i]? = some t → (ss.map ndRow)[i]? = some xs → H2 t = some (.tup xs) := fun s2 i t xs e1 e2 => s2 _ _ (s1 _ _ (h3 i t xs e1 e2))
    have sk : ∀ {i : Nat} {xs : List V}, (ss.map ndRow)[i]? = some xs → ∃ p, ss[i]? = some p ∧ xs = [.int p.1, .int p.2] := fun {i xs} e => by
      rw [List.getElem?_map] at e
      obtain ⟨p, hp, rfl⟩ := Option.map_eq_some_iff.mp e
      exact ⟨p, hp, rfl⟩
    have z0 : (ss.map ndRow).length ≤ 1000000 := by
      rw [List.length_map]
      omega
    refine ⟨_, rfl, a, rfl, ⟨_, .of (s1 _ _ h1)⟩, fun D hD => ?_⟩
    refine lc_rows (s1 _ _ h1) h2 (rAt (Same.refl _)) (ss.map fun _ => V.bl true) (by simp) z0 hD ?_ ?_
    · intro i t xs H2 y hxs hy s2 ht R' hR
      obtain ⟨p, hp, rfl⟩ := sk hxs
      rw [List.getElem?_map, hp] at hy
      cases hy
      have tp := O.tr p (mem_at hp)
      refine ⟨t, _, rfl, .of ht, rfl, _, _, rfl, _, _, rfl, rfl, rfl, ?_⟩
      refine ⟨_, rfl, p.1, 2, 4, rfl, ?_⟩
      rw [decide_eq_true tp.1.1, decide_eq_true tp.1.2]
      refine ⟨true, rfl, iteT ?_⟩
      refine ⟨_, rfl, p.2, 0, 12, rfl, ?_⟩
      rw [decide_eq_true tp.2.1, decide_eq_true tp.2.2]
      exact hR _ (Same.refl _)
    intro H2 s2 hD2
    refine ⟨D, ss.map fun _ => true, rfl, .of (hD2.trans (by rw [List.map_map]; rfl)), true, by simp, iteF ?_⟩
    refine ⟨_, rfl, a, rfl, ⟨_, .of (s2 _ _ (s1 _ _ h1))⟩, fun D2 hD2 => ?_⟩
    refine lc_rows (s2 _ _ (s1 _ _ h1)) h2 (rAt s2) (ss.map fun p => V.int p.1) (by simp) z0 hD2 ?_ ?_
    · intro i t xs H3 y hxs hy s3 ht R' hR
      obtain ⟨p, hp, rfl⟩ := sk hxs
      rw [List.getElem?_map, hp] at hy
      cases hy
      exact ⟨t, _, rfl, .of ht, rfl, _, _, rfl, _, _, rfl, rfl, rfl, _, rfl, .inl ⟨p.1, rfl, hR _ (Same.refl _)⟩⟩
    intro H3 s3 hD3
    refine ⟨_, rfl, D2, (ss.map (·.1)).map Sum.inl, rfl, .inl (hD3.trans (by rw [List.map_map, List.map_map]; rfl)), by simp; omega, fun H5 s5 => ?_⟩
    have nd : ((ss.map (·.1)).map (Sum.inl : Int → Key)).Nodup := List.Pairwise.map _ (fun _ _ h z => h (Sum.inl.inj z)) O.nd
    rw [decide_eq_true nd]
    refine ⟨true, rfl, iteT ?_⟩
    have hT : H5 D2 = some (.lst ((ss.map (·.1)).map V.int)) := by
      rw [List.map_map]
      exact s5 _ _ hD3
    refine ⟨_, rfl, _, rfl, D2, ss.map (·.1), rfl, .of hT, fun ns' p hp so hp5 => ?_⟩
    rw [perm_sorted hp so O.so]
    refine ⟨.list ((ss.map (·.1)).map PyData.int), .list ((ss.map (·.1)).map PyData.int), .lst (.of ((upd_ne (ne_of_none hT hp5)).trans hT)) (dp_ints _), .lst (.of upd_same) (dp_ints _), shp_ints _, shp_ints _, ?_⟩
    rw [shp_refl (shp_ints _)]
    exact q _ (s1.trans (s2.trans (s3.trans (s5.trans (same_upd (Same.refl _) hp5)))))


/-! ### are_numbered -/
structure NuOk (ns : List Str) (lo hi : Int) (ss : List (Str × Int)) : Prop where
  le : ss.length ≤ 12
  wd : ∀ p ∈ ss, (wordS p.1 = true ∧ p.1.length ≤ 1000) ∧ p.1 ∈ ns ∧ lo ≤ p.2 ∧ p.2 ≤ hi
  nd : (ss.map (·.1)).Nodup
theorem inV_strs {x : Str} {ns : List Str} (h : x ∈ ns) : inV (.str x) (ns.map V.str) = true := by
  unfold inV
  exact List.any_eq_true.mpr ⟨.str x, List.mem_map.mpr ⟨x, h, rfl⟩, by simp [eqV]⟩
def spNumbered : Sp := fun vs H Q _ => ∃ (n a : Addr) (ns : List Str) (ss : List (Str × Int)) (lo hi : Int), vs = [.ref n, .ref a, .int lo, .int hi] ∧ H n = some (.lst (ns.map V.str)) ∧ RowsAt H a (ss.map skRow) ∧ NuOk ns lo hi ss ∧ ∀ H', Same H H' → Q (.bl true) H'
theorem scNumbered : FnScope ["names", "value", "low", "high", "name", "many"] ["names", "value", "low", "high"] (defScope sAreNumbered) := ⟨rfl, rfl, rfl, by decide +kernel, rfl, by decide +kernel, by decide +kernel⟩
theorem cl_numbered (T : Tx K mg) (D : Df K mg "are_numbered" sAreNumbered) (cT : Cl P w K mg base CX0 2 "are_tuples" spTuples) (cW : Cl P w K mg base CX0 1 "is_word" spWord) (cN : Cl P w K mg base CX0 2 "is_number" spNumber) (cU : Cl P w K mg base CX0 1 "are_unlike" spUnlikeK) : Cl P w K mg base CX0 3 "are_numbered" spNumbered := by
  refine cl_of D scNumbered (fun _ _ _ _ _ _ us hl => match us, hl with | [_, _, _, _], _ => rfl) (fun vs H Q E h => ?_) (fun f cdv A outer s H vs Q E hr h => ?_)
  · obtain ⟨n, a, ns, ss, lo, hi, rfl, _⟩ := h
    rfl
  · obtain ⟨n, a, ns, ss, lo, hi, rfl, hn, R, O, q⟩ := h
    obtain ⟨ts, h1, h2, h3⟩ := id R
    have o2 := O.le
    have hl : ts.length = ss.length := by rw [h2, List.length_map]
    refine ⟨_, (pss_cons (ps_if (pt_not (pt_val (pe_k cT hr (pa_cons (pv 1) (pa_cons pe_int (pa_cons (pe_gi T.mSki) pa_nil)))))) pss_nev pss_nil) (pss_cons (ps_if (pt_not (pt_val (pe_callB (cr_all rfl) (by rfl) T.all b_all (pa_cons (pe_lc (own := [("name", 4), ("many", 5)]) (g := gTup K 2 (gCons (gName 4) (gCons (gName 5) gNil))) (tt := tYes) rfl scNumbered.nd (pi_list (pv 1)) (blkOk_by (N := ["names", "value", "low", "high", "name", "many"]) (sc := defScope sAreNumbered) (by decide +kernel)) (fun _ _ _ _ _ => by exact (k_tup K (pgs_cons (pg_name (i := 4) scNumbered.nd rfl (Or.inl rfl)) (pgs_cons (pg_name (i := 5) scNumbered.nd rfl (Or.inl rfl)) pgs_nil)))) (fun _ _ _ _ _ => pts_nil) (fun _ _ _ _ _ => by exact (pe_and (pe_k cW hr (pa_cons (pv 4) pa_nil)) (pe_and (pe_cmpR (k_in K) (pv 4) (pv 0) rfl) (pe_one (pe_k cN hr (pa_cons (pv 5) (pa_cons (pv 2) (pa_cons (pv 3) pa_nil))))))))) pa_nil)))) pss_nev pss_nil) (pss_one (ps_ret (pe_k cU hr (pa_cons (pe_lc (own := [("name", 4), ("many", 5)]) (g := gTup K 2 (gCons (gName 4) (gCons (gName 5) gNil))) (tt := tYes) rfl scNumbered.nd (pi_list (pv 1)) (blkOk_by (N := ["names", "value", "low", "high", "name", "many"]) (sc := defScope sAreNumbered) (by decide +kernel)) (fun _ _ _ _ _ => by exact (k_tup K (pgs_cons (pg_name (i := 4) scNumbered.nd rfl (Or.inl rfl)) (pgs_cons (pg_name (i := 5) scNumbered.nd rfl (Or.inl rfl)) pgs_nil)))) (fun _ _ _ _ _ => pts_nil) (fun _ _ _ _ _ => by exact (pv 4))) pa_nil)))))), ?_⟩
    refine ⟨_, rfl, a, _, 2, 12, rfl, R, ?_, ?_, by decide, fun H1 s1 => ?_⟩
    · intro r hr
      obtain ⟨p, _, rfl⟩ := List.mem_map.mp hr
      rfl
    · rw [List.length_map]
      exact o2
    refine ⟨true, rfl, iteF ?_⟩
    have rAt : ∀ {H2 : Hp}, Same H1 H2 → ∀ (i : Nat) (t : Addr) (xs : List V), ts[i]? = some t → (ss.map skRow)[i]? = some xs → H2 t = some (.tup xs) := fun s2 i t xs e1 e2 => s2 _ _ (s1 _ _ (h3 i t xs e1 e2))
    have sk : ∀ {i : Nat} {xs : List V}, (ss.map skRow)[i]? = some xs → ∃ p, ss[i]? = some p ∧ xs = [.str p.1, .int p.2] := fun {i xs} e => by
      rw [List.getElem?_map] at e
      obtain ⟨p, hp, rfl⟩ := Option.map_eq_some_iff.mp e
      exact ⟨p, hp, rfl⟩
    have z0 : (ss.map skRow).length ≤ 1000000 := by
      rw [List.length_map]
      omega
    refine ⟨_, rfl, a, rfl, ⟨_, .of (s1 _ _ h1)⟩, fun D hD => ?_⟩
    refine lc_rows (s1 _ _ h1) h2 (rAt (Same.refl _)) (ss.map fun _ => V.bl true) (by simp) z0 hD ?_ ?_
    · intro i t xs H2 y hxs hy s2 ht R' hR
      obtain ⟨p, hp, rfl⟩ := sk hxs
      rw [List.getElem?_map, hp] at hy
      cases hy
      have wp := O.wd p (mem_at hp)
      refine ⟨t, _, rfl, .of ht, rfl, _, _, rfl, _, _, rfl, rfl, rfl, ?_⟩
      refine ⟨_, rfl, .str p.1, rfl, .inl ⟨_, rfl, by omega⟩, fun H3 s3 => ⟨true, congrArg V.bl wp.1.1, iteT ?_⟩⟩
      refine ⟨_, rfl, _, rfl, n, _, rfl, .inl (.of (s3 _ _ (s2 _ _ (s1 _ _ hn)))), rfl, by simp [flatV], ?_⟩
      rw [inV_strs wp.2.1]
      refine ⟨true, rfl, iteT ?_⟩
      refine ⟨_, rfl, _, rfl, _, rfl, p.2, lo, hi, rfl, ?_⟩
      rw [decide_eq_true wp.2.2.1, decide_eq_true wp.2.2.2]
      exact hR H3 s3
    intro H2 s2 hD2
    refine ⟨D, ss.map fun _ => true, rfl, .of (hD2.trans (by rw [List.map_map]; rfl)), true, by simp, iteF ?_⟩
    refine ⟨_, rfl, a, rfl, ⟨_, .of (s2 _ _ (s1 _ _ h1))⟩, fun D4 hD4 => ?_⟩
    refine lc_rows (s2 _ _ (s1 _ _ h1)) h2 (rAt s2) (ss.map fun p => V.str p.1) (by simp) z0 hD4 ?_ ?_
    · intro i t xs H4 y hxs hy s4 ht R' hR
      obtain ⟨p, hp, rfl⟩ := sk hxs
      rw [List.getElem?_map, hp] at hy
      cases hy
      exact ⟨t, _, rfl, .of ht, rfl, _, _, rfl, _, _, rfl, rfl, rfl, _, rfl, hR _ (Same.refl _)⟩
    intro H4 s4 hD4
    refine ⟨D4, (ss.map (·.1)).map Sum.inr, rfl, .inl (hD4.trans (by rw [List.map_map, List.map_map]; rfl)), by simp; omega, fun H5 s5 => ?_⟩
    have nd : ((ss.map (·.1)).map (Sum.inr : Str → Key)).Nodup := List.Pairwise.map _ (fun _ _ h z => h (Sum.inr.inj z)) O.nd
    rw [decide_eq_true nd]
    exact q _ (s1.trans (s2.trans (s4.trans s5)))
end
end K75
set_option Elab.async false
set_option linter.all false
set_option maxRecDepth 100000
set_option maxHeartbeats 4000000
namespace K75
open PySem PySem.Spec PyProof.Rows L2


section
variable {P : Program} {w : World} {K : PySem.W.Frag} {mg : Str → Option Value} {base : Heap}
/-! ### is_want -/
structure Want where
  so : Str
  nm : Str
  l : List Str
  m : Option Int
def Want.items (x : Want) (t2 : Addr) : List V := match x.m with
  | none => [.str x.so, .str x.nm, .ref t2]
  | some k => [.str x.so, .str x.nm, .ref t2, .int k]
def WantAt (H : Hp) (t : Addr) (x : Want) : Prop := ∃ t2, H t = some (.tup (x.items t2)) ∧ H t2 = some (.tup (x.l.map V.str))
theorem WantAt.same {H H' : Hp} {t : Addr} {x : Want} (h : WantAt H t x) (s : Same H H') : WantAt H' t x := by
  obtain ⟨t2, h1, h2⟩ := h
  exact ⟨t2, s _ _ h1, s _ _ h2⟩
structure WantOk (ns : List Str) (x : Want) : Prop where
  so : (x.so = "count" ∧ ∃ k, x.m = some k ∧ 1 ≤ k ∧ k ≤ x.l.length) ∨ ((x.so = "all" ∨ x.so = "any") ∧ x.m = none)
  nm : (wordS x.nm = true ∧ x.nm.length ≤ 1000) ∧ x.nm ∈ ns
  ne : 1 ≤ x.l.length ∧ x.l.length ≤ 1000
  l : ∀ y ∈ x.l, (wordS y = true ∧ y.length ≤ 1000) ∧ y ∈ ns ∧ y ≠ x.nm
  nd : x.l.Nodup
theorem inV_not {x : Str} {ns : List Str} (h : x ∈ ns) : (!inV (.str x) (ns.map V.str)) = false := by rw [inV_strs h]; rfl
def spWant : Sp := fun vs H Q _ => ∃ (n t : Addr) (ns : List Str) (x : Want), vs = [.ref n, .ref t] ∧ H n = some (.lst (ns.map V.str)) ∧ WantAt H t x ∧ WantOk ns x ∧ ∀ H', Same H H' → Q (.bl true) H'
theorem scWant : FnScope ["names", "value", "name"] ["names", "value"] (defScope sIsWant) := ⟨rfl, rfl, rfl, by decide +kernel, rfl, by decide +kernel, by decide +kernel⟩
theorem cl_want (T : Tx K mg) (D : Df K mg "is_want" sIsWant) (cW : Cl P w K mg base CX0 1 "is_word" spWord) (cN : Cl P w K mg base CX0 2 "is_number" spNumber) (cU : Cl P w K mg base CX0 1 "are_unlike" spUnlikeK) : Cl P w K mg base CX0 3 "is_want" spWant := by
  refine cl_of D scWant (fun _ _ _ _ _ _ us hl => match us, hl with | [_, _], _ => rfl) (fun vs H Q E h => ?_) (fun f cdv A outer s H vs Q E hr h => ?_)
  · obtain ⟨n, t, ns, x, rfl, _⟩ := h
    rfl
  · obtain ⟨n, t, ns, x, rfl, hn, ⟨t2, ht, ht2⟩, O, q⟩ := h
    refine ⟨_, (pss_cons (ps_if (PW.pt (pw_or (pt_not (pt_val (pe_is K (pv 1) T.isi T.tuple b_tuple))) (pw_or (pt_not (pt_chain op_le op_le pe_int (pe_len K (pv 1) T.len) pe_int)) (pw_or1 (pt_not (pt_val (pe_is K (pe_ix (k_ixT K) (pv 1) pe_int (fun _ _ => rfl)) T.isi T.str b_str))))))) pss_nev pss_nil) (pss_cons (ps_if (PW.pt (pw_or (pt_cmpR (k_notIn K) (pe_ix (k_ixT K) (pv 1) pe_int (fun _ _ => rfl)) (pe_tup (pa_cons pe_str (pa_cons pe_str (pa_cons pe_str pa_nil)))) rfl) (pw_or1 (pt_cmpR op_ne (pe_len K (pv 1) T.len) (pe_op op_add pe_int (pe_callTy call_int1 (by rfl) T.int b_int (pa_cons (pe_cmpR op_eq (pe_ix (k_ixT K) (pv 1) pe_int (fun _ _ => rfl)) pe_str (nomark _)) pa_nil))) (nomark _))))) pss_nev pss_nil) (pss_cons (ps_if (PW.pt (pw_or (pt_not (pt_val (pe_k cW hr (pa_cons (pe_ix (k_ixT K) (pv 1) pe_int (fun _ _ => rfl)) pa_nil)))) (pw_or (pt_cmpR (k_notIn K) (pe_ix (k_ixT K) (pv 1) pe_int (fun _ _ => rfl)) (pv 0) rfl) (pw_or (pt_not (pt_val (pe_is K (pe_ix (k_ixT K) (pv 1) pe_int (fun _ _ => rfl)) T.isi T.tuple b_tuple))) (pw_or1 (pt_cmpR op_eq (pe_len K (pe_ix (k_ixT K) (pv 1) pe_int (fun _ _ => rfl)) T.len) pe_int (nomark _))))))) pss_nev pss_nil) (pss_cons (ps_if (pt_not (pt_val (pe_callB (cr_all rfl) (by rfl) T.all b_all (pa_cons (pe_lc (own := [("name", 2)]) (g := gName 2) (tt := tYes) rfl scWant.nd (pi_tup (pe_ix (k_ixT K) (pv 1) pe_int (fun _ _ => rfl))) (blkOk_by (N := ["names", "value", "name"]) (sc := defScope sIsWant) (by decide +kernel)) (fun _ _ _ _ _ => (pg_name (i := 2) scWant.nd rfl (Or.inl rfl))) (fun _ _ _ _ _ => pts_nil) (fun _ _ _ _ _ => by exact (pe_and (pe_k cW hr (pa_cons (pv 2) pa_nil)) (pe_and (pe_cmpR (k_in K) (pv 2) (pv 0) rfl) (pe_one (pe_cmpR op_ne (pv 2) (pe_ix (k_ixT K) (pv 1) pe_int (fun _ _ => rfl)) (nomark _))))))) pa_nil)))) pss_nev pss_nil) (pss_one (ps_ret (pe_and (pe_k cU hr (pa_cons (pe_ix (k_ixT K) (pv 1) pe_int (fun _ _ => rfl)) pa_nil)) (pe_one (pe_or (pe_cmpR op_eq (pe_len K (pv 1) T.len) pe_int (nomark _)) (pe_one (pe_k cN hr (pa_cons (pe_ix (k_ixT K) (pv 1) pe_int (fun _ _ => rfl)) (pa_cons pe_int (pa_cons (pe_len K (pe_ix (k_ixT K) (pv 1) pe_int (fun _ _ => rfl)) T.len) pa_nil)))))))))))))), ?_⟩
    have i0 : atI (x.items t2) 0 = some (.str x.so) := by unfold Want.items; cases x.m <;> rfl
    have i1 : atI (x.items t2) 1 = some (.str x.nm) := by unfold Want.items; cases x.m <;> rfl
    have i2 : atI (x.items t2) 2 = some (.ref t2) := by unfold Want.items; cases x.m <;> rfl
    have il : (x.items t2).length = if x.so = "count" then 4 else 3 := by
      unfold Want.items
      rcases O.so with ⟨e, k, e2, _⟩ | ⟨e, e2⟩
      · rw [e2, if_pos e]
        rfl
      · rw [e2, if_neg (by rcases e with e | e <;> rw [e] <;> decide)]
        rfl
    have hsz : 3 ≤ (x.items t2).length ∧ (x.items t2).length ≤ 4 := by
      rw [il]
      split <;> decide
    -- 1
    refine ⟨_, rfl, _, _, _, _, true, rfl, .ty _, .base (.tup ht), kit_ty (by decide +kernel), true, rfl, iteF ?_⟩
    refine ⟨_, rfl, t, _, rfl, .inr (.of ht), _, _, rfl, rfl, _, rfl, ?_⟩
    rw [decide_eq_true (by omega)]
    refine iteT ⟨_, _, rfl, rfl, _, rfl, ?_⟩
    rw [decide_eq_true (by omega)]
    refine iteF ?_
    refine ⟨_, rfl, t, _, _, _, rfl, rfl, .of ht, i0, _, _, _, _, true, rfl, .ty _, .base (.str _), kit_ty (by decide +kernel), true, rfl, iteF ?_⟩
    -- 2
    refine ⟨_, rfl, t, _, _, _, rfl, rfl, .of ht, i0, by show 3 ≤ sizeLine; decide, fun p hp => ?_⟩
    refine ⟨p, _, rfl, .inr (.of upd_same), rfl, rfl, ?_⟩
    have hin : (!inV (.str x.so) [.str "all", .str "any", .str "count"]) = false := by
      rcases O.so with ⟨e, _⟩ | ⟨e | e, _⟩ <;> rw [e] <;> decide
    rw [show (if true = true then !inV (V.str x.so) [V.str "all", V.str "any", V.str "count"] else inV (V.str x.so) [V.str "all", V.str "any", V.str "count"]) = false from hin]
    have s1 : Same H (upd H p (.tup [.str "all", .str "any", .str "count"])) := same_upd (Same.refl _) hp
    generalize upd H p (.tup [.str "all", .str "any", .str "count"]) = H1 at s1 ⊢
    refine ⟨_, rfl, iteF ?_⟩
    refine ⟨_, rfl, t, _, rfl, .inr (.of (s1 _ _ ht)), ?_⟩
    refine ⟨_, rfl, t, _, _, _, rfl, rfl, .of (s1 _ _ ht), i0, rfl, .inr ⟨_, rfl, _, _, rfl, rfl, rfl, ?_⟩⟩
    have hlen : (!decide (V.int ((x.items t2).length : Nat) = V.int (3 + if decide (V.str x.so = V.str "count") = true then 1 else 0))) = false := by
      rw [il]
      by_cases e : x.so = "count"
      · rw [e]
        decide
      · rw [if_neg e, decide_eq_false (show ¬ V.str x.so = V.str "count" from fun z => e (V.str.inj z))]
        decide
    rw [hlen]
    refine ⟨_, rfl, iteF ?_⟩
    -- 3
    refine ⟨_, rfl, t, _, _, _, rfl, rfl, .of (s1 _ _ ht), i1, .str x.nm, rfl, .inl ⟨_, rfl, by have := O.nm.1.2; omega⟩, fun H2 s2 => ⟨true, congrArg V.bl O.nm.1.1, iteF ?_⟩⟩
    refine ⟨_, rfl, t, _, _, _, rfl, rfl, .of (s2 _ _ (s1 _ _ ht)), i1, _, rfl, n, _, rfl, .inl (.of (s2 _ _ (s1 _ _ hn))), rfl, by simp [flatV], ?_⟩
    rw [show (if true = true then !inV (V.str x.nm) (ns.map V.str) else inV (V.str x.nm) (ns.map V.str)) = false from inV_not O.nm.2]
    refine ⟨_, rfl, iteF ?_⟩
    refine ⟨_, rfl, t, _, _, _, rfl, rfl, .of (s2 _ _ (s1 _ _ ht)), i2, _, _, _, _, true, rfl, .ty _, .base (.tup (s2 _ _ (s1 _ _ ht2))), kit_ty (by decide +kernel), true, rfl, iteF ?_⟩
    refine ⟨_, rfl, t, _, _, _, rfl, rfl, .of (s2 _ _ (s1 _ _ ht)), i2, t2, _, rfl, .inr (.of (s2 _ _ (s1 _ _ ht2))), rfl, ?_⟩
    have ne := O.ne
    rw [decide_eq_false (by rw [List.length_map]; intro z; injection z with z; omega)]
    refine ⟨_, rfl, iteF ?_⟩
    -- 4
    refine ⟨_, rfl, t, _, _, _, rfl, rfl, .of (s2 _ _ (s1 _ _ ht)), i2, t2, rfl, ⟨_, .of (s2 _ _ (s1 _ _ ht2))⟩, fun D hD => ?_⟩
    refine lc_map (walk_tup (xs := x.l.map V.str)) (x.l.map fun _ => V.bl true) (by simp) (by rw [List.length_map]; omega) hD (fun H3 s3 => .of (s3 _ _ (s2 _ _ (s1 _ _ ht2)))) ?_ ?_
    · rintro i z H3 _ y hy s3 ⟨rfl, hz⟩ R hR
      rw [List.getElem?_map] at hz
      obtain ⟨w', hw, rfl⟩ := Option.map_eq_some_iff.mp hz
      rw [List.getElem?_map, hw] at hy
      cases hy
      have ow := O.l w' (mem_at hw)
      refine ⟨rfl, ?_⟩
      refine ⟨_, rfl, .str w', rfl, .inl ⟨_, rfl, by omega⟩, fun H4 s4 => ⟨true, congrArg V.bl ow.1.1, iteT ?_⟩⟩
      refine ⟨_, rfl, _, rfl, n, _, rfl, .inl (.of (s4 _ _ (s3 _ _ (s2 _ _ (s1 _ _ hn))))), rfl, by simp [flatV], ?_⟩
      rw [show (if false = true then !inV (V.str w') (ns.map V.str) else inV (V.str w') (ns.map V.str)) = true from inV_strs ow.2.1]
      refine ⟨true, rfl, iteT ?_⟩
      refine ⟨_, rfl, _, rfl, t, _, _, _, rfl, rfl, .of (s4 _ _ (s3 _ _ (s2 _ _ (s1 _ _ ht)))), i1, rfl, ?_⟩
      rw [decide_eq_false (show ¬ V.str w' = V.str x.nm from fun z => ow.2.2 (V.str.inj z))]
      exact hR H4 s4
    intro H3 s3 hD3
    refine ⟨D, x.l.map fun _ => true, rfl, .of (hD3.trans (by rw [List.map_map]; rfl)), true, by simp, iteF ?_⟩
    -- 5
    refine ⟨_, rfl, t, _, _, _, rfl, rfl, .of (s3 _ _ (s2 _ _ (s1 _ _ ht))), i2, t2, x.l.map Sum.inr, rfl, .inr ((s3 _ _ (s2 _ _ (s1 _ _ ht2))).trans (by rw [List.map_map]; rfl)), by simp; omega, fun H4 s4 => ?_⟩
    have nd : (x.l.map (Sum.inr : Str → Key)).Nodup := List.Pairwise.map _ (fun _ _ h z => h (Sum.inr.inj z)) O.nd
    rw [decide_eq_true nd]
    refine ⟨true, rfl, iteT ?_⟩
    have ht4 := s4 _ _ (s3 _ _ (s2 _ _ (s1 _ _ ht)))
    refine ⟨_, rfl, t, _, rfl, .inr (.of ht4), rfl, ?_⟩
    have fin := q _ (s1.trans (s2.trans (s3.trans s4)))
    rcases O.so with ⟨e, k, e2, k1, k2⟩ | ⟨e, e2⟩
    · have l4 : (x.items t2).length = 4 := by rw [il, if_pos e]
      have i3 : atI (x.items t2) 3 = some (.int k) := by unfold Want.items; rw [e2]; rfl
      rw [decide_eq_false (by rw [l4]; intro z; injection z with z; omega)]
      refine ⟨_, rfl, iteF ?_⟩
      refine ⟨_, rfl, t, _, _, _, rfl, rfl, .of ht4, i3, _, rfl, t, _, _, _, rfl, rfl, .of ht4, i2, t2, _, rfl, .inr (.of (s4 _ _ (s3 _ _ (s2 _ _ (s1 _ _ ht2))))), k, 1, _, rfl, ?_⟩
      rw [decide_eq_true k1, decide_eq_true (by rw [List.length_map]; exact k2)]
      exact fin
    · have l3 : (x.items t2).length = 3 := by rw [il, if_neg (by rcases e with e | e <;> rw [e] <;> decide)]
      rw [decide_eq_true (by rw [l3]; rfl)]
      exact ⟨_, rfl, iteT fin⟩
end
end K75
set_option Elab.async false
set_option linter.all false
set_option maxRecDepth 100000
set_option maxHeartbeats 4000000
set_option pp.maxSteps 200
namespace K75
open PySem PySem.Spec PyProof.Rows L2
/-! ### a dict comprehension whose keys are tuples: as HandS.DictComp's, the dict of the other kind -/
theorem dT_set {X : Cx} {pins : List (Addr × Obj)} {σ : L2.St} {H : Hp} {s : Shared} {E : Value → Shared → Prop} {D b : Addr} {kvs : List (List Key × V)} {k : List Key} {v : V} {r : Value} {Q : Unit → Shared → Prop} (hu : X.A.units + 1 < cLine) (I : Inv X pins σ H s) (hD : H D = some (.dT kvs)) (eb : H b = some (.tup (k.map kV))) (hz : kvs.length < sizeLine)
    (rv : RelV v r) (h : ∀ s', Inv X pins σ (upd H D (.dT (putK kvs k v))) s' → Q () s') : wpAny (model X.prog X.w) X.A (dictSet D (.ref b) r) Q E s := by
  obtain ⟨z, hd, xs, rel, dd⟩ := dt_of I.hok hD
  have hz' : xs.length ≤ sizeLine := by rw [← Paired.length rel]; exact z
  have hl : (putK kvs k v).length ≤ sizeLine := by have := length_putK kvs k v; omega
  refine wpAny_dictSet_heap (hsz := hz') (Nat.lt_of_le_of_lt (Nat.le_succ _) hu) (key_of I.hok eb) dd fun h' dd' hs => h _ ?_
  obtain ⟨q, es, ep, hq, h2, h3, h4, _, h5⟩ := dd'
  refine d_write I (by rw [hD]; exact True.intro) hs ⟨q, hq⟩ ⟨hl, hd, _, (rel.put k eb rv).keeps fun c ys ec => ?_, q, es, ep, hq, h2, h3, h4, h5⟩
  rw [upd_ne (ne_of ec hD (fun z => nomatch z))]
  exact ec
section
variable {X : Cx}
/-- {k: v for target in iter if ..}, keys tuples of ints or texts: D the new dict -/
def tDcT (wi : TI) (g : TG) (tt : TT) (tk tv : TE) (vs : List Nat) : TE := fun σ H Q => wi σ H fun J H1 => ∀ D, H1 D = none → ∃ W : Nat → Nat → Hp → Prop, (∃ m, W 0 m (upd H1 D (.dT []))) ∧ ∀ i m H, W i m H →
  (J.stop i H ∧ Q (.ref D) H) ∨ (J.go i H ∧ ∃ Nx : Hp → Prop, (∀ H', Nx H' → ∃ m', m' < m ∧ W (i + 1) m' H') ∧ ∀ x H', J.yld i H x H' → g x (wipe σ vs) H' fun σ2 H2 => wipe σ2 vs = wipe σ vs ∧ tt σ2 H2 fun b H3 =>
    if b = true then tk σ2 H3 fun y H4 => tv σ2 H4 fun z H5 => ∃ kvs k b, y = .ref b ∧ H5 b = some (.tup (k.map kV)) ∧ H5 D = some (.dT kvs) ∧ kvs.length < sizeLine ∧ Nx (upd H5 D (.dT (putK kvs k z))) else Nx H3)
theorem dcT_core {pins : List (Addr × Obj)} {s : Shared} {σ : L2.St} {H : Hp} {Q : VK} {kx vx tg iter : Expr} {ifs : List Expr} {scope : Scope} {own : List (Str × Nat)} {pos pos' : Pos} {wi : TI} {g : TG} {tt : TT} {tk tv : TE} {use : Option (Value → Sem Unit)} {Qf : Value → Shared → Prop}
    (hu : X.A.units + 1 < cLine) (hc : X.calm = true) (hN : X.N.Nodup) (I : Inv X pins σ H s) (hi : PI X tg iter wi) (ok : BlkOk X.N X.env.scope scope own)
    (hg : ∀ (s : Shared) (H : Hp) (C : Addr) (cl : List (Str × Addr)) (fp : List Addr), PG (X.blk s H scope (compEnvC scope cl C X.env) fp) tg g) (ht : ∀ (s : Shared) (H : Hp) (C : Addr) (cl : List (Str × Addr)) (fp : List Addr), PTs (X.blk s H scope (compEnvC scope cl C X.env) fp) ifs tt)
    (hk : ∀ (s : Shared) (H : Hp) (C : Addr) (cl : List (Str × Addr)) (fp : List Addr), PE (X.blk s H scope (compEnvC scope cl C X.env) fp) kx tk)
    (he : ∀ (s : Shared) (H : Hp) (C : Addr) (cl : List (Str × Addr)) (fp : List Addr), PE (X.blk s H scope (compEnvC scope cl C X.env) fp) vx tv) (hs : ∀ x, foldedSetIterable iter X.env x = pure x)
    (h : tDcT wi g tt tk tv (own.map (·.2)) σ H Q)
    (hRR : ∀ D C s' m H', Inv X pins σ H' s' → Q (.ref D) H' → s'.heap.Ns C m → FpOk X pins H' C → compPost (model X.prog X.w) X.A X.xe use Qf (.ref D) C (.ok .next) s') :
    wpAny (model X.prog X.w) X.A (comprehension (.DictComp kx vx [⟨tg, iter, ifs, 0⟩] scope pos) scope X.env pos' newDict false (eval iter X.env) use) Qf X.xe s := by
  have hfree : ∀ y ∈ scope.names, y.2 = .free → ∃ c, X.env.cells.lookup y.1 = some c := fun y hy e => by
    rcases ok.free y hy e with k | k
    · exact I.ok.has _ (.inl k)
    · exact I.ok.has _ (.inr k)
  refine wpAny_comprehension_free (use := use) rfl hs (closure_ok hfree) ok.kind (fun y hy e => by rw [ok.uniq y hy, e])
    (thn (hi.run pins s σ H _ I h) fun xv s1 hx => thn hx fun itv s2 h2 => ?_)
  obtain ⟨it, fp, tn, J, H2, e, I2, T, st2, f2, q⟩ := h2
  subst e
  refine wpAny_newObj_type (newEnv_comp ?_)
  generalize hD : s2.heap.objs.size = D
  have hDn : H2 D = none := I2.hok.fresh (Nat.le_of_eq hD)
  obtain ⟨W, ⟨m0, w0⟩, turn⟩ := q D hDn
  -- the new list
  generalize hs3 : ({ s2 with heap := s2.heap.push { cls := .type "dict", data := .dict #[] } } : Shared) = s3
  have I3 : Inv X pins σ (upd H2 D (.dT [])) s3 := by
    rw [← hs3]
    refine I2.laid (t' := s2.toks) (fun b o e => Heap.get?_push_of_some _ e) (Nat.le_of_eq hD) ?_
    rw [← hD]
    exact dt_empty s2.heap I2.big
  have h3 : s3.heap = s2.heap.push { cls := .type "dict", data := .dict #[] } := by rw [← hs3]
  have sz : ∀ b ∈ fp, b < s2.heap.objs.size := fun b hb => by
    obtain ⟨o, e, _⟩ := T.obj _ _ st2 b hb
    exact Heap.lt_size e
  have f3 : ∀ b ∈ fp, FpOk X pins (upd H2 D (.dT [])) b ∧ b < s3.heap.objs.size := fun b hb => by
    have hlt := sz b hb
    refine ⟨⟨?_, (f2 b hb).2⟩, by rw [h3, Heap.size_push]; exact Nat.lt_succ_of_lt hlt⟩
    rw [upd_ne (by rw [← hD]; exact Nat.ne_of_lt hlt)]
    exact (f2 b hb).1
  have st3 : tn 0 s3.heap := T.keep _ _ _ st2 fun b _ o e => by rw [h3]; exact Heap.get?_push_of_some _ e
  have I4 := block_start I3 ok hN f3
  have pg := hg s3 (upd H2 D (.dT [])) s3.heap.objs.size (cellsFrom (s3.heap.objs.size + 1) scope.names (cloFrom X.env.cells scope.names [])) fp
  have pt := ht s3 (upd H2 D (.dT [])) s3.heap.objs.size (cellsFrom (s3.heap.objs.size + 1) scope.names (cloFrom X.env.cells scope.names [])) fp
  have pk := hk s3 (upd H2 D (.dT [])) s3.heap.objs.size (cellsFrom (s3.heap.objs.size + 1) scope.names (cloFrom X.env.cells scope.names [])) fp
  have pe := he s3 (upd H2 D (.dT [])) s3.heap.objs.size (cellsFrom (s3.heap.objs.size + 1) scope.names (cloFrom X.env.cells scope.names [])) fp
  show codeAny _ _ (.compStart (.DictComp kx vx [⟨tg, iter, ifs, 0⟩] scope pos) 0 (.ref it) (.ref D) (compEnvC scope (cellsFrom (s3.heap.objs.size + 1) scope.names (cloFrom X.env.cells scope.names [])) s3.heap.objs.size X.env)) (compPost (model X.prog X.w) X.A X.xe use Qf (.ref D) s3.heap.objs.size) { s3 with heap := pushCells (s3.heap.push { cls := .type "dict", data := .dict #[] }) scope.names }
  have nfp : ∀ b ∈ fp, (upd H2 D (.dT [])) b = none := fun b hb => (f3 b hb).1.1
  generalize hce : compEnvC scope (cellsFrom (s3.heap.objs.size + 1) scope.names (cloFrom X.env.cells scope.names [])) s3.heap.objs.size X.env = ce at I4 pg pt pk pe ⊢
  have cL : ce.locals = s3.heap.objs.size := by subst hce; rfl
  generalize hH3 : upd H2 D (.dT []) = H3 at I3 I4 pg pt pk pe w0 nfp f3
  generalize hs4 : ({ s3 with heap := pushCells (s3.heap.push { cls := .type "dict", data := .dict #[] }) scope.names } : Shared) = s4 at I4 ⊢
  have st4 : tn 0 s4.heap := T.keep _ _ _ st3 fun b _ o e => by rw [← hs4]; exact pushCells_keeps _ _ _ _ (Heap.get?_push_of_some _ e)
  have stat : ∀ {σ' : L2.St} {H' : Hp} {s' : Shared}, Inv (X.blk s3 H3 scope ce fp) [] σ' H' s' → (∀ b ∈ fp, H' b = none) → ∀ b ∈ fp, FpOk (X.blk s3 H3 scope ce fp) [] H' b := fun {σ' H' s'} I' hn b hb =>
    ⟨hn b hb, (I'.ok.exf b hb).1, I'.ok.exfs b hb, .inl hb, fun x c e => (I'.ok.exf b hb).2 x c e, fun p hp => absurd (show p ∈ ([] : List (Addr × Obj)) ++ [] from hp) (by simp)⟩
  have loop : codeAny (model X.prog X.w) X.A (.compLoop (.DictComp kx vx [⟨tg, iter, ifs, 0⟩] scope pos) 0 (.ref it) (.ref D) ce) (compPost (model X.prog X.w) X.A X.xe use Qf (.ref D) s3.heap.objs.size) s4 := by
    refine compLoop_anyD (fun n s' => ∃ i H', Inv (X.blk s3 H3 scope ce fp) [] (wipe σ (own.map (·.2))) H' s' ∧ tn i s'.heap ∧ (∀ b ∈ fp, H' b = none) ∧ W i n H') ?_ m0 ⟨0, H3, I4, st4, nfp, w0⟩
    rintro n s5 ⟨i, H5, I5, st5, n5, w5⟩
    rcases turn i n H5 w5 with ⟨stop, qq⟩ | ⟨go, Nx, hNx, step⟩
    · have td := T.done (X.blk s3 H3 scope ce fp) rfl rfl rfl hc i [] s5 _ H5 (fun _ _ => False) I5 (stat I5 n5) st5 stop
      refine thnF td fun r s6 ⟨hr, I6⟩ => ?_
      subst hr
      -- back in the def's context
      have I7 : Inv X pins σ H5 s6 := I3.call' (ch := fp) I6.os I6.base I6.hok I6.bare fun b hb => ⟨(f3 b hb).1.2.2.2.1, (f3 b hb).1.2.1, (f3 b hb).1.2.2.2.2.1, (f3 b hb).1.2.2.2.2.2⟩
      have nC : H5 s3.heap.objs.size = none := by
        have z : H5 ce.locals = none := I6.free
        rw [cL] at z
        exact z
      obtain ⟨m, hn, _⟩ := I6.loc
      have hn : s6.heap.Ns ce.locals m := hn
      rw [cL] at hn
      exact hRR D s3.heap.objs.size s6 m H5 I7 qq hn (I3.fpOk (Nat.le_refl _) nC)
    · have ti := T.item (X.blk s3 H3 scope ce fp) rfl rfl rfl hc i [] s5 _ H5 (fun _ _ => False) I5 (stat I5 n5) st5 go
      refine thnF ti fun r s6 ⟨u, hr, h6⟩ => ?_
      subst hr
      refine thnF h6 fun _ s7 ⟨x, H7, I7, r7, y7, st7, n7⟩ => ?_
      have I7' := I7.pinned (stat I7 n7) (T.obj _ _ st7)
      refine thnF (pg.run _ s7 _ H7 x u _ I7' r7 (step x H7 y7)) fun _ s8 ⟨σ8, H8, I8, hw8, q8⟩ => ?_
      refine thnF (pt.run _ s8 σ8 H8 _ I8 q8) fun b s9 ⟨H9, I9, q9⟩ => ?_
      -- the turn's end
      have fin : ∀ {s' : Shared} {H' : Hp}, Inv (X.blk s3 H3 scope ce fp) ([] ++ pinsAt fp s7.heap) σ8 H' s' → Nx H' → ∃ m, m < n ∧ ∃ i H', Inv (X.blk s3 H3 scope ce fp) [] (wipe σ (own.map (·.2))) H' s' ∧ tn i s'.heap ∧ (∀ b ∈ fp, H' b = none) ∧ W i m H' := fun {s' H'} I' nx => by
        obtain ⟨m', hm, w'⟩ := hNx H' nx
        have pin' : ∀ b ∈ fp, ∀ o, s7.heap.get? b = some o → s'.heap.get? b = some o ∧ H' b = none := fun b hb o e =>
          let z := I'.pin (b, o) (List.mem_append_right _ (List.mem_append_right _ (mem_pinsAt hb e)))
          ⟨z.1, z.2.1⟩
        have hl : (wipe σ (own.map (·.2))).length = σ8.length := by rw [← hw8, wipe_length]
        refine ⟨m', hm, i + 1, H', (I'.unpinned (pins := [])).weak hl (fun j v e => ?_), T.keep _ _ _ st7 fun b hb o e => (pin' b hb o e).1, fun b hb => ?_, w'⟩
        · rw [← hw8] at e
          exact (wipe_some e).1
        · obtain ⟨o, e, _⟩ := T.obj _ _ st7 b hb
          exact (pin' b hb o e).2
      cases b with
      | false =>
        simp only [Bool.false_eq_true, if_false] at q9 ⊢
        exact fin I9 q9
      | true =>
        simp only [if_true] at q9 ⊢
        refine thnF (pk.run _ s9 σ8 H9 _ I9 q9) fun z s10 ⟨yk, H10, I10, r10, q10⟩ => ?_
        refine thnF (pe.run _ s10 σ8 H10 _ I10 q10) fun z2 s11 ⟨yv, H11, I11, r11, kvs, k, bk, ek, eb11, hD11, hz11, nx⟩ => ?_
        subst ek
        obtain rfl : z = Value.ref bk := r10
        exact dT_set (X := X.blk s3 H3 scope ce fp) hu I11 hD11 eb11 hz11 r11 fun s12 I12 => fin I12 nx
  exact codeAny_compStart_dict loop (T.self X.A 0 _ _ _ st4 loop)
/-- as a value -/
theorem pe_dcT {kx vx tg iter : Expr} {ifs : List Expr} {scope : Scope} {own : List (Str × Nat)} {pos : Pos} {wi : TI} {g : TG} {tt : TT} {tk tv : TE} (hu : X.A.units + 1 < cLine) (hc : X.calm = true) (hN : X.N.Nodup) (hi : PI X tg iter wi) (ok : BlkOk X.N X.env.scope scope own)
    (hg : ∀ (s : Shared) (H : Hp) (C : Addr) (cl : List (Str × Addr)) (fp : List Addr), PG (X.blk s H scope (compEnvC scope cl C X.env) fp) tg g) (ht : ∀ (s : Shared) (H : Hp) (C : Addr) (cl : List (Str × Addr)) (fp : List Addr), PTs (X.blk s H scope (compEnvC scope cl C X.env) fp) ifs tt)
    (hk : ∀ (s : Shared) (H : Hp) (C : Addr) (cl : List (Str × Addr)) (fp : List Addr), PE (X.blk s H scope (compEnvC scope cl C X.env) fp) kx tk)
    (he : ∀ (s : Shared) (H : Hp) (C : Addr) (cl : List (Str × Addr)) (fp : List Addr), PE (X.blk s H scope (compEnvC scope cl C X.env) fp) vx tv) (hs : ∀ x, foldedSetIterable iter X.env x = pure x := by intro _; rfl) :
    PE X (.DictComp kx vx [⟨tg, iter, ifs, 0⟩] scope pos) (tDcT wi g tt tk tv (own.map (·.2))) := by
  refine ⟨fun pins s σ H Q I h => ?_⟩
  rw [arm_eval_DictComp]
  refine dcT_core hu hc hN I hi ok hg ht hk he hs h fun D C s' m H' I' q hn f => ⟨m, hn, fun h'' sb => ?_⟩
  obtain ⟨f0, f1, f2, f3, f4, f5⟩ := f
  exact ⟨.ref D, H', I'.turned (t' := s'.toks) (fun b o hb e => (sb.2 b hb).trans e) f0 f1 f3 f4 f5, rfl, q⟩

end
end K75
set_option Elab.async false
set_option linter.all false
set_option maxRecDepth 100000
set_option maxHeartbeats 4000000
namespace K75
open PySem PySem.Spec PyProof.Rows L2


section
variable {X : Cx} (K : PySem.W.Frag)
theorem k_tupleOf (h : X.K = K := by rfl) : CallR X (.type "tuple") (fun xs H Q => ∃ p ys, xs = [.ref p] ∧ ((SqL K H p ys ∧ ∀ l, H l = none → Q (.ref l) (upd H l (.tup ys))) ∨ (SqT K H p ys ∧ Q (.ref p) H))) := by
  subst h
  exact call_tuple_of
theorem k_sortS (h : X.K = K := by rfl) : CallR X (.builtin "sorted") (rSortedS K) := by
  subst h
  exact cr_sortedS
end
section
variable {P : Program} {w : World} {K : PySem.W.Frag} {mg : Str → Option Value} {base : Heap}
/-! ### are_unlike of tuples -/
/-- a list of tuples of ints or texts -/
def TupsAt (H : Hp) (a : Addr) (ks : List (List Key)) : Prop := ∃ ts : List Addr, H a = some (.lst (ts.map V.ref)) ∧ ts.length = ks.length ∧ ∀ (i : Nat) (t : Addr) (k : List Key), ts[i]? = some t → ks[i]? = some k → H t = some (.tup (k.map kV))
def spUnlikeT : Sp := fun vs H Q _ => ∃ (a : Addr) (ks : List (List Key)), vs = [.ref a] ∧ TupsAt H a ks ∧ ks.length ≤ 1000000 ∧ ∀ H', Same H H' → Q (.bl (decide ks.Nodup)) H'
theorem cl_unlikeT (T : Tx K mg) (D : Df K mg "are_unlike" sAreUnlike) : Cl P w K mg base CX0 1 "are_unlike" spUnlikeT := by
  refine cl_of D scUnlike (fun _ _ _ _ _ _ us hl => match us, hl with | [_], _ => rfl) (fun vs H Q E h => ?_) (fun f cdv A outer s H vs Q E hr h => ?_)
  · obtain ⟨a, ks, rfl, _⟩ := h
    rfl
  · obtain ⟨a, ks, rfl, ⟨ts, ha, hl, ht⟩, hz, q⟩ := h
    have hu : (A.deeper (envOfC "are_unlike" (defScope sAreUnlike) s.heap.objs.size f cdv)).units + 1 < cLine := by have := hr.units; omega
    refine ⟨_, (pss_one (ps_ret (pe_cmpR op_eq (pe_callB call_len_dT (by rfl) T.len b_len (pa_cons (pe_dcT (own := [("one", 1)]) (g := gName 1) (tt := tYes) hu rfl scUnlike.nd (pi_list (pv 0)) (blkOk_by (N := ["some", "one"]) (sc := defScope sAreUnlike) (by decide +kernel)) (fun _ _ _ _ _ => (pg_name (i := 1) scUnlike.nd rfl (Or.inl rfl))) (fun _ _ _ _ _ => pts_nil) (fun _ _ _ _ _ => by exact (pv 1)) (fun _ _ _ _ _ => pe_bl)) pa_nil)) (pe_len K (pv 0) T.len) (nomark _)))), ?_⟩
    refine ⟨_, rfl, a, rfl, ⟨_, .of ha⟩, fun D hD => ?_⟩
    refine ⟨fun i m H1 => m + i = ts.length ∧ Same H H1 ∧ H1 D = some (.dT (foldK (ks.take i))), ⟨ts.length, rfl, same_upd (Same.refl _) hD, upd_same⟩, fun i m H1 hW => ?_⟩
    obtain ⟨hm, s1, hD1⟩ := hW
    have w1 := walk_list (K := (cxOf CX0 P w K mg base ["some", "one"] "are_unlike" (defScope sAreUnlike) f cdv A outer s H E).nox.K) (a := a) (xs := ts.map V.ref)
    have sq : SqL (cxOf CX0 P w K mg base ["some", "one"] "are_unlike" (defScope sAreUnlike) f cdv A outer s H E).nox.K H1 a (ts.map V.ref) := .of (s1 _ _ ha)
    cases m with
    | zero =>
      have e : i = ts.length := by omega
      subst e
      refine .inl ⟨?_, D, _, rfl, hD1, ?_⟩
      · have z := w1.stops H1 sq
        rw [List.length_map] at z
        exact z
      refine ⟨_, rfl, a, _, rfl, .inl (.of (s1 _ _ ha)), rfl, ?_⟩
      have e2 : decide (V.int ((foldK (ks.take ts.length)).length : Nat) = V.int ((ts.map V.ref).length : Nat)) = decide ks.Nodup := by
        rw [hl, List.take_length, List.length_map, ← foldK_len ks, hl]
        by_cases e : (foldK ks).length = ks.length
        · rw [decide_eq_true e, e]
          exact decide_eq_true rfl
        · rw [decide_eq_false e]
          refine decide_eq_false fun z => e ?_
          injection z with z
          exact Int.ofNat.inj z
      rw [e2]
      exact q _ s1
    | succ m =>
      have lt : i < (ts.map V.ref).length := by rw [List.length_map]; omega
      refine .inr ⟨w1.goes i H1 lt sq, fun H' => m + (i + 1) = ts.length ∧ Same H H' ∧ H' D = some (.dT (foldK (ks.take (i + 1)))), fun H' p => ⟨m, by omega, p⟩, fun x H' y => ?_⟩
      obtain ⟨rfl, hx⟩ := w1.yields i H1 x H' lt sq y
      obtain ⟨t, ht1, rfl⟩ := ref_at hx
      obtain ⟨k, hk⟩ := row_at hl ht1
      refine ⟨rfl, _, rfl, ?_⟩
      refine ⟨_, k, t, rfl, s1 _ _ (ht i t k ht1 hk), hD1, Nat.lt_of_le_of_lt (Nat.le_trans (foldK_le _) ?_) (show 1000000 < sizeLine by decide), by omega, same_upd s1 hD, ?_⟩
      · rw [List.length_take]
        omega
      · rw [upd_same, List.take_add_one, hk]
        show _ = some (HO.dT (foldK (ks.take i ++ [k])))
        rw [foldK_snoc]
/-! ### are_bars -/
theorem snoc_at {α : Type} {l : List α} {x y : α} {j : Nat} (h : (l ++ [x])[j]? = some y) : l[j]? = some y ∨ (j = l.length ∧ y = x) := by
  rw [List.getElem?_append] at h
  by_cases c : j < l.length
  · rw [if_pos c] at h
    exact .inl h
  · rw [if_neg c] at h
    have lt := (List.getElem?_eq_some_iff.mp h).1
    have e : j = l.length := by
      rw [List.length_singleton] at lt
      omega
    subst e
    rw [Nat.sub_self] at h
    exact .inr ⟨rfl, (Option.some.inj h).symm⟩
def barRow (p : Str × Str) : List V := [.str p.1, .str p.2]
structure BarOk (ns : List Str) (ps : List (Str × Str)) : Prop where
  le : ps.length ≤ 6
  wd : ∀ p ∈ ps, ((wordS p.1 = true ∧ p.1.length ≤ 1000) ∧ p.1 ∈ ns) ∧ ((wordS p.2 = true ∧ p.2.length ≤ 1000) ∧ p.2 ∈ ns) ∧ p.1 ≠ p.2
  un : ps.Pairwise fun p q => ¬ [p.1, p.2].Perm [q.1, q.2]
def spBars : Sp := fun vs H Q _ => ∃ (n a : Addr) (ns : List Str) (ps : List (Str × Str)), vs = [.ref n, .ref a] ∧ H n = some (.lst (ns.map V.str)) ∧ RowsAt H a (ps.map barRow) ∧ BarOk ns ps ∧ ∀ H', Same H H' → Q (.bl true) H'
theorem scBars : FnScope ["names", "value", "one", "other", "pairs"] ["names", "value"] (defScope sAreBars) := ⟨rfl, rfl, rfl, by decide +kernel, rfl, by decide +kernel, by decide +kernel⟩
theorem cl_bars (T : Tx K mg) (D : Df K mg "are_bars" sAreBars) (cT : Cl P w K mg base CX0 2 "are_tuples" spTuples) (cW : Cl P w K mg base CX0 1 "is_word" spWord) (cU : Cl P w K mg base CX0 1 "are_unlike" spUnlikeT) : Cl P w K mg base CX0 3 "are_bars" spBars := by
  refine cl_of D scBars (fun _ _ _ _ _ _ us hl => match us, hl with | [_, _], _ => rfl) (fun vs H Q E h => ?_) (fun f cdv A outer s H vs Q E hr h => ?_)
  · obtain ⟨n, a, ns, ps, rfl, _⟩ := h
    rfl
  · obtain ⟨n, a, ns, ps, rfl, hn, R, O, q⟩ := h
    obtain ⟨ts, h1, h2, h3⟩ := id R
    have o2 := O.le
    have hl : ts.length = ps.length := by rw [h2, List.length_map]
    refine ⟨_, (pss_cons (ps_if (pt_not (pt_val (pe_k cT hr (pa_cons (pv 1) (pa_cons pe_int (pa_cons (pe_gi T.mBar) pa_nil)))))) pss_nev pss_nil) (pss_cons (ps_if (pt_not (pt_val (pe_callB (cr_all rfl) (by rfl) T.all b_all (pa_cons (pe_lc (own := [("one", 2), ("other", 3)]) (g := gTup K 2 (gCons (gName 2) (gCons (gName 3) gNil))) (tt := tYes) rfl scBars.nd (pi_list (pv 1)) (blkOk_by (N := ["names", "value", "one", "other", "pairs"]) (sc := defScope sAreBars) (by decide +kernel)) (fun _ _ _ _ _ => by exact (k_tup K (pgs_cons (pg_name (i := 2) scBars.nd rfl (Or.inl rfl)) (pgs_cons (pg_name (i := 3) scBars.nd rfl (Or.inl rfl)) pgs_nil)))) (fun _ _ _ _ _ => pts_nil) (fun _ _ _ _ _ => by exact (pe_and (pe_k cW hr (pa_cons (pv 2) pa_nil)) (pe_and (pe_k cW hr (pa_cons (pv 3) pa_nil)) (pe_and (pe_cmpR (k_in K) (pv 2) (pv 0) rfl) (pe_one (pe_cmpR (k_in K) (pv 3) (pv 0) rfl))))))) pa_nil)))) pss_nev pss_nil) (pss_cons (ps_setLc (i := 4) (own := [("one", 2), ("other", 3)]) (g := gTup K 2 (gCons (gName 2) (gCons (gName 3) gNil))) (tt := tYes) rfl scBars.nd rfl (by rfl) (by rfl) (pi_list (pv 1)) (blkOk_by (N := ["names", "value", "one", "other", "pairs"]) (sc := defScope sAreBars) (by decide +kernel)) (fun _ _ _ _ _ => by exact (k_tup K (pgs_cons (pg_name (i := 2) scBars.nd rfl (Or.inl rfl)) (pgs_cons (pg_name (i := 3) scBars.nd rfl (Or.inl rfl)) pgs_nil)))) (fun _ _ _ _ _ => pts_nil) (fun _ _ _ _ _ => by exact ((pe_callTy (k_tupleOf K) (by rfl) T.tuple b_tuple (pa_cons (pe_callB (k_sortS K) (by rfl) T.sorted b_sorted (pa_cons (pe_lst (pa_cons (pe_callTy SkE.call_str_str (by rfl) T.str b_str (pa_cons (pv 2) pa_nil)) (pa_cons (pe_callTy SkE.call_str_str (by rfl) T.str b_str (pa_cons (pv 3) pa_nil)) pa_nil))) pa_nil)) pa_nil))))) (pss_one (ps_ret (pe_and (pe_k cU hr (pa_cons (pv 4) pa_nil)) (pe_one (pe_callB (cr_all rfl) (by rfl) T.all b_all (pa_cons (pe_lc (own := [("one", 2), ("other", 3)]) (g := gTup K 2 (gCons (gName 2) (gCons (gName 3) gNil))) (tt := tYes) rfl scBars.nd (pi_list (pv 1)) (blkOk_by (N := ["names", "value", "one", "other", "pairs"]) (sc := defScope sAreBars) (by decide +kernel)) (fun _ _ _ _ _ => by exact (k_tup K (pgs_cons (pg_name (i := 2) scBars.nd rfl (Or.inl rfl)) (pgs_cons (pg_name (i := 3) scBars.nd rfl (Or.inl rfl)) pgs_nil)))) (fun _ _ _ _ _ => pts_nil) (fun _ _ _ _ _ => by exact (pe_cmpR op_ne (pv 2) (pv 3) (nomark _)))) pa_nil))))))))), ?_⟩
    refine ⟨_, rfl, a, _, 2, 6, rfl, R, ?_, ?_, by decide, fun H1 s1 => ?_⟩
    · intro r hr
      obtain ⟨p, _, rfl⟩ := List.mem_map.mp hr
      rfl
    · rw [List.length_map]
      exact o2
    refine ⟨true, rfl, iteF ?_⟩
    have rAt : ∀ {H2 : Hp}, Same H1 H2 → ∀ (i : Nat) (t : Addr) (xs : List V), ts[i]? = some t → (ps.map barRow)[i]? = some xs → H2 t = some (.tup xs) := fun s2 i t xs e1 e2 => s2 _ _ (s1 _ _ (h3 i t xs e1 e2))
    have sk : ∀ {i : Nat} {xs : List V}, (ps.map barRow)[i]? = some xs → ∃ p, ps[i]? = some p ∧ xs = [.str p.1, .str p.2] := fun {i xs} e => by
      rw [List.getElem?_map] at e
      obtain ⟨p, hp, rfl⟩ := Option.map_eq_some_iff.mp e
      exact ⟨p, hp, rfl⟩
    have z0 : (ps.map barRow).length ≤ 1000000 := by
      rw [List.length_map]
      omega
    refine ⟨_, rfl, a, rfl, ⟨_, .of (s1 _ _ h1)⟩, fun D hD => ?_⟩
    refine lc_rows (s1 _ _ h1) h2 (rAt (Same.refl _)) (ps.map fun _ => V.bl true) (by simp) z0 hD ?_ ?_
    · intro i t xs H2 y hxs hy s2 ht R' hR
      obtain ⟨p, hp, rfl⟩ := sk hxs
      rw [List.getElem?_map, hp] at hy
      cases hy
      have wp := O.wd p (mem_at hp)
      refine ⟨t, _, rfl, .of ht, rfl, _, _, rfl, _, _, rfl, rfl, rfl, ?_⟩
      refine ⟨_, rfl, .str p.1, rfl, .inl ⟨_, rfl, by omega⟩, fun H3 s3 => ⟨true, congrArg V.bl wp.1.1.1, iteT ?_⟩⟩
      refine ⟨_, rfl, .str p.2, rfl, .inl ⟨_, rfl, by omega⟩, fun H4 s4 => ⟨true, congrArg V.bl wp.2.1.1.1, iteT ?_⟩⟩
      have hn4 := s4 _ _ (s3 _ _ (s2 _ _ (s1 _ _ hn)))
      refine ⟨_, rfl, _, rfl, n, _, rfl, .inl (.of hn4), rfl, by simp [flatV], ?_⟩
      rw [show (if false = true then !inV (V.str p.1) (ns.map V.str) else inV (V.str p.1) (ns.map V.str)) = true from inV_strs wp.1.2]
      refine ⟨true, rfl, iteT ?_⟩
      refine ⟨_, rfl, _, rfl, n, _, rfl, .inl (.of hn4), rfl, by simp [flatV], ?_⟩
      rw [show (if false = true then !inV (V.str p.2) (ns.map V.str) else inV (V.str p.2) (ns.map V.str)) = true from inV_strs wp.2.1.2]
      exact hR _ (s3.trans s4)
    intro H2 s2 hD2
    refine ⟨D, ps.map fun _ => true, rfl, .of (hD2.trans (by rw [List.map_map]; rfl)), true, by simp, iteF ?_⟩
    -- pairs
    refine ⟨_, rfl, a, rfl, ⟨_, .of (s2 _ _ (s1 _ _ h1))⟩, fun D2 hD2 => ?_⟩
    refine lc_it (walk_list (xs := ts.map V.ref)) (fun i H => Same H2 H ∧ ∃ (bs : List Addr) (ys : List (List Str)), H D2 = some (.lst (bs.map V.ref)) ∧ bs.length = i ∧ ys.length = i ∧ (∀ (j : Nat) (b : Addr) (y : List Str), bs[j]? = some b → ys[j]? = some y → H b = some (.tup (y.map V.str))) ∧
        ∀ (j : Nat) (y : List Str) (p : Str × Str), ys[j]? = some y → ps[j]? = some p → y.Perm [p.1, p.2]) ⟨same_upd (Same.refl _) hD2, [], [], upd_same, rfl, rfl, fun j b y e => by simp at e, fun j y p e => by simp at e⟩ (fun i H _ p => .of (p.1 _ _ (s2 _ _ (s1 _ _ h1)))) ?_ ?_
    · rintro i x _ H3 hi ⟨s3, bs, ys, hd, hb, hy, hh, hp⟩ ⟨rfl, hx⟩
      obtain ⟨t, ht1, rfl⟩ := ref_at hx
      obtain ⟨xs, hxs⟩ := row_at h2 ht1
      obtain ⟨p, hpp, rfl⟩ := sk hxs
      have htt := s3 _ _ (rAt s2 i t _ ht1 hxs)
      refine ⟨t, _, rfl, .of htt, rfl, _, _, rfl, _, _, rfl, rfl, rfl, ?_⟩
      refine ⟨_, rfl, _, rfl, _, rfl, _, rfl, by show 2 ≤ sizeLine; decide, fun l hl => ?_⟩
      refine ⟨l, [p.1, p.2], rfl, .of upd_same, by show 2 < 64; decide, fun zs m pm _ hm => ?_⟩
      refine ⟨m, _, rfl, .inl ⟨.of upd_same, fun b hb' => ?_⟩⟩
      have s4 := (same_upd (o := .lst [.str p.1, .str p.2]) (Same.refl H3) hl).trans ((same_upd (o := .lst (zs.map V.str)) (Same.refl _) hm).trans (same_upd (o := .tup (zs.map V.str)) (Same.refl _) hb'))
      have hbn : D2 ≠ b := ne_of_none (((same_upd (o := .lst [.str p.1, .str p.2]) (Same.refl H3) hl).trans (same_upd (o := .lst (zs.map V.str)) (Same.refl _) hm)) _ _ hd) hb'
      rw [List.length_map] at hi
      refine ⟨bs.map V.ref, s4 _ _ hd, by rw [List.length_map, hb]; exact Nat.lt_of_le_of_lt (show i ≤ 6 by omega) (by decide), same_upd (s3.trans s4) hD2, bs ++ [b], ys ++ [zs], by rw [upd_same, List.map_append]; rfl, by simp [hb], by simp [hy], fun j c y e1 e2 => ?_, fun j y p' e1 e2 => ?_⟩
      · have keep : ∀ {c : Addr} {xs : List V}, upd (upd (upd H3 l (.lst [.str p.1, .str p.2])) m (.lst (zs.map V.str))) b (.tup (zs.map V.str)) c = some (.tup xs) → (upd (upd (upd (upd H3 l (.lst [.str p.1, .str p.2])) m (.lst (zs.map V.str))) b (.tup (zs.map V.str))) D2 (.lst (bs.map V.ref ++ [.ref b]))) c = some (.tup xs) := fun {c xs} e => by
          rw [upd_ne (ne_of e (s4 _ _ hd) (fun z => nomatch z))]
          exact e
        rcases snoc_at e1 with e1 | ⟨rfl, rfl⟩
        · rcases snoc_at e2 with e2 | ⟨rfl, rfl⟩
          · exact keep (s4 _ _ (hh j c y e1 e2))
          · exact absurd (List.getElem?_eq_some_iff.mp e1).1 (by omega)
        · rcases snoc_at e2 with e2 | ⟨_, rfl⟩
          · exact absurd (List.getElem?_eq_some_iff.mp e2).1 (by omega)
          · exact keep upd_same
      · rcases snoc_at e1 with e1 | ⟨rfl, rfl⟩
        · exact hp j y p' e1 e2
        · rw [hy, hpp] at e2
          cases e2
          exact pm
    rintro H3 ⟨s3, bs, ys, hd, hb, hy, hh, hp⟩
    rw [List.length_map] at hb hy
    have nd : (ys.map fun y => y.map (Sum.inr : Str → Key)).Nodup := by
      refine List.Pairwise.map _ (R := fun (y z : List Str) => y ≠ z) (fun y z h e => h ?_) ?_
      · have inj : ∀ (y z : List Str), y.map (Sum.inr : Str → Key) = z.map Sum.inr → y = z := by
          intro y
          induction y with
          | nil => intro z h; cases z with
            | nil => rfl
            | cons _ _ => cases h
          | cons a y ih => intro z h; cases z with
            | nil => cases h
            | cons c z =>
              injection h with h1 h2
              rw [Sum.inr.inj h1, ih z h2]
        exact inj y z e
      · rw [List.pairwise_iff_getElem]
        intro i j hi hj lt e
        have un := List.pairwise_iff_getElem.mp O.un i j (by omega) (by omega) lt
        refine un ((hp i _ _ (List.getElem?_eq_getElem hi) (List.getElem?_eq_getElem (by omega))).symm.trans ?_)
        rw [e]
        exact hp j _ _ (List.getElem?_eq_getElem hj) (List.getElem?_eq_getElem (by omega))
    refine ⟨_, rfl, D2, ys.map fun y => y.map Sum.inr, rfl, ⟨bs, hd, by rw [List.length_map]; omega, fun i t k e1 e2 => ?_⟩, by rw [List.length_map]; omega, fun H5 s5 => ?_⟩
    · rw [List.getElem?_map] at e2
      obtain ⟨y, ey, rfl⟩ := Option.map_eq_some_iff.mp e2
      rw [hh i t y e1 ey, List.map_map]
      rfl
    rw [decide_eq_true nd]
    refine ⟨true, rfl, iteT ?_⟩
    have s13 := s2.trans (s3.trans s5)
    refine ⟨_, rfl, a, rfl, ⟨_, .of (s13 _ _ (s1 _ _ h1))⟩, fun D6 hD6 => ?_⟩
    refine lc_rows (s13 _ _ (s1 _ _ h1)) h2 (rAt s13) (ps.map fun _ => V.bl true) (by simp) z0 hD6 ?_ ?_
    · intro i t xs H6 y hxs hyy s6 ht R' hR
      obtain ⟨p, hpp, rfl⟩ := sk hxs
      rw [List.getElem?_map, hpp] at hyy
      cases hyy
      have wp := O.wd p (mem_at hpp)
      refine ⟨t, _, rfl, .of ht, rfl, _, _, rfl, _, _, rfl, rfl, rfl, _, rfl, _, rfl, rfl, ?_⟩
      rw [decide_eq_false (show ¬ V.str p.1 = V.str p.2 from fun z => wp.2.2 (V.str.inj z))]
      exact hR _ (Same.refl _)
    intro H6 s6 hD7
    refine ⟨D6, ps.map fun _ => true, rfl, .of (hD7.trans (by rw [List.map_map]; rfl)), ?_⟩
    rw [show (ps.map fun _ => true).all id = true by simp]
    exact q _ (s1.trans (s13.trans s6))
end
end K75
set_option Elab.async false
set_option linter.all false
set_option maxRecDepth 100000
set_option maxHeartbeats 4000000
namespace K75
open PySem PySem.Spec PyProof.Rows L2


section
variable {P : Program} {w : World} {K : PySem.W.Frag} {mg : Str → Option Value} {base : Heap}
/-! ### look_at_parts -/
structure BookD where
  ss : List (Str × Int)
  pts : Int
  nds : List (Int × Int)
  wts : List Want
  brs : List (Str × Str)
  gvs : List (Str × Int)
  prs : List (Str × Int)
  rst : Option Int
def BookD.ns (b : BookD) : List Str := b.ss.map (·.1)
structure BookOk (b : BookD) : Prop where
  ss : SkOk b.ss
  pts : 0 ≤ b.pts ∧ b.pts ≤ 12
  nds : NdOk b.nds
  wle : b.wts.length ≤ 12
  wts : ∀ x ∈ b.wts, WantOk b.ns x
  brs : BarOk b.ns b.brs
  gvs : NuOk b.ns 1 3 b.gvs
  prs : NuOk b.ns 0 99 b.prs
  rst : ∀ i, b.rst = some i → 0 ≤ i ∧ i ≤ 99
structure BookAd where
  s : Addr
  n : Addr
  w : Addr
  b : Addr
  g : Addr
  p : Addr
def rstV : Option Int → V
  | none => .non
  | some i => .int i
def WantsAt (H : Hp) (a : Addr) (ws : List Want) : Prop := ∃ ts : List Addr, H a = some (.lst (ts.map V.ref)) ∧ ts.length = ws.length ∧ ∀ (i : Nat) (t : Addr) (x : Want), ts[i]? = some t → ws[i]? = some x → WantAt H t x
theorem WantsAt.same {H H' : Hp} {a : Addr} {ws : List Want} (h : WantsAt H a ws) (s : Same H H') : WantsAt H' a ws := by
  obtain ⟨ts, h1, h2, h3⟩ := h
  exact ⟨ts, s _ _ h1, h2, fun i t x e1 e2 => (h3 i t x e1 e2).same s⟩
structure PartsAt (H : Hp) (A : BookAd) (b : BookD) : Prop where
  ss : RowsAt H A.s (b.ss.map skRow)
  nds : RowsAt H A.n (b.nds.map ndRow)
  wts : WantsAt H A.w b.wts
  brs : RowsAt H A.b (b.brs.map barRow)
  gvs : RowsAt H A.g (b.gvs.map skRow)
  prs : RowsAt H A.p (b.prs.map skRow)
theorem PartsAt.same {H H' : Hp} {A : BookAd} {b : BookD} (h : PartsAt H A b) (s : Same H H') : PartsAt H' A b := ⟨h.1.same s, h.2.same s, h.3.same s, h.4.same s, h.5.same s, h.6.same s⟩
def partsK (A : BookAd) (b : BookD) : List (Key × V) := [(.inr "skills", .ref A.s), (.inr "points", .int b.pts), (.inr "needs", .ref A.n), (.inr "wants", .ref A.w), (.inr "bars", .ref A.b), (.inr "gives", .ref A.g), (.inr "prices", .ref A.p), (.inr "reset", rstV b.rst)]
/-- a dict that holds the parts, in whatever order -/
def HoldsP (kvs : List (Key × V)) (A : BookAd) (b : BookD) : Prop := ∀ p ∈ partsK A b, valV kvs p.1 = some p.2
def spLook : Sp := fun vs H Q _ => ∃ (d : Addr) (kvs : List (Key × V)) (A : BookAd) (b : BookD), vs = [.ref d] ∧ H d = some (.dK kvs) ∧ HoldsP kvs A b ∧ PartsAt H A b ∧ BookOk b ∧ ∀ H', Same H H' → Q .non H'
theorem scLook : FnScope ["parts", "name", "tier", "names", "wants", "rows", "is_right", "want", "is_good"] ["parts"] (defScope sLookAtParts) := ⟨rfl, rfl, rfl, by decide +kernel, rfl, by decide +kernel, by decide +kernel⟩
/-- the rows that are looked at: all good -/
structure RwsAt (H Hk : Hp) (D r : Addr) (ns : List Str) (ps : List (Addr × Str)) : Prop where
  k : Same H Hk
  hn : Hk D = some (.lst (ns.map V.str))
  hr : Hk r = some (.lst (ps.map fun q => V.ref q.1))
  z : H r = none
  dr : D ≠ r
  t : ∀ q ∈ ps, Hk q.1 = some (.tup [.str q.2, .bl true]) ∧ q.1 ≠ r
  l : ps.length ≤ 100
theorem RwsAt.same {H Hk Hj : Hp} {D r : Addr} {ns : List Str} {ps : List (Addr × Str)} (h : RwsAt H Hk D r ns ps) (s : Same Hk Hj) : RwsAt H Hj D r ns ps := ⟨h.k.trans s, s _ _ h.hn, s _ _ h.hr, h.z, h.dr, fun q hq => ⟨s _ _ (h.t q hq).1, (h.t q hq).2⟩, h.l⟩
theorem RwsAt.tup {H Hk : Hp} {D r : Addr} {ns : List Str} {ps : List (Addr × Str)} (h : RwsAt H Hk D r ns ps) {p : Addr} (hp : Hk p = none) (nm : Str) : RwsAt H (upd Hk p (.tup [.str nm, .bl true])) D r ns ps ∧ (upd Hk p (.tup [.str nm, .bl true])) p = some (.tup [.str nm, .bl true]) ∧ p ≠ r :=
  ⟨h.same (same_upd (Same.refl _) hp), upd_same, (ne_of_none h.hr hp).symm⟩
theorem RwsAt.put {H Hk : Hp} {D r : Addr} {ns : List Str} {ps qs : List (Addr × Str)} (h : RwsAt H Hk D r ns ps) (hq : ∀ q ∈ qs, Hk q.1 = some (.tup [.str q.2, .bl true]) ∧ q.1 ≠ r) (hl : (ps ++ qs).length ≤ 100) : RwsAt H (upd Hk r (.lst ((ps.map fun q => V.ref q.1) ++ qs.map fun q => V.ref q.1))) D r ns (ps ++ qs) := by
  refine ⟨same_upd h.k h.z, ?_, ?_, h.z, h.dr, fun q hm => ?_, hl⟩
  · rw [upd_ne h.dr]
    exact h.hn
  · rw [upd_same, List.map_append]
  · have e : Hk q.1 = some (.tup [.str q.2, .bl true]) ∧ q.1 ≠ r := (List.mem_append.mp hm).elim (h.t q) (hq q)
    refine ⟨?_, e.2⟩
    rw [upd_ne e.2]
    exact e.1
theorem rst_or {o : Option Int} {A B : Prop} (hA : A) (hB : ∀ i, o = some i → A → B) : ∃ c, V.bl (decide (rstV o = V.non)) = V.bl c ∧ if c = true then A else B := by
  cases o with
  | none => exact ⟨true, rfl, (if_pos rfl).mpr hA⟩
  | some i => exact ⟨false, by simp [rstV], (if_neg Bool.false_ne_true).mpr (hB i rfl hA)⟩
theorem names_comp {K : PySem.W.Frag} {i : Nat} {xs : List V} {ss : List (Str × Int)} (e : (ss.map skRow)[i]? = some xs) : ∃ p, ss[i]? = some p ∧ xs = [.str p.1, .int p.2] := by
  rw [List.getElem?_map] at e
  obtain ⟨p, hp, rfl⟩ := Option.map_eq_some_iff.mp e
  exact ⟨p, hp, rfl⟩
theorem cl_look (T : Tx K mg) (D : Df K mg "look_at_parts" sLookAtParts) (cSk : Cl P w K mg base CX0 3 "are_skills" spSkills) (cN : Cl P w K mg base CX0 2 "is_number" spNumber) (cNd : Cl P w K mg base CX0 3 "are_needs" spNeeds) (cR : Cl P w K mg base CX0 1 "is_row" spRow)
    (cWt : Cl P w K mg base CX0 3 "is_want" spWant) (cB : Cl P w K mg base CX0 3 "are_bars" spBars) (cNu : Cl P w K mg base CX0 3 "are_numbered" spNumbered) : Cl P w K mg base CX0 4 "look_at_parts" spLook := by
  refine cl_of D scLook (fun _ _ _ _ _ _ us hl => match us, hl with | [_], _ => rfl) (fun vs H Q E h => ?_) (fun f cdv A outer s H vs Q E hr h => ?_)
  · obtain ⟨d, kvs, A, b, rfl, _⟩ := h
    rfl
  · obtain ⟨d, kvs, A', b, rfl, hd, hP, R, O, q⟩ := h
    have hu : (A.deeper (envOfC "look_at_parts" (defScope sLookAtParts) s.heap.objs.size f cdv)).units + 1 < cLine := by have := hr.units; omega
    have dg : ∀ {H' : Hp} {k : Str} {v : V}, Same H H' → (.inr k, v) ∈ partsK A' b → DGet H' d (.str k) (some v) := fun {H' k v} s1 hm => by
      rw [← hP _ hm]
      exact DGet.k (k := Sum.inr k) (s1 _ _ hd)
    refine ⟨_, (pss_cons (ps_if (pt_not (pt_val (pe_k cSk hr (pa_cons (pe_dget hu (pv 0) pe_str (fun _ _ => rfl)) pa_nil)))) pss_nev pss_nil) (pss_cons (ps_asg (pe_lc (own := [("name", 1), ("tier", 2)]) (g := gTup K 2 (gCons (gName 1) (gCons (gName 2) gNil))) (tt := tYes) rfl scLook.nd (pi_list (pe_dget hu (pv 0) pe_str (fun _ _ => rfl))) (blkOk_by (N := ["parts", "name", "tier", "names", "wants", "rows", "is_right", "want", "is_good"]) (sc := defScope sLookAtParts) (by decide +kernel)) (fun _ _ _ _ _ => by exact (k_tup K (pgs_cons (pg_name (i := 1) scLook.nd rfl (Or.inl rfl)) (pgs_cons (pg_name (i := 2) scLook.nd rfl (Or.inl rfl)) pgs_nil)))) (fun _ _ _ _ _ => pts_nil) (fun _ _ _ _ _ => by exact (pv 1))) (pg_name (i := 3) scLook.nd rfl (Or.inr rfl))) (pss_cons (ps_asg (pe_dget hu (pv 0) pe_str (fun _ _ => rfl)) (pg_name (i := 4) scLook.nd rfl (Or.inl rfl))) (pss_cons (ps_asg (pe_lst (pa_cons (pe_tup (pa_cons pe_str (pa_cons (pe_k cN hr (pa_cons (pe_dget hu (pv 0) pe_str (fun _ _ => rfl)) (pa_cons pe_int (pa_cons (pe_gi T.mPoi) pa_nil)))) pa_nil))) (pa_cons (pe_tup (pa_cons pe_str (pa_cons (pe_k cNd hr (pa_cons (pe_dget hu (pv 0) pe_str (fun _ _ => rfl)) pa_nil)) pa_nil))) pa_nil))) (pg_name (i := 5) scLook.nd rfl (Or.inl rfl))) (pss_cons (ps_asg (pe_and (pe_k cR hr (pa_cons (pv 4) pa_nil)) (pe_and (pe_cmpR op_le (pe_len K (pv 4) T.len) (pe_gi T.mWan) (nomark _)) (pe_one (pe_callB (cr_all rfl) (by rfl) T.all b_all (pa_cons (pe_lc (own := [("want", 7)]) (g := gName 7) (tt := tYes) rfl scLook.nd (pi_list (pv 4)) (blkOk_by (N := ["parts", "name", "tier", "names", "wants", "rows", "is_right", "want", "is_good"]) (sc := defScope sLookAtParts) (by decide +kernel)) (fun _ _ _ _ _ => (pg_name (i := 7) scLook.nd rfl (Or.inl rfl))) (fun _ _ _ _ _ => pts_nil) (fun _ _ _ _ _ => by exact (pe_k cWt hr (pa_cons (pv 3) (pa_cons (pv 7) pa_nil))))) pa_nil))))) (pg_name (i := 6) scLook.nd rfl (Or.inl rfl))) (pss_cons (ps_expr (pe_bm PySem.F.plainAttrs_list PySem.F.slot_list_extend PySem.F.type_list_extend mt_extend (pv 5) (pa_cons (pe_lst (pa_cons (pe_tup (pa_cons pe_str (pa_cons (pv 6) pa_nil))) (pa_cons (pe_tup (pa_cons pe_str (pa_cons (pe_k cB hr (pa_cons (pv 3) (pa_cons (pe_dget hu (pv 0) pe_str (fun _ _ => rfl)) pa_nil))) pa_nil))) pa_nil))) pa_nil))) (pss_cons (ps_expr (pe_bm PySem.F.plainAttrs_list PySem.F.slot_list_append PySem.F.type_list_append mt_append (pv 5) (pa_cons (pe_tup (pa_cons pe_str (pa_cons (pe_k cNu hr (pa_cons (pv 3) (pa_cons (pe_dget hu (pv 0) pe_str (fun _ _ => rfl)) (pa_cons pe_int (pa_cons (pe_gi T.mGiv) pa_nil))))) pa_nil))) pa_nil))) (pss_cons (ps_expr (pe_bm PySem.F.plainAttrs_list PySem.F.slot_list_append PySem.F.type_list_append mt_append (pv 5) (pa_cons (pe_tup (pa_cons pe_str (pa_cons (pe_k cNu hr (pa_cons (pv 3) (pa_cons (pe_dget hu (pv 0) pe_str (fun _ _ => rfl)) (pa_cons pe_int (pa_cons (pe_gi T.mPri) pa_nil))))) pa_nil))) pa_nil))) (pss_cons (ps_expr (pe_bm PySem.F.plainAttrs_list PySem.F.slot_list_append PySem.F.type_list_append mt_append (pv 5) (pa_cons (pe_tup (pa_cons pe_str (pa_cons (pe_or (pe_cmpR op_isN (pe_dget hu (pv 0) pe_str (fun _ _ => rfl)) pe_non rfl) (pe_one (pe_k cN hr (pa_cons (pe_dget hu (pv 0) pe_str (fun _ _ => rfl)) (pa_cons pe_int (pa_cons (pe_gi T.mPri) pa_nil)))))) pa_nil))) pa_nil))) (pss_one (ps_for PassesOwn.never rfl (pi_list (pv 5)) (k_tup K (pgs_cons (pg_name (i := 1) scLook.nd rfl (Or.inl rfl)) (pgs_cons (pg_name (i := 8) scLook.nd rfl (Or.inl rfl)) pgs_nil))) (pss_one (ps_if (pt_not (pt_val (pv 8))) pss_nev pss_nil))))))))))))), ?_⟩
    refine ⟨_, rfl, d, _, rfl, dg (k := "skills") (Same.refl _) (by simp [partsK]), A'.s, b.ss, rfl, R.ss, O.ss, fun H1 s1 => ⟨true, rfl, iteF ?_⟩⟩
    obtain ⟨ts, h1, h2, h3⟩ := id R.ss
    have o2 := O.ss.hi
    refine ⟨_, rfl, d, _, rfl, dg (k := "skills") s1 (by simp [partsK]), A'.s, rfl, ⟨_, .of (s1 _ _ h1)⟩, fun D2 hD2 => ?_⟩
    refine lc_rows (s1 _ _ h1) h2 (fun i t xs e1 e2 => s1 _ _ (h3 i t xs e1 e2)) (b.ss.map fun p => V.str p.1) (by simp) (by rw [List.length_map]; omega) hD2 ?_ ?_
    · intro i t xs H3 y hxs hy s3 ht R' hR
      obtain ⟨p, hp, rfl⟩ := names_comp (K := K) hxs
      rw [List.getElem?_map, hp] at hy
      cases hy
      exact ⟨t, _, rfl, .of ht, rfl, _, _, rfl, _, _, rfl, rfl, rfl, _, rfl, hR _ (Same.refl _)⟩
    intro H2 s2' hD2'
    have s2 := s1.trans s2'
    have hn2 : H2 D2 = some (.lst (b.ns.map V.str)) := hD2'.trans (by rw [BookD.ns, List.map_map]; rfl)
    clear hD2' s2' hD2
    refine ⟨_, rfl, d, _, rfl, dg (k := "wants") (v := .ref A'.w) s2 (by simp [partsK]), ?_⟩
    refine ⟨_, rfl, d, _, rfl, dg (k := "points") s2 (by simp [partsK]), b.pts, 0, 12, rfl, ?_⟩
    rw [decide_eq_true O.pts.1, decide_eq_true O.pts.2]
    refine ⟨by show 2 ≤ sizeLine; decide, fun p1 hp1 => ?_⟩
    have s3 := same_upd (o := .tup [.str "points", .bl (true && true)]) (Same.refl H2) hp1
    have t1 : (upd H2 p1 (.tup [.str "points", .bl (true && true)])) p1 = some (.tup [.str "points", .bl true]) := upd_same
    generalize upd H2 p1 (.tup [.str "points", .bl (true && true)]) = H3 at s3 t1 ⊢
    refine ⟨_, rfl, d, _, rfl, dg (k := "needs") (s2.trans s3) (by simp [partsK]), A'.n, b.nds, rfl, R.nds.same (s2.trans s3), O.nds, fun H4 s4 => ⟨by show 2 ≤ sizeLine; decide, fun p2 hp2 => ?_⟩⟩
    have s5 := same_upd (o := .tup [.str "needs", .bl true]) (Same.refl H4) hp2
    have t2 : (upd H4 p2 (.tup [.str "needs", .bl true])) p2 = some (.tup [.str "needs", .bl true]) := upd_same
    generalize upd H4 p2 (.tup [.str "needs", .bl true]) = H5 at s5 t2 ⊢
    refine ⟨by show 2 ≤ sizeLine; decide, fun r hr5 => ?_⟩
    have s6 := same_upd (o := .lst [.ref p1, .ref p2]) (Same.refl H5) hr5
    have hrow : (upd H5 r (.lst [.ref p1, .ref p2])) r = some (.lst [.ref p1, .ref p2]) := upd_same
    have nr : ∀ {c : Addr} {o : HO}, H5 c = some o → c ≠ r := fun e => ne_of_none e hr5
    have hrH : H r = none := by
      cases e : H r with
      | none => rfl
      | some o => exact absurd rfl (nr (s5 _ _ (s4 _ _ (s3 _ _ (s2 _ _ e)))))
    have nD2 : D2 ≠ r := nr (s5 _ _ (s4 _ _ (s3 _ _ hn2)))
    have np1 : p1 ≠ r := nr (s5 _ _ (s4 _ _ t1))
    have np2 : p2 ≠ r := nr t2
    have k6 : Same H (upd H5 r (.lst [.ref p1, .ref p2])) := s2.trans (s3.trans (s4.trans (s5.trans s6)))
    have hn6 := s6 _ _ (s5 _ _ (s4 _ _ (s3 _ _ hn2)))
    have t16 := s6 _ _ (s5 _ _ (s4 _ _ t1))
    have t26 := s6 _ _ t2
    generalize upd H5 r (.lst [.ref p1, .ref p2]) = H6 at s6 hrow k6 hn6 t16 t26 ⊢
    clear s6 s5 s4 s3 t1 t2 hn2 nr hp1 hp2 hr5
    -- is_right
    obtain ⟨tw, w1, w2, w3⟩ := id R.wts
    refine ⟨_, rfl, A'.w, _, rfl, .inl (k6 _ _ w1), fun H7 s7 => ⟨true, rfl, iteT ?_⟩⟩
    have k7 := k6.trans s7
    refine ⟨_, rfl, A'.w, _, rfl, .inl (.of (k7 _ _ w1)), _, _, rfl, rfl, _, rfl, ?_⟩
    have wle := O.wle
    rw [decide_eq_true (by rw [List.length_map]; omega)]
    refine iteT ?_
    refine ⟨_, rfl, A'.w, rfl, ⟨_, .of (k7 _ _ w1)⟩, fun D8 hD8 => ?_⟩
    refine lc_map (walk_list (xs := tw.map V.ref)) (b.wts.map fun _ => V.bl true) (by rw [List.length_map, List.length_map, w2]) (by rw [List.length_map, w2]; omega) hD8 (fun H9 s9 => .of (s9 _ _ (k7 _ _ w1))) ?_ ?_
    · rintro i x _ H9 y hy s9 ⟨rfl, hx⟩ R' hR
      obtain ⟨t, ht, rfl⟩ := ref_at hx
      obtain ⟨wt, hwt⟩ := row_at w2 ht
      rw [List.getElem?_map, hwt] at hy
      cases hy
      exact ⟨rfl, _, rfl, _, rfl, D2, t, b.ns, wt, rfl, s9 _ _ (s7 _ _ hn6), (w3 i t wt ht hwt).same (k7.trans s9), O.wts wt (mem_at hwt), hR⟩
    intro H9 s9 hD9
    refine ⟨D8, b.wts.map fun _ => true, rfl, .of (hD9.trans (by rw [List.map_map]; rfl)), ?_⟩
    rw [show (b.wts.map fun _ => true).all id = true by simp]
    have k9 := k7.trans s9
    have hrow9 := s9 _ _ (s7 _ _ hrow)
    have hn9 := s9 _ _ (s7 _ _ hn6)
    have t19 := s9 _ _ (s7 _ _ t16)
    have t29 := s9 _ _ (s7 _ _ t26)
    clear s9 s7 hD9 hD8 hrow hn6 t16 t26
    have W0 : RwsAt H H9 D2 r b.ns [(p1, "points"), (p2, "needs")] := ⟨k9, hn9, hrow9, hrH, nD2, fun q hq => by
      rcases List.mem_cons.mp hq with rfl | hq
      · exact ⟨t19, np1⟩
      · rw [List.mem_singleton.mp hq]
        exact ⟨t29, np2⟩, by show 2 ≤ 100; decide⟩
    clear k9 hn9 hrow9 t19 t29
    -- extend
    refine ⟨_, rfl, .inl ⟨rfl, _, .of W0.hr⟩, _, rfl, by show 2 ≤ sizeLine; decide, fun p3 hp3 => ?_⟩
    obtain ⟨V0, u3, n3⟩ := W0.tup hp3 "wants"
    generalize upd H9 p3 (.tup [.str "wants", .bl true]) = Ha at V0 u3 ⊢
    refine ⟨_, rfl, _, rfl, d, _, rfl, dg (k := "bars") V0.k (by simp [partsK]), D2, A'.b, b.ns, b.brs, rfl, V0.hn, R.brs.same V0.k, O.brs, fun Hb sb => ⟨by show 2 ≤ sizeLine; decide, fun p4 hp4 => ?_⟩⟩
    obtain ⟨V1, u4, n4⟩ := (V0.same sb).tup hp4 "bars"
    have u3' := (same_upd (o := .tup [.str "bars", .bl true]) (Same.refl Hb) hp4) _ _ (sb _ _ u3)
    generalize upd Hb p4 (.tup [.str "bars", .bl true]) = Hc at V1 u4 u3' ⊢
    refine ⟨by show 2 ≤ sizeLine; decide, fun l hl => ?_⟩
    have V2 := V1.same (same_upd (o := .lst [.ref p3, .ref p4]) (Same.refl _) hl)
    refine ⟨r, l, _, _, rfl, rfl, V2.hr, upd_same, by show 4 ≤ sizeLine; decide, ?_⟩
    have W1 := V2.put (qs := [(p3, "wants"), (p4, "bars")]) (fun q hq => by
      rcases List.mem_cons.mp hq with rfl | hq
      · exact ⟨(upd_ne (ne_of_none u3' hl)).trans u3', n3⟩
      · rw [List.mem_singleton.mp hq]
        exact ⟨(upd_ne (ne_of_none u4 hl)).trans u4, n4⟩) (by show 4 ≤ 100; decide)
    refine ⟨_, rfl, .inl ⟨rfl, _, .of W1.hr⟩, _, rfl, _, rfl, d, _, rfl, dg (k := "gives") W1.k (by simp [partsK]), D2, _, b.ns, _, _, _, rfl, W1.hn, R.gvs.same W1.k, O.gvs, fun Ha2 sa2 => ?_⟩
    refine ⟨by show 2 ≤ sizeLine; decide, fun p5 hp5 => ?_⟩
    obtain ⟨V2, u5, n5⟩ := (W1.same sa2).tup hp5 "gives"
    generalize upd Ha2 p5 (.tup [.str "gives", .bl true]) = Hb2 at V2 u5 ⊢
    refine ⟨r, _, .ref p5, rfl, rfl, V2.hr, by show 4 < sizeLine; decide, ?_⟩
    have W2 := V2.put (qs := [(p5, "gives")]) (fun q hq => by rw [List.mem_singleton.mp hq]; exact ⟨u5, n5⟩) (by show 5 ≤ 100; decide)
    refine ⟨_, rfl, .inl ⟨rfl, _, .of W2.hr⟩, _, rfl, _, rfl, d, _, rfl, dg (k := "prices") W2.k (by simp [partsK]), D2, _, b.ns, _, _, _, rfl, W2.hn, R.prs.same W2.k, O.prs, fun Ha3 sa3 => ?_⟩
    refine ⟨by show 2 ≤ sizeLine; decide, fun p6 hp6 => ?_⟩
    obtain ⟨V3, u6, n6⟩ := (W2.same sa3).tup hp6 "prices"
    generalize upd Ha3 p6 (.tup [.str "prices", .bl true]) = Hb3 at V3 u6 ⊢
    refine ⟨r, _, .ref p6, rfl, rfl, V3.hr, by show 5 < sizeLine; decide, ?_⟩
    have W3 := V3.put (qs := [(p6, "prices")]) (fun q hq => by rw [List.mem_singleton.mp hq]; exact ⟨u6, n6⟩) (by show 6 ≤ 100; decide)
    -- reset
    generalize hHw : upd Hb3 r _ = Hw at W3
    have e1 : upd Hb3 r (.lst ((List.map (fun q => V.ref q.1) ([(p1, ("points" : Str)), (p2, ("needs" : Str))] ++ [(p3, ("wants" : Str)), (p4, ("bars" : Str))] ++ [(p5, ("gives" : Str))])) ++ [V.ref p6])) = Hw := hHw
    rw [e1]
    refine ⟨_, rfl, .inl ⟨rfl, _, .of W3.hr⟩, _, rfl, d, _, rfl, dg (k := "reset") (v := rstV b.rst) W3.k (by simp [partsK]), rfl, ?_⟩
    refine rst_or ?_ fun i e fin => ⟨_, rfl, d, .int i, rfl, dg (k := "reset") W3.k (by simp [partsK, rstV, e]), i, 0, 99, rfl, ?_⟩
    · refine ⟨by show 2 ≤ sizeLine; decide, fun p7 hp7 => ?_⟩
      obtain ⟨V4, u7, n7⟩ := W3.tup hp7 "reset"
      generalize upd Hw p7 (.tup [.str "reset", .bl true]) = Hv at V4 u7 ⊢
      refine ⟨r, _, .ref p7, rfl, rfl, V4.hr, by show 6 < sizeLine; decide, ?_⟩
      have W4 := V4.put (qs := [(p7, "reset")]) (fun q hq => by rw [List.mem_singleton.mp hq]; exact ⟨u7, n7⟩) (by show 7 ≤ 100; decide)
      generalize hHz : upd Hv r _ = Hz at W4
      have e2 : upd Hv r (.lst ((List.map (fun q => V.ref q.1) ([(p1, ("points" : Str)), (p2, ("needs" : Str))] ++ [(p3, ("wants" : Str)), (p4, ("bars" : Str))] ++ [(p5, ("gives" : Str))] ++ [(p6, ("prices" : Str))])) ++ [V.ref p7])) = Hz := hHz
      rw [e2]
      generalize ([(p1, ("points" : Str)), (p2, ("needs" : Str))] ++ [(p3, ("wants" : Str)), (p4, ("bars" : Str))] ++ [(p5, ("gives" : Str))] ++ [(p6, ("prices" : Str))] ++ [(p7, ("reset" : Str))]) = ps at W4
      refine ⟨_, rfl, r, rfl, ⟨_, .of W4.hr⟩, for_list (K := K) (a := r) (xs := ps.map fun q => V.ref q.1) (fun i σ H' => H' = Hz ∧ σ[5]? = some (some (.ref r)) ∧ σ.length = 9) ⟨rfl, rfl, rfl⟩ (fun i σ H' _ ⟨e, _⟩ => by rw [e]; exact .of W4.hr) ?_ ?_⟩
      · rintro i x σ H' hx ⟨rfl, h5, hl9⟩
        rw [List.getElem?_map] at hx
        obtain ⟨qq, hq, rfl⟩ := Option.map_eq_some_iff.mp hx
        refine ⟨qq.1, _, rfl, .of (W4.t qq (mem_at hq)).1, rfl, _, _, rfl, _, _, rfl, rfl, ?_⟩
        refine ⟨_, by rw [List.getElem?_set_self (by rw [List.length_set, hl9]; decide)], true, rfl, iteF ⟨rfl, ?_, ?_⟩⟩
        · rw [List.getElem?_set_ne (by decide), List.getElem?_set_ne (by decide)]
          exact h5
        · rw [List.length_set, List.length_set, hl9]
      · rintro σ H' ⟨rfl, _⟩
        exact q _ W4.k
    · have z := O.rst i e
      rw [decide_eq_true z.1, decide_eq_true z.2]
      exact fin
end
end K75
set_option Elab.async false
set_option linter.all false
set_option maxRecDepth 100000
set_option maxHeartbeats 4000000
namespace K75
open PySem PySem.Spec PyProof.Rows L2


section
variable {P : Program} {w : World} {K : PySem.W.Frag} {mg : Str → Option Value} {base : Heap}
/-- what the written part says of Book -/
structure BkT (K : PySem.W.Frag) (mg : Str → Option Value) (C : Addr) : Prop where
  gC : mg "Book" = some (.ref C)
  cls : Cls K C
  nNames : NoAttr K C "own_names"
  nRecord : NoAttr K C "record"
  nPts : NoAttr K C "own_points"
  nRst : NoAttr K C "own_reset"
  nTiers : NoAttr K C "own_tiers"
  nTierBy : NoAttr K C "tier_by"
  nSpots : NoAttr K C "spots"
  nBits : NoAttr K C "bits"
  nNeeds : NoAttr K C "own_needs"
  nPrices : NoAttr K C "own_prices"
  nGiven : NoAttr K C "own_given"
  nBarred : NoAttr K C "barred"
  nAsked : NoAttr K C "asked"
/-- a book whose skills are named ns -/
def BookAt (C : Addr) (H : Hp) (mk : Addr) (ns : List Str) : Prop := ∃ (dx ol : Addr) (fs : List (Str × V)), H mk = some (.ins C dx fs) ∧ fs.lookup ("own_names" : Str) = some (.ref ol) ∧ H ol = some (.lst (ns.map V.str))
theorem BookAt.same {C : Addr} {H H' : Hp} {mk : Addr} {ns : List Str} (h : BookAt C H mk ns) (s : Same H H') : BookAt C H' mk ns := by
  obtain ⟨dx, ol, fs, h1, h2, h3⟩ := h
  exact ⟨dx, ol, fs, s _ _ h1, h2, s _ _ h3⟩
/-- are_skills_of, in_order, is_build of a tuple of texts -/
def skB (ns ts : List Str) : Bool := (ts.all fun x => wordS x && decide (x ∈ ns)) && decide ts.Nodup
def ordB (ns ts : List Str) : List Str := ns.filter fun x => decide (x ∈ ts)
def isB (ns ts : List Str) : Bool := skB ns ts && decide (ts = ordB ns ts)
structure Txts (ts : List Str) : Prop where
  n : ts.length ≤ 1000
  l : ∀ x ∈ ts, x.length ≤ 1000
def spSkOf (C : Addr) : Sp := fun vs H Q _ => ∃ (mk t : Addr) (ns ts : List Str), vs = [.ref mk, .ref t] ∧ BookAt C H mk ns ∧ H t = some (.tup (ts.map V.str)) ∧ Txts ts ∧ ∀ H', Same H H' → Q (.bl (skB ns ts)) H'
def spInOrd (C : Addr) : Sp := fun vs H Q _ => ∃ (mk t : Addr) (ns ts : List Str), vs = [.ref mk, .ref t] ∧ BookAt C H mk ns ∧ ns.length ≤ 1000 ∧ H t = some (.tup (ts.map V.str)) ∧ ∀ H' p, Same H H' → H' p = some (.tup ((ordB ns ts).map V.str)) → Q (.ref p) H'
def spIsB (C : Addr) : Sp := fun vs H Q _ => ∃ (mk t : Addr) (ns ts : List Str), vs = [.ref mk, .ref t] ∧ BookAt C H mk ns ∧ ns.length ≤ 1000 ∧ (∀ x ∈ ns, wordS x = true) ∧ H t = some (.tup (ts.map V.str)) ∧ Txts ts ∧ ∀ H', Same H H' → Q (.bl (isB ns ts)) H'
theorem inV_str {x : Str} {ns : List Str} : inV (.str x) (ns.map V.str) = decide (x ∈ ns) := by
  by_cases h : x ∈ ns
  · rw [decide_eq_true h, inV_strs h]
  · rw [decide_eq_false h]
    unfold inV
    rw [List.any_eq_false]
    intro v hv
    obtain ⟨y, hy, rfl⟩ := List.mem_map.mp hv
    have ne : ¬ y = x := fun e => h (e ▸ hy)
    simp [eqV, ne]
theorem inV_str0 {x : Str} {ns : List Str} : (if false = true then !inV (.str x) (ns.map V.str) else inV (.str x) (ns.map V.str)) = decide (x ∈ ns) := inV_str
theorem str_at {ts : List Str} {i : Nat} {v : V} (h : (ts.map V.str)[i]? = some v) : ∃ x, ts[i]? = some x ∧ v = .str x := by
  rw [List.getElem?_map] at h
  obtain ⟨x, hx, rfl⟩ := Option.map_eq_some_iff.mp h
  exact ⟨x, hx, rfl⟩
theorem flat_strs (ns : List Str) : (ns.map V.str).all flatV = true := by simp [flatV]
theorem scSkOf : FnScope ["book", "value", "name"] ["book", "value"] (defScope sAreSkillsOf) := ⟨rfl, rfl, rfl, by decide +kernel, rfl, by decide +kernel, by decide +kernel⟩
theorem cl_skOf {C : Addr} (T : Tx K mg) (BT : BkT K mg C) (D : Df K mg "are_skills_of" sAreSkillsOf) (cR : Cl P w K mg base CX0 1 "is_row" spRow) (cW : Cl P w K mg base CX0 1 "is_word" spWord) (cU : Cl P w K mg base CX0 1 "are_unlike" spUnlikeK) : Cl P w K mg base CX0 2 "are_skills_of" (spSkOf C) := by
  refine cl_of D scSkOf (fun _ _ _ _ _ _ us hl => match us, hl with | [_, _], _ => rfl) (fun vs H Q E h => ?_) (fun f cdv A outer s H vs Q E hr h => ?_)
  · obtain ⟨mk, t, ns, ts, rfl, _⟩ := h
    rfl
  · obtain ⟨mk, t, ns, ts, rfl, ⟨dx, ol, fs, hmk, hl, hol⟩, ht, X, q⟩ := h
    refine ⟨_, (pss_cons (ps_if (PW.pt (pw_or (pt_not (pt_val (pe_k cR hr (pa_cons (pv 1) pa_nil)))) (pw_or1 (pt_not (pt_val (pe_callB (cr_all rfl) (by rfl) T.all b_all (pa_cons (pe_lc (own := [("name", 2)]) (g := gName 2) (tt := tYes) rfl scSkOf.nd (pi_tup (pv 1)) (blkOk_by (N := ["book", "value", "name"]) (sc := defScope sAreSkillsOf) (by decide +kernel)) (fun _ _ _ _ _ => (pg_name (i := 2) scSkOf.nd rfl (Or.inl rfl))) (fun _ _ _ _ _ => pts_nil) (fun _ _ _ _ _ => by exact (pe_and (pe_k cW hr (pa_cons (pv 2) pa_nil)) (pe_one (pe_cmpR (k_in K) (pv 2) (k_fld K (pv 0)) rfl))))) pa_nil))))))) (pss_one (ps_ret pe_bl)) pss_nil) (pss_one (ps_ret (pe_k cU hr (pa_cons (pv 1) pa_nil))))), ?_⟩
    refine ⟨_, rfl, t, _, rfl, .inr ht, fun H1 s1 => ⟨true, rfl, iteF ?_⟩⟩
    refine ⟨_, rfl, t, rfl, ⟨_, .of (s1 _ _ ht)⟩, fun D hD => ?_⟩
    have hz := X.n
    refine lc_map (walk_tup (xs := ts.map V.str)) (ts.map fun x => V.bl (wordS x && decide (x ∈ ns))) (by simp) (by rw [List.length_map]; omega) hD (fun H2 s2 => .of (s2 _ _ (s1 _ _ ht))) ?_ ?_
    · rintro i v _ H2 y hy s2 ⟨rfl, hx⟩ R hR
      obtain ⟨x, hxx, rfl⟩ := str_at hx
      rw [List.getElem?_map, hxx] at hy
      cases hy
      refine ⟨rfl, _, rfl, .str x, rfl, .inl ⟨_, rfl, by have := X.l x (mem_at hxx); omega⟩, fun H3 s3 => ?_⟩
      show ∃ c, V.bl (wordS x) = .bl c ∧ _
      have hR : ∀ (H4 : Hp), Same _ H4 → R (V.bl (wordS x && decide (x ∈ ns))) H4 := hR
      cases hw : wordS x with
      | false =>
        rw [hw] at hR
        exact ⟨false, rfl, iteF (hR H3 s3)⟩
      | true =>
        rw [hw] at hR
        refine ⟨true, rfl, iteT ?_⟩
        have s23 := s2.trans s3
        refine ⟨_, rfl, _, rfl, mk, C, dx, fs, _, rfl, s23 _ _ (s1 _ _ hmk), BT.cls, BT.nNames, hl, ol, _, rfl, .inl (.of (s23 _ _ (s1 _ _ hol))), rfl, flat_strs ns, ?_⟩
        rw [inV_str0]
        exact hR H3 s3
    intro H2 s2 hD2
    refine ⟨D, ts.map fun x => wordS x && decide (x ∈ ns), rfl, .of (hD2.trans (by rw [List.map_map]; rfl)), ?_⟩
    have e : (ts.map fun x => wordS x && decide (x ∈ ns)).all id = ts.all fun x => wordS x && decide (x ∈ ns) := by rw [List.all_map]; rfl
    rw [e]
    refine ⟨_, rfl, ?_⟩
    have hq := q
    unfold skB at hq
    cases ha : ts.all fun x => wordS x && decide (x ∈ ns) with
    | false =>
      rw [ha] at hq
      exact iteT (hq _ (s1.trans s2))
    | true =>
      rw [ha] at hq
      refine iteF ?_
      refine ⟨_, rfl, t, ts.map Sum.inr, rfl, .inr ((s2 _ _ (s1 _ _ ht)).trans (by rw [List.map_map]; rfl)), by simp; omega, fun H3 s3 => ?_⟩
      have nd : decide ((ts.map (Sum.inr : Str → Key)).Nodup) = decide ts.Nodup := decide_eq_decide.mpr ⟨fun h => List.Pairwise.imp (fun {a b} (h : (Sum.inr a : Key) ≠ Sum.inr b) e => h (congrArg Sum.inr e)) (List.pairwise_map.mp h), fun h => List.Pairwise.map _ (fun _ _ h z => h (Sum.inr.inj z)) h⟩
      rw [nd]
      exact hq _ (s1.trans (s2.trans s3))
theorem scInOrd : FnScope ["book", "skills", "name"] ["book", "skills"] (defScope sInOrder) := ⟨rfl, rfl, rfl, by decide +kernel, rfl, by decide +kernel, by decide +kernel⟩
theorem cl_inOrd {C : Addr} (T : Tx K mg) (BT : BkT K mg C) (D : Df K mg "in_order" sInOrder) : Cl P w K mg base CX0 1 "in_order" (spInOrd C) := by
  refine cl_of D scInOrd (fun _ _ _ _ _ _ us hl => match us, hl with | [_, _], _ => rfl) (fun vs H Q E h => ?_) (fun f cdv A outer s H vs Q E hr h => ?_)
  · obtain ⟨mk, t, ns, ts, rfl, _⟩ := h
    rfl
  · obtain ⟨mk, t, ns, ts, rfl, ⟨dx, ol, fs, hmk, hl, hol⟩, hz, ht, q⟩ := h
    refine ⟨_, (pss_one (ps_ret (pe_callTy (k_tupleOf K) (by rfl) T.tuple b_tuple (pa_cons (pe_lc (own := [("name", 2)]) (g := gName 2) rfl scInOrd.nd (pi_list (k_fld K (pv 0))) (blkOk_by (N := ["book", "skills", "name"]) (sc := defScope sInOrder) (by decide +kernel)) (fun _ _ _ _ _ => (pg_name (i := 2) scInOrd.nd rfl (Or.inl rfl))) (fun _ _ _ _ _ => by exact (pts_one (pt_cmpR (k_in K) (pv 2) (pv 1) rfl))) (fun _ _ _ _ _ => by exact (pv 2))) pa_nil)))), ?_⟩
    refine ⟨_, rfl, mk, C, dx, fs, _, rfl, hmk, BT.cls, BT.nNames, hl, ol, rfl, ⟨_, .of hol⟩, fun D hD => ?_⟩
    refine lc_sel (walk_list (xs := ns.map V.str)) (ns.map fun x => if x ∈ ts then some (V.str x) else none) (by simp) (by rw [List.length_map]; omega) hD (fun H2 s2 => .of (s2 _ _ hol)) ?_ ?_
    · rintro i v _ H2 y hy s2 ⟨rfl, hx⟩ R R0 hR hR0
      obtain ⟨x, hxx, rfl⟩ := str_at hx
      rw [List.getElem?_map, hxx] at hy
      refine ⟨rfl, _, rfl, _, rfl, t, _, rfl, .inr (.of (s2 _ _ ht)), rfl, flat_strs ts, ?_⟩
      rw [inV_str0]
      refine ⟨_, rfl, ?_⟩
      by_cases hm : x ∈ ts
      · rw [decide_eq_true hm]
        refine iteT ⟨_, rfl, hR _ _ ?_ (Same.refl _)⟩
        have e : (if x ∈ ts then some (V.str x) else none) = y := Option.some.inj hy
        rw [if_pos hm] at e
        exact e.symm
      · rw [decide_eq_false hm]
        refine iteF (hR0 _ ?_ (Same.refl _))
        have e : (if x ∈ ts then some (V.str x) else none) = y := Option.some.inj hy
        rw [if_neg hm] at e
        exact e.symm
    intro H2 s2 hD2
    have e : selV (ns.map fun x => if x ∈ ts then some (V.str x) else none) = (ordB ns ts).map V.str := by
      unfold selV ordB
      clear hD2 hz hol q
      induction ns with
      | nil => rfl
      | cons x ns ih =>
        rw [List.map_cons, List.filter_cons]
        by_cases hm : x ∈ ts
        · rw [if_pos hm, decide_eq_true hm, if_pos rfl, List.map_cons, List.filterMap_cons]
          exact congrArg _ ih
        · rw [if_neg hm, decide_eq_false hm, if_neg (by decide), List.filterMap_cons]
          exact ih
    rw [e] at hD2
    exact ⟨D, _, rfl, .inl ⟨.of hD2, fun l hl2 => q _ l (s2.trans (same_upd (Same.refl _) hl2)) upd_same⟩⟩

theorem letter_ok : ∀ c ∈ lettersL, c < 0x110000 := by decide
theorem word_ok {x : Str} (h : wordS x = true) : PyData.strOk x = true := by
  unfold wordS at h
  obtain ⟨_, h⟩ := Bool.and_eq_true_iff.mp h
  unfold PyData.strOk
  rw [← Array.all_toList]
  rw [List.all_eq_true] at h ⊢
  intro c hc
  have z := letter_ok c (of_decide_eq_true (h c hc))
  exact decide_eq_true z
theorem eqvAll_strs : ∀ (xs ys : List Str), PyData.eqvAll (xs.map PyData.str) (ys.map PyData.str) = decide (xs = ys)
  | [], [] => by simp [PyData.eqvAll]
  | [], _ :: _ => by simp [PyData.eqvAll]
  | _ :: _, [] => by simp [PyData.eqvAll]
  | x :: xs, y :: ys => by
    have ih := eqvAll_strs xs ys
    simp only [List.map_cons, PyData.eqvAll, PyData.eqv, ih]
    by_cases h1 : x = y
    · by_cases h2 : xs = ys
      · simp [h1, h2]
      · simp [h1, h2]
    · simp [h1]
theorem skB_words {ns ts : List Str} (h : skB ns ts = true) : ∀ x ∈ ts, wordS x = true := by
  unfold skB at h
  have h1 := (Bool.and_eq_true_iff.mp h).1
  rw [List.all_eq_true] at h1
  exact fun x hx => (Bool.and_eq_true_iff.mp (h1 x hx)).1
theorem scIsB : FnScope ["book", "value"] ["book", "value"] (defScope sIsBuild) := ⟨rfl, rfl, rfl, by decide +kernel, rfl, by decide +kernel, by decide +kernel⟩
theorem cl_isB {C : Addr} (T : Tx K mg) (D : Df K mg "is_build" sIsBuild) (cS : Cl P w K mg base CX0 2 "are_skills_of" (spSkOf C)) (cI : Cl P w K mg base CX0 1 "in_order" (spInOrd C)) : Cl P w K mg base CX0 3 "is_build" (spIsB C) := by
  refine cl_of D scIsB (fun _ _ _ _ _ _ us hl => match us, hl with | [_, _], _ => rfl) (fun vs H Q E h => ?_) (fun f cdv A outer s H vs Q E hr h => ?_)
  · obtain ⟨mk, t, ns, ts, rfl, _⟩ := h
    rfl
  · obtain ⟨mk, t, ns, ts, rfl, B, hz, hw, ht, X, q⟩ := h
    have hu : (A.deeper (envOfC "is_build" (defScope sIsBuild) s.heap.objs.size f cdv)).units + 64 < cLine := hr.units
    refine ⟨_, (pss_one (ps_ret (pe_and (pe_is K (pv 1) T.isi T.tuple b_tuple) (pe_and (pe_k cS hr (pa_cons (pv 0) (pa_cons (pv 1) pa_nil))) (pe_one (pe_cmpR (op_eqD hu) (pv 1) (pe_k cI hr (pa_cons (pv 0) (pa_cons (pv 1) pa_nil))) (nomark _))))))), ?_⟩
    refine ⟨_, rfl, _, _, _, _, true, rfl, .ty _, .base (.tup ht), kit_ty (by decide +kernel), true, rfl, iteT ?_⟩
    refine ⟨_, rfl, _, rfl, mk, t, ns, ts, rfl, B, ht, X, fun H1 s1 => ?_⟩
    have hq := q
    unfold isB at hq
    show ∃ c, V.bl (skB ns ts) = .bl c ∧ _
    cases hs : skB ns ts with
    | false =>
      rw [hs] at hq
      exact ⟨false, rfl, iteF (hq _ s1)⟩
    | true =>
      rw [hs] at hq
      refine ⟨true, rfl, iteT ?_⟩
      refine ⟨_, rfl, _, rfl, _, rfl, mk, t, ns, ts, rfl, B.same s1, hz, s1 _ _ ht, fun H2 p s2 hp => ?_⟩
      refine ⟨.tuple (ts.map PyData.str), .tuple ((ordB ns ts).map PyData.str), .tup (.of (s2 _ _ (s1 _ _ ht))) (dp_strs _), .tup (.of hp) (dp_strs _), shp_tstrs _ fun x hx => word_ok (skB_words hs x hx), shp_tstrs _ fun x hx => word_ok (hw x (List.mem_filter.mp hx).1), ?_⟩
      have e : PyData.eqv (.tuple (ts.map PyData.str)) (.tuple ((ordB ns ts).map PyData.str)) = decide (ts = ordB ns ts) := by
        rw [PyData.eqv]
        exact eqvAll_strs _ _
      rw [e]
      exact hq _ (s1.trans s2)
/-! ### the words of a build, written and read -/
def textOf (ts : List Str) : Str := if ts = [] then "-" else Txt.join " " ts
def splitB (x : Str) : List Str := if x = "-" then [] else Txt.split x " "
def spWrB (K : PySem.W.Frag) (B : Addr) : Sp := fun vs H Q E => ∃ v, vs = [v] ∧
  ((∃ (t : Addr) (ts : List Str), v = .ref t ∧ H t = some (.tup (ts.map V.str)) ∧ Txts ts ∧ (∀ x ∈ ts, wordS x = true) ∧ ∀ H', Same H H' → Q (.str (textOf ts)) H') ∨
   (∃ (t : Addr) (xs : List V), v = .ref t ∧ H t = some (.tup xs) ∧ xs.length ≤ 1000 ∧ (∀ x ∈ xs, AskW x) ∧ xs.all wordV = false ∧ ∀ H' d, Same H H' → H' d = none → E (.ref B) (some d) (upd H' d (.xd [("build", v)]))) ∨
   (∃ ty, TyOf K H v ty ∧ PySem.W.kitOne K ty (.type "tuple") = some false ∧ ∀ d, H d = none → E (.ref B) (some d) (upd H d (.xd [("build", v)]))))
def spRdB (K : PySem.W.Frag) (C N : Addr) : Sp := fun vs H Q E => ∃ (mk : Addr) (ns : List Str) (v : V), vs = [.ref mk, v] ∧ BookAt C H mk ns ∧ ns.length ≤ 1000 ∧ (∀ x ∈ ns, wordS x = true) ∧
  ((∃ x : Str, v = .str x ∧ x.length ≤ 500 ∧ (isB ns (splitB x) = true → ∀ H' p, Same H H' → H' p = some (.tup ((splitB x).map V.str)) → Q (.ref p) H') ∧
      (isB ns (splitB x) = false → ∀ H' d, Same H H' → H' d = none → E (.ref N) (some d) (upd H' d (.xd [("line", v)])))) ∨
   (∃ ty, TyOf K H v ty ∧ PySem.W.kitOne K ty (.type "str") = some false ∧ ∀ d, H d = none → E (.ref N) (some d) (upd H d (.xd [("line", v)]))))
theorem sum_mem {l : List Nat} {x : Nat} (h : x ∈ l) : x ≤ l.sum := by
  induction l with
  | nil => cases h
  | cons a l ih =>
    rw [List.sum_cons]
    rcases List.mem_cons.mp h with rfl | h
    · omega
    · have := ih h
      omega
theorem split_txts {x : Str} (h : x.length ≤ 500) : Txts (splitB x) := by
  unfold splitB
  split
  · exact ⟨by simp, fun x hx => by simp at hx⟩
  · have z := PyProof.Rows.split_weight x " " (by decide)
    refine ⟨by omega, fun y hy => ?_⟩
    have z2 := sum_mem (List.mem_map.mpr ⟨y, hy, rfl⟩ : y.length ∈ (Txt.split x " ").map (·.length))
    omega
theorem sum_le {ts : List Str} (h : ∀ x ∈ ts, x.length ≤ 1000) : (ts.map (·.length)).sum ≤ 1000 * ts.length := by
  induction ts with
  | nil => exact Nat.le_refl _
  | cons a l ih =>
    rw [List.map_cons, List.sum_cons, List.length_cons]
    have h1 := h a List.mem_cons_self
    have h2 := ih fun x hx => h x (List.mem_cons_of_mem _ hx)
    omega
theorem scWrB : FnScope ["build", "word"] ["build"] (defScope sWriteBuild) := ⟨rfl, rfl, rfl, by decide +kernel, rfl, by decide +kernel, by decide +kernel⟩
theorem cl_wrB {B fI cc : Addr} {qual arg msg : Str} {st : Stmt} (T : Tx K mg) (TB : ExT P K mg "NoBuild" qual "build" arg msg st B fI cc) (D : Df K mg "write_build" sWriteBuild) (cW : Cl P w K mg base CX0 1 "is_word" spWord) : Cl P w K mg base (L2.CX P w) 2 "write_build" (spWrB K B) := by
  refine cl_ofX D scWrB (fun _ _ _ _ _ _ us hl => match us, hl with | [_], _ => rfl) (fun vs H Q E h => ?_) (fun f cdv A outer s H vs Q E hr h => ?_)
  · obtain ⟨v, rfl, _⟩ := h
    rfl
  · obtain ⟨v, rfl, h⟩ := h
    refine ⟨_, (pss_cons (ps_if (PW.pt (pw_or (pt_not (pt_val (pe_is K (pv 0) T.isi T.tuple b_tuple))) (pw_or1 (pt_not (pt_val (pe_callB (cr_all rfl) (by rfl) T.all b_all (pa_cons (pe_lc (own := [("word", 1)]) (g := gName 1) (tt := tYes) rfl scWrB.nd (pi_tup (pv 0)) (blkOk_by (N := ["build", "word"]) (sc := defScope sWriteBuild) (by decide +kernel)) (fun _ _ _ _ _ => (pg_name (i := 1) scWrB.nd rfl (Or.inl rfl))) (fun _ _ _ _ _ => pts_nil) (fun _ _ _ _ _ => by exact (pe_k cW hr (pa_cons (pv 1) pa_nil)))) pa_nil))))))) (pss_one (ps_raiseE rfl TB hr (takes_of rfl rfl rfl rfl) (by exact (pa_cons (pv 0) pa_nil)))) pss_nil) (pss_one (ps_ret (pe_ifExp (pt_cmpR op_gt (pe_len K (pv 0) T.len) pe_int (nomark _)) (pe_join pe_str (pv 0)) pe_str)))), ?_⟩
    rcases h with ⟨t, ts, rfl, ht, X, hw, q⟩ | ⟨t, xs, rfl, ht, hz, ha, hw, q⟩ | ⟨ty, hty, hk, q⟩
    · refine ⟨_, rfl, _, _, _, _, true, rfl, .ty _, .base (.tup ht), kit_ty (by decide +kernel), true, rfl, iteF ?_⟩
      refine ⟨_, rfl, t, rfl, ⟨_, .of ht⟩, fun D hD => ?_⟩
      have hz := X.n
      refine lc_map (walk_tup (xs := ts.map V.str)) (ts.map fun _ => V.bl true) (by simp) (by rw [List.length_map]; omega) hD (fun H2 s2 => .of (s2 _ _ ht)) ?_ ?_
      · rintro i v _ H2 y hy s2 ⟨rfl, hx⟩ R hR
        obtain ⟨x, hxx, rfl⟩ := str_at hx
        rw [List.getElem?_map, hxx] at hy
        cases hy
        refine ⟨rfl, _, rfl, .str x, rfl, .inl ⟨_, rfl, by have := X.l x (mem_at hxx); omega⟩, fun H3 s3 => ?_⟩
        show R (V.bl (wordS x)) H3
        rw [hw x (mem_at hxx)]
        exact hR H3 s3
      intro H2 s2 hD2
      refine ⟨D, ts.map fun _ => true, rfl, .of (hD2.trans (by rw [List.map_map]; rfl)), true, by simp, iteF ?_⟩
      refine ⟨_, rfl, t, _, rfl, .inr (.of (s2 _ _ ht)), _, _, rfl, rfl, _, rfl, ?_⟩
      have hq := q _ s2
      unfold textOf at hq
      by_cases e : ts = []
      · subst e
        exact iteF hq
      · rw [decide_eq_true (by rw [List.length_map]; have := List.length_pos_iff.mpr e; omega)]
        rw [if_neg e] at hq
        refine iteT ⟨⟨_, rfl⟩, _, rfl, " ", t, ts, rfl, rfl, .inr (.of (s2 _ _ ht)), ?_, hq⟩
        have := sum_le X.l
        show _ + ts.length * 1 ≤ _
        omega
    · refine ⟨_, rfl, _, _, _, _, true, rfl, .ty _, .base (.tup ht), kit_ty (by decide +kernel), true, rfl, iteF ?_⟩
      refine ⟨_, rfl, t, rfl, ⟨_, .of ht⟩, fun D hD => ?_⟩
      refine lc_map (walk_tup (xs := xs)) (xs.map fun x => V.bl (wordV x)) (by simp) (by omega) hD (fun H2 s2 => .of (s2 _ _ ht)) ?_ ?_
      · rintro i v _ H2 y hy s2 ⟨rfl, hx⟩ R hR
        rw [List.getElem?_map, hx] at hy
        cases hy
        exact ⟨rfl, _, rfl, v, rfl, ha v (mem_at hx), fun H3 s3 => hR H3 s3⟩
      intro H2 s2 hD2
      refine ⟨D, xs.map wordV, rfl, .of (hD2.trans (by rw [List.map_map]; rfl)), ?_⟩
      rw [List.all_map, show xs.all (id ∘ wordV) = false from hw]
      refine ⟨false, rfl, iteT ?_⟩
      exact ⟨_, rfl, _, rfl, fun d hd => q _ d s2 hd⟩
    · refine ⟨_, rfl, _, _, _, _, false, rfl, .ty _, .base hty, hk, false, rfl, iteT ?_⟩
      exact ⟨_, rfl, _, rfl, fun d hd => q d hd⟩
theorem scRdB : FnScope ["book", "text", "build"] ["book", "text"] (defScope sReadBuild) := ⟨rfl, rfl, rfl, by decide +kernel, rfl, by decide +kernel, by decide +kernel⟩
theorem cl_rdB {C N fI cc : Addr} {qual arg msg : Str} {st : Stmt} (T : Tx K mg) (TN : ExT P K mg "NoNote" qual "line" arg msg st N fI cc) (D : Df K mg "read_build" sReadBuild) (cB : Cl P w K mg base CX0 3 "is_build" (spIsB C)) : Cl P w K mg base (L2.CX P w) 4 "read_build" (spRdB K C N) := by
  refine cl_ofX D scRdB (fun _ _ _ _ _ _ us hl => match us, hl with | [_, _], _ => rfl) (fun vs H Q E h => ?_) (fun f cdv A outer s H vs Q E hr h => ?_)
  · obtain ⟨mk, ns, v, rfl, _⟩ := h
    rfl
  · obtain ⟨mk, ns, v, rfl, B, hz, hw, h⟩ := h
    refine ⟨_, (pss_cons (ps_if (pt_not (pt_val (pe_is K (pv 1) T.isi T.str b_str))) (pss_one (ps_raiseE rfl TN hr (takes_of rfl rfl rfl rfl) (by exact (pa_cons (pv 1) pa_nil)))) pss_nil) (pss_cons (ps_asg (pe_ifExp (pt_cmpR op_eq (pv 1) pe_str (nomark _)) (pe_tup pa_nil) (pe_tupleOf (by rfl) T.tuple (pe_split (pv 1) pe_str))) (pg_name (i := 2) scRdB.nd rfl (Or.inl rfl))) (pss_cons (ps_if (pt_not (pt_val (pe_k cB hr (pa_cons (pv 0) (pa_cons (pv 2) pa_nil))))) (pss_one (ps_raiseE rfl TN hr (takes_of rfl rfl rfl rfl) (by exact (pa_cons (pv 1) pa_nil)))) pss_nil) (pss_one (ps_ret (pv 2)))))), ?_⟩
    rcases h with ⟨x, rfl, hx, q1, q2⟩ | ⟨ty, hty, hk, q⟩
    · refine ⟨_, rfl, _, _, _, _, true, rfl, .ty _, .base (.str x), kit_ty (by decide +kernel), true, rfl, iteF ?_⟩
      refine ⟨_, rfl, rfl, _, rfl, ?_⟩
      have X := split_txts hx
      unfold splitB at q1 q2 X
      by_cases e : x = "-"
      · rw [if_pos e] at q1 q2 X
        rw [decide_eq_true (show V.str x = V.str "-" from congrArg V.str e)]
        refine iteT ⟨by show 0 ≤ sizeLine; decide, fun p hp => ?_⟩
        have s1 := same_upd (o := .tup []) (Same.refl H) hp
        refine ⟨_, rfl, _, rfl, mk, p, ns, [], rfl, B.same s1, hz, hw, upd_same, X, fun H2 s2 => ?_⟩
        refine ⟨_, rfl, ?_⟩
        have hp2 := s2 p _ (upd_same (H := H) (a := p) (o := .tup []))
        cases hb : isB ns [] with
        | true => exact iteF ⟨_, rfl, q1 hb _ p (s1.trans s2) hp2⟩
        | false => exact iteT ⟨_, rfl, _, rfl, fun d hd => q2 hb _ d (s1.trans s2) hd⟩
      · rw [if_neg e] at q1 q2 X
        rw [decide_eq_false (show ¬ V.str x = V.str "-" from fun z => e (V.str.inj z))]
        refine iteF ⟨_, rfl, ⟨_, rfl⟩, x, " ", rfl, rfl, by decide, Nat.le_trans (Nat.add_le_add_right hx 2) (by decide), fun l hl => ?_⟩
        refine .inl ⟨l, _, rfl, .of upd_same, fun p hp => ?_⟩
        have s1 := (same_upd (o := .lst ((Txt.split x " ").map V.str)) (Same.refl H) hl).trans (same_upd (o := .tup ((Txt.split x " ").map V.str)) (Same.refl _) hp)
        have hp1 := upd_same (H := upd H l (.lst ((Txt.split x " ").map V.str))) (a := p) (o := .tup ((Txt.split x " ").map V.str))
        refine ⟨_, rfl, _, rfl, mk, p, ns, Txt.split x " ", rfl, B.same s1, hz, hw, hp1, X, fun H2 s2 => ?_⟩
        refine ⟨_, rfl, ?_⟩
        cases hb : isB ns (Txt.split x " ") with
        | true => exact iteF ⟨_, rfl, q1 hb _ p (s1.trans s2) (s2 _ _ hp1)⟩
        | false => exact iteT ⟨_, rfl, _, rfl, fun d hd => q2 hb _ d (s1.trans s2) hd⟩
    · refine ⟨_, rfl, _, _, _, _, false, rfl, .ty _, .base hty, hk, false, rfl, iteT ?_⟩
      exact ⟨_, rfl, _, rfl, fun d hd => q d hd⟩
end
end K75
set_option Elab.async false
set_option linter.all false
set_option maxRecDepth 100000
set_option maxHeartbeats 4000000
namespace K75
section
open PySem
open PySem.Sem (wp)
open PySem.W (KdxIt kdx_alive)
/-! ### dict(zip(a, b)) of two tuples: as KE.KDictZip's of two lists -/
section
variable {prog : Program} {w : World} {A : Around} {E : Value → Shared → Prop} {s : Shared}
theorem zipT_next_item_held {z TI TO T i1 i2 l1 l2 : Addr} {f : Bool} {oT : Obj} {k1 k2 : Nat} {xs ys : Array Value} {x y : Value} {Q : Value → Shared → Prop} (D : ZipApart z TI TO i1 i2 l1 l2)
    (hz : IsZipHeld s.heap z TI TO T f) (hT : s.heap.get? T = some oT) (hTI : IsPair s.heap TI (.ref i1) (.ref i2))
    (h1 : s.heap.IsTupleIter i1 l1 k1) (h2 : s.heap.IsTupleIter i2 l2 k2) (hl1 : s.heap.IsTuple l1 xs) (hl2 : s.heap.IsTuple l2 ys) (hx : xs[k1]? = some x) (hy : ys[k2]? = some y)
    (hQ : ∀ h', IsZipHeld h' z TI TO T true → h'.IsTupleIter i1 l1 (k1 + 1) → h'.IsTupleIter i2 l2 (k2 + 1) → IsPair h' s.heap.objs.size x y → h'.objs.size = s.heap.objs.size + 1 →
      (∀ c o, c ≠ z → c ≠ i1 → c ≠ i2 → s.heap.get? c = some o → h'.get? c = some o) → Q (.ref s.heap.objs.size) { s with heap := h' }) :
    wpAny (model prog w) A (Builtin.«zip.__next__» ⟨[.ref z], []⟩) (fun fin s' => ∃ v, fin = .done (.ret v) ∧ Q v s') E s := by
  show wpAny _ _ (field (.ref z) 2 >>= _) _ _ _
  refine wpAny_bind (wpAny_field hz rfl (x := .bool false) rfl ?_)
  show wpAny _ _ (field (.ref z) 3 >>= _) _ _ _
  refine wpAny_bind (wpAny_field hz rfl (x := .ref TI) rfl ?_)
  refine wpAny_bind (wpAny_seqItems hTI rfl ?_)
  show wpAny _ _ (Builtin.SmallTypes.ownedTupleIsFree (.ref z) >>= _) _ _ _
  refine wpAny_bind (wpAny_tupleHeld_zip hz hT fun h₁ hz₁ hs₁ => ?_)
  simp only [Bool.false_eq_true, if_false]
  refine wpAny_bind ?_
  rw [← Array.forIn_toList]
  simp only [List.forIn_cons, List.forIn_nil]
  refine wpAny_bind (wpAny_bind (wpAny_holding ?_))
  show wpAny _ _ (Builtin.SmallTypes.nextOf (.ref i1) >>= _) _ _ _
  refine wpAny_bind (RZ.nextOf_tuple_item (s := { s with heap := h₁ }) (h1.extBut hs₁.extBut D.i1z) (hl1.extBut hs₁.extBut D.l1z) hx fun h₂ h1₂ hs₂ => wpAny_pure ?_)
  refine wpAny_pure ?_
  refine wpAny_bind (wpAny_bind (wpAny_holding ?_))
  show wpAny _ _ (Builtin.SmallTypes.nextOf (.ref i2) >>= _) _ _ _
  refine wpAny_bind (RZ.nextOf_tuple_item (s := { s with heap := h₂ }) ((h2.extBut hs₁.extBut D.i2z).extBut hs₂.extBut D.i12.symm) ((hl2.extBut hs₁.extBut D.l2z).extBut hs₂.extBut D.l2i1) hy fun h₃ h2₃ hs₃ => wpAny_pure ?_)
  refine wpAny_pure (wpAny_pure ?_)
  show wpAny _ _ (newTuple [x, y] >>= _) _ _ _
  refine wpAny_bind (wpAny_newTuple ?_)
  have hsz : h₃.objs.size = s.heap.objs.size := by rw [hs₃.1, hs₂.1, hs₁.1]
  have hz₃ : IsZipHeld h₃ z TI TO T true := hs₃.extBut _ _ D.i2z.symm (hs₂.extBut _ _ D.i1z.symm hz₁)
  have hk : ∀ c o, c ≠ z → c ≠ i1 → c ≠ i2 → s.heap.get? c = some o → h₃.get? c = some o := fun c o c1 c2 c3 e => hs₃.extBut _ _ c3 (hs₂.extBut _ _ c2 (hs₁.extBut _ _ c1 e))
  have h1₃ : h₃.IsTupleIter i1 l1 (k1 + 1) := h1₂.extBut hs₃.extBut D.i12
  refine wpAny_pure ⟨_, rfl, ?_⟩
  show Q (.ref h₃.objs.size) _
  have hp : IsPair (h₃.push { cls := .type "tuple", data := .seq #[x, y] }) h₃.objs.size x y := Heap.get?_push_size _ rfl
  have hz4 : (h₃.push { cls := .type "tuple", data := .seq #[x, y] }).objs.size = h₃.objs.size + 1 := Heap.size_push ..
  rw [hsz] at hp hz4 ⊢
  exact hQ _ (Heap.get?_push_of_some _ hz₃) (h1₃.at fun o e => Heap.get?_push_of_some _ e) (h2₃.at fun o e => Heap.get?_push_of_some _ e) hp hz4 fun c o c1 c2 c3 e => Heap.get?_push_of_some _ (hk c o c1 c2 c3 e)

theorem zipT_next_end_held {z TI TO T i1 i2 l1 l2 : Addr} {f : Bool} {oT : Obj} {k1 k2 : Nat} {xs ys : Array Value} {Q : Fin → Shared → Prop} (hh : A.handled = none) (D : ZipApart z TI TO i1 i2 l1 l2)
    (hz : IsZipHeld s.heap z TI TO T f) (hT : s.heap.get? T = some oT) (hTI : IsPair s.heap TI (.ref i1) (.ref i2))
    (h1 : s.heap.IsTupleIter i1 l1 k1) (h2 : s.heap.IsTupleIter i2 l2 k2) (hl1 : s.heap.IsTuple l1 xs) (hl2 : s.heap.IsTuple l2 ys) (hend : xs[k1]? = none ∨ ys[k2]? = none)
    (hE : ∀ h' e, (∀ c o, c ≠ z → c ≠ i1 → c ≠ i2 → s.heap.get? c = some o → h'.get? c = some o) → (∃ o, h'.get? e = some o ∧ o.cls = .type "StopIteration") → E (.ref e) { s with heap := h' }) :
    wpAny (model prog w) A (Builtin.«zip.__next__» ⟨[.ref z], []⟩) Q E s := by
  show wpAny _ _ (field (.ref z) 2 >>= _) _ _ _
  refine wpAny_bind (wpAny_field hz rfl (x := .bool false) rfl ?_)
  show wpAny _ _ (field (.ref z) 3 >>= _) _ _ _
  refine wpAny_bind (wpAny_field hz rfl (x := .ref TI) rfl ?_)
  refine wpAny_bind (wpAny_seqItems hTI rfl ?_)
  show wpAny _ _ (Builtin.SmallTypes.ownedTupleIsFree (.ref z) >>= _) _ _ _
  refine wpAny_bind (wpAny_tupleHeld_zip hz hT fun h₁ hz₁ hs₁ => ?_)
  simp only [Bool.false_eq_true, if_false]
  refine wpAny_bind ?_
  rw [← Array.forIn_toList]
  simp only [List.forIn_cons, List.forIn_nil]
  refine wpAny_bind (wpAny_bind (wpAny_holding ?_))
  show wpAny _ _ (Builtin.SmallTypes.nextOf (.ref i1) >>= _) _ _ _
  cases hx : xs[k1]? with
  | none =>
    refine wpAny_bind (RZ.nextOf_tuple_end (s := { s with heap := h₁ }) hh (h1.extBut hs₁.extBut D.i1z) (hl1.extBut hs₁.extBut D.l1z) hx fun h₂ e hs₂ he => ?_)
    exact hE h₂ e (fun c o c1 c2 _ x => hs₂ _ _ c2 (hs₁.extBut _ _ c1 x)) he
  | some x =>
    have hy : ys[k2]? = none := by rcases hend with h | h; rw [hx] at h; cases h; exact h
    refine wpAny_bind (RZ.nextOf_tuple_item (s := { s with heap := h₁ }) (h1.extBut hs₁.extBut D.i1z) (hl1.extBut hs₁.extBut D.l1z) hx fun h₂ h1₂ hs₂ => wpAny_pure ?_)
    refine wpAny_pure ?_
    refine wpAny_bind (wpAny_bind (wpAny_holding ?_))
    show wpAny _ _ (Builtin.SmallTypes.nextOf (.ref i2) >>= _) _ _ _
    refine wpAny_bind (RZ.nextOf_tuple_end (s := { s with heap := h₂ }) hh ((h2.extBut hs₁.extBut D.i2z).extBut hs₂.extBut D.i12.symm) ((hl2.extBut hs₁.extBut D.l2z).extBut hs₂.extBut D.l2i1) hy fun h₃ e hs₃ he => ?_)
    exact hE h₃ e (fun c o c1 c2 c3 x => hs₃ _ _ c3 (hs₂.extBut _ _ c2 (hs₁.extBut _ _ c1 x))) he

theorem pyNext_zipT_item_held {z TI TO T i1 i2 l1 l2 : Addr} {f : Bool} {oT : Obj} {k1 k2 : Nat} {xs ys : Array Value} {x y : Value} {Q : Option Value → Shared → Prop} (D : ZipApart z TI TO i1 i2 l1 l2)
    (hz : IsZipHeld s.heap z TI TO T f) (hT : s.heap.get? T = some oT) (hTI : IsPair s.heap TI (.ref i1) (.ref i2))
    (h1 : s.heap.IsTupleIter i1 l1 k1) (h2 : s.heap.IsTupleIter i2 l2 k2) (hl1 : s.heap.IsTuple l1 xs) (hl2 : s.heap.IsTuple l2 ys) (hx : xs[k1]? = some x) (hy : ys[k2]? = some y)
    (hQ : ∀ h', IsZipHeld h' z TI TO T true → h'.IsTupleIter i1 l1 (k1 + 1) → h'.IsTupleIter i2 l2 (k2 + 1) → IsPair h' s.heap.objs.size x y → h'.objs.size = s.heap.objs.size + 1 →
      (∀ c o, c ≠ z → c ≠ i1 → c ≠ i2 → s.heap.get? c = some o → h'.get? c = some o) → Q (some (.ref s.heap.objs.size)) { s with heap := h' }) :
    wpAny (model prog w) A (pyNext (.ref z)) Q E s := by
  have hTy : s.TypeIs (.ref z) "zip" := ⟨_, hz, rfl⟩
  unfold pyNext
  exact wpAny_bind (wpAny_attempt (wpAny_callSpecial?_slot (name := Str.ofString "__next__") hTy F.slot_zip_next
    (wpAny_call_entry F.slot_zip_next hTy F.entry_zip_next
      (zipT_next_item_held D hz hT hTI h1 h2 hl1 hl2 hx hy fun h' a1 a3 a4 a5 a6 a7 => wpAny_pure (hQ h' a1 a3 a4 a5 a6 a7)) (F.args_zip_next_1 _))))
theorem pyNext_zipT_end_held {z TI TO T i1 i2 l1 l2 : Addr} {f : Bool} {oT : Obj} {k1 k2 : Nat} {xs ys : Array Value} {Q : Option Value → Shared → Prop} (hh : A.handled = none) (D : ZipApart z TI TO i1 i2 l1 l2)
    (hz : IsZipHeld s.heap z TI TO T f) (hT : s.heap.get? T = some oT) (hTI : IsPair s.heap TI (.ref i1) (.ref i2))
    (h1 : s.heap.IsTupleIter i1 l1 k1) (h2 : s.heap.IsTupleIter i2 l2 k2) (hl1 : s.heap.IsTuple l1 xs) (hl2 : s.heap.IsTuple l2 ys) (hend : xs[k1]? = none ∨ ys[k2]? = none)
    (hQ : ∀ h', (∀ c o, c ≠ z → c ≠ i1 → c ≠ i2 → s.heap.get? c = some o → h'.get? c = some o) → Q none { s with heap := h' }) : wpAny (model prog w) A (pyNext (.ref z)) Q E s := by
  have hTy : s.TypeIs (.ref z) "zip" := ⟨_, hz, rfl⟩
  unfold pyNext
  refine wpAny_bind (wpAny_attempt (wpAny_callSpecial?_slot (name := Str.ofString "__next__") hTy F.slot_zip_next
    (wpAny_call_entry F.slot_zip_next hTy F.entry_zip_next (zipT_next_end_held hh D hz hT hTI h1 h2 hl1 hl2 hend fun h' e hk he => ?_) (F.args_zip_next_1 _))))
  obtain ⟨o, ho, hc⟩ := he
  refine wpAny_bind (wpAny_isInstance (T := "StopIteration") (b := true) ⟨o, ho, hc⟩ isSubtype_stop ?_)
  exact wpAny_pure (hQ _ hk)


end
section
variable {prog : Program} {w : World}
theorem pairArg_zipT (z TI TO i1 i2 l1 l2 : Addr) (D : ZipApart z TI TO i1 i2 l1 l2) (xs ys : Array Value) :
    PairArg prog w "zip" z [z, TI, TO, i1, i2, l1, l2] [z, TO, i1, i2] (min xs.size ys.size) (fun i k v => xs[i]? = some k ∧ ys[i]? = some v)
      (fun h => IsZip h z TI TO .none ∧ IsPair h TI (.ref i1) (.ref i2) ∧ (∃ a b, IsPair h TO a b) ∧ h.IsTupleIter i1 l1 0 ∧ h.IsTupleIter i2 l2 0 ∧ h.IsTuple l1 xs ∧ h.IsTuple l2 ys) where
  type := fun s ok => ⟨_, ok.1, rfl⟩
  notDict := by decide
  keep := fun h h' ok hk => by
    obtain ⟨hz, hTI, ⟨a, b, hTO⟩, h1, h2, hl1, hl2⟩ := ok
    exact ⟨hk _ _ hz, hk _ _ hTI, ⟨a, b, hk _ _ hTO⟩, h1.at fun o e => hk _ o e, h2.at fun o e => hk _ o e, hl1.at fun o e => hk _ o e, hl2.at fun o e => hk _ o e⟩
  there := fun h ok b hb => by
    obtain ⟨hz, hTI, ⟨a, c, hTO⟩, ⟨o1, h1, _⟩, ⟨o2, h2, _⟩, ⟨o3, hl1, _⟩, ⟨o4, hl2, _⟩⟩ := ok
    simp only [List.mem_cons, List.not_mem_nil, or_false] at hb
    rcases hb with rfl | rfl | rfl | rfl | rfl | rfl | rfl
    all_goals first | exact ⟨_, hz⟩ | exact ⟨_, hTI⟩ | exact ⟨_, hTO⟩ | exact ⟨_, h1⟩ | exact ⟨_, h2⟩ | exact ⟨_, hl1⟩ | exact ⟨_, hl2⟩
  sub := fun b hb => by simp at hb ⊢; rcases hb with rfl | rfl | rfl | rfl <;> simp
  noKeys := fun A s Q E hA ok h => getAttrOr_miss_zip ok.1 rfl rfl rfl zip_no_keys (by decide +kernel) hA h
  iter := fun A s d Q E hA ok hd hdf h => by
    obtain ⟨hz, hTI, ⟨a, b, hTO⟩, h1, h2, hl1, hl2⟩ := ok
    simp only [List.mem_cons, List.not_mem_nil, or_false, not_or] at hdf
    obtain ⟨dz, dTI, dTO, di1, di2, dl1, dl2⟩ := hdf
    refine wpAny_pyIter_zip hz (h z [z, TO, i1, i2] (fun i h => IsPair h TI (.ref i1) (.ref i2) ∧ h.IsTupleIter i1 l1 i ∧ h.IsTupleIter i2 l2 i ∧ h.IsTuple l1 xs ∧ h.IsTuple l2 ys ∧
      ((IsZip h z TI TO .none ∧ ∃ a b, IsPair h TO a b) ∨ ∃ T f oT, IsZipHeld h z TI TO T f ∧ h.get? T = some oT ∧ T ≠ z ∧ T ≠ i1 ∧ T ≠ i2 ∧ T ≠ d)) s.heap s.toks ?_
      ⟨hTI, h1, h2, hl1, hl2, .inl ⟨hz, a, b, hTO⟩⟩ (fun _ _ e => e) fun b hb => .inl hb)
    exact {
      off := fun hm => by
        simp only [List.mem_cons, List.not_mem_nil, or_false] at hm
        rcases hm with e | e | e | e
        · exact dz e
        · exact dTO e
        · exact di1 e
        · exact di2 e
      frame := fun i h₁ h₂ st hk => by
        obtain ⟨hTI, h1, h2, hl1, hl2, hz⟩ := st
        refine ⟨hk _ _ (Ne.symm dTI) hTI, h1.at fun o e => hk _ o (Ne.symm di1) e, h2.at fun o e => hk _ o (Ne.symm di2) e, hl1.at fun o e => hk _ o (Ne.symm dl1) e, hl2.at fun o e => hk _ o (Ne.symm dl2) e, ?_⟩
        rcases hz with ⟨hz, a, b, hTO⟩ | ⟨T, f, oT, hz, hT, r1, r2, r3, r4⟩
        · exact .inl ⟨hk _ _ (Ne.symm dz) hz, a, b, hk _ _ (Ne.symm dTO) hTO⟩
        · exact .inr ⟨T, f, oT, hk _ _ (Ne.symm dz) hz, hk _ _ r4 hT, r1, r2, r3, r4⟩
      item := fun i s₁ Q₁ E₁ hi st hds hQ => by
        obtain ⟨hTI, h1, h2, hl1, hl2, hz⟩ := st
        have hix : i < xs.size := Nat.lt_of_lt_of_le hi (Nat.min_le_left ..)
        have hiy : i < ys.size := Nat.lt_of_lt_of_le hi (Nat.min_le_right ..)
        have ex := Array.getElem?_eq_getElem hix
        have ey := Array.getElem?_eq_getElem hiy
        have lt : ∀ {c o}, s₁.heap.get? c = some o → s₁.heap.objs.size ≠ c := fun e => Nat.ne_of_gt (Heap.lt_size e)
        have n1 : s₁.heap.objs.size ≠ i1 := let ⟨_, e, _⟩ := h1; lt e
        have n2 : s₁.heap.objs.size ≠ i2 := let ⟨_, e, _⟩ := h2; lt e
        rcases hz with ⟨hz, a, b, hTO⟩ | ⟨T, f, oT, hz, hT, r1, r2, r3, r4⟩
        · refine RZ.pyNext_zipT_item D hz hTI hTO h1 h2 hl1 hl2 ex ey fun h' a1 a2 a3 a4 a5 a6 hk => ?_
          exact hQ s₁.heap.objs.size _ _ h' s₁.toks ⟨ex, ey⟩ (.inl ⟨_, a5, rfl, _, rfl⟩)
            ⟨hk _ _ D.TIz D.TITO D.TIi1 D.TIi2 hTI, a3, a4, hl1.at fun o e => hk _ o D.l1z D.l1TO D.l1i1 D.l1i2 e, hl2.at fun o e => hk _ o D.l2z D.l2TO D.l2i1 D.l2i2 e,
              .inr ⟨s₁.heap.objs.size, false, _, a1, a5, lt hz, n1, n2, Nat.ne_of_gt hds⟩⟩
            fun c o hc e => hk c o (fun x => hc (by simp [x])) (fun x => hc (by simp [x])) (fun x => hc (by simp [x])) (fun x => hc (by simp [x])) e
        · refine pyNext_zipT_item_held D hz hT hTI h1 h2 hl1 hl2 ex ey fun h' a1 a3 a4 a5 a6 hk => ?_
          exact hQ s₁.heap.objs.size _ _ h' s₁.toks ⟨ex, ey⟩ (.inl ⟨_, a5, rfl, _, rfl⟩)
            ⟨hk _ _ D.TIz D.TIi1 D.TIi2 hTI, a3, a4, hl1.at fun o e => hk _ o D.l1z D.l1i1 D.l1i2 e, hl2.at fun o e => hk _ o D.l2z D.l2i1 D.l2i2 e,
              .inr ⟨T, true, oT, a1, hk _ _ r1 r2 r3 hT, r1, r2, r3, r4⟩⟩
            fun c o hc e => hk c o (fun x => hc (by simp [x])) (fun x => hc (by simp [x])) (fun x => hc (by simp [x])) e
      done := fun s₁ Q₁ E₁ st hQ => by
        obtain ⟨hTI, h1, h2, hl1, hl2, hz⟩ := st
        have hend : xs[min xs.size ys.size]? = none ∨ ys[min xs.size ys.size]? = none := by
          rcases Nat.le_total xs.size ys.size with h | h
          · exact .inl (Array.getElem?_eq_none (by rw [Nat.min_eq_left h]; exact Nat.le_refl _))
          · exact .inr (Array.getElem?_eq_none (by rw [Nat.min_eq_right h]; exact Nat.le_refl _))
        rcases hz with ⟨hz, a, b, hTO⟩ | ⟨T, f, oT, hz, hT, r1, r2, r3, r4⟩
        · exact RZ.pyNext_zipT_end hA D hz hTI hTO h1 h2 hl1 hl2 hend fun h' hk => hQ h' s₁.toks fun c o hc e => hk c o (fun x => hc (by simp [x])) (fun x => hc (by simp [x])) (fun x => hc (by simp [x])) (fun x => hc (by simp [x])) e
        · exact pyNext_zipT_end_held hA D hz hT hTI h1 h2 hl1 hl2 hend fun h' hk => hQ h' s₁.toks fun c o hc e => hk c o (fun x => hc (by simp [x])) (fun x => hc (by simp [x])) (fun x => hc (by simp [x])) e }


end
end
open PySem PySem.Spec PyProof.Rows L2
/-! ### the rule -/
theorem kv_zip {ks : List Key} {ys : List V} : ∀ {us vs : List Value}, Vals (ks.map kV) us → Vals ys vs → ks.length = ys.length → ∃ kvs : List (Key × Value), KV (ks.zip ys) kvs ∧ kvs.length = min us.length vs.length ∧ ∀ (i : Nat) (key v : Value), us[i]? = some key → vs[i]? = some v → ∃ k, kvs[i]? = some (k, v) ∧ keyIs k key = true := by
  induction ks generalizing ys with
  | nil =>
    intro us vs r1 r2 hl
    cases r1
    cases ys with
    | nil =>
      cases r2
      exact ⟨[], .nil, rfl, fun i key v e => by simp at e⟩
    | cons _ _ => simp at hl
  | cons k ks ih =>
    intro us vs r1 r2 hl
    cases r1 with
    | @cons _ u _ ur ru rr =>
      cases ys with
      | nil => simp at hl
      | cons y ys =>
        cases r2 with
        | @cons _ v _ vr rv rw =>
          obtain ⟨kvs, h1, h2, h3⟩ := ih rr rw (by simpa using hl)
          refine ⟨(k, v) :: kvs, .cons ⟨rfl, rv⟩ h1, by rw [List.length_cons, h2, List.length_cons, List.length_cons]; omega, fun i key v' e1 e2 => ?_⟩
          cases i with
          | zero =>
            cases e1
            cases e2
            refine ⟨k, rfl, ?_⟩
            cases k with
            | inl i =>
              obtain ⟨t, rfl⟩ := ru
              exact keyIs_int i t
            | inr x =>
              obtain ⟨t, rfl⟩ := ru
              exact keyIs_str x t
          | succ i => exact h3 i key v' (by simpa using e1) (by simpa using e2)
def tDictZ (K : PySem.W.Frag) (ta : TA) : TE := fun σ H Q => ta σ H fun vs H1 => ∃ (a b : Addr) (ks : List Key) (ys : List V), vs = [.ref a, .ref b] ∧ ((SqL K H1 a (ks.map kV) ∧ SqL K H1 b ys) ∨ (SqT K H1 a (ks.map kV) ∧ SqT K H1 b ys)) ∧ ks.length = ys.length ∧
  ∀ p, H1 p = none → Q (.ref p) (upd H1 p (.dK (mergeK [] (ks.zip ys))))
theorem pe_dictZip {X : Cx} {e e2 : Expr} {ta : TA} {p p2 pos pos2 : Pos} (hc : X.calm = true) (hgd : Gl X "dict") (hmd : X.mg "dict" = none) (hg : Gl X "zip") (hm : X.mg "zip" = none) (ha : PA X [e, e2] ta)
    (hs : starEach [e, e2] X.env = (false, eval e X.env) :: starEach [e2] X.env := by rfl) (hpl : (backTo pos2 (starEach [e2] X.env)).any (·.1) = false := by rfl)
    (hs1 : starEach [.Call (.Name "zip" p2) [e, e2] [] pos2] X.env = (false, eval (.Call (.Name "zip" p2) [e, e2] [] pos2) X.env) :: starEach [] X.env := by rfl) :
    PE X (.Call (.Name "dict" p) [.Call (.Name "zip" p2) [e, e2] [] pos2] [] pos) (tDictZ X.K ta) := by
  refine ⟨fun pins s σ H Q I h => ?_⟩
  refine Call_ (ld_blt I hgd hmd b_dict (PyProof.Rows.callWith_type1 (args_cons ?_ hs1)) (by decide) (by decide))
  refine Call_ (ld_blt I hg hm b_zip (PyProof.Rows.callWith_type1 (thn (ha.run pos2 pins s σ H _ I h) fun us s1 ⟨vs, H1, I1, r1, q1⟩ => ?_) hs hpl) (by decide) (by decide))
  obtain ⟨a, b, ks, ys, rfl, hq, hl, q⟩ := q1
  cases r1 with
  | cons r rr =>
    cases rr with
    | cons r' rr =>
      cases rr
      cases r
      cases r'
      have big := I1.big
      have hm' : (s1.heap.objs.size + 5 == sysModules) = false := beq_eq_false_iff_ne.mpr (Nat.ne_of_gt (Nat.lt_of_lt_of_le big (Nat.le_add_right _ _)))
      have key : ∀ {us vs : List Value} {h' : Heap} {wr : List Addr}, Vals (ks.map kV) us → Vals ys vs → us.length ≤ sizeLine → h'.objs.size = s1.heap.objs.size + 5 → (∀ c o, s1.heap.get? c = some o → h'.get? c = some o) → (∀ c ∈ wr, s1.heap.objs.size ≤ c) →
          ∃ kvs : List (Key × Value), PairsHave (mixKind X.prog X.w) (min us.toArray.size vs.toArray.size) (fun i k v => us.toArray[i]? = some k ∧ vs.toArray[i]? = some v) kvs ∧ min us.toArray.size vs.toArray.size ≤ sizeLine ∧
            ∀ (h2 : Heap) (tk : Tok), h2.DictOf (mixKind X.prog X.w) h'.objs.size (merged [] kvs) → (∀ b o, b ∉ wr → h'.get? b = some o → h2.get? b = some o) → EP X pins σ Q (.ref h'.objs.size) { s1 with heap := h2, toks := tk } := fun {us vs h' wr} ru rv hz hsz hk hw => by
        obtain ⟨kvs, k1, k2, k3⟩ := kv_zip ru rv hl
        have e1 : min us.toArray.size vs.toArray.size = kvs.length := by rw [k2]; simp
        refine ⟨kvs, ⟨by rw [e1], fun i key v ⟨h1, h2⟩ => k3 i key v (by simpa using h1) (by simpa using h2)⟩, ?_, fun h2 tk hd hkk => ?_⟩
        · refine Nat.le_trans (Nat.min_le_left _ _) ?_
          simpa using hz
        · rw [hsz] at hd ⊢
          have hlen : (mergeK [] (ks.zip ys)).length ≤ sizeLine := by
            refine Nat.le_trans (length_mergeK (ks.zip ys) []) ?_
            rw [List.length_nil, Nat.zero_add, k1.length, k2]
            exact Nat.le_trans (Nat.min_le_left _ _) hz
          have old : ∀ c o, s1.heap.get? c = some o → h2.get? c = some o := fun c o e => hkk c o (fun hm => Nat.lt_irrefl _ (Nat.lt_of_lt_of_le (Heap.lt_size e) (hw c hm))) (hk c o e)
          have ge : s1.heap.objs.size ≤ s1.heap.objs.size + 5 := Nat.le_add_right _ _
          exact ⟨.ref (s1.heap.objs.size + 5), upd H1 (s1.heap.objs.size + 5) (.dK (mergeK [] (ks.zip ys))), I1.laid (t' := tk) old ge (show ObjOk X.prog X.w _ _ _ (.dK (mergeK [] (ks.zip ys))) from ⟨hlen, hm', merged [] kvs, KV.merge k1 .nil, hd⟩), rfl, q _ (I1.hok.fresh ge)⟩
      have wrs : ∀ c ∈ [s1.heap.objs.size + 4, s1.heap.objs.size + 3, s1.heap.objs.size, s1.heap.objs.size + 1], s1.heap.objs.size ≤ c := fun c hc => by
        simp only [List.mem_cons, List.not_mem_nil, or_false] at hc
        rcases hc with rfl | rfl | rfl | rfl <;> omega
      rcases hq with ⟨hqx, hqy⟩ | ⟨hqx, hqy⟩
      · obtain ⟨its, rv, p1, hz⟩ := I1.list hqx
        obtain ⟨its2, rv2, p2', _⟩ := I1.list hqy
        have z1 : its.length ≤ sizeLine := by rw [← rv.length]; exact hz
        refine call_zip_2 p1.isList p2'.isList fun h' hz hTI hTO h1 h2 hsz hk => args_nil ?_
        obtain ⟨kvs, c1, c2, c3⟩ := key (h' := h') (wr := [s1.heap.objs.size + 4, s1.heap.objs.size + 3, s1.heap.objs.size, s1.heap.objs.size + 1]) rv rv2 z1 hsz hk wrs
        exact call_dict_pairs (s := { s1 with heap := h' }) (PairArg.zip _ _ _ _ _ a b (PySem.W.ktu_apart s1.heap.objs.size a b p1.lt p2'.lt) its.toArray its2.toArray) (I1.ok.hd hc) ⟨hz, hTI, ⟨_, _, hTO⟩, h1, h2, p1.isList.at fun o e => hk _ o e, p2'.isList.at fun o e => hk _ o e⟩ c1 c2 c3
      · obtain ⟨its, rv, p1, hz⟩ := I1.tuple hqx
        obtain ⟨its2, rv2, p2', _⟩ := I1.tuple hqy
        have z1 : its.length ≤ sizeLine := by rw [← rv.length]; exact hz
        obtain ⟨o1, ho1, _⟩ := id p1
        obtain ⟨o2, ho2, _⟩ := id p2'
        have t1 : s1.heap.IsTuple a its.toArray := p1
        have t2 : s1.heap.IsTuple b its2.toArray := p2'
        refine RZ.call_zipT t1 t2 fun h' hz hTI hTO h1 h2 hsz hk => args_nil ?_
        obtain ⟨kvs, c1, c2, c3⟩ := key (h' := h') (wr := [s1.heap.objs.size + 4, s1.heap.objs.size + 3, s1.heap.objs.size, s1.heap.objs.size + 1]) rv rv2 z1 hsz hk wrs
        exact call_dict_pairs (s := { s1 with heap := h' }) (pairArg_zipT _ _ _ _ _ a b (PySem.W.ktu_apart s1.heap.objs.size a b (Heap.lt_size ho1) (Heap.lt_size ho2)) its.toArray its2.toArray) (I1.ok.hd hc) ⟨hz, hTI, ⟨_, _, hTO⟩, h1, h2, t1.at fun o e => hk _ o e, t2.at fun o e => hk _ o e⟩ c1 c2 c3
end K75
set_option Elab.async false
set_option linter.all false
set_option maxRecDepth 100000
set_option maxHeartbeats 4000000
namespace K75
open PySem PySem.Spec PyProof.Rows L2


section
variable {X : Cx} (K : PySem.W.Frag)
theorem k_sum (h : X.K = K := by rfl) (hc : X.calm = true := by rfl) : CallR X (.builtin "sum") (rSum K) := by
  subst h
  exact cr_sum hc
end
section
variable {P : Program} {w : World} {K : PySem.W.Frag} {mg : Str → Option Value} {base : Heap}
/-! ### Book.asked_by -/
def bitOf (bts : List (Key × V)) (x : Str) : Int := match valV bts (.inr x) with
  | some (.int i) => i
  | _ => 0
/-- what asked_by reads of a book that is being made -/
structure AskAt (C : Addr) (H : Hp) (me : Addr) (ns : List Str) (trs : List Int) (wts : List Want) : Prop where
  ex : ∃ (dx aT aN aTs aB aNd aR aW : Addr) (fs : List (Str × V)) (ts bts nds : List (Key × V)) (r0 r1 r2 r4 r5 r6 r7 : V), H me = some (.ins C dx fs) ∧
    (fs.lookup ("tier_by" : Str) = some (.ref aT) ∧ H aT = some (.dK ts) ∧ ∀ x ∈ ns, ∃ i : Int, valV ts (.inr x) = some (.int i)) ∧
    (fs.lookup ("own_names" : Str) = some (.ref aN) ∧ H aN = some (.lst (ns.map V.str))) ∧
    (fs.lookup ("own_tiers" : Str) = some (.ref aTs) ∧ H aTs = some (.lst (trs.map V.int))) ∧
    (fs.lookup ("bits" : Str) = some (.ref aB) ∧ H aB = some (.dK bts) ∧ ∀ x ∈ ns, valV bts (.inr x) = some (.int (bitOf bts x))) ∧
    (fs.lookup ("own_needs" : Str) = some (.ref aNd) ∧ H aNd = some (.dK nds)) ∧
    (fs.lookup ("record" : Str) = some (.ref aR) ∧ H aR = some (.tup [r0, r1, r2, .ref aW, r4, r5, r6, r7])) ∧
    ∃ tw : List Addr, H aW = some (.tup (tw.map V.ref)) ∧ tw.length = wts.length ∧ ∀ (i : Nat) (t : Addr) (x : Want), tw[i]? = some t → wts[i]? = some x → WantAt H t x
  len : trs.length = ns.length
  le : ns.length ≤ 12 ∧ wts.length ≤ 12
  ok : ∀ x ∈ wts, WantOk ns x
def spAsk (C : Addr) : Sp := fun vs H Q _ => ∃ (me : Addr) (nm : Str) (ns : List Str) (trs : List Int) (wts : List Want), vs = [.ref me, .str nm] ∧ nm ∈ ns ∧ AskAt C H me ns trs wts ∧ ∀ H' p, Same H H' → Q (.ref p) H'
theorem scAsk : FnScope ["self", "name", "tier", "below", "one", "other", "rows", "want", "mask", "many"] ["self", "name"] (defScope sBookAsked) := ⟨rfl, rfl, rfl, by decide +kernel, rfl, by decide +kernel, by decide +kernel⟩
/-- the method keeps its promise -/
structure MtA (P : Program) (w : World) (K : PySem.W.Frag) (mg : Str → Option Value) (base : Heap) (k : Nat) (C : Addr) (m : Str) (sp : Sp) : Prop where
  ex : ∃ (f : Addr) (fd : FuncData) (ps : List Str), Meth K C m f ∧ FnOk P w K mg base CX0 k f fd ps sp ∧ Binds K fd ps []
/-- the method as it stands -/
def DfM (K : PySem.W.Frag) (C : Addr) (m qual : Str) (st : Stmt) : Prop := ∃ (f : Addr) (fd : FuncData), Meth K C m f ∧ FunD K m qual (defArgs st) (defBody st) (defScope st) [] [] f fd
theorem mt_of {C : Addr} {m qual : Str} {st : Stmt} {N ps : List Str} {k : Nat} {sp : Sp} (D : DfM K C m qual st) (S : FnScope N ps (defScope st))
    (hb : ∀ (kV doc pm : Value) (an : Option Addr) (cdv ct : Value) (us : List Value), us.length = ps.length → bindArgs (PySem.W.fnOf m qual (defArgs st) (defBody st) (defScope st) .none kV doc pm an cdv ct) ⟨us, []⟩ = pure (ps.zip us))
    (len : ∀ vs H Q E, sp vs H Q E → vs.length = ps.length)
    (body : ∀ (f : Addr) (cdv : Value) (A : Around) (outer : List Env) (s : Shared) (H : Hp) (vs : List V) (Q : VK) (E : XK), Room k (A.deeper (envOfC qual (defScope st) s.heap.objs.size f cdv)) → sp vs H Q E →
      ∃ t, PSs (cxOf CX0 P w K mg base N qual (defScope st) f cdv A outer s H E).nox (defBody st) t ∧ t { nx := fun _ H' => Q .non H', rt := Q } (start N vs) H) : MtA P w K mg base (k + 1) C m sp := by
  obtain ⟨f, fd, hm, F⟩ := D
  refine ⟨f, fd, ps, hm, F.ok S len fun cdv A outer s H vs Q E hr h => ?_, F.bindsN hb⟩
  obtain ⟨t, h1, h2⟩ := body f cdv A outer s H vs Q E hr h
  exact ⟨t, h1.nox, h2⟩
theorem mt_ask {C : Addr} (T : Tx K mg) (BT : BkT K mg C) (D : DfM K C "asked_by" "Book.asked_by" sBookAsked) : MtA P w K mg base 1 C "asked_by" (spAsk C) := by
  refine mt_of D scAsk (fun _ _ _ _ _ _ us hl => match us, hl with | [_, _], _ => rfl) (fun vs H Q E h => ?_) (fun f cdv A outer s H vs Q E hr h => ?_)
  · obtain ⟨me, nm, ns, trs, wts, rfl, _⟩ := h
    rfl
  · obtain ⟨me, nm, ns, trs, wts, rfl, hnm, ⟨⟨dx, aT, aN, aTs, aB, aNd, aR, aW, fs, ts, bts, nds, r0, r1, r2, r4, r5, r6, r7, hme, ⟨l1, h1, k1⟩, ⟨l2, h2⟩, ⟨l3, h3⟩, ⟨l4, h4, k4⟩, ⟨l5, h5⟩, ⟨l6, h6⟩, tw, h7, h8, h9⟩, hlen, hle, hok⟩, q⟩ := h
    have hu : (A.deeper (envOfC "Book.asked_by" (defScope sBookAsked) s.heap.objs.size f cdv)).units + 1 < cLine := by have := hr.units; omega
    obtain ⟨tier, htier⟩ := k1 nm hnm
    have bit : ∀ {H' : Hp} {x : Str}, Same H H' → x ∈ ns → DGet H' aB (.str x) (some (.int (bitOf bts x))) := fun {H' x} s1 hx => by
      rw [← k4 x hx]
      exact DGet.k (k := Sum.inr x) (s1 _ _ h4)
    refine ⟨_, (pss_cons (ps_asg (pe_dget hu (k_fld K (pv 0)) (pv 1) (fun _ _ => rfl)) (pg_name (i := 2) scAsk.nd rfl (Or.inr rfl))) (pss_cons (ps_asg (pe_callB (k_sum K) (by rfl) T.sum b_sum (pa_cons (pe_lc (own := [("one", 4), ("other", 5)]) (g := gTup K 2 (gCons (gName 4) (gCons (gName 5) gNil))) rfl scAsk.nd (pi_zip (by rfl) T.zip (pa_cons (k_fld K (pv 0)) (pa_cons (k_fld K (pv 0)) pa_nil))) (blkOk_by (N := ["self", "name", "tier", "below", "one", "other", "rows", "want", "mask", "many"]) (sc := defScope sBookAsked) (by decide +kernel)) (fun _ _ _ _ _ => by exact (k_tup K (pgs_cons (pg_name (i := 4) scAsk.nd rfl (Or.inl rfl)) (pgs_cons (pg_name (i := 5) scAsk.nd rfl (Or.inl rfl)) pgs_nil)))) (fun _ _ _ _ _ => by exact (pts_one (pt_cmpR op_lt (pv 5) (pv 2) (nomark _)))) (fun _ _ _ _ _ => by exact (pe_dget hu (k_fld K (pv 0)) (pv 4) (fun _ _ => rfl)))) pa_nil)) (pg_name (i := 3) scAsk.nd rfl (Or.inl rfl))) (pss_cons (ps_asg (pe_lst (pa_cons (pe_tup (pa_cons (pv 3) (pa_cons (pe_dget2 hu (k_fld K (pv 0)) (pv 2) pe_int ⟨rfl, rfl, rfl, rfl⟩) pa_nil))) pa_nil)) (pg_name (i := 6) scAsk.nd rfl (Or.inl rfl))) (pss_cons (ps_for PassesOwn.never rfl (pi_tup (pe_ix (k_ixT K) (k_fld K (pv 0)) pe_int (fun _ _ => rfl))) (pg_name (i := 7) scAsk.nd rfl (Or.inl rfl)) (pss_one (ps_if (pt_cmpR op_eq (pe_ix (k_ixT K) (pv 7) pe_int (fun _ _ => rfl)) (pv 1) (nomark _)) (pss_cons (ps_asg (pe_callB (k_sum K) (by rfl) T.sum b_sum (pa_cons (pe_lc (own := [("one", 4)]) (g := gName 4) (tt := tYes) rfl scAsk.nd (pi_tup (pe_ix (k_ixT K) (pv 7) pe_int (fun _ _ => rfl))) (blkOk_by (N := ["self", "name", "tier", "below", "one", "other", "rows", "want", "mask", "many"]) (sc := defScope sBookAsked) (by decide +kernel)) (fun _ _ _ _ _ => (pg_name (i := 4) scAsk.nd rfl (Or.inl rfl))) (fun _ _ _ _ _ => pts_nil) (fun _ _ _ _ _ => by exact (pe_dget hu (k_fld K (pv 0)) (pv 4) (fun _ _ => rfl)))) pa_nil)) (pg_name (i := 8) scAsk.nd rfl (Or.inl rfl))) (pss_cons (ps_asg (pe_dget hu (pe_disp (pps_cons pe_str (pe_len K (pe_ix (k_ixT K) (pv 7) pe_int (fun _ _ => rfl)) T.len) (pps_cons pe_str pe_int (pps_cons pe_str (pe_ix (k_ixT K) (pv 7) (pe_un un_neg pe_int) (fun _ _ => rfl)) pps_nil))) rfl rfl (by intro z; cases z) (by decide)) (pe_ix (k_ixT K) (pv 7) pe_int (fun _ _ => rfl)) (fun _ _ => rfl)) (pg_name (i := 9) scAsk.nd rfl (Or.inl rfl))) (pss_one (ps_expr (pe_bm PySem.F.plainAttrs_list PySem.F.slot_list_append PySem.F.type_list_append mt_append (pv 6) (pa_cons (pe_tup (pa_cons (pv 8) (pa_cons (pv 9) pa_nil))) pa_nil)))))) pss_nil))) (pss_one (ps_ret (pv 6))))))), ?_⟩
    refine ⟨_, rfl, me, C, dx, fs, _, rfl, hme, BT.cls, BT.nTierBy, l1, _, rfl, aT, _, rfl, (by rw [← htier]; exact DGet.k (k := Sum.inr nm) h1), ?_⟩
    -- below
    refine ⟨_, rfl, me, C, dx, fs, _, rfl, hme, BT.cls, BT.nNames, l2, _, rfl, me, C, dx, fs, _, rfl, hme, BT.cls, BT.nTiers, l3, aN, aTs, _, _, rfl, .of h2, .of h3, fun D hD => ?_⟩
    refine lc_sel (walk_zip (xs := ns.map V.str) (ys := trs.map V.int) rfl) ((ns.zip trs).map fun p => if p.2 < tier then some (V.int (bitOf bts p.1)) else none) (by simp) (by simp; omega) hD (fun H2 s2 => ⟨.of (s2 _ _ h2), .of (s2 _ _ h3)⟩) ?_ ?_
    · rintro i x H2 _ y hy s2 ⟨t, a, b, rfl, ht, rfl, ha, hb⟩ R R0 hR hR0
      have ha : (ns.map V.str)[i]? = some a := ha
      have hb : (trs.map V.int)[i]? = some b := hb
      rw [List.getElem?_map] at ha hb
      obtain ⟨one, ha1, rfl⟩ := Option.map_eq_some_iff.mp ha
      obtain ⟨oth, hb1, rfl⟩ := Option.map_eq_some_iff.mp hb
      have hy2 : (if oth < tier then some (V.int (bitOf bts one)) else none) = y := by
        rw [List.getElem?_map, List.getElem?_zip_eq_some (z := (one, oth)) |>.mpr ⟨ha1, hb1⟩] at hy
        exact Option.some.inj hy
      have s3 : Same H2 (upd H2 t (.tup [.str one, .int oth])) := same_upd (Same.refl _) ht
      refine ⟨t, _, rfl, .of upd_same, rfl, _, _, rfl, _, _, rfl, rfl, rfl, _, rfl, _, rfl, _, _, rfl, rfl, _, rfl, ?_⟩
      by_cases hlt : oth < tier
      · rw [decide_eq_true hlt]
        rw [if_pos hlt] at hy2
        refine iteT ⟨_, rfl, me, C, dx, fs, _, rfl, s3 _ _ (s2 _ _ hme), BT.cls, BT.nBits, l4, _, rfl, aB, _, rfl, bit (s2.trans s3) (mem_at ha1), hR _ _ hy2.symm s3⟩
      · rw [decide_eq_false hlt]
        rw [if_neg hlt] at hy2
        exact iteF (hR0 _ hy2.symm s3)
    intro H2 s2 hD2
    have hints : selV ((ns.zip trs).map fun p => if p.2 < tier then some (V.int (bitOf bts p.1)) else none) = ((ns.zip trs).filterMap fun p => if p.2 < tier then some (bitOf bts p.1) else none).map V.int := by
      unfold selV
      rw [List.filterMap_map, List.map_filterMap]
      congr 1
      funext p
      show (if p.2 < tier then some (V.int (bitOf bts p.1)) else none) = Option.map V.int (if p.2 < tier then some (bitOf bts p.1) else none)
      split <;> rfl
    rw [hints] at hD2
    refine ⟨D, _, rfl, .of hD2, ?_⟩
    -- rows
    refine ⟨_, rfl, _, rfl, me, C, dx, fs, _, rfl, s2 _ _ hme, BT.cls, BT.nNeeds, l5, aNd, rfl, .inl ⟨nds, .inl (s2 _ _ h5)⟩, _, rfl, _, DGet.k (k := Sum.inl tier) (s2 _ _ h5), ?_⟩
    refine ⟨by show 2 ≤ sizeLine; decide, fun p1 hp1 => ⟨by show 1 ≤ sizeLine; decide, fun r hr5 => ?_⟩⟩
    have s3 := s2.trans (same_upd (o := .tup [.int ((ns.zip trs).filterMap fun p => if p.2 < tier then some (bitOf bts p.1) else none).sum, (valV nds (Sum.inl tier)).getD (.int 0)]) (Same.refl H2) hp1)
    have hrH : H r = none := by
      cases e : H r with
      | none => rfl
      | some o =>
        have := s3 _ _ e
        rw [hr5] at this
        cases this
    have s4 := same_upd (o := .lst [.ref p1]) s3 hrH
    generalize hH4 : upd (upd H2 p1 (.tup [.int ((ns.zip trs).filterMap fun p => if p.2 < tier then some (bitOf bts p.1) else none).sum, (valV nds (Sum.inl tier)).getD (.int 0)])) r (.lst [.ref p1]) = H4 at s4 ⊢
    have hr4 : H4 r = some (.lst [.ref p1]) := by rw [← hH4, upd_same]
    clear hH4 s3 hr5 hp1 hD2 hints s2
    refine ⟨_, rfl, me, C, dx, fs, _, rfl, s4 _ _ hme, BT.cls, BT.nRecord, l6, aR, _, _, _, rfl, rfl, .of (s4 _ _ h6), rfl, aW, rfl, ⟨_, .of (s4 _ _ h7)⟩, ?_⟩
    generalize ((ns.zip trs).filterMap fun p => if p.2 < tier then some (bitOf bts p.1) else none).sum = bl
    refine for_it (walk_tup (xs := tw.map V.ref)) (fun i σ H' => Same H H' ∧ (∃ v7 v8 v9 : Option V, σ = [some (.ref me), some (.str nm), some (.int tier), some (.int bl), none, none, some (.ref r), v7, v8, v9]) ∧ ∃ zs, H' r = some (.lst zs) ∧ zs.length ≤ 1 + i)
      ⟨s4, ⟨none, none, none, rfl⟩, _, hr4, Nat.le_refl _⟩ (fun i σ H' _ p => .of (p.1 _ _ h7)) ?_ ?_
    · rintro i x σ _ H5 hi ⟨s5, ⟨v7, v8, v9, rfl⟩, zs, hz, hzl⟩ ⟨rfl, hx⟩
      obtain ⟨t, ht1, rfl⟩ := ref_at hx
      obtain ⟨wt, hwt⟩ := row_at h8 ht1
      obtain ⟨t2, w1, w2⟩ := (h9 i t wt ht1 hwt).same s5
      have O := hok wt (mem_at hwt)
      have i0 : atI (wt.items t2) 0 = some (.str wt.so) := by unfold Want.items; cases wt.m <;> rfl
      have i1 : atI (wt.items t2) 1 = some (.str wt.nm) := by unfold Want.items; cases wt.m <;> rfl
      have i2 : atI (wt.items t2) 2 = some (.ref t2) := by unfold Want.items; cases wt.m <;> rfl
      obtain ⟨lastv, i3⟩ : ∃ z, atI (wt.items t2) (-1) = some z := by unfold Want.items; cases wt.m <;> exact ⟨_, rfl⟩
      have hi12 : i < 12 := by
        rw [List.length_map] at hi
        omega
      refine ⟨_, rfl, t, _, _, _, rfl, rfl, .of w1, i1, _, rfl, rfl, _, rfl, ?_⟩
      by_cases hn : wt.nm = nm
      · rw [decide_eq_true (show V.str wt.nm = V.str nm from congrArg V.str hn)]
        refine iteT ?_
        refine ⟨_, rfl, t, _, _, _, rfl, rfl, .of w1, i2, t2, rfl, ⟨_, .of w2⟩, fun D6 hD6 => ?_⟩
        have hl2 := O.ne
        refine lc_map (walk_tup (xs := wt.l.map V.str)) (wt.l.map fun x => V.int (bitOf bts x)) (by simp) (by rw [List.length_map]; omega) hD6 (fun H7 s7 => .of (s7 _ _ w2)) ?_ ?_
        · rintro j x _ H7 y hy s7 ⟨rfl, hxx⟩ R hR
          obtain ⟨z, hzz, rfl⟩ := str_at hxx
          rw [List.getElem?_map, hzz] at hy
          cases hy
          have hz2 := O.l z (mem_at hzz)
          exact ⟨rfl, _, rfl, me, C, dx, fs, _, rfl, s7 _ _ (s5 _ _ hme), BT.cls, BT.nBits, l4, _, rfl, aB, _, rfl, bit (s5.trans s7) hz2.2.1, hR _ (Same.refl _)⟩
        intro H7 s7 hD7
        have e7 : (wt.l.map fun x => V.int (bitOf bts x)) = (wt.l.map (bitOf bts)).map V.int := by rw [List.map_map]; rfl
        rw [e7] at hD7
        refine ⟨D6, _, rfl, .of hD7, ?_⟩
        -- many
        have w17 := s7 _ _ w1
        have hz7 := s7 _ _ hz
        refine fun p hp => ?_
        have s8 := same_upd (o := .dK []) (Same.refl H7) hp
        refine ⟨_, rfl, t, _, _, _, rfl, rfl, .of (s8 _ _ w17), i2, t2, _, rfl, .inr (.of (s8 _ _ (s7 _ _ w2))), ?_⟩
        refine ⟨_, rfl, _, rfl, t, _, _, _, rfl, rfl, .of (s8 _ _ w17), i3, ?_⟩
        refine ⟨upd_same, [(.inr "all", .int ((wt.l.map V.str).length : Nat)), (.inr "any", .int 1), (.inr "count", lastv)], rfl, by show 3 ≤ 15; decide, ?_⟩
        have s9 : Same H7 (upd (upd H7 p (.dK [])) p (.dK (mergeK [] [(.inr "all", .int ((wt.l.map V.str).length : Nat)), (.inr "any", .int 1), (.inr "count", lastv)]))) := by
          rw [upd_upd]
          exact same_upd (Same.refl _) hp
        have hp9 : (upd (upd H7 p (.dK [])) p (.dK (mergeK [] [(.inr "all", .int ((wt.l.map V.str).length : Nat)), (.inr "any", .int 1), (.inr "count", lastv)]))) p = some (.dK [(.inr "all", .int ((wt.l.map V.str).length : Nat)), (.inr "any", .int 1), (.inr "count", lastv)]) := upd_same
        generalize upd (upd H7 p (.dK [])) p (.dK (mergeK [] [(.inr "all", .int ((wt.l.map V.str).length : Nat)), (.inr "any", .int 1), (.inr "count", lastv)])) = H9 at s9 hp9 ⊢
        refine ⟨_, rfl, t, _, _, _, rfl, rfl, .of (s9 _ _ w17), i0, p, ?_⟩
        have hmany : ∃ many, DGet H9 p (.str wt.so) (some many) := by
          rcases O.so with ⟨e, _⟩ | ⟨e | e, _⟩ <;> rw [e]
          · exact ⟨lastv, DGet.k (k := Sum.inr "count") hp9⟩
          · exact ⟨_, DGet.k (k := Sum.inr "all") hp9⟩
          · exact ⟨_, DGet.k (k := Sum.inr "any") hp9⟩
        obtain ⟨many, hmany⟩ := hmany
        refine ⟨many, rfl, hmany, ?_⟩
        have s10 := s5.trans (s7.trans s9)
        refine ⟨_, rfl, .inl ⟨rfl, _, .of (s9 _ _ hz7)⟩, _, rfl, _, rfl, by show 2 ≤ sizeLine; decide, fun p2 hp2 => ?_⟩
        have s11 := s10.trans (same_upd (o := .tup [.int ((wt.l.map (bitOf bts)).sum), many]) (Same.refl H9) hp2)
        have hz11 : (upd H9 p2 (.tup [.int ((wt.l.map (bitOf bts)).sum), many])) r = some (.lst zs) := (upd_ne (ne_of_none (s9 _ _ hz7) hp2)).trans (s9 _ _ hz7)
        refine ⟨r, zs, .ref p2, rfl, rfl, hz11, Nat.lt_of_le_of_lt (show zs.length ≤ 13 by omega) (by decide), ?_⟩
        exact ⟨same_upd s11 hrH, ⟨_, _, _, rfl⟩, _, upd_same, by rw [List.length_append, List.length_singleton]; omega⟩
      · rw [decide_eq_false (show ¬ V.str wt.nm = V.str nm from fun z => hn (V.str.inj z))]
        exact iteF ⟨s5, ⟨_, _, _, rfl⟩, zs, hz, by omega⟩
    · rintro σ H' ⟨s5, ⟨v7, v8, v9, rfl⟩, _⟩
      exact ⟨_, rfl, q _ _ s5⟩
end
end K75
set_option Elab.async false
set_option linter.all false
set_option maxRecDepth 100000
set_option maxHeartbeats 4000000
namespace K75
open PySem PySem.Spec PyProof.Rows L2


section
variable {X : Cx} (K : PySem.W.Frag)
theorem k_dictP (h : X.K = K := by rfl) (hc : X.calm = true := by rfl) : CallR X (.type "dict") (fun xs H Q => ∃ (a : Addr) (ps : List Addr) (kvs : List (Key × V)), xs = [.ref a] ∧ SqL K H a (ps.map V.ref) ∧ Paired (fun p kv => SqT K H p [kV kv.1, kv.2]) ps kvs ∧ ∀ p, H p = none → Q (.ref p) (upd H p (.dK (mergeK [] kvs)))) := by
  subst h
  exact call_dictP hc
end
/-! ### what is told while a book is made -/
structure BSt (H0 Hk : Hp) (C dx me : Addr) (n : Nat) (l : List (Str × V)) (os : List (Addr × HO)) : Prop where
  k : Same H0 Hk
  z : H0 me = none
  fs : ∃ fs, Hk me = some (.ins C dx fs) ∧ (∀ p ∈ l, fs.lookup p.1 = some p.2) ∧ fs.lookup ("asked_by" : Str) = none ∧ fs.length ≤ n
  has : ∀ p ∈ os, Hk p.1 = some p.2 ∧ p.1 ≠ me
theorem BSt.same {H0 Hk Hj : Hp} {C dx me : Addr} {n : Nat} {l : List (Str × V)} {os : List (Addr × HO)} (h : BSt H0 Hk C dx me n l os) (s : Same Hk Hj) : BSt H0 Hj C dx me n l os := by
  obtain ⟨fs, h1, h2, h3, h4⟩ := h.fs
  exact ⟨h.k.trans s, h.z, ⟨fs, s _ _ h1, h2, h3, h4⟩, fun p hp => ⟨s _ _ (h.has p hp).1, (h.has p hp).2⟩⟩
theorem BSt.add {H0 Hk : Hp} {C dx me : Addr} {n : Nat} {l : List (Str × V)} {os : List (Addr × HO)} (h : BSt H0 Hk C dx me n l os) {a : Addr} {o : HO} (e : Hk a = some o) (ne : ∀ fs, o ≠ .ins C dx fs) : BSt H0 Hk C dx me n l ((a, o) :: os) := by
  obtain ⟨fs, h1, h2, h3, h4⟩ := h.fs
  refine ⟨h.k, h.z, h.fs, fun p hp => ?_⟩
  rcases List.mem_cons.mp hp with rfl | hp
  · exact ⟨e, ne_of e h1 (ne fs)⟩
  · exact h.has p hp
theorem BSt.sub {H0 Hk : Hp} {C dx me : Addr} {n m : Nat} {l l' : List (Str × V)} {os os' : List (Addr × HO)} (h : BSt H0 Hk C dx me n l os) (hl : ∀ p ∈ l', p ∈ l) (ho : ∀ p ∈ os', p ∈ os) (hn : n ≤ m) : BSt H0 Hk C dx me m l' os' := by
  obtain ⟨fs, h1, h2, h3, h4⟩ := h.fs
  exact ⟨h.k, h.z, ⟨fs, h1, fun p hp => h2 p (hl p hp), h3, Nat.le_trans h4 hn⟩, fun p hp => h.has p (ho p hp)⟩
theorem BSt.put {H0 Hk : Hp} {C dx me : Addr} {n : Nat} {l : List (Str × V)} {os : List (Addr × HO)} (h : BSt H0 Hk C dx me n l os) (hn : n ≤ 900) (f : Str) (hf : ∀ p ∈ l, p.1 ≠ f) (ha : ("asked_by" : Str) ≠ f) : ∃ fs, Hk me = some (.ins C dx fs) ∧ fs.length < 1000 ∧ ∀ y, BSt H0 (upd Hk me (.ins C dx (putF f y fs))) C dx me (n + 1) ((f, y) :: l) os := by
  obtain ⟨fs, h1, h2, h3, h4⟩ := h.fs
  refine ⟨fs, h1, by omega, fun y => ⟨same_upd h.k h.z, h.z, ⟨_, upd_same, fun p hp => ?_, ?_, Nat.le_trans (length_putF f y fs) (by omega)⟩, fun p hp => ⟨?_, (h.has p hp).2⟩⟩⟩
  · rw [lookup_putF]
    rcases List.mem_cons.mp hp with rfl | hp
    · rw [if_pos rfl]
    · rw [if_neg (hf p hp)]
      exact h2 p hp
  · rw [lookup_putF, if_neg ha]
    exact h3
  · rw [upd_ne (h.has p hp).2]
    exact (h.has p hp).1
theorem BSt.get {H0 Hk : Hp} {C dx me : Addr} {n : Nat} {l : List (Str × V)} {os : List (Addr × HO)} (h : BSt H0 Hk C dx me n l os) : ∃ fs, Hk me = some (.ins C dx fs) ∧ (∀ p ∈ l, fs.lookup p.1 = some p.2) ∧ fs.lookup ("asked_by" : Str) = none :=
  let ⟨fs, h1, h2, h3, _⟩ := h.fs
  ⟨fs, h1, h2, h3⟩
theorem AskAt.same {C : Addr} {H H' : Hp} {me : Addr} {ns : List Str} {trs : List Int} {wts : List Want} (h : AskAt C H me ns trs wts) (s : Same H H') : AskAt C H' me ns trs wts := by
  obtain ⟨⟨dx, aT, aN, aTs, aB, aNd, aR, aW, fs, ts, bts, nds, r0, r1, r2, r4, r5, r6, r7, hme, ⟨l1, h1, k1⟩, ⟨l2, h2⟩, ⟨l3, h3⟩, ⟨l4, h4, k4⟩, ⟨l5, h5⟩, ⟨l6, h6⟩, tw, h7, h8, h9⟩, a1, a2, a3⟩ := h
  exact ⟨⟨dx, aT, aN, aTs, aB, aNd, aR, aW, fs, ts, bts, nds, r0, r1, r2, r4, r5, r6, r7, s _ _ hme, ⟨l1, s _ _ h1, k1⟩, ⟨l2, s _ _ h2⟩, ⟨l3, s _ _ h3⟩, ⟨l4, s _ _ h4, k4⟩, ⟨l5, s _ _ h5⟩, ⟨l6, s _ _ h6⟩, tw, s _ _ h7, h8, fun i t x e1 e2 => (h9 i t x e1 e2).same s⟩, a1, a2, a3⟩
/-! ### values of merged pairs -/
theorem merge_val {κ : Type} {P : V → Prop} : ∀ (more acc : List (Key × V)) (k : Key), (∀ p ∈ more, P p.2) → (k ∈ more.map (·.1) ∨ ∃ v, valV acc k = some v ∧ P v) → ∃ v, valV (mergeK acc more) k = some v ∧ P v
  | [], acc, k, _, h => by
    rcases h with h | h
    · cases h
    · exact h
  | p :: r, acc, k, hP, h => by
    refine merge_val (κ := κ) r (putK acc p.1 p.2) k (fun q hq => hP q (List.mem_cons_of_mem _ hq)) ?_
    by_cases e : k = p.1
    · refine .inr ⟨p.2, ?_, hP p List.mem_cons_self⟩
      rw [valV_put, if_pos e]
    · rcases h with h | ⟨v, hv, pv⟩
      · rcases List.mem_cons.mp h with h | h
        · exact absurd h e
        · exact .inl h
      · exact .inr ⟨v, by rw [valV_put, if_neg e]; exact hv, pv⟩
theorem cut_drop (xs : List V) (k : Nat) : cutV xs (some (k : Int)) none = xs.drop k := by
  unfold cutV
  rw [HT.sIx_nat, HT.sIx_none]
  by_cases h : k ≤ xs.length
  · rw [Nat.min_eq_left h]
    exact List.take_of_length_le (by rw [List.length_drop]; exact Nat.le_refl _)
  · rw [Nat.min_eq_right (by omega), List.drop_eq_nil_of_le (Nat.le_refl _), List.drop_eq_nil_of_le (by omega), List.take_nil]
theorem cut_take (xs : List V) (k : Nat) : cutV xs none (some (k : Int)) = xs.take k := by
  unfold cutV
  rw [HT.sIx_nat, HT.sIx_none, List.drop_zero, Nat.sub_zero]
  by_cases h : k ≤ xs.length
  · rw [Nat.min_eq_left h]
  · rw [Nat.min_eq_right (by omega), List.take_of_length_le (Nat.le_refl _), List.take_of_length_le (by omega)]
section
variable {P : Program} {w : World} {K : PySem.W.Frag} {mg : Str → Option Value} {base : Heap}
def partsN : List Str := ["skills", "points", "needs", "wants", "bars", "gives", "prices", "reset"]
/-- PARTS as the top leaves it -/
def PaT (K : PySem.W.Frag) (mg : Str → Option Value) : Prop := ∃ a, mg "PARTS" = some (.ref a) ∧ ∀ H, SqT K H a (partsN.map V.str)
/-- a list of pairs, as dict() takes it -/
theorem rows_pairs {H : Hp} {a : Addr} {α : Type} {ss : List α} {row : α → List V} {kv : α → Key × V} (hrow : ∀ p, row p = [kV (kv p).1, (kv p).2]) (R : RowsAt H a (ss.map row)) :
    ∃ ts : List Addr, SqL K H a (ts.map V.ref) ∧ Paired (fun p kv => SqT K H p [kV kv.1, kv.2]) ts (ss.map kv) := by
  obtain ⟨ts, h1, h2, h3⟩ := R
  refine ⟨ts, .of h1, ?_⟩
  rw [List.length_map] at h2
  clear h1
  induction ss generalizing ts with
  | nil =>
    have e : ts = [] := List.eq_nil_of_length_eq_zero h2
    subst e
    exact .nil
  | cons p ss ih =>
    cases ts with
    | nil => cases h2
    | cons t ts =>
      refine .cons ?_ (ih ts (by simpa using h2) fun i t xs e1 e2 => h3 (i + 1) t xs (by simpa using e1) (by simpa using e2))
      rw [← hrow p]
      exact .of (h3 0 t _ rfl rfl)
def spBkI (C : Addr) : Sp := fun vs H Q _ => ∃ (me dx : Addr) (H0 : Hp) (A : BookAd) (b : BookD), vs = [.ref me, .ref A.s, .int b.pts, .ref A.n, .ref A.w, .ref A.b, .ref A.g, .ref A.p, rstV b.rst] ∧ BSt H0 H C dx me 0 [] [] ∧ PartsAt H0 A b ∧ BookOk b ∧
  ∀ H', Same H0 H' → BookAt C H' me b.ns → Q .non H'
theorem scIni : FnScope ["self", "skills", "points", "needs", "wants", "bars", "gives", "prices", "reset", "name", "tier", "one", "other"] ["self", "skills", "points", "needs", "wants", "bars", "gives", "prices", "reset"] (defScope sBookInit) := ⟨rfl, rfl, rfl, by decide +kernel, rfl, by decide +kernel, by decide +kernel⟩
theorem ini_body {C : Addr} {qual : Str} (T : Tx K mg) (hPT : PaT K mg) (BT : BkT K mg C) (cL : Cl P w K mg base CX0 4 "look_at_parts" spLook) (cA : MtA P w K mg base 1 C "asked_by" (spAsk C))
    (f : Addr) (cdv : Value) (A : Around) (outer : List Env) (s : Shared) (H : Hp) (vs : List V) (Q : VK) (E : XK) (hr : Room 4 (A.deeper (envOfC "Book.__init__" (defScope sBookInit) s.heap.objs.size f cdv))) (h : spBkI C vs H Q E) :
    ∃ t, PSs (cxOf CX0 P w K mg base ["self", "skills", "points", "needs", "wants", "bars", "gives", "prices", "reset", "name", "tier", "one", "other"] "Book.__init__" (defScope sBookInit) f cdv A outer s H E).nox (defBody sBookInit) t ∧ t { nx := fun _ H' => Q .non H', rt := Q } (start ["self", "skills", "points", "needs", "wants", "bars", "gives", "prices", "reset", "name", "tier", "one", "other"] vs) H := by
  obtain ⟨me, dx, H0, A', b, rfl, B0, R0, O, q⟩ := h
  have hu : (A.deeper (envOfC "Book.__init__" (defScope sBookInit) s.heap.objs.size f cdv)).units + 1 < cLine := by have := hr.units; omega
  obtain ⟨aP, hPm, hPs⟩ := hPT
  obtain ⟨fA, fdA, psA, hAm, FA, hAb⟩ := cA.ex
  refine ⟨_, (pss_cons (ps_expr (pe_k cL hr (pa_cons (pe_dictZip (by rfl) (by rfl) T.dict (by rfl) T.zip (pa_cons (pe_glob (v := .ref aP) rfl hPm rfl) (pa_cons (pe_tup (pa_cons (pv 1) (pa_cons (pv 2) (pa_cons (pv 3) (pa_cons (pv 4) (pa_cons (pv 5) (pa_cons (pv 6) (pa_cons (pv 7) (pa_cons (pv 8) pa_nil))))))))) pa_nil))) pa_nil))) (pss_cons (ps_fld (pv 0) (pe_tup (pa_cons (pe_tupleOf (by rfl) T.tuple (pv 1)) (pa_cons (pv 2) (pa_cons (pe_tupleOf (by rfl) T.tuple (pv 3)) (pa_cons (pe_tupleOf (by rfl) T.tuple (pv 4)) (pa_cons (pe_tupleOf (by rfl) T.tuple (pv 5)) (pa_cons (pe_tupleOf (by rfl) T.tuple (pv 6)) (pa_cons (pe_tupleOf (by rfl) T.tuple (pv 7)) (pa_cons (pv 8) pa_nil))))))))) (by rfl)) (pss_cons (ps_fld (pv 0) (pv 2) (by rfl)) (pss_cons (ps_fld (pv 0) (pv 8) (by rfl)) (pss_cons (ps_fld (pv 0) (pe_lc (own := [("name", 9), ("tier", 10)]) (g := gTup K 2 (gCons (gName 9) (gCons (gName 10) gNil))) (tt := tYes) rfl scIni.nd (pi_list (pv 1)) (blkOk_by (N := ["self", "skills", "points", "needs", "wants", "bars", "gives", "prices", "reset", "name", "tier", "one", "other"]) (sc := defScope sBookInit) (by decide +kernel)) (fun _ _ _ _ _ => by exact (k_tup K (pgs_cons (pg_name (i := 9) scIni.nd rfl (Or.inl rfl)) (pgs_cons (pg_name (i := 10) scIni.nd rfl (Or.inl rfl)) pgs_nil)))) (fun _ _ _ _ _ => pts_nil) (fun _ _ _ _ _ => by exact (pv 9))) (by rfl)) (pss_cons (ps_fld (pv 0) (pe_lc (own := [("name", 9), ("tier", 10)]) (g := gTup K 2 (gCons (gName 9) (gCons (gName 10) gNil))) (tt := tYes) rfl scIni.nd (pi_list (pv 1)) (blkOk_by (N := ["self", "skills", "points", "needs", "wants", "bars", "gives", "prices", "reset", "name", "tier", "one", "other"]) (sc := defScope sBookInit) (by decide +kernel)) (fun _ _ _ _ _ => by exact (k_tup K (pgs_cons (pg_name (i := 9) scIni.nd rfl (Or.inl rfl)) (pgs_cons (pg_name (i := 10) scIni.nd rfl (Or.inl rfl)) pgs_nil)))) (fun _ _ _ _ _ => pts_nil) (fun _ _ _ _ _ => by exact (pv 10))) (by rfl)) (pss_cons (ps_fld (pv 0) (pe_callTy (k_dictP K) (by rfl) T.dict b_dict (pa_cons (pv 1) pa_nil)) (by rfl)) (pss_cons (ps_fld (pv 0) (pe_lst (pa_cons pe_int pa_nil)) (by rfl)) (pss_cons (ps_for PassesOwn.never rfl (pi_list (pe_slice sl_list (k_fld K (pv 0)) (po_some pe_int) po_none)) (pg_name (i := 9) scIni.nd rfl (Or.inl rfl)) (pss_one (ps_fld (pv 0) (pe_lst (StX.pa_star (k_fld K (pv 0)) (pa_cons (pe_op op_mul (pe_ix (k_ixL K) (k_fld K (pv 0)) (pe_un un_neg pe_int) (fun _ _ => rfl)) pe_int) pa_nil))) (by rfl)))) (pss_cons (ps_fld (pv 0) (pe_dictZip (by rfl) (by rfl) T.dict (by rfl) T.zip (pa_cons (k_fld K (pv 0)) (pa_cons (k_fld K (pv 0)) pa_nil))) (by rfl)) (pss_cons (ps_fld (pv 0) (pe_callTy (k_dictP K) (by rfl) T.dict b_dict (pa_cons (pv 3) pa_nil)) (by rfl)) (pss_cons (ps_fld (pv 0) (pe_callTy (k_dictP K) (by rfl) T.dict b_dict (pa_cons (pv 7) pa_nil)) (by rfl)) (pss_cons (ps_fld (pv 0) (pe_callTy (k_dictP K) (by rfl) T.dict b_dict (pa_cons (pv 6) pa_nil)) (by rfl)) (pss_cons (ps_fld (pv 0) (pe_lc (own := [("one", 11), ("other", 12)]) (g := gTup K 2 (gCons (gName 11) (gCons (gName 12) gNil))) (tt := tYes) rfl scIni.nd (pi_list (pv 5)) (blkOk_by (N := ["self", "skills", "points", "needs", "wants", "bars", "gives", "prices", "reset", "name", "tier", "one", "other"]) (sc := defScope sBookInit) (by decide +kernel)) (fun _ _ _ _ _ => by exact (k_tup K (pgs_cons (pg_name (i := 11) scIni.nd rfl (Or.inl rfl)) (pgs_cons (pg_name (i := 12) scIni.nd rfl (Or.inl rfl)) pgs_nil)))) (fun _ _ _ _ _ => pts_nil) (fun _ _ _ _ _ => by exact (pe_op op_add (pe_dget hu (k_fld K (pv 0)) (pv 11) (fun _ _ => rfl)) (pe_dget hu (k_fld K (pv 0)) (pv 12) (fun _ _ => rfl))))) (by rfl)) (pss_one (ps_fld (pv 0) (pe_lc (own := [("name", 9)]) (g := gName 9) (tt := tYes) rfl scIni.nd (pi_list (k_fld K (pv 0))) (blkOk_by (N := ["self", "skills", "points", "needs", "wants", "bars", "gives", "prices", "reset", "name", "tier", "one", "other"]) (sc := defScope sBookInit) (by decide +kernel)) (fun _ _ _ _ _ => (pg_name (i := 9) scIni.nd rfl (Or.inl rfl))) (fun _ _ _ _ _ => pts_nil) (fun _ _ _ _ _ => by exact (pe_meth (pv 0) BT.cls hAm FA (hr.mono (by decide)) hAb .nil pass0 (pa_cons (pv 9) pa_nil)))) (by rfl))))))))))))))))), ?_⟩
  have step : ∀ {Hk : Hp} {n : Nat} {l : List (Str × V)} {os : List (Addr × HO)} {p : Addr}, BSt H0 Hk C dx me n l os → Hk p = none → ∀ o : HO, ∃ Hn, upd Hk p o = Hn ∧ BSt H0 Hn C dx me n l os ∧ Hn p = some o ∧ Same Hk Hn := fun B hp o => ⟨_, rfl, B.same (same_upd (Same.refl _) hp), upd_same, same_upd (Same.refl _) hp⟩
  have fld : ∀ {Hk : Hp} {n : Nat} {l : List (Str × V)} {os : List (Addr × HO)}, BSt H0 Hk C dx me n l os → n ≤ 900 → ∀ f : Str, (l.map (·.1)).contains f = false → ("asked_by" : Str) ≠ f → ∃ fs, Hk me = some (.ins C dx fs) ∧ fs.length < 1000 ∧ ∀ y, ∃ Hn, upd Hk me (.ins C dx (putF f y fs)) = Hn ∧ BSt H0 Hn C dx me (n + 1) ((f, y) :: l) os := fun B hn f hf ha => by
    obtain ⟨fs, h1, h2, h3⟩ := B.put hn f (fun p hp e => by
      have z : f ∈ _ := List.mem_map.mpr ⟨p, hp, e⟩
      have z2 := List.contains_iff_mem.mpr z
      rw [hf] at z2
      cases z2) ha
    exact ⟨fs, h1, h2, fun y => ⟨_, rfl, h3 y⟩⟩
  -- look_at_parts
  refine ⟨_, rfl, _, rfl, _, rfl, _, rfl, _, rfl, _, rfl, _, rfl, _, rfl, by show 8 ≤ sizeLine; decide, fun t ht => ?_⟩
  obtain ⟨H1, e1, B1, o1, s1⟩ := step B0 ht (.tup [.ref A'.s, .int b.pts, .ref A'.n, .ref A'.w, .ref A'.b, .ref A'.g, .ref A'.p, rstV b.rst])
  rw [e1]
  refine ⟨aP, t, partsN.map Sum.inr, _, rfl, .inr ⟨hPs _, .of o1⟩, rfl, fun d hd => ?_⟩
  obtain ⟨H2, e2, B2, o2, s2⟩ := step B1 hd (.dK (partsK A' b))
  rw [show mergeK [] ((partsN.map (Sum.inr : Str → Key)).zip [.ref A'.s, .int b.pts, .ref A'.n, .ref A'.w, .ref A'.b, .ref A'.g, .ref A'.p, rstV b.rst]) = partsK A' b from rfl, e2]
  refine ⟨d, partsK A' b, A', b, rfl, o2, fun p hp => ?_, R0.same B2.k, O, fun H3 s3 => ?_⟩
  · simp only [partsK, List.mem_cons, List.not_mem_nil, or_false] at hp
    rcases hp with rfl | rfl | rfl | rfl | rfl | rfl | rfl | rfl <;> rfl
  have B3 := B2.same s3
  clear o1 o2 e1 e2 s1 s2 s3 B1 B2 ht hd B0
  -- record
  obtain ⟨tsS, hS, nS, rS⟩ := id R0.ss
  obtain ⟨tsN, hN, _, _⟩ := id R0.nds
  obtain ⟨tsW, hW, nW, rW⟩ := id R0.wts
  obtain ⟨tsB, hB, nB, rB⟩ := id R0.brs
  obtain ⟨tsG, hG, _, _⟩ := id R0.gvs
  obtain ⟨tsP, hP, _, _⟩ := id R0.prs
  refine ⟨_, rfl, .inl ⟨_, _, rfl, .of (B3.k _ _ hS), fun q1 hq1 => ?_⟩⟩
  obtain ⟨H4, e4, B4, _, _⟩ := step B3 hq1 (.tup (tsS.map V.ref))
  rw [e4]
  refine ⟨_, rfl, _, rfl, .inl ⟨_, _, rfl, .of (B4.k _ _ hN), fun q2 hq2 => ?_⟩⟩
  obtain ⟨H5, e5, B5, _, _⟩ := step B4 hq2 (.tup (tsN.map V.ref))
  rw [e5]
  refine ⟨_, rfl, .inl ⟨_, _, rfl, .of (B5.k _ _ hW), fun q3 hq3 => ?_⟩⟩
  obtain ⟨H6, e6, B6, o6, _⟩ := step B5 hq3 (.tup (tsW.map V.ref))
  rw [e6]
  refine ⟨_, rfl, .inl ⟨_, _, rfl, .of (B6.k _ _ hB), fun q4 hq4 => ?_⟩⟩
  obtain ⟨H7, e7, B7, _, s7⟩ := step (B6.add o6 nofun) hq4 (.tup (tsB.map V.ref))
  rw [e7]
  refine ⟨_, rfl, .inl ⟨_, _, rfl, .of (B7.k _ _ hG), fun q5 hq5 => ?_⟩⟩
  obtain ⟨H8, e8, B8, _, _⟩ := step B7 hq5 (.tup (tsG.map V.ref))
  rw [e8]
  refine ⟨_, rfl, .inl ⟨_, _, rfl, .of (B8.k _ _ hP), fun q6 hq6 => ?_⟩⟩
  obtain ⟨H9, e9, B9, _, _⟩ := step B8 hq6 (.tup (tsP.map V.ref))
  rw [e9]
  refine ⟨_, rfl, by show 8 ≤ sizeLine; decide, fun q7 hq7 => ?_⟩
  obtain ⟨Ha, ea, Ba, oa, _⟩ := step B9 hq7 (.tup [.ref q1, .int b.pts, .ref q2, .ref q3, .ref q4, .ref q5, .ref q6, rstV b.rst])
  rw [ea]
  obtain ⟨fs, hme, hl, put⟩ := fld (Ba.add oa nofun) (by decide) "record" rfl (by decide)
  refine ⟨_, rfl, me, C, dx, fs, rfl, hme, BT.cls, BT.nRecord, hl, ?_⟩
  obtain ⟨Hb, eb, Bb⟩ := put (.ref q7)
  rw [eb]
  clear e4 e5 e6 e7 e8 e9 ea eb s7 o6 oa hme hl put B3 B4 B5 B6 B7 B8 B9 Ba hq1 hq2 hq3 hq4 hq5 hq6 hq7
  -- own_points, own_reset
  obtain ⟨fs, hme, hl, put⟩ := fld Bb (by decide) "own_points" rfl (by decide)
  refine ⟨_, rfl, _, rfl, me, C, dx, _, rfl, hme, BT.cls, BT.nPts, hl, ?_⟩
  obtain ⟨Hc, ec, Bc⟩ := put (.int b.pts)
  rw [ec]
  clear ec hme hl put Bb
  obtain ⟨fs, hme, hl, put⟩ := fld Bc (by decide) "own_reset" rfl (by decide)
  refine ⟨_, rfl, _, rfl, me, C, dx, _, rfl, hme, BT.cls, BT.nRst, hl, ?_⟩
  obtain ⟨Hd, ed, Bd⟩ := put (rstV b.rst)
  rw [ed]
  clear ed hme hl put Bc
  -- own_names
  have z12 := O.ss.hi
  have z1 := O.ss.lo
  have sk : ∀ {i : Nat} {xs : List V}, (b.ss.map skRow)[i]? = some xs → ∃ p, b.ss[i]? = some p ∧ xs = [.str p.1, .int p.2] := fun {i xs} e => names_comp (K := K) e
  refine ⟨_, rfl, A'.s, rfl, ⟨_, .of (Bd.k _ _ hS)⟩, fun D hD => ?_⟩
  refine lc_rows (Bd.k _ _ hS) nS (fun i t xs e1 e2 => Bd.k _ _ (rS i t xs e1 e2)) (b.ss.map fun p => V.str p.1) (by simp) (by rw [List.length_map]; omega) hD ?_ ?_
  · intro i t xs H3 y hxs hy s3 ht R' hR
    obtain ⟨p, hp, rfl⟩ := sk hxs
    rw [List.getElem?_map, hp] at hy
    cases hy
    exact ⟨t, _, rfl, .of ht, rfl, _, _, rfl, _, _, rfl, rfl, rfl, _, rfl, hR _ (Same.refl _)⟩
  intro He se hDe
  have hDn : He D = some (.lst (b.ns.map V.str)) := hDe.trans (by rw [BookD.ns, List.map_map]; rfl)
  have Be := (Bd.same se).add hDn nofun
  clear hDe hDn se Bd hD
  obtain ⟨fs, hme, hl, put⟩ := fld Be (by decide) "own_names" rfl (by decide)
  refine ⟨_, rfl, me, C, dx, _, rfl, hme, BT.cls, BT.nNames, hl, ?_⟩
  obtain ⟨Hf, ef, Bf⟩ := put (.ref D)
  rw [ef]
  clear ef hme hl put Be
  -- own_tiers
  refine ⟨_, rfl, A'.s, rfl, ⟨_, .of (Bf.k _ _ hS)⟩, fun D2 hD2 => ?_⟩
  refine lc_rows (Bf.k _ _ hS) nS (fun i t xs e1 e2 => Bf.k _ _ (rS i t xs e1 e2)) (b.ss.map fun p => V.int p.2) (by simp) (by rw [List.length_map]; omega) hD2 ?_ ?_
  · intro i t xs H3 y hxs hy s3 ht R' hR
    obtain ⟨p, hp, rfl⟩ := sk hxs
    rw [List.getElem?_map, hp] at hy
    cases hy
    exact ⟨t, _, rfl, .of ht, rfl, _, _, rfl, _, _, rfl, rfl, rfl, _, rfl, hR _ (Same.refl _)⟩
  intro Hg sg hDg
  have hDt : Hg D2 = some (.lst ((b.ss.map fun p : Str × Int => p.2).map V.int)) := hDg.trans (by rw [List.map_map]; rfl)
  have Bg := (Bf.same sg).add hDt nofun
  clear hDg hDt sg Bf hD2
  obtain ⟨fs, hme, hl, put⟩ := fld Bg (by decide) "own_tiers" rfl (by decide)
  refine ⟨_, rfl, me, C, dx, _, rfl, hme, BT.cls, BT.nTiers, hl, ?_⟩
  obtain ⟨Hh, eh, Bh⟩ := put (.ref D2)
  rw [eh]
  clear eh hme hl put Bg
  -- tier_by
  obtain ⟨ts1, hs1, hp1⟩ := rows_pairs (K := K) (kv := fun p : Str × Int => ((Sum.inr p.1 : Key), V.int p.2)) (fun p => rfl) (R0.ss.same Bh.k)
  refine ⟨_, rfl, A'.s, ts1, _, rfl, hs1, hp1, fun D3 hD3 => ?_⟩
  obtain ⟨Hi, ei, Bi, oi, _⟩ := step Bh hD3 (.dK (mergeK [] (b.ss.map fun p : Str × Int => ((Sum.inr p.1 : Key), V.int p.2))))
  rw [ei]
  have Bi := Bi.add oi nofun
  clear ei oi hs1 hp1 Bh hD3
  obtain ⟨fs, hme, hl, put⟩ := fld Bi (by decide) "tier_by" rfl (by decide)
  refine ⟨_, rfl, me, C, dx, _, rfl, hme, BT.cls, BT.nTierBy, hl, ?_⟩
  obtain ⟨Hj, ej, Bj⟩ := put (.ref D3)
  rw [ej]
  clear ej hme hl put Bi
  -- spots
  refine ⟨by show 1 ≤ sizeLine; decide, fun D4 hD4 => ?_⟩
  obtain ⟨Hk, ek, Bk, ok, _⟩ := step Bj hD4 (.lst [.int 1])
  rw [ek]
  have Bk := Bk.add ok nofun
  clear ek ok Bj hD4
  obtain ⟨fs, hme, hl, put⟩ := fld Bk (by decide) "spots" rfl (by decide)
  refine ⟨_, rfl, me, C, dx, _, rfl, hme, BT.cls, BT.nSpots, hl, ?_⟩
  obtain ⟨Hl, el, Bl⟩ := put (.ref D4)
  rw [el]
  clear el hme hl put Bk
  -- the loop
  obtain ⟨fs, hme, hl, hno⟩ := Bl.get
  refine ⟨_, rfl, me, C, dx, fs, _, rfl, hme, BT.cls, BT.nNames, hl ("own_names", .ref D) (by simp), 1, rfl, D, _, rfl, .of (Bl.has (D, .lst (b.ns.map V.str)) (by simp)).1, fun D5 hD5 => ?_⟩
  rw [show cutV (b.ns.map V.str) (some (1 : Int)) none = (b.ns.map V.str).drop 1 from cut_drop _ 1]
  obtain ⟨Hm, em, Bm, om, _⟩ := step Bl hD5 (.lst ((b.ns.map V.str).drop 1))
  rw [em]
  have Bm := Bm.add om nofun
  clear em hme hl hno fs hD5 Bl
  -- l: what stays; the spots grow
  have Bm2 := Bm.sub (l' := [("spots", .ref D4), ("tier_by", .ref D3), ("own_tiers", .ref D2), ("own_names", .ref D), ("record", .ref q7)])
    (os' := [(D4, .lst [.int 1]), (D5, .lst ((b.ns.map V.str).drop 1)), (D3, .dK (mergeK [] (b.ss.map fun p : Str × Int => ((Sum.inr p.1 : Key), V.int p.2)))), (D2, .lst ((b.ss.map fun p : Str × Int => p.2).map V.int)), (D, .lst (b.ns.map V.str)), (q7, .tup [.ref q1, .int b.pts, .ref q2, .ref q3, .ref q4, .ref q5, .ref q6, rstV b.rst]), (q3, .tup (tsW.map V.ref))])
    (m := 8) (by simp) (by simp) (by decide)
  clear Bm
  have nlen : b.ns.length = b.ss.length := by rw [BookD.ns, List.length_map]
  refine ⟨D5, rfl, ⟨_, .of (Bm2.has (D5, .lst ((b.ns.map V.str).drop 1)) (by simp)).1⟩, ?_⟩
  refine for_list (K := K) (a := D5) (xs := (b.ns.map V.str).drop 1) (fun i σ H' => ∃ (v : Option V) (aSp : Addr) (sp : List Int), σ = [some (.ref me), some (.ref A'.s), some (.int b.pts), some (.ref A'.n), some (.ref A'.w), some (.ref A'.b), some (.ref A'.g), some (.ref A'.p), some (rstV b.rst), v, none, none, none] ∧ sp.length = i + 1 ∧
    BSt H0 H' C dx me (8 + i) [("spots", .ref aSp), ("tier_by", .ref D3), ("own_tiers", .ref D2), ("own_names", .ref D), ("record", .ref q7)]
      [(aSp, .lst (sp.map V.int)), (D5, .lst ((b.ns.map V.str).drop 1)), (D3, .dK (mergeK [] (b.ss.map fun p : Str × Int => ((Sum.inr p.1 : Key), V.int p.2)))), (D2, .lst ((b.ss.map fun p : Str × Int => p.2).map V.int)), (D, .lst (b.ns.map V.str)), (q7, .tup [.ref q1, .int b.pts, .ref q2, .ref q3, .ref q4, .ref q5, .ref q6, rstV b.rst]), (q3, .tup (tsW.map V.ref))])
    ⟨none, D4, [1], rfl, rfl, Bm2⟩ (fun i σ H' _ ⟨_, _, _, _, _, B⟩ => .of (B.has (D5, .lst ((b.ns.map V.str).drop 1)) (by simp)).1) ?_ ?_
  · rintro i x σ H' hx ⟨v, aSp, sp, rfl, hlen, B⟩
    have hi : i < 12 := by
      have z := (List.getElem?_eq_some_iff.mp hx).1
      rw [List.length_drop, List.length_map] at z
      omega
    obtain ⟨fs, hme, hl, hno⟩ := B.get
    obtain ⟨pre, lst, rfl⟩ : ∃ pre lst, sp = pre ++ [lst] := ⟨sp.dropLast, sp.getLast (by intro e; rw [e] at hlen; cases hlen), (List.dropLast_concat_getLast _).symm⟩
    have hsp : H' aSp = some (.lst ((pre ++ [lst]).map V.int)) := (B.has (aSp, .lst ((pre ++ [lst]).map V.int)) (by simp)).1
    have hlast : atI ((pre ++ [lst]).map V.int) (-1) = some (.int lst) := by
      rw [List.map_append]
      exact atI_last _ _
    refine ⟨_, rfl, me, C, dx, fs, _, rfl, hme, BT.cls, BT.nSpots, hl ("spots", .ref aSp) (by simp), aSp, _, rfl, .inr (.of hsp), ?_⟩
    refine ⟨_, rfl, me, C, dx, fs, _, rfl, hme, BT.cls, BT.nSpots, hl ("spots", .ref aSp) (by simp), _, rfl, aSp, _, _, _, rfl, rfl, .of hsp, hlast, lst, 2, rfl, rfl, .inr ⟨by decide, by decide⟩, ?_⟩
    refine ⟨?_, fun p hp => ?_⟩
    · rw [List.length_append, List.length_map, hlen]
      exact Nat.le_trans (show i + 1 + 1 ≤ 14 by omega) (by decide)
    obtain ⟨Hn, en, Bn, on, _⟩ := step B hp (.lst ((pre ++ [lst]).map V.int ++ [.int (lst * 2)]))
    rw [en]
    have Bn := (Bn.add on nofun).sub (l' := [("tier_by", .ref D3), ("own_tiers", .ref D2), ("own_names", .ref D), ("record", .ref q7)])
      (os' := [(p, .lst ((pre ++ [lst]).map V.int ++ [.int (lst * 2)])), (D5, .lst ((b.ns.map V.str).drop 1)), (D3, .dK (mergeK [] (b.ss.map fun p : Str × Int => ((Sum.inr p.1 : Key), V.int p.2)))), (D2, .lst ((b.ss.map fun p : Str × Int => p.2).map V.int)), (D, .lst (b.ns.map V.str)), (q7, .tup [.ref q1, .int b.pts, .ref q2, .ref q3, .ref q4, .ref q5, .ref q6, rstV b.rst]), (q3, .tup (tsW.map V.ref))])
      (m := 8 + i) (by simp) (by simp) (Nat.le_refl _)
    obtain ⟨fs2, hme2, hl2, put⟩ := fld Bn (by omega) "spots" rfl (by decide)
    refine ⟨_, rfl, me, C, dx, _, rfl, hme2, BT.cls, BT.nSpots, hl2, ?_⟩
    obtain ⟨Ho, eo, Bo⟩ := put (.ref p)
    rw [eo]
    refine ⟨_, p, (pre ++ [lst]) ++ [lst * 2], rfl, by rw [List.length_append, hlen]; rfl, ?_⟩
    rw [List.map_append]
    exact Bo
  rintro σ H' ⟨v, aSp, sp, rfl, hlen, B⟩
  rw [List.length_drop, List.length_map] at hlen B
  have hsl : sp.length = b.ns.length := by omega
  -- bits
  have Bp := B.sub (l' := [("spots", .ref aSp), ("tier_by", .ref D3), ("own_tiers", .ref D2), ("own_names", .ref D), ("record", .ref q7)])
    (os' := [(aSp, .lst (sp.map V.int)), (D3, .dK (mergeK [] (b.ss.map fun p : Str × Int => ((Sum.inr p.1 : Key), V.int p.2)))), (D2, .lst ((b.ss.map fun p : Str × Int => p.2).map V.int)), (D, .lst (b.ns.map V.str)), (q7, .tup [.ref q1, .int b.pts, .ref q2, .ref q3, .ref q4, .ref q5, .ref q6, rstV b.rst]), (q3, .tup (tsW.map V.ref))])
    (m := 20) (by simp) (by simp) (by omega)
  clear B Bm2
  obtain ⟨fs, hme, hl, hno⟩ := Bp.get
  refine ⟨_, rfl, me, C, dx, fs, _, rfl, hme, BT.cls, BT.nNames, hl ("own_names", .ref D) (by simp), _, rfl, me, C, dx, fs, _, rfl, hme, BT.cls, BT.nSpots, hl ("spots", .ref aSp) (by simp), ?_⟩
  refine ⟨D, aSp, b.ns.map Sum.inr, sp.map V.int, rfl, .inl ⟨?_, .of (Bp.has (aSp, .lst (sp.map V.int)) (by simp)).1⟩, by simp [hsl], fun D6 hD6 => ?_⟩
  · rw [List.map_map]
    exact .of (Bp.has (D, .lst (b.ns.map V.str)) (by simp)).1
  obtain ⟨bts, hbts⟩ : ∃ bts, bts = mergeK [] ((b.ns.map (Sum.inr : Str → Key)).zip (sp.map V.int)) := ⟨_, rfl⟩
  rw [← hbts]
  have hbit : ∀ x ∈ b.ns, valV bts (.inr x) = some (.int (bitOf bts x)) := fun x hx => by
    obtain ⟨v, h1, i, rfl⟩ := merge_val (κ := Unit) (P := fun v => ∃ i, v = V.int i) ((b.ns.map (Sum.inr : Str → Key)).zip (sp.map V.int)) [] (.inr x) (fun p hp => by
      obtain ⟨i, _, e⟩ := List.mem_map.mp (List.of_mem_zip hp).2
      exact ⟨i, e.symm⟩) (.inl (by
      rw [List.map_fst_zip (by simp [hsl])]
      exact List.mem_map.mpr ⟨x, hx, rfl⟩))
    rw [← hbts] at h1
    unfold bitOf
    rw [h1]
  clear hbts hme hl hno
  obtain ⟨Hq, eq, Bq, oq, _⟩ := step Bp hD6 (.dK bts)
  rw [eq]
  have Bq := Bq.add oq nofun
  clear eq oq Bp hD6
  obtain ⟨fs, hme, hl, put⟩ := fld Bq (by decide) "bits" rfl (by decide)
  refine ⟨_, rfl, me, C, dx, _, rfl, hme, BT.cls, BT.nBits, hl, ?_⟩
  obtain ⟨Hr, er, Br⟩ := put (.ref D6)
  rw [er]
  clear er hme hl put Bq
  -- own_needs
  obtain ⟨ts1, hs1, hp1⟩ := rows_pairs (K := K) (kv := fun p : Int × Int => ((Sum.inl p.1 : Key), V.int p.2)) (fun p => rfl) (R0.nds.same Br.k)
  refine ⟨_, rfl, A'.n, ts1, _, rfl, hs1, hp1, fun D7 hD7 => ?_⟩
  obtain ⟨Hs, es, Bs, os, _⟩ := step Br hD7 (.dK (mergeK [] (b.nds.map fun p : Int × Int => ((Sum.inl p.1 : Key), V.int p.2))))
  rw [es]
  have Bs := Bs.add os nofun
  clear es os hs1 hp1 Br hD7
  obtain ⟨fs, hme, hl, put⟩ := fld Bs (by decide) "own_needs" rfl (by decide)
  refine ⟨_, rfl, me, C, dx, _, rfl, hme, BT.cls, BT.nNeeds, hl, ?_⟩
  obtain ⟨Ht, et, Bt⟩ := put (.ref D7)
  rw [et]
  clear et hme hl put Bs
  -- own_prices
  obtain ⟨ts1, hs1, hp1⟩ := rows_pairs (K := K) (kv := fun p : Str × Int => ((Sum.inr p.1 : Key), V.int p.2)) (fun p => rfl) (R0.prs.same Bt.k)
  refine ⟨_, rfl, A'.p, ts1, _, rfl, hs1, hp1, fun D8 hD8 => ?_⟩
  obtain ⟨Hu, eu, Bu, _, _⟩ := step Bt hD8 (.dK (mergeK [] (b.prs.map fun p : Str × Int => ((Sum.inr p.1 : Key), V.int p.2))))
  rw [eu]
  clear eu hs1 hp1 Bt hD8
  obtain ⟨fs, hme, hl, put⟩ := fld Bu (by decide) "own_prices" rfl (by decide)
  refine ⟨_, rfl, me, C, dx, _, rfl, hme, BT.cls, BT.nPrices, hl, ?_⟩
  obtain ⟨Hv, ev, Bv⟩ := put (.ref D8)
  rw [ev]
  clear ev hme hl put Bu
  -- own_given
  obtain ⟨ts1, hs1, hp1⟩ := rows_pairs (K := K) (kv := fun p : Str × Int => ((Sum.inr p.1 : Key), V.int p.2)) (fun p => rfl) (R0.gvs.same Bv.k)
  refine ⟨_, rfl, A'.g, ts1, _, rfl, hs1, hp1, fun D9 hD9 => ?_⟩
  obtain ⟨Hw, ew, Bw, _, _⟩ := step Bv hD9 (.dK (mergeK [] (b.gvs.map fun p : Str × Int => ((Sum.inr p.1 : Key), V.int p.2))))
  rw [ew]
  clear ew hs1 hp1 Bv hD9
  obtain ⟨fs, hme, hl, put⟩ := fld Bw (by decide) "own_given" rfl (by decide)
  refine ⟨_, rfl, me, C, dx, _, rfl, hme, BT.cls, BT.nGiven, hl, ?_⟩
  obtain ⟨Hx, ex, Bx⟩ := put (.ref D9)
  rw [ex]
  clear ex hme hl put Bw
  -- barred
  have bit : ∀ {H' : Hp} {x : Str}, H' D6 = some (.dK bts) → x ∈ b.ns → DGet H' D6 (.str x) (some (.int (bitOf bts x))) := fun {H' x} h hx => by
    rw [← hbit x hx]
    exact DGet.k (k := Sum.inr x) h
  have h6 := (Bx.has (D6, .dK bts) (by simp)).1
  refine ⟨_, rfl, A'.b, rfl, ⟨_, .of (Bx.k _ _ hB)⟩, fun Da hDa => ?_⟩
  obtain ⟨fs, hme, hl, hno⟩ := Bx.get
  refine lc_rows (Bx.k _ _ hB) nB (fun i t xs e1 e2 => Bx.k _ _ (rB i t xs e1 e2)) (b.brs.map fun p => V.int (bitOf bts p.1 + bitOf bts p.2)) (by simp) (by rw [List.length_map]; have := O.brs.le; omega) hDa ?_ ?_
  · intro i t xs H3 y hxs hy s3 ht R' hR
    rw [List.getElem?_map] at hxs
    obtain ⟨p, hp, rfl⟩ := Option.map_eq_some_iff.mp hxs
    rw [List.getElem?_map, hp] at hy
    cases hy
    have wp := O.brs.wd p (mem_at hp)
    refine ⟨t, _, rfl, .of ht, rfl, _, _, rfl, _, _, rfl, rfl, rfl, ?_⟩
    refine ⟨_, rfl, me, C, dx, fs, _, rfl, s3 _ _ hme, BT.cls, BT.nBits, hl ("bits", .ref D6) (by simp), _, rfl, D6, _, rfl, bit (s3 _ _ h6) wp.1.2, ?_⟩
    exact ⟨_, rfl, me, C, dx, fs, _, rfl, s3 _ _ hme, BT.cls, BT.nBits, hl ("bits", .ref D6) (by simp), _, rfl, D6, _, rfl, bit (s3 _ _ h6) wp.2.1.2, _, _, rfl, rfl, hR _ (Same.refl _)⟩
  intro Hy sy hDy
  have By := Bx.same sy
  clear hDy hDa hme hl hno Bx h6 sy
  obtain ⟨fs, hme, hl, put⟩ := fld By (by decide) "barred" rfl (by decide)
  refine ⟨_, rfl, me, C, dx, _, rfl, hme, BT.cls, BT.nBarred, hl, ?_⟩
  obtain ⟨Hz, ez, Bz⟩ := put (.ref Da)
  rw [ez]
  clear ez hme hl put By
  -- asked
  obtain ⟨fs, hme, hl, hno⟩ := Bz.get
  have AA : AskAt C Hz me b.ns (b.ss.map fun p : Str × Int => p.2) b.wts := by
    refine ⟨⟨dx, D3, D, D2, D6, D7, q7, q3, fs, _, bts, _, _, _, _, _, _, _, _, hme, ⟨hl ("tier_by", .ref D3) (by simp), (Bz.has (D3, .dK (mergeK [] (b.ss.map fun p : Str × Int => ((Sum.inr p.1 : Key), V.int p.2)))) (by simp)).1, fun x hx => ?_⟩, ⟨hl ("own_names", .ref D) (by simp), (Bz.has (D, .lst (b.ns.map V.str)) (by simp)).1⟩,
      ⟨hl ("own_tiers", .ref D2) (by simp), (Bz.has (D2, .lst ((b.ss.map fun p : Str × Int => p.2).map V.int)) (by simp)).1⟩, ⟨hl ("bits", .ref D6) (by simp), (Bz.has (D6, .dK bts) (by simp)).1, hbit⟩, ⟨hl ("own_needs", .ref D7) (by simp), (Bz.has (D7, .dK (mergeK [] (b.nds.map fun p : Int × Int => ((Sum.inl p.1 : Key), V.int p.2)))) (by simp)).1⟩,
      ⟨hl ("record", .ref q7) (by simp), (Bz.has (q7, .tup [.ref q1, .int b.pts, .ref q2, .ref q3, .ref q4, .ref q5, .ref q6, rstV b.rst]) (by simp)).1⟩, tsW, (Bz.has (q3, .tup (tsW.map V.ref)) (by simp)).1, nW, fun i t x e1 e2 => (rW i t x e1 e2).same Bz.k⟩, by rw [List.length_map, nlen], ⟨by omega, O.wle⟩, O.wts⟩
    obtain ⟨v, h1, i, rfl⟩ := merge_val (κ := Unit) (P := fun v => ∃ i, v = V.int i) (b.ss.map fun p : Str × Int => ((Sum.inr p.1 : Key), V.int p.2)) [] (.inr x) (fun p hp => by
      obtain ⟨z, _, rfl⟩ := List.mem_map.mp hp
      exact ⟨_, rfl⟩) (.inl (by
      rw [List.map_map]
      obtain ⟨z, hz, rfl⟩ := List.mem_map.mp hx
      exact List.mem_map.mpr ⟨z, hz, rfl⟩))
    exact ⟨i, h1⟩
  have hN2 := (Bz.has (D, .lst (b.ns.map V.str)) (by simp)).1
  refine ⟨_, rfl, me, C, dx, fs, _, rfl, hme, BT.cls, BT.nNames, hl ("own_names", .ref D) (by simp), D, rfl, ⟨_, .of hN2⟩, fun Db hDb => ?_⟩
  refine lc_it (walk_list (xs := b.ns.map V.str)) (fun i H' => Same Hz H' ∧ ∃ zs, H' Db = some (.lst zs) ∧ zs.length = i) ⟨same_upd (Same.refl _) hDb, [], upd_same, rfl⟩ (fun i H' _ p => .of (p.1 _ _ hN2)) ?_ ?_
  · rintro i x _ H' hi ⟨s3, zs, hz, hzl⟩ ⟨rfl, hx⟩
    obtain ⟨x, hxx, rfl⟩ := str_at hx
    refine ⟨rfl, ?_⟩
    refine ⟨_, rfl, me, dx, fs, rfl, s3 _ _ hme, hno, _, rfl, me, x, b.ns, b.ss.map fun p : Str × Int => p.2, b.wts, rfl, mem_at hxx, AA.same s3, fun H4 p s4 => ?_⟩
    refine ⟨zs, s4 _ _ hz, ?_, same_upd (s3.trans s4) hDb, _, upd_same, by rw [List.length_append, hzl]; rfl⟩
    rw [List.length_map] at hi
    exact Nat.lt_of_le_of_lt (show zs.length ≤ 12 by omega) (by decide)
  rintro H' ⟨s3, zs, hz, hzl⟩
  have Bf := Bz.same s3
  obtain ⟨fs, hme, hl, put⟩ := fld Bf (by decide) "asked" rfl (by decide)
  refine ⟨_, rfl, me, C, dx, _, rfl, hme, BT.cls, BT.nAsked, hl, ?_⟩
  obtain ⟨Hend, ee, Be⟩ := put (.ref Db)
  rw [ee]
  obtain ⟨fs, hme, hl, hno⟩ := Be.get
  exact q _ Be.k ⟨dx, D, fs, hme, hl ("own_names", .ref D) (by simp), (Be.has (D, .lst (b.ns.map V.str)) (by simp)).1⟩
end
end K75
set_option Elab.async false
set_option linter.all false
set_option maxRecDepth 100000
set_option maxHeartbeats 4000000
namespace K75
open PySem PySem.Spec PyProof.Rows L2


section
variable {X : Cx} (K : PySem.W.Frag)
theorem k_listOf (h : X.K = K := by rfl) : CallR X (.type "list") (fun xs H Q => ∃ p ys, xs = [.ref p] ∧ (SqL K H p ys ∨ SqT K H p ys) ∧ ∀ l, H l = none → Q (.ref l) (upd H l (.lst ys))) := by
  subst h
  exact call_list_of
end
section
variable {P : Program} {w : World} {K : PySem.W.Frag} {mg : Str → Option Value} {base : Heap}
/-! ### the law's own numbers -/
/-- what stands but at p stands -/
def KB (p : Addr) (H H' : Hp) : Prop := ∀ c o, c ≠ p → H c = some o → H' c = some o
theorem KB.refl {p : Addr} {H : Hp} : KB p H H := fun _ _ _ e => e
theorem KB.trans {p : Addr} {H H1 H2 : Hp} (a : KB p H H1) (b : KB p H1 H2) : KB p H H2 := fun c o n e => b c o n (a c o n e)
theorem KB.same {p : Addr} {H H1 : Hp} (s : Same H H1) : KB p H H1 := fun c o _ e => s c o e
theorem KB.upd {p : Addr} {H : Hp} {o : HO} : KB p H (upd H p o) := fun c u n e => by rw [upd_ne n]; exact e
def PoolAt (H : Hp) (p : Addr) : Prop := ∃ a b : Int, H p = some (.lst [.int a, .int b]) ∧ 0 ≤ b ∧ b < 2147483647
theorem PoolAt.same {H H' : Hp} {p : Addr} (h : PoolAt H p) (s : Same H H') : PoolAt H' p := let ⟨a, b, e, r⟩ := h; ⟨a, b, s _ _ e, r⟩
/-- the pool at p, all that G tells stands -/
structure PS (G : Hp) (p : Addr) (H : Hp) : Prop where
  s : Same G H
  z : G p = none
  pool : PoolAt H p
theorem PS.kb {G H H' : Hp} {p : Addr} (h : PS G p H) (k : KB p H H') (q : PoolAt H' p) : PS G p H' := ⟨fun c o e => k c o (ne_of_none e h.z) (h.s c o e), h.z, q⟩
theorem PS.same {G H H' : Hp} {p : Addr} (h : PS G p H) (s : Same H H') : PS G p H' := ⟨h.s.trans s, h.z, h.pool.same s⟩
theorem PS.ext {G H : Hp} {p : Addr} (h : PS G p H) : ∃ G', PS G' p H ∧ Same G G' ∧ ∀ c o, c ≠ p → H c = some o → G' c = some o := by
  refine ⟨fun c => if c = p then none else H c, ⟨fun c o e => ?_, if_pos rfl, h.pool⟩, fun c o e => ?_, fun c o n e => ?_⟩
  · by_cases n : c = p
    · have e' : (if c = p then none else H c) = some o := e
      rw [if_pos n] at e'
      cases e'
    · have e' : (if c = p then none else H c) = some o := e
      rw [if_neg n] at e'
      exact e'
  · have n := ne_of_none e h.z
    show (if c = p then none else H c) = some o
    rw [if_neg n]
    exact h.s c o e
  · show (if c = p then none else H c) = some o
    rw [if_neg n]
    exact e
theorem cmul_b (i : Int) (b : Bool) : CMul i (if b = true then 1 else 0) := .inr (by cases b <;> exact ⟨by decide, by decide⟩)
def spPool (K : PySem.W.Frag) : Sp := fun vs H Q _ => ∃ (a : Addr) (ns : List Int) (k : Nat), vs = [.ref a, .int k] ∧ SqL K H a (ns.map V.int) ∧ k ≤ 8 ∧ ∀ H' p, Same H H' → PoolAt H' p → H p = none → Q (.ref p) H'
theorem scPool : FnScope ["_law_script", "_law_k", "_law_cell", "_law_big", "_law_mixed"] ["_law_script", "_law_k"] (defScope sLawPool) := ⟨rfl, rfl, rfl, by decide +kernel, rfl, by decide +kernel, by decide +kernel⟩
theorem cl_pool (T : Tx K mg) (D : Df K mg "_law_pool" sLawPool) : Cl P w K mg base CX0 1 "_law_pool" (spPool K) := by
  refine cl_of D scPool (fun _ _ _ _ _ _ us hl => match us, hl with | [_, _], _ => rfl) (fun vs H Q E h => ?_) (fun f cdv A outer s H vs Q E hr h => ?_)
  · obtain ⟨a, ns, k, rfl, _⟩ := h
    rfl
  · obtain ⟨a, ns, k, rfl, ha, hk, q⟩ := h
    refine ⟨_, (pss_cons (ps_asg pe_int (pg_name (i := 2) scPool.nd rfl (Or.inl rfl))) (pss_cons (ps_if (pt_cmpR op_lt (pv 1) (pe_len K (pv 0) T.len) (nomark _)) (pss_one (ps_asg (pe_ix (k_ixL K) (pv 0) (pv 1) (fun _ _ => rfl)) (pg_name (i := 2) scPool.nd rfl (Or.inl rfl)))) pss_nil) (pss_cons (ps_asg (pe_callB (call_max2 rfl) (by rfl) T.max b_max (pa_cons (pe_callTy call_int1 (by rfl) T.int b_int (pa_cons (pv 2) pa_nil)) (pa_cons (pe_callTy call_int1 (by rfl) T.int b_int (pa_cons (pe_op op_sub (pe_un un_neg pe_int) (pv 2)) pa_nil)) pa_nil))) (pg_name (i := 3) scPool.nd rfl (Or.inl rfl))) (pss_cons (ps_asg (pe_op op_mod (pe_callTy call_int1 (by rfl) T.int b_int (pa_cons (pe_op op_mul (pe_op op_add (pe_op op_add (pe_op op_add (pe_op op_mod (pe_callTy call_int1 (by rfl) T.int b_int (pa_cons (pv 3) pa_nil)) pe_int) (pe_op op_mul (pe_op op_mul pe_int (pv 1)) (pv 1))) (pe_op op_mul pe_int (pv 1))) pe_int) pe_int) pa_nil)) pe_int) (pg_name (i := 4) scPool.nd rfl (Or.inl rfl))) (pss_one (ps_ret (pe_lst (pa_cons (pe_op op_mul (pv 3) (pe_callTy call_int1 (by rfl) T.int b_int (pa_cons (pe_cmpR op_ge (pv 3) (pe_op op_pow pe_int pe_int) (nomark _)) pa_nil))) (pa_cons (pv 4) pa_nil))))))))), ?_⟩
    refine ⟨_, rfl, _, rfl, a, _, rfl, .inl ha, _, _, rfl, rfl, _, rfl, ?_⟩
    by_cases hlt : ((k : Nat) : Int) < ((ns.map V.int).length : Nat)
    · rw [decide_eq_true hlt]
      have hj : k < ns.length := by
        rw [List.length_map] at hlt
        omega
      refine iteT ⟨_, rfl, _, rfl, a, _, _, .int (ns[k]), rfl, rfl, ha, atI_nat (by rw [List.getElem?_map, List.getElem?_eq_getElem hj]; rfl), ?_⟩
      refine ⟨_, rfl, .inl ⟨_, rfl, _, rfl, _, rfl, _, _, rfl, rfl, .inl ⟨_, rfl, _, _, rfl, ?_⟩⟩⟩
      refine ⟨_, rfl, .inl ⟨_, rfl, _, _, rfl, rfl, (by decide : (0 : Int) < 2147483629), ?_⟩⟩
      refine ⟨_, rfl, _, _, rfl, rfl, (.inl ⟨by decide, by decide⟩ : CMul 7919 _), _, rfl, _, _, rfl, rfl, (.inr ⟨by omega, by omega⟩ : CMul _ ((k : Nat) : Int)), _, _, rfl, rfl, ?_⟩
      refine ⟨_, rfl, _, _, rfl, rfl, (.inl ⟨by decide, by decide⟩ : CMul 31 _), _, _, rfl, rfl, _, _, rfl, rfl, _, _, rfl, rfl, (.inr ⟨by decide, by decide⟩ : CMul _ 48271), ?_⟩
      refine .inl ⟨_, rfl, _, _, rfl, rfl, (by decide : (0 : Int) < 2147483647), ?_⟩
      refine ⟨_, rfl, _, rfl, _, _, rfl, rfl, (⟨by decide, by decide, by decide⟩ : CPow 10 18), _, _, rfl, rfl, .inr ⟨_, rfl, _, _, rfl, rfl, cmul_b _ _, ?_⟩⟩
      refine ⟨_, rfl, by show 2 ≤ sizeLine; decide, fun p hp => ?_⟩
      exact q _ p (same_upd (Same.refl _) hp) ⟨_, _, upd_same, Int.emod_nonneg _ (by decide), Int.emod_lt_of_pos _ (by decide)⟩ hp
    · rw [decide_eq_false hlt]
      refine iteF ?_
      refine ⟨_, rfl, .inl ⟨_, rfl, _, rfl, _, rfl, _, _, rfl, rfl, .inl ⟨_, rfl, _, _, rfl, ?_⟩⟩⟩
      refine ⟨_, rfl, .inl ⟨_, rfl, _, _, rfl, rfl, (by decide : (0 : Int) < 2147483629), ?_⟩⟩
      refine ⟨_, rfl, _, _, rfl, rfl, (.inl ⟨by decide, by decide⟩ : CMul 7919 _), _, rfl, _, _, rfl, rfl, (.inr ⟨by omega, by omega⟩ : CMul _ ((k : Nat) : Int)), _, _, rfl, rfl, ?_⟩
      refine ⟨_, rfl, _, _, rfl, rfl, (.inl ⟨by decide, by decide⟩ : CMul 31 _), _, _, rfl, rfl, _, _, rfl, rfl, _, _, rfl, rfl, (.inr ⟨by decide, by decide⟩ : CMul _ 48271), ?_⟩
      refine .inl ⟨_, rfl, _, _, rfl, rfl, (by decide : (0 : Int) < 2147483647), ?_⟩
      refine ⟨_, rfl, _, rfl, _, _, rfl, rfl, (⟨by decide, by decide, by decide⟩ : CPow 10 18), _, _, rfl, rfl, .inr ⟨_, rfl, _, _, rfl, rfl, cmul_b _ _, ?_⟩⟩
      refine ⟨_, rfl, by show 2 ≤ sizeLine; decide, fun p hp => ?_⟩
      exact q _ p (same_upd (Same.refl _) hp) ⟨_, _, upd_same, Int.emod_nonneg _ (by decide), Int.emod_lt_of_pos _ (by decide)⟩ hp
def spTake : Sp := fun vs H Q _ => ∃ (p : Addr) (bd : Int), vs = [.ref p, .int bd] ∧ PoolAt H p ∧ 1 ≤ bd ∧ bd ≤ 1000000 ∧ ∀ H' r, KB p H H' → PoolAt H' p → 0 ≤ r → r < bd → Q (.int r) H'
theorem scTake : FnScope ["_law_pool_here", "_law_bound", "_law_result"] ["_law_pool_here", "_law_bound"] (defScope sLawTake) := ⟨rfl, rfl, rfl, by decide +kernel, rfl, by decide +kernel, by decide +kernel⟩
theorem cl_take (T : Tx K mg) (D : Df K mg "_law_take" sLawTake) : Cl P w K mg base CX0 1 "_law_take" spTake := by
  refine cl_of D scTake (fun _ _ _ _ _ _ us hl => match us, hl with | [_, _], _ => rfl) (fun vs H Q E h => ?_) (fun f cdv A outer s H vs Q E hr h => ?_)
  · obtain ⟨p, bd, rfl, _⟩ := h
    rfl
  · obtain ⟨p, bd, rfl, ⟨a, b, hp, b0, b1⟩, d0, d1, q⟩ := h
    refine ⟨_, (pss_cons (ps_if (pt_cmpR op_gt (pe_ix (k_ixL K) (pv 0) pe_int (fun _ _ => rfl)) pe_int (nomark _)) (pss_cons (ps_asg (pe_op op_mod (pe_callTy call_int1 (by rfl) T.int b_int (pa_cons (pe_ix (k_ixL K) (pv 0) pe_int (fun _ _ => rfl)) pa_nil)) (pv 1)) (pg_name (i := 2) scTake.nd rfl (Or.inl rfl))) (pss_cons (ps_asg (pe_op op_fdiv (pe_ix (k_ixL K) (pv 0) pe_int (fun _ _ => rfl)) (pv 1)) (pg_sub (pv 0) pe_int set_list)) (pss_one (ps_ret (pv 2))))) pss_nil) (pss_cons (ps_asg (pe_op op_mod (pe_callTy call_int1 (by rfl) T.int b_int (pa_cons (pe_op op_add (pe_op op_mul (pe_ix (k_ixL K) (pv 0) pe_int (fun _ _ => rfl)) pe_int) pe_int) pa_nil)) pe_int) (pg_sub (pv 0) pe_int set_list)) (pss_one (ps_ret (pe_op op_mod (pe_callTy call_int1 (by rfl) T.int b_int (pa_cons (pe_op op_fdiv (pe_op op_mod (pe_callTy call_int1 (by rfl) T.int b_int (pa_cons (pe_op op_mul (pe_ix (k_ixL K) (pv 0) pe_int (fun _ _ => rfl)) (pe_ix (k_ixL K) (pv 0) pe_int (fun _ _ => rfl))) pa_nil)) pe_int) pe_int) pa_nil)) (pv 1)))))), ?_⟩
    refine ⟨_, rfl, p, _, _, _, rfl, rfl, .of hp, rfl, _, _, rfl, rfl, _, rfl, ?_⟩
    by_cases ha : 0 < a
    · rw [decide_eq_true ha]
      refine iteT ⟨_, rfl, p, _, _, _, rfl, rfl, .of hp, rfl, .inl ⟨a, rfl, _, rfl, a, bd, rfl, rfl, by omega, ?_⟩⟩
      refine ⟨_, rfl, p, _, _, _, rfl, rfl, .of hp, rfl, _, rfl, a, bd, rfl, rfl, ⟨by omega, by omega⟩, ?_⟩
      refine ⟨_, rfl, p, _, 0, 0, rfl, rfl, hp, rfl, ?_⟩
      exact ⟨_, rfl, q _ _ KB.upd ⟨_, b, upd_same, b0, b1⟩ (Int.emod_nonneg _ (by omega)) (Int.emod_lt_of_pos _ (by omega))⟩
    · rw [decide_eq_false ha]
      refine iteF ?_
      refine ⟨_, rfl, p, _, _, _, rfl, rfl, .of hp, rfl, b, 39373, rfl, rfl, .inr ⟨by decide, by decide⟩, _, _, rfl, rfl, .inl ⟨_, rfl, _, _, rfl, rfl, (by decide : (0 : Int) < 2147483647), ?_⟩⟩
      have c0 := Int.emod_nonneg (b * 39373 + 7) (show (2147483647 : Int) ≠ 0 by decide)
      have c1 := Int.emod_lt_of_pos (b * 39373 + 7) (show (0 : Int) < 2147483647 by decide)
      refine ⟨_, rfl, p, _, 1, 1, rfl, rfl, hp, rfl, ?_⟩
      have hp2 : (upd H p (.lst [.int a, .int ((b * 39373 + 7) % 2147483647)])) p = some (.lst [.int a, .int ((b * 39373 + 7) % 2147483647)]) := upd_same
      have cm : CMul ((b * 39373 + 7) % 2147483647) ((b * 39373 + 7) % 2147483647) := .inl ⟨by omega, by omega⟩
      refine ⟨_, rfl, p, _, _, _, rfl, rfl, .of hp2, rfl, _, rfl, p, _, _, _, rfl, rfl, .of hp2, rfl, _, _, rfl, rfl, cm, .inl ⟨_, rfl, _, _, rfl, rfl, (by decide : (0 : Int) < 2147483629), _, _, rfl, rfl, (⟨by decide, by decide⟩ : CDiv _ 32), .inl ⟨_, rfl, _, rfl, _, _, rfl, rfl, by omega, ?_⟩⟩⟩
      exact q _ _ KB.upd ⟨_, _, hp2, c0, c1⟩ (Int.emod_nonneg _ (by omega)) (Int.emod_lt_of_pos _ (by omega))
def spOne : Sp := fun vs H Q _ => ∃ (p a : Addr) (xs : List V), vs = [.ref p, .ref a] ∧ PoolAt H p ∧ H a = some (.lst xs) ∧ a ≠ p ∧ 1 ≤ xs.length ∧ xs.length ≤ 1000000 ∧ ∀ H' v, KB p H H' → PoolAt H' p → v ∈ xs → Q v H'
theorem scOne : FnScope ["_law_pool_here", "_law_things"] ["_law_pool_here", "_law_things"] (defScope sLawOne) := ⟨rfl, rfl, rfl, by decide +kernel, rfl, by decide +kernel, by decide +kernel⟩
theorem cl_one (T : Tx K mg) (D : Df K mg "_law_one" sLawOne) (cT : Cl P w K mg base CX0 1 "_law_take" spTake) : Cl P w K mg base CX0 2 "_law_one" spOne := by
  refine cl_of D scOne (fun _ _ _ _ _ _ us hl => match us, hl with | [_, _], _ => rfl) (fun vs H Q E h => ?_) (fun f cdv A outer s H vs Q E hr h => ?_)
  · obtain ⟨p, a, xs, rfl, _⟩ := h
    rfl
  · obtain ⟨p, a, xs, rfl, hp, ha, ne, h1, h2, q⟩ := h
    refine ⟨_, (pss_one (ps_ret (pe_ix (k_ixL K) (pv 1) (pe_k cT hr (pa_cons (pv 0) (pa_cons (pe_len K (pv 1) T.len) pa_nil))) (fun _ _ => rfl)))), ?_⟩
    refine ⟨_, rfl, _, rfl, _, rfl, a, _, rfl, .inl (.of ha), p, xs.length, rfl, hp, by omega, by omega, fun H' r kb hp' r0 r1 => ?_⟩
    obtain ⟨j, rfl⟩ : ∃ j : Nat, r = j := ⟨r.toNat, by omega⟩
    have hj : j < xs.length := by omega
    refine ⟨a, xs, j, xs[j], rfl, rfl, .of (kb _ _ ne ha), atI_nat (List.getElem?_eq_getElem hj), q _ _ kb hp' (List.getElem_mem hj)⟩
theorem erase_map {α β : Type} (f : α → β) : ∀ (l : List α) (k : Nat), (l.map f).eraseIdx k = (l.eraseIdx k).map f
  | [], _ => rfl
  | _ :: _, 0 => rfl
  | x :: l, k + 1 => congrArg (f x :: ·) (erase_map f l k)
theorem erase_perm {α : Type} : ∀ {l : List α} {k : Nat} (h : k < l.length), (l[k] :: l.eraseIdx k).Perm l
  | [], _, h => by cases h
  | x :: l, 0, _ => .refl _
  | x :: l, k + 1, h => (List.Perm.swap x (l[k]'(by simpa using h)) _).trans ((erase_perm (l := l) (k := k) (by simpa using h)).cons x)
/-- a list of words, turned -/
def spTurned : Sp := fun vs H Q _ => ∃ (p a : Addr) (xs : List Str), vs = [.ref p, .ref a] ∧ PoolAt H p ∧ H a = some (.lst (xs.map V.str)) ∧ a ≠ p ∧ xs.length ≤ 1000 ∧ (∀ x ∈ xs, PyData.strOk x = true) ∧
  ∀ (H' : Hp) (r : Addr) (ys : List Str), KB p H H' → PoolAt H' p → H r = none → r ≠ p → H' r = some (.lst (ys.map V.str)) → ys.Perm xs → Q (.ref r) H'
theorem scTurned : FnScope ["_law_pool_here", "_law_things", "_law_left", "_law_found"] ["_law_pool_here", "_law_things"] (defScope sLawTurned) := ⟨rfl, rfl, rfl, by decide +kernel, rfl, by decide +kernel, by decide +kernel⟩
theorem cl_turned (T : Tx K mg) (D : Df K mg "_law_turned" sLawTurned) (cT : Cl P w K mg base CX0 1 "_law_take" spTake) : Cl P w K mg base CX0 2 "_law_turned" spTurned := by
  refine cl_of D scTurned (fun _ _ _ _ _ _ us hl => match us, hl with | [_, _], _ => rfl) (fun vs H Q E h => ?_) (fun f cdv A outer s H vs Q E hr h => ?_)
  · obtain ⟨p, a, xs, rfl, _⟩ := h
    rfl
  · obtain ⟨p, a, xs, rfl, hp, ha, ne, hz, hok, q⟩ := h
    have hu : (A.deeper (envOfC "_law_turned" (defScope sLawTurned) s.heap.objs.size f cdv)).units + 64 < cLine := hr.units
    refine ⟨_, (pss_cons (ps_par (i := 2) (j := 3) rfl scTurned.nd rfl rfl (by decide) rfl rfl (pa_cons (pe_callTy (k_listOf K) (by rfl) T.list b_list (pa_cons (pv 1) pa_nil)) (pa_cons (pe_lst pa_nil) pa_nil)) rfl) (pss_cons (ps_while PassesOwn.never (pt_cmpR (op_neD hu) (pv 2) (pe_lst pa_nil) (nomark _)) (pss_one (ps_expr (pe_bm PySem.F.plainAttrs_list PySem.F.slot_list_append PySem.F.type_list_append mt_append (pv 3) (pa_cons (pe_bm PySem.F.plainAttrs_list PySem.F.slot_list_pop PySem.F.type_list_pop mt_popAt (pv 2) (pa_cons (pe_k cT hr (pa_cons (pv 0) (pa_cons (pe_len K (pv 2) T.len) pa_nil))) pa_nil)) pa_nil))))) (pss_one (ps_ret (pv 3))))), ?_⟩
    refine ⟨_, rfl, a, _, rfl, .inl (.of ha), fun l hl => ⟨by show 0 ≤ sizeLine; decide, fun r hr => ⟨_, _, rfl, ?_⟩⟩⟩
    have hlp : l ≠ p := by
      obtain ⟨_, _, e, _⟩ := hp
      exact (ne_of_none e hl).symm
    have s1 := (same_upd (o := .lst (xs.map V.str)) (Same.refl H) hl).trans (same_upd (o := .lst []) (Same.refl _) hr)
    have hlr : l ≠ r := ne_of_none (upd_same (H := H) (a := l) (o := .lst (xs.map V.str))) hr
    have hrH : H r = none := by
      cases e : H r with
      | none => rfl
      | some o =>
        rw [upd_ne (ne_of_none e hl)] at hr
        rw [hr] at e
        cases e
    have hrp : r ≠ p := by
      obtain ⟨_, _, e, _⟩ := hp
      exact (ne_of_none e hrH).symm
    refine ⟨fun m σ H' => ∃ (left found : List Str), σ = [some (.ref p), some (.ref a), some (.ref l), some (.ref r)] ∧ KB p H H' ∧ PoolAt H' p ∧ H' l = some (.lst (left.map V.str)) ∧ H' r = some (.lst (found.map V.str)) ∧ m = left.length ∧ (found ++ left).Perm xs,
      ⟨xs.length, xs, [], rfl, .same s1, hp.same s1, (upd_ne hlr).trans upd_same, upd_same, rfl, .refl _⟩, ?_⟩
    rintro m σ H1 ⟨left, found, rfl, kb, hp1, hl1, hr1, rfl, hpm⟩
    have hlen : found.length + left.length = xs.length := by
      rw [← List.length_append]
      exact hpm.length_eq
    have hmem : ∀ x ∈ left, x ∈ xs := fun x hx => hpm.mem_iff.mp (List.mem_append_right _ hx)
    refine ⟨_, rfl, by show 0 ≤ sizeLine; decide, fun e0 he0 => ?_⟩
    have s2 := same_upd (o := .lst []) (Same.refl H1) he0
    refine ⟨.list (left.map PyData.str), .list (([] : List Str).map PyData.str), .lst (.of (s2 _ _ hl1)) (dp_strs _), .lst (.of upd_same) .nil, shp_strs _ fun x hx => hok x (hmem x hx), shp_strs _ (fun x hx => by cases hx), _, rfl, ?_⟩
    have ev : PyData.eqv (.list (left.map PyData.str)) (.list (([] : List Str).map PyData.str)) = decide (left = []) := by
      rw [PyData.eqv]
      exact eqvAll_strs _ _
    rw [ev]
    have kb2 := kb.trans (KB.same s2)
    have hp2 := hp1.same s2
    have hl2 := s2 _ _ hl1
    have hr2 := s2 _ _ hr1
    generalize upd H1 e0 (.lst []) = H2 at kb2 hp2 hl2 hr2 ⊢
    by_cases hem : left = []
    · subst hem
      refine ⟨_, rfl, ?_⟩
      rw [List.append_nil] at hpm
      exact q _ _ _ kb2 hp2 hrH hrp hr2 hpm
    · rw [decide_eq_false hem]
      have hpos := List.length_pos_iff.mpr hem
      refine ⟨fun σ' H' => ∃ m', m' < left.length ∧ ∃ (left found : List Str), σ' = [some (.ref p), some (.ref a), some (.ref l), some (.ref r)] ∧ KB p H H' ∧ PoolAt H' p ∧ H' l = some (.lst (left.map V.str)) ∧ H' r = some (.lst (found.map V.str)) ∧ m' = left.length ∧ (found ++ left).Perm xs, fun _ _ h => h, ?_⟩
      refine ⟨_, rfl, .inl ⟨rfl, _, .of hr2⟩, _, rfl, .inl ⟨rfl, _, .of hl2⟩, _, rfl, _, rfl, l, _, rfl, .inl (.of hl2), p, left.length, by rw [List.length_map]; rfl, hp2, by omega, by omega, fun H3 j kb3 hp3 j0 j1 => ?_⟩
      obtain ⟨n, rfl⟩ : ∃ n : Nat, j = n := ⟨j.toNat, by omega⟩
      have hn : n < left.length := by omega
      have hl3 := kb3 _ _ hlp hl2
      have hr3 := kb3 _ _ hrp hr2
      obtain ⟨k, e1, e2, e3, _⟩ := atI_get (atI_nat (xs := left.map V.str) (j := n) (v := .str left[n]) (by rw [List.getElem?_map, List.getElem?_eq_getElem hn]; rfl))
      rw [List.length_map] at e3
      refine ⟨l, _, _, k, _, rfl, rfl, hl3, by omega, by omega, e1, e2, ?_⟩
      have hr4 : (upd H3 l (.lst ((left.map V.str).eraseIdx k))) r = some (.lst (found.map V.str)) := (upd_ne hlr.symm).trans hr3
      refine ⟨r, _, _, rfl, rfl, hr4, ?_, ?_⟩
      · rw [List.length_map]
        exact Nat.lt_of_le_of_lt (show found.length ≤ 1000 by omega) (by decide)
      have hk : left[k] = left[n] := by
        rw [List.getElem?_map, List.getElem?_eq_getElem e3] at e2
        exact V.str.inj (Option.some.inj e2)
      refine ⟨left.length - 1, by omega, left.eraseIdx k, found ++ [left[k]], rfl, ?_, ?_, ?_, ?_, by rw [List.length_eraseIdx, if_pos e3], ?_⟩
      · intro c o hc e
        have c1 : c ≠ l := ne_of_none e hl
        have c2 : c ≠ r := ne_of_none e hrH
        rw [upd_ne c2, upd_ne c1]
        exact kb3 _ _ hc (kb2 _ _ hc e)
      · obtain ⟨u, v, e, z⟩ := hp3
        exact ⟨u, v, (upd_ne hrp.symm).trans ((upd_ne hlp.symm).trans e), z⟩
      · rw [upd_ne hlr, upd_same, erase_map]
      · rw [upd_same, List.map_append, hk]
        rfl
      · rw [List.append_assoc]
        exact (List.Perm.append_left _ (erase_perm e3)).trans hpm
end
end K75
set_option Elab.async false
set_option linter.all false
set_option maxRecDepth 100000
set_option maxHeartbeats 4000000
namespace K75
open PySem PySem.Spec PyProof.Rows L2


section
variable {P : Program} {w : World} {K : PySem.W.Frag} {mg : Str → Option Value} {base : Heap}
theorem PS.put {G H : Hp} {p r : Addr} {o : HO} (h : PS G p H) (z : G r = none) (n : r ≠ p) : PS G p (upd H r o) := ⟨same_upd h.s z, h.z, by
  obtain ⟨a, b, e, q⟩ := h.pool
  exact ⟨a, b, (upd_ne n.symm).trans e, q⟩⟩
theorem PS.no {G H : Hp} {p a : Addr} (h : PS G p H) (e : H a = none) : G a = none := by
  cases g : G a with
  | none => rfl
  | some o =>
    rw [h.s _ _ g] at e
    cases e
theorem PS.np {G H : Hp} {p a : Addr} (h : PS G p H) (e : H a = none) : a ≠ p := by
  obtain ⟨_, _, e2, _⟩ := h.pool
  exact (ne_of_none e2 e).symm
/-- .. but one object more that is not told -/
theorem PS.ext2 {G H : Hp} {p r : Addr} (h : PS G p H) (z : G r = none) (n : r ≠ p) : ∃ G', PS G' p H ∧ Same G G' ∧ (∀ c o, c ≠ p → c ≠ r → H c = some o → G' c = some o) ∧ G' r = none := by
  refine ⟨fun c => if c = p then none else if c = r then none else H c, ⟨fun c o e => ?_, if_pos rfl, h.pool⟩, fun c o e => ?_, fun c o c1 c2 e => ?_, ?_⟩
  · have e' : (if c = p then none else if c = r then none else H c) = some o := e
    by_cases c1 : c = p
    · rw [if_pos c1] at e'; cases e'
    · rw [if_neg c1] at e'
      by_cases c2 : c = r
      · rw [if_pos c2] at e'; cases e'
      · rw [if_neg c2] at e'
        exact e'
  · show (if c = p then none else if c = r then none else H c) = some o
    rw [if_neg (ne_of_none e h.z), if_neg (ne_of_none e z)]
    exact h.s _ _ e
  · show (if c = p then none else if c = r then none else H c) = some o
    rw [if_neg c1, if_neg c2]
    exact e
  · show (if r = p then none else if r = r then none else H r) = _
    rw [if_neg n, if_pos rfl]
/-- a growing list of tuples -/
theorem RowsAt.snoc {H : Hp} {r t : Addr} {rows : List (List V)} {row : List V} {ts : List Addr} (hr : H r = some (.lst (ts.map V.ref))) (hl : ts.length = rows.length) (hts : ∀ (i : Nat) (t : Addr) (xs : List V), ts[i]? = some t → rows[i]? = some xs → H t = some (.tup xs)) (ht : H t = some (.tup row)) :
    RowsAt (upd H r (.lst (ts.map V.ref ++ [.ref t]))) r (rows ++ [row]) := by
  refine ⟨ts ++ [t], ?_, by simp [hl], fun i u xs e1 e2 => ?_⟩
  · rw [upd_same, List.map_append]
    rfl
  · have key : ∀ {u : Addr} {xs : List V}, H u = some (.tup xs) → (upd H r (.lst (ts.map V.ref ++ [.ref t]))) u = some (.tup xs) := fun {u xs} e => by
      rw [upd_ne (ne_of e hr (fun z => nomatch z))]
      exact e
    rcases snoc_at e1 with e1 | ⟨rfl, rfl⟩
    · rcases snoc_at e2 with e2 | ⟨rfl, rfl⟩
      · exact key (hts i u xs e1 e2)
      · exact absurd (List.getElem?_eq_some_iff.mp e1).1 (by omega)
    · rcases snoc_at e2 with e2 | ⟨_, rfl⟩
      · exact absurd (List.getElem?_eq_some_iff.mp e2).1 (by omega)
      · exact key ht
theorem RowsAt.kb {H H' : Hp} {p r : Addr} {rows : List (List V)} (h : RowsAt H r rows) (q : PoolAt H p) (n : r ≠ p) (k : KB p H H') : RowsAt H' r rows := by
  obtain ⟨ts, h1, h2, h3⟩ := h
  obtain ⟨_, _, e, _⟩ := q
  exact ⟨ts, k _ _ n h1, h2, fun i t xs e1 e2 => k _ _ (ne_of (h3 i t xs e1 e2) e (fun z => nomatch z)) (h3 i t xs e1 e2)⟩
theorem RowsAt.ext {H G : Hp} {p r : Addr} {rows : List (List V)} (h : RowsAt H r rows) (q : PoolAt H p) (n : r ≠ p) (k : ∀ c o, c ≠ p → H c = some o → G c = some o) : RowsAt G r rows := h.kb q n k
theorem RowsAt.upd {H : Hp} {a r : Addr} {o : HO} {xs : List V} {rows : List (List V)} (h : RowsAt H r rows) (n : r ≠ a) (e : H a = some (.lst xs)) : RowsAt (upd H a o) r rows := by
  obtain ⟨ts, h1, h2, h3⟩ := h
  exact ⟨ts, (upd_ne n).trans h1, h2, fun i t xs e1 e2 => (upd_ne (ne_of (h3 i t xs e1 e2) e (fun z => nomatch z))).trans (h3 i t xs e1 e2)⟩
/-! ### the drawn tree -/
def nms1 : List Str := ["a", "b", "c", "d", "e", "f", "g"]
def nms2 : List Str := ["z", "ab", "abcdefgh", "a", "need", "skill", "all"]
theorem nms_ok : ∀ x ∈ nms1 ++ nms2, wordS x = true ∧ x.length ≤ 8 ∧ x ≠ "nobody" := by decide +kernel
theorem nms1_nd : nms1.Nodup := by decide +kernel
theorem nms2_nd : nms2.Nodup := by decide +kernel
/-- names of a drawn book -/
structure NmOk (ns : List Str) : Prop where
  lo : 1 ≤ ns.length
  hi : ns.length ≤ 6
  nd : ns.Nodup
  mem : ∀ x ∈ ns, x ∈ nms1 ++ nms2
theorem NmOk.word {ns : List Str} (h : NmOk ns) {x : Str} (hx : x ∈ ns) : wordS x = true ∧ x.length ≤ 8 ∧ x ≠ "nobody" := nms_ok x (h.mem x hx)
def spTree : Sp := fun vs H Q _ => ∃ (p : Addr) (G : Hp), vs = [.ref p, .int 6] ∧ PS G p H ∧ ∀ (G' H' : Hp) (t aS aN : Addr) (ss : List (Str × Int)) (nds : List (Int × Int)), Same G G' → PS G' p H' → G' t = some (.lst [.ref aS, .ref aN]) →
  RowsAt G' aS (ss.map skRow) → SkOk ss → NmOk (ss.map (·.1)) → RowsAt G' aN (nds.map ndRow) → NdOk nds → Q (.ref t) H'
theorem scTree : FnScope ["_law_pool_here", "_law_top", "_law_names_here", "_law_tier", "_law_rows_here", "_law_name", "_law_asked"] ["_law_pool_here", "_law_top"] (defScope sLawTree) := ⟨rfl, rfl, rfl, by decide +kernel, rfl, by decide +kernel, by decide +kernel⟩
theorem cl_tree (T : Tx K mg) (D : Df K mg "_law_tree" sLawTree) (cT : Cl P w K mg base CX0 1 "_law_take" spTake) (cO : Cl P w K mg base CX0 2 "_law_one" spOne) : Cl P w K mg base CX0 3 "_law_tree" spTree := by
  refine cl_of D scTree (fun _ _ _ _ _ _ us hl => match us, hl with | [_, _], _ => rfl) (fun vs H Q E h => ?_) (fun f cdv A outer s H vs Q E hr h => ?_)
  · obtain ⟨p, G, rfl, _⟩ := h
    rfl
  · obtain ⟨p, G, rfl, S, q⟩ := h
    refine ⟨_, (pss_cons (ps_asg (pe_k cO hr (pa_cons (pv 0) (pa_cons (pe_lst (pa_cons (pe_lst (pa_cons pe_str (pa_cons pe_str (pa_cons pe_str (pa_cons pe_str (pa_cons pe_str (pa_cons pe_str (pa_cons pe_str pa_nil)))))))) (pa_cons (pe_lst (pa_cons pe_str (pa_cons pe_str (pa_cons pe_str (pa_cons pe_str (pa_cons pe_str (pa_cons pe_str (pa_cons pe_str pa_nil)))))))) pa_nil))) pa_nil))) (pg_name (i := 2) scTree.nd rfl (Or.inl rfl))) (pss_cons (ps_par (i := 3) (j := 4) rfl scTree.nd rfl rfl (by decide) rfl rfl (pa_cons (pe_op op_add pe_int (pe_callTy call_int1 (by rfl) T.int b_int (pa_cons (pe_cmpR op_eq (pe_k cT hr (pa_cons (pv 0) (pa_cons pe_int pa_nil))) pe_int (nomark _)) pa_nil))) (pa_cons (pe_lst pa_nil) pa_nil)) rfl) (pss_cons (ps_for PassesOwn.never rfl (pi_list (pe_slice sl_list (pv 2) po_none (po_some (pe_op op_add pe_int (pe_k cT hr (pa_cons (pv 0) (pa_cons (pv 1) pa_nil))))))) (pg_name (i := 5) scTree.nd rfl (Or.inl rfl)) (pss_cons (ps_expr (pe_bm PySem.F.plainAttrs_list PySem.F.slot_list_append PySem.F.type_list_append mt_append (pv 4) (pa_cons (pe_tup (pa_cons (pv 5) (pa_cons (pv 3) pa_nil))) pa_nil))) (pss_one (ps_asg (pe_callB (call_min2 rfl) (by rfl) T.min b_min (pa_cons pe_int (pa_cons (pe_op op_add (pe_callTy call_int1 (by rfl) T.int b_int (pa_cons (pv 3) pa_nil)) (pe_k cO hr (pa_cons (pv 0) (pa_cons (pe_lst (pa_cons pe_int (pa_cons pe_int (pa_cons pe_int (pa_cons pe_int (pa_cons pe_int pa_nil)))))) pa_nil)))) pa_nil))) (pg_name (i := 3) scTree.nd rfl (Or.inl rfl)))))) (pss_cons (ps_asg (pe_lst pa_nil) (pg_name (i := 6) scTree.nd rfl (Or.inl rfl))) (pss_cons (ps_for PassesOwn.never rfl (pi_list (pe_lst (pa_cons pe_int (pa_cons pe_int (pa_cons pe_int pa_nil))))) (pg_name (i := 3) scTree.nd rfl (Or.inl rfl)) (pss_one (ps_if (pt_cmpR op_gt (pe_k cT hr (pa_cons (pv 0) (pa_cons pe_int pa_nil))) pe_int (nomark _)) (pss_one (ps_expr (pe_bm PySem.F.plainAttrs_list PySem.F.slot_list_append PySem.F.type_list_append mt_append (pv 6) (pa_cons (pe_tup (pa_cons (pv 3) (pa_cons (pe_k cO hr (pa_cons (pv 0) (pa_cons (pe_lst (pa_cons pe_int (pa_cons pe_int (pa_cons pe_int (pa_cons pe_int (pa_cons pe_int (pa_cons pe_int (pa_cons pe_int pa_nil)))))))) pa_nil))) pa_nil))) pa_nil)))) pss_nil))) (pss_one (ps_ret (pe_lst (pa_cons (pv 4) (pa_cons (pv 6) pa_nil)))))))))), ?_⟩
    -- the names
    refine ⟨_, rfl, by show 7 ≤ sizeLine; decide, fun n1 hn1 => ⟨by show 7 ≤ sizeLine; decide, fun n2 hn2 => ⟨by show 2 ≤ sizeLine; decide, fun n3 hn3 => ?_⟩⟩⟩
    have s1 := same_upd (o := .lst (nms1.map V.str)) (Same.refl H) hn1
    have s2 := same_upd (o := .lst (nms2.map V.str)) (Same.refl (upd H n1 (.lst (nms1.map V.str)))) hn2
    have s3 := same_upd (o := .lst [.ref n1, .ref n2]) (Same.refl (upd (upd H n1 (.lst (nms1.map V.str))) n2 (.lst (nms2.map V.str)))) hn3
    have S3 := ((S.same s1).same s2).same s3
    have m1 := s3 _ _ (s2 _ _ (upd_same (H := H) (a := n1) (o := .lst (nms1.map V.str))))
    have m2 := s3 _ _ (upd_same (H := upd H n1 (.lst (nms1.map V.str))) (a := n2) (o := .lst (nms2.map V.str)))
    refine ⟨p, n3, [.ref n1, .ref n2], rfl, S3.pool, upd_same, (S.same (s1.trans s2)).np hn3, by show 1 ≤ 2; decide, by show 2 ≤ 1000000; decide, fun H1 v kb1 hp1 hv => ?_⟩
    have S1 := S3.kb kb1 hp1
    obtain ⟨nn, nms, hnn, rfl, hnm1, hnd⟩ : ∃ (nn : Addr) (nms : List Str), H1 nn = some (.lst (nms.map V.str)) ∧ v = .ref nn ∧ (nms.length = 7 ∧ ∀ x ∈ nms, x ∈ nms1 ++ nms2) ∧ nms.Nodup ∧ nn ≠ p := by
      rcases List.mem_cons.mp hv with rfl | hv
      · exact ⟨n1, nms1, kb1 _ _ (S.np hn1) m1, rfl, ⟨rfl, fun x hx => List.mem_append_left _ hx⟩, nms1_nd, S.np hn1⟩
      · rw [List.mem_singleton.mp hv]
        exact ⟨n2, nms2, kb1 _ _ ((S.same s1).np hn2) m2, rfl, ⟨rfl, fun x hx => List.mem_append_right _ hx⟩, nms2_nd, (S.same s1).np hn2⟩
    obtain ⟨G1, S1, sG1, hG1⟩ := S1.ext
    have hnn := hG1 _ _ hnd.2 hnn
    clear s1 s2 s3 S3 m1 m2 hn1 hn2 hn3 kb1 hp1 hv hG1
    -- tier, rows
    refine ⟨_, rfl, p, 6, rfl, S1.pool, by decide, by decide, fun H2 r2 kb2 hp2 _ _ => ?_⟩
    have S2 := S1.kb kb2 hp2
    refine ⟨rfl, .inr ⟨_, rfl, _, _, rfl, rfl, by show 0 ≤ sizeLine; decide, fun r hr2 => ⟨_, _, rfl, ?_⟩⟩⟩
    have zr := S2.no hr2
    have nr := S2.np hr2
    have S3 := S2.put (o := .lst []) zr nr
    have hr3 : (upd H2 r (.lst [])) r = some (.lst []) := upd_same
    generalize upd H2 r (.lst []) = H3 at S3 hr3 ⊢
    have tb : 1 ≤ (1 + if decide (V.int r2 = V.int 0) = true then 1 else 0 : Int) ∧ (1 + if decide (V.int r2 = V.int 0) = true then 1 else 0 : Int) ≤ 4 := ⟨by split <;> decide, by split <;> decide⟩
    clear S2 kb2 hp2 hr2
    -- the rows
    refine ⟨_, rfl, _, rfl, _, rfl, p, 6, rfl, S3.pool, by decide, by decide, fun H4 k kb4 hp4 k0 k1 => ?_⟩
    obtain ⟨kn, rfl⟩ : ∃ n : Nat, k = n := ⟨k.toNat, by omega⟩
    have S4 := S3.kb kb4 hp4
    have hr4 := kb4 _ _ nr hr3
    refine ⟨_, _, rfl, rfl, _, rfl, nn, nms.map V.str, rfl, .of (S4.s _ _ hnn), fun sl hsl => ?_⟩
    rw [show cutV (nms.map V.str) none (some (1 + ((kn : Nat) : Int))) = (nms.take (kn + 1)).map V.str from by
      rw [show (1 + ((kn : Nat) : Int)) = ((kn + 1 : Nat) : Int) by omega, cut_take, List.map_take]]
    have S5 := S4.same (same_upd (o := .lst ((nms.take (kn + 1)).map V.str)) (Same.refl H4) hsl)
    have hr5 : (upd H4 sl (.lst ((nms.take (kn + 1)).map V.str))) r = some (.lst []) := (upd_ne (ne_of_none hr4 hsl)).trans hr4
    have hs5 : (upd H4 sl (.lst ((nms.take (kn + 1)).map V.str))) sl = some (.lst ((nms.take (kn + 1)).map V.str)) := upd_same
    have nsl := S4.np hsl
    have nrs : r ≠ sl := ne_of_none hr4 hsl
    generalize upd H4 sl (.lst ((nms.take (kn + 1)).map V.str)) = H5 at S5 hr5 hs5 ⊢
    clear S4 hr4 hsl kb4 hp4 S3 hr3
    -- sl joins what stands
    obtain ⟨G2, S6, sG2, hG2, zr2⟩ := S5.ext2 zr nr
    have hsl2 := hG2 _ _ nsl nrs.symm hs5
    refine ⟨sl, rfl, ⟨_, .of hs5⟩, for_list (K := K) (a := sl) (xs := (nms.take (kn + 1)).map V.str) (fun i σ H' => ∃ (tier : Int) (v : Option V) (ss : List (Str × Int)), σ = [some (.ref p), some (.int 6), some (.ref nn), some (.int tier), some (.ref r), v, none] ∧ PS G2 p H' ∧ RowsAt H' r (ss.map skRow) ∧
      ss.map (fun x : Str × Int => x.1) = (nms.take (kn + 1)).take i ∧ (1 ≤ tier ∧ tier ≤ 4) ∧ (∀ x ∈ ss, 1 ≤ x.2 ∧ x.2 ≤ tier) ∧ (ss.map (fun x : Str × Int => x.2)).Pairwise (· ≤ ·))
      ⟨_, none, [], rfl, S6, ⟨[], hr5, rfl, fun i t xs e => by simp at e⟩, by simp, tb, (fun x hx => by cases hx), .nil⟩ (fun i σ H' _ ⟨_, _, _, _, S', _⟩ => .of (S'.s _ _ hsl2)) ?_ ?_⟩
    · rintro i x σ H' hx ⟨tier, v, ss, rfl, S', R', hn', ⟨t1, t2⟩, hall, hso⟩
      obtain ⟨nm, hnm, rfl⟩ := str_at hx
      have hi : i < (nms.take (kn + 1)).length := (List.getElem?_eq_some_iff.mp hnm).1
      have hlen : ss.length = i := by
        have e := congrArg List.length hn'
        rw [List.length_map, List.length_take] at e
        omega
      obtain ⟨ts, ht1, ht2, ht3⟩ := id R'
      have ht2' : ts.length = i := by rw [ht2, List.length_map, hlen]
      have hle : (nms.take (kn + 1)).length ≤ 7 := by
        rw [List.length_take]
        omega
      -- append
      refine ⟨_, rfl, .inl ⟨rfl, _, .of ht1⟩, _, rfl, _, rfl, by show 2 ≤ sizeLine; decide, fun t ht => ?_⟩
      have S7 := S'.same (same_upd (o := .tup [.str nm, .int tier]) (Same.refl H') ht)
      have t7 : (upd H' t (.tup [.str nm, .int tier])) t = some (.tup [.str nm, .int tier]) := upd_same
      have ht17 : (upd H' t (.tup [.str nm, .int tier])) r = some (.lst (ts.map V.ref)) := (upd_ne (ne_of_none ht1 ht)).trans ht1
      have ht37 : ∀ (i : Nat) (u : Addr) (xs : List V), ts[i]? = some u → (ss.map skRow)[i]? = some xs → (upd H' t (.tup [.str nm, .int tier])) u = some (.tup xs) := fun i u xs e1 e2 => (upd_ne (ne_of_none (ht3 i u xs e1 e2) ht)).trans (ht3 i u xs e1 e2)
      generalize upd H' t (.tup [.str nm, .int tier]) = H7 at S7 t7 ht17 ht37 ⊢
      refine ⟨r, _, .ref t, rfl, rfl, ht17, ?_, ?_⟩
      · rw [List.length_map, ht2']
        exact Nat.lt_of_le_of_lt (show i ≤ 7 by omega) (by decide)
      have R8 := RowsAt.snoc ht17 ht2 ht37 t7
      have S8 := S7.put (o := .lst (ts.map V.ref ++ [.ref t])) zr2 nr
      generalize upd H7 r (.lst (ts.map V.ref ++ [.ref t])) = H8 at R8 S8 ⊢
      -- the tier
      refine ⟨_, rfl, .inl ⟨_, rfl, _, rfl, by show 5 ≤ sizeLine; decide, fun l hl => ?_⟩⟩
      have S9 := S8.same (same_upd (o := .lst [.int 0, .int 0, .int 1, .int 1, .int 2]) (Same.refl H8) hl)
      have R9 := R8.same (same_upd (o := .lst [.int 0, .int 0, .int 1, .int 1, .int 2]) (Same.refl H8) hl)
      refine ⟨p, l, _, rfl, S9.pool, upd_same, S8.np hl, by show 1 ≤ 5; decide, by show 5 ≤ 1000000; decide, fun Ha va kba hpa hva => ?_⟩
      obtain ⟨z, rfl, z0⟩ : ∃ z : Int, va = .int z ∧ 0 ≤ z := by
        simp only [List.mem_cons, List.not_mem_nil, or_false] at hva
        rcases hva with rfl | rfl | rfl | rfl | rfl <;> exact ⟨_, rfl, by decide⟩
      have Sa := S9.kb kba hpa
      have Ra := R9.kb S9.pool nr kba
      refine ⟨_, _, rfl, rfl, _, _, rfl, ?_⟩
      have mono : tier ≤ (if tier + z < 4 then tier + z else 4) ∧ (if tier + z < 4 then tier + z else 4) ≤ 4 := by
        constructor
        · split <;> omega
        · split <;> omega
      refine ⟨_, _, ss ++ [(nm, tier)], rfl, Sa, by rw [List.map_append]; exact Ra, ?_, ⟨by omega, mono.2⟩, fun x hx => ?_, ?_⟩
      · rw [List.map_append, hn', List.take_add_one (l := nms.take (kn + 1)) (i := i), hnm]
        rfl
      · rcases List.mem_append.mp hx with hx | hx
        · have := hall x hx
          exact ⟨this.1, Int.le_trans this.2 mono.1⟩
        · rw [List.mem_singleton.mp hx]
          exact ⟨t1, mono.1⟩
      · rw [List.map_append]
        refine List.pairwise_append.mpr ⟨hso, List.pairwise_singleton _ _, fun x hx y hy => ?_⟩
        have e : y = tier := List.mem_singleton.mp hy
        obtain ⟨w', hw', rfl⟩ := List.mem_map.mp hx
        rw [e]
        exact (hall w' hw').2
    rintro σ H6 ⟨tier, v, ss, rfl, S7, R7, hn7, ⟨t1, t2⟩, hall, hso⟩
    rw [List.length_map, List.take_length] at hn7
    have hk : (nms.take (kn + 1)).length = kn + 1 := by
      rw [List.length_take]
      omega
    have hsl7 : ss.length = kn + 1 := by
      have e := congrArg List.length hn7
      rw [List.length_map, hk] at e
      exact e
    have sub : ∀ x ∈ ss.map (fun x : Str × Int => x.1), x ∈ nms := fun x hx => List.mem_of_mem_take (hn7 ▸ hx)
    have NO : NmOk (ss.map (fun x : Str × Int => x.1)) := ⟨by rw [List.length_map]; omega, by rw [List.length_map]; omega, by rw [hn7]; exact List.Nodup.sublist (List.take_sublist _ _) hnd.1, fun x hx => hnm1.2 x (sub x hx)⟩
    have SO : SkOk ss := ⟨by omega, by omega, fun x hx => by
      have w := NO.word (List.mem_map.mpr ⟨x, hx, rfl⟩)
      exact ⟨w.1, by omega⟩, fun x hx => ⟨(hall x hx).1, Int.le_trans (hall x hx).2 t2⟩, NO.nd, hso⟩
    -- the asked rows
    obtain ⟨G3, S8, sG3, hG3⟩ := S7.ext
    have R8 := R7.ext S7.pool nr hG3
    refine ⟨by show 0 ≤ sizeLine; decide, fun r6 hr6 => ?_⟩
    have zr6 := S8.no hr6
    have nr6 := S8.np hr6
    have S9 := S8.same (same_upd (o := .lst []) (Same.refl H6) hr6)
    have h69 : (upd H6 r6 (.lst [])) r6 = some (.lst []) := upd_same
    generalize upd H6 r6 (.lst []) = H9 at S9 h69 ⊢
    refine ⟨by show 3 ≤ sizeLine; decide, fun l hl => ?_⟩
    have nl := S9.np hl
    have nlr : r6 ≠ l := ne_of_none h69 hl
    have Sa := S9.same (same_upd (o := .lst (([2, 3, 4] : List Int).map V.int)) (Same.refl H9) hl)
    have h6a : (upd H9 l (.lst (([2, 3, 4] : List Int).map V.int))) r6 = some (.lst []) := (upd_ne nlr).trans h69
    have hla : (upd H9 l (.lst (([2, 3, 4] : List Int).map V.int))) l = some (.lst (([2, 3, 4] : List Int).map V.int)) := upd_same
    obtain ⟨G4, Sb, sG4, hG4, zb⟩ := Sa.ext2 zr6 nr6
    have hlb := hG4 _ _ nl nlr.symm hla
    have Rb := R8.same sG4
    refine ⟨l, rfl, ⟨_, .of upd_same⟩, for_list (K := K) (a := l) (xs := ([2, 3, 4] : List Int).map V.int) (fun i σ H' => ∃ (tv : V) (v : Option V) (nds : List (Int × Int)), σ = [some (.ref p), some (.int 6), some (.ref nn), some tv, some (.ref r), v, some (.ref r6)] ∧ PS G4 p H' ∧ RowsAt H' r6 (nds.map ndRow) ∧
      (nds.map (fun x : Int × Int => x.1)).Sublist (([2, 3, 4] : List Int).take i) ∧ ∀ x ∈ nds, 0 ≤ x.2 ∧ x.2 ≤ 12)
      ⟨_, _, [], rfl, Sb, ⟨[], h6a, rfl, fun i t xs e => by simp at e⟩, List.nil_sublist _, (fun x hx => by cases hx)⟩ (fun i σ H' _ ⟨_, _, _, _, S', _⟩ => .of (S'.s _ _ hlb)) ?_ ?_⟩
    · rintro i x σ H' hx ⟨tv, v, nds, rfl, S', R', hsub, hall⟩
      rw [List.getElem?_map] at hx
      obtain ⟨z, hz, rfl⟩ := Option.map_eq_some_iff.mp hx
      have hi : i < 3 := (List.getElem?_eq_some_iff.mp hz).1
      have hlen : nds.length ≤ 3 := by
        have e := hsub.length_le
        rw [List.length_map, List.length_take] at e
        exact Nat.le_trans e (Nat.min_le_right _ _)
      refine ⟨_, rfl, p, 3, rfl, S'.pool, by decide, by decide, fun Hc k kbc hpc k0 k1 => ⟨_, _, rfl, rfl, _, rfl, ?_⟩⟩
      have Sc := S'.kb kbc hpc
      have Rc := R'.kb S'.pool nr6 kbc
      have step : (nds.map (fun x : Int × Int => x.1)).Sublist (([2, 3, 4] : List Int).take (i + 1)) := hsub.trans (by rw [List.take_add_one]; exact List.sublist_append_left _ _)
      by_cases hk0 : 0 < k
      · rw [decide_eq_true hk0]
        obtain ⟨ts, ht1, ht2, ht3⟩ := id Rc
        refine iteT ⟨_, rfl, .inl ⟨rfl, _, .of ht1⟩, _, rfl, _, rfl, by show 7 ≤ sizeLine; decide, fun l2 hl2 => ?_⟩
        have Sd := Sc.same (same_upd (o := .lst [.int 0, .int 1, .int 1, .int 2, .int 2, .int 3, .int 5]) (Same.refl Hc) hl2)
        have Rd := Rc.same (same_upd (o := .lst [.int 0, .int 1, .int 1, .int 2, .int 2, .int 3, .int 5]) (Same.refl Hc) hl2)
        refine ⟨p, l2, _, rfl, Sd.pool, upd_same, Sc.np hl2, by show 1 ≤ 7; decide, by show 7 ≤ 1000000; decide, fun Ha va kba hpa hva => ?_⟩
        obtain ⟨m, rfl, m0⟩ : ∃ m : Int, va = .int m ∧ 0 ≤ m ∧ m ≤ 12 := by
          simp only [List.mem_cons, List.not_mem_nil, or_false] at hva
          rcases hva with rfl | rfl | rfl | rfl | rfl | rfl | rfl <;> exact ⟨_, rfl, by decide, by decide⟩
        have Se := Sd.kb kba hpa
        have Re := Rd.kb Sd.pool nr6 kba
        clear ht1 ht2 ht3 ts
        obtain ⟨ts, ht1, ht2, ht3⟩ := id Re
        refine ⟨by show 2 ≤ sizeLine; decide, fun t ht => ?_⟩
        have Sf := Se.same (same_upd (o := .tup [.int z, .int m]) (Same.refl Ha) ht)
        have t7 : (upd Ha t (.tup [.int z, .int m])) t = some (.tup [.int z, .int m]) := upd_same
        have ht17 : (upd Ha t (.tup [.int z, .int m])) r6 = some (.lst (ts.map V.ref)) := (upd_ne (ne_of_none ht1 ht)).trans ht1
        have ht37 : ∀ (i : Nat) (u : Addr) (xs : List V), ts[i]? = some u → (nds.map ndRow)[i]? = some xs → (upd Ha t (.tup [.int z, .int m])) u = some (.tup xs) := fun i u xs e1 e2 => (upd_ne (ne_of_none (ht3 i u xs e1 e2) ht)).trans (ht3 i u xs e1 e2)
        generalize upd Ha t (.tup [.int z, .int m]) = Hf at Sf t7 ht17 ht37 ⊢
        refine ⟨r6, _, .ref t, rfl, rfl, ht17, ?_, ?_⟩
        · rw [List.length_map, ht2, List.length_map]
          exact Nat.lt_of_le_of_lt hlen (by decide)
        have Rg := RowsAt.snoc ht17 ht2 ht37 t7
        refine ⟨_, _, nds ++ [(z, m)], rfl, Sf.put zb nr6, by rw [List.map_append]; exact Rg, ?_, fun x hx => ?_⟩
        · rw [List.map_append, List.take_add_one, hz]
          exact hsub.append (List.Sublist.refl _)
        · rcases List.mem_append.mp hx with hx | hx
          · exact hall x hx
          · rw [List.mem_singleton.mp hx]
            exact m0
      · rw [decide_eq_false hk0]
        exact iteF ⟨_, _, nds, rfl, Sc, Rc, step, hall⟩
    rintro σ Hz ⟨tv, v, nds, rfl, S', R', hsub, hall⟩
    have hsub3 : (nds.map (fun x : Int × Int => x.1)).Sublist [2, 3, 4] := hsub
    have NN : NdOk nds := by
      have hm : ∀ x ∈ nds, x.1 ∈ ([2, 3, 4] : List Int) := fun x hx => hsub3.subset (List.mem_map.mpr ⟨x, hx, rfl⟩)
      refine ⟨?_, fun x hx => ⟨?_, hall x hx⟩, hsub3.nodup (by decide), List.Pairwise.sublist hsub3 (by decide)⟩
      · have e := hsub3.length_le
        rw [List.length_map] at e
        exact e
      · have e := hm x hx
        simp only [List.mem_cons, List.not_mem_nil, or_false] at e
        omega
    refine ⟨_, rfl, _, rfl, by show 2 ≤ sizeLine; decide, fun t ht => ?_⟩
    have Sy := S'.same (same_upd (o := .lst [.ref r, .ref r6]) (Same.refl Hz) ht)
    obtain ⟨G5, Sw, sG5, hG5⟩ := Sy.ext
    have R6z : RowsAt G5 r6 (nds.map ndRow) := (R'.same (same_upd (o := .lst [.ref r, .ref r6]) (Same.refl Hz) ht)).ext Sy.pool nr6 hG5
    exact q G5 _ t r r6 ss nds (sG1.trans (sG2.trans (sG3.trans (sG4.trans sG5)))) Sw (hG5 _ _ (S'.np ht) upd_same) (Rb.same sG5) SO NO R6z NN
end
end K75
set_option Elab.async false
set_option linter.all false
set_option maxRecDepth 100000
set_option maxHeartbeats 4000000
namespace K75
open PySem PySem.Spec PyProof.Rows L2 HT
/-! ### pair[::-1] -/
section
variable {prog : Program} {w : World} {A : Around} {E : Value → Shared → Prop} {s : Shared}
theorem getItem_pair_rev {t sl : Addr} {a b : Value} {vl vu vs : Value} {Q : Value → Shared → Prop} (ht : IsTup s.heap t #[a, b]) (hs : s.heap.IsSliceOf sl vl vu vs) (pl : IsPart vl none) (pu : IsPart vu none) (ps : IsPart vs (some (-1)))
    (h : Q (.ref s.heap.objs.size) { s with heap := s.heap.push { cls := .type "tuple", data := .seq #[b, a] } }) : wpAny (model prog w) A (getItem (.ref t) (.ref sl)) Q E s := by
  obtain ⟨os, hos, hcs, hds⟩ := id hs
  have hTs : s.TypeIs (.ref sl) "slice" := ⟨os, hos, hcs⟩
  unfold getItem
  try with_reducible refine wpAny_holding ?_
  first | refine wpAny_bind (wpAny_pure ?_) | skip
  refine wpAny_bind (wpAny_sequenceKey ht.typeIs (by decide) ?_)
  refine wpAny_bind (wpAny_callSpecial?_slot (name := Str.ofString "__getitem__") ht.typeIs PyProof.Rows.slot_tuple_getitem
    (wpAny_call_entry PyProof.Rows.slot_tuple_getitem ht.typeIs entry_tuple_getitem ?_ (args_tuple_getitem _ _)))
  show wpAny _ _ (Builtin.Tuple.tupleItemsOf (.ref t) >>= _) _ _ s
  refine wpAny_bind (tupleItemsOf_ ht ?_)
  refine wpAny_bind (wpAny_typeOf hTs ?_)
  rw [if_pos (by decide)]
  have key : ∀ {Q' : Int × Int × Nat → Shared → Prop}, Q' (1, -1, 2) s → wpAny (model prog w) A.in1 (Builtin.Slice.sliceApplied (.ref sl) (pure (2 : Int))) Q' E s := fun {Q'} q => by
    unfold Builtin.Slice.sliceApplied Builtin.Slice.sliceFields
    refine wpAny_bind (wpAny_bind (wpAny_field hos hds (x := vl) rfl (wpAny_bind (wpAny_field hos hds (x := vu) rfl (wpAny_bind (wpAny_field hos hds (x := vs) rfl (wpAny_pure ?_)))))))
    refine wpAny_bind (slicePart_ ps ?_)
    show wpAny _ _ (if ((-1 : Int) == 0) = true then _ else _) _ _ s
    rw [if_neg (by decide)]
    refine wpAny_bind (slicePart_ pl (wpAny_bind (slicePart_ pu (wpAny_bind (wpAny_pure ?_)))))
    exact wpAny_pure q
  refine wpAny_bind (key ?_)
  show wpAny _ _ (if ((1 : Int) == 0 && (-1 : Int) == 1 && (2 : Nat) == 2) = true then _ else _) _ _ s
  rw [if_neg (by decide)]
  have htake : sizeOk (.seq (#[b, a] : Array Value)) := by
    show 2 ≤ sizeLine
    decide
  first
    | exact wpAny_bind (m := Builtin.Tuple.tupleExact _) (wpAny_newObj_type (wpAny_pure ⟨_, rfl, wpAny_pure h⟩) htake)
    | exact wpAny_bind (m := Builtin.Tuple.tupleExact _) (wpAny_newObj_type (wpAny_bind (wpAny_pure (wpAny_pure ⟨_, rfl, wpAny_pure h⟩))) htake)
    | exact wpAny_bind (wpAny_bind (m := Builtin.Tuple.tupleExact _) (wpAny_newObj_type (wpAny_pure (wpAny_pure ⟨_, rfl, wpAny_pure h⟩)) htake))
    | exact wpAny_bind (wpAny_bind (m := Builtin.Tuple.tupleExact _) (wpAny_newObj_type (wpAny_pure ⟨_, rfl, wpAny_pure h⟩) htake))
end
section
variable {X : Cx}
def tRev2 (K : PySem.W.Frag) (te : TE) : TE := fun σ H Q => te σ H fun x H1 => ∃ (a : Addr) (u v : V), x = .ref a ∧ SqT K H1 a [u, v] ∧ ∀ p, H1 p = none → Q (.ref p) (upd H1 p (.tup [v, u]))
theorem pe_rev2 (K : PySem.W.Frag) {e : Expr} {te : TE} {k : Nat} {p1 p2 p3 pos : Pos} (he : PE X e te) (hK : X.K = K := by rfl) : PE X (.Subscript e (.Slice none none (some (.UnaryOp .USub (.Constant (.int 1) k p1) p2)) p3) pos) (tRev2 K te) := by
  subst hK
  refine ⟨fun pins s σ H Q I h => ?_⟩
  refine Subscript_ (thn (he.run pins s σ H _ I h) fun v s1 ⟨x, H1, I1, r1, q1⟩ => ?_)
  obtain ⟨a, x1, x2, ex, hx, q⟩ := q1
  subst ex
  cases r1
  have hst : PO X (some (.UnaryOp .USub (.Constant (.int 1) k p1) p2)) (tPart (tUn (rU fun i => .int (-i)) (tC (.int 1)))) := po_some (pe_un un_neg pe_int)
  refine wpAny_Slice (thn (po_none.run pins s1 σ H1 (fun o H2 => o = none ∧ H2 = H1) I1 ⟨rfl, rfl⟩) fun vl s2 ⟨l, H2, I2, pl, el, e2⟩ => ?_)
  subst el e2
  refine thn (po_none.run pins s2 σ H2 (fun o H3 => o = none ∧ H3 = H2) I2 ⟨rfl, rfl⟩) fun vu s3 ⟨u, H3, I3, pu, eu, e3⟩ => ?_
  subst eu e3
  refine thn (hst.run pins s3 σ H3 (fun o H4 => o = some (-1) ∧ H4 = H3) I3 ⟨1, rfl, -1, rfl, rfl, rfl⟩) fun vs s4 ⟨o, H4, I4, ps, eo, e4⟩ => ?_
  subst eo e4
  have I5 : Inv X pins σ H4 { s4 with heap := s4.heap.push { cls := .type "slice", data := .fields #[vl, vu, vs] } } := I4.kept (t' := s4.toks) fun b ob q => Heap.get?_push_of_some _ q
  obtain ⟨its, r, ht, hz⟩ := I5.tuple hx
  cases r with
  | @cons _ v1 _ _ r1 rr =>
    cases rr with
    | @cons _ v2 _ _ r2 rr =>
      cases rr
      show wpAny (model X.prog X.w) X.A (subscriptTail e (.Slice none none (some (.UnaryOp .USub (.Constant (.int 1) k p1) p2)) p3) (.ref a) (.ref s4.heap.objs.size)) (EP X pins σ Q) X.xe { s4 with heap := s4.heap.push { cls := .type "slice", data := .fields #[vl, vu, vs] } }
      refine tail_any (ops := [.ref a, .ref s4.heap.objs.size]) ht.typeIs (PyProof.Rows.slot_tuple_getitem.lookup) ?_ (by with_unfolding_all rfl)
      refine getItem_pair_rev (a := v1) (b := v2) ht (Heap.IsSliceOf.new _ vl vu vs) pl pu ps ?_
      refine ⟨.ref _, _, I5.laid (t' := s4.toks) (o := .tup [x2, x1]) (fun b ob q => Heap.get?_push_of_some _ q) (Nat.le_refl _) ?_, rfl, q _ (I5.hok.fresh (Nat.le_refl _))⟩
      exact ⟨by show 2 ≤ sizeLine; decide, [v2, v1], .cons r2 (.cons r1 .nil), _, Heap.get?_push_size _ rfl, rfl, _, rfl⟩
end
end K75
set_option Elab.async false
set_option linter.all false
set_option maxRecDepth 100000
set_option maxHeartbeats 4000000
namespace K75
open PySem PySem.Spec PyProof.Rows L2
section
variable {P : Program} {w : World} {K : PySem.W.Frag} {mg : Str → Option Value} {base : Heap}
/-! ### the drawn wants -/
theorem WantAt.kb {H H' : Hp} {p t : Addr} {x : Want} (h : WantAt H t x) (q : PoolAt H p) (k : KB p H H') : WantAt H' t x := by
  obtain ⟨t2, h1, h2⟩ := h
  obtain ⟨_, _, e, _⟩ := q
  exact ⟨t2, k _ _ (ne_of h1 e (fun z => nomatch z)) h1, k _ _ (ne_of h2 e (fun z => nomatch z)) h2⟩
theorem WantAt.upd {H : Hp} {a t : Addr} {o : HO} {xs : List V} {x : Want} (h : WantAt H t x) (e : H a = some (.lst xs)) : WantAt (upd H a o) t x := by
  obtain ⟨t2, h1, h2⟩ := h
  exact ⟨t2, (upd_ne (ne_of h1 e (fun z => nomatch z))).trans h1, (upd_ne (ne_of h2 e (fun z => nomatch z))).trans h2⟩
theorem WantsAt.kb {H H' : Hp} {p r : Addr} {ws : List Want} (h : WantsAt H r ws) (q : PoolAt H p) (n : r ≠ p) (k : KB p H H') : WantsAt H' r ws := by
  obtain ⟨ts, h1, h2, h3⟩ := h
  exact ⟨ts, k _ _ n h1, h2, fun i t x e1 e2 => (h3 i t x e1 e2).kb q k⟩
theorem WantsAt.snoc {H : Hp} {r t : Addr} {ws : List Want} {x : Want} {ts : List Addr} (hr : H r = some (.lst (ts.map V.ref))) (hl : ts.length = ws.length) (hts : ∀ (i : Nat) (t : Addr) (x : Want), ts[i]? = some t → ws[i]? = some x → WantAt H t x) (ht : WantAt H t x) :
    WantsAt (upd H r (.lst (ts.map V.ref ++ [.ref t]))) r (ws ++ [x]) := by
  refine ⟨ts ++ [t], ?_, by simp [hl], fun i u y e1 e2 => ?_⟩
  · rw [upd_same, List.map_append]
    rfl
  · rcases snoc_at e1 with e1 | ⟨rfl, rfl⟩
    · rcases snoc_at e2 with e2 | ⟨rfl, rfl⟩
      · exact (hts i u y e1 e2).upd hr
      · exact absurd (List.getElem?_eq_some_iff.mp e1).1 (by omega)
    · rcases snoc_at e2 with e2 | ⟨_, rfl⟩
      · exact absurd (List.getElem?_eq_some_iff.mp e2).1 (by omega)
      · exact ht.upd hr
/-- names[:spot], names[:spot] + names[spot + 1:] -/
theorem oth_read {σ : L2.St} {H : Hp} {Q : VK} {n : Addr} {spot : Nat} {ns : List Str} (h1 : σ[1]? = some (some (.ref n))) (h7 : σ[7]? = some (some (.int (spot : Nat)))) (hn : H n = some (.lst (ns.map V.str))) (hz : ns.length ≤ 1000)
    (k : ∀ (o : Addr) (oth : List Str) (H2 : Hp), Same H H2 → H o = none → H2 o = some (.lst (oth.map V.str)) → (oth = ns.take spot ∨ oth = ns.take spot ++ ns.drop (spot + 1)) → Q (.ref o) H2) :
    tSl (rSlL K) (tVar 1) tNoPart (tPart (tVar 7)) σ H Q ∧ tOp rCat (tSl (rSlL K) (tVar 1) tNoPart (tPart (tVar 7))) (tSl (rSlL K) (tVar 1) (tPart (tOp (rI0 fun i j => .int (i + j)) (tVar 7) (tC (.int 1)))) tNoPart) σ H Q := by
  have e1 : cutV (ns.map V.str) none (some ((spot : Nat) : Int)) = (ns.take spot).map V.str := by rw [cut_take, List.map_take]
  have e2 : cutV (ns.map V.str) (some (((spot : Nat) : Int) + 1)) none = (ns.drop (spot + 1)).map V.str := by
    rw [show ((spot : Nat) : Int) + 1 = ((spot + 1 : Nat) : Int) by omega, cut_drop, List.map_drop]
  refine ⟨⟨_, h1, _, h7, _, rfl, n, _, rfl, .of hn, fun o ho => ?_⟩, ⟨_, h1, _, h7, _, rfl, n, _, rfl, .of hn, fun o ho => ?_⟩⟩
  · rw [e1]
    exact k o _ _ (same_upd (Same.refl _) ho) ho upd_same (.inl rfl)
  · rw [e1]
    have hn2 := (upd_ne (o := .lst ((ns.take spot).map V.str)) (ne_of_none hn ho)).trans hn
    refine ⟨_, h1, _, h7, _, _, rfl, rfl, _, rfl, n, _, rfl, .of hn2, fun o2 ho2 => ?_⟩
    rw [e2]
    have s1 := same_upd (o := .lst ((ns.take spot).map V.str)) (Same.refl H) ho
    have s2 := same_upd (o := .lst ((ns.drop (spot + 1)).map V.str)) (Same.refl (upd H o (.lst ((ns.take spot).map V.str)))) ho2
    have a1 : (upd (upd H o (.lst ((ns.take spot).map V.str))) o2 (.lst ((ns.drop (spot + 1)).map V.str))) o = some (.lst ((ns.take spot).map V.str)) := s2 _ _ upd_same
    refine ⟨o, o2, _, _, rfl, rfl, a1, upd_same, ?_, fun q hq => ?_⟩
    · rw [List.length_map, List.length_map, List.length_take, List.length_drop]
      exact Nat.le_trans (show _ ≤ 2000 by omega) (by decide)
    · rw [← List.map_append]
      refine k q _ _ ((s1.trans s2).trans (same_upd (Same.refl _) hq)) ?_ upd_same (.inr rfl)
      cases e : H q with
      | none => rfl
      | some u =>
        rw [s2 _ _ (s1 _ _ e)] at hq
        cases hq
theorem if_both2 {b : Bool} {A B : Prop} (h : A ∧ B) : if b = true then A else B := by
  cases b
  · exact iteF h.2
  · exact iteT h.1
def wdOk (ws : List Str) : Prop := 1 ≤ ws.length ∧ ws.length ≤ 10 ∧ ∀ x ∈ ws, x = "all" ∨ x = "any" ∨ x = "count"
def spRows : Sp := fun vs H Q _ => ∃ (p n ww : Addr) (down : Bool) (G : Hp) (ns ws : List Str), vs = [.ref p, .ref n, .int 4, .ref ww, .bl down] ∧ PS G p H ∧ G n = some (.lst (ns.map V.str)) ∧ NmOk ns ∧ G ww = some (.lst (ws.map V.str)) ∧ wdOk ws ∧
  ∀ (G' H' : Hp) (r : Addr) (wts : List Want), Same G G' → PS G' p H' → WantsAt G' r wts → wts.length ≤ 4 → (∀ x ∈ wts, WantOk ns x) → Q (.ref r) H'
theorem scRows : FnScope ["_law_pool_here", "_law_names_here", "_law_top", "_law_words", "_law_is_down", "_law_found", "_law_turn", "_law_spot", "_law_others", "_law_some", "_law_word"] ["_law_pool_here", "_law_names_here", "_law_top", "_law_words", "_law_is_down"] (defScope sLawRows) := ⟨rfl, rfl, rfl, by decide +kernel, rfl, by decide +kernel, by decide +kernel⟩
theorem cl_rows (T : Tx K mg) (D : Df K mg "_law_rows" sLawRows) (cT : Cl P w K mg base CX0 1 "_law_take" spTake) (cO : Cl P w K mg base CX0 2 "_law_one" spOne) (cU : Cl P w K mg base CX0 2 "_law_turned" spTurned) : Cl P w K mg base CX0 3 "_law_rows" spRows := by
  refine cl_of D scRows (fun _ _ _ _ _ _ us hl => match us, hl with | [_, _, _, _, _], _ => rfl) (fun vs H Q E h => ?_) (fun f cdv A outer s H vs Q E hr h => ?_)
  · obtain ⟨p, n, ww, down, G, ns, ws, rfl, _⟩ := h
    rfl
  · obtain ⟨p, n, ww, down, G, ns, ws, rfl, S, hn, N, hw, W, q⟩ := h
    have hu : (A.deeper (envOfC "_law_rows" (defScope sLawRows) s.heap.objs.size f cdv)).units + 64 < cLine := hr.units
    refine ⟨_, (pss_cons (ps_asg (pe_lst pa_nil) (pg_name (i := 5) scRows.nd rfl (Or.inl rfl))) (pss_cons (ps_for PassesOwn.never rfl (pi_range1 (by rfl) T.range (pa_cons (pe_k cT hr (pa_cons (pv 0) (pa_cons (pe_op op_add (pv 2) pe_int) pa_nil))) pa_nil)) (pg_name (i := 6) scRows.nd rfl (Or.inl rfl)) (pss_cons (ps_asg (pe_k cT hr (pa_cons (pv 0) (pa_cons (pe_len K (pv 1) T.len) pa_nil))) (pg_name (i := 7) scRows.nd rfl (Or.inl rfl))) (pss_cons (ps_asg (pe_ifExp (pt_val (pv 4)) (pe_slice sl_list (pv 1) po_none (po_some (pv 7))) (pe_op op_cat (pe_slice sl_list (pv 1) po_none (po_some (pv 7))) (pe_slice sl_list (pv 1) (po_some (pe_op op_add (pv 7) pe_int)) po_none))) (pg_name (i := 8) scRows.nd rfl (Or.inl rfl))) (pss_cons (ps_asg (pe_slice sl_list (pe_k cU hr (pa_cons (pv 0) (pa_cons (pv 8) pa_nil))) po_none (po_some (pe_op op_add pe_int (pe_k cT hr (pa_cons (pv 0) (pa_cons pe_int pa_nil)))))) (pg_name (i := 9) scRows.nd rfl (Or.inl rfl))) (pss_cons (ps_asg (pe_k cO hr (pa_cons (pv 0) (pa_cons (pv 3) pa_nil))) (pg_name (i := 10) scRows.nd rfl (Or.inl rfl))) (pss_one (ps_if (PW.pt (pw_and (pt_cmpR (op_neD hu) (pv 9) (pe_lst pa_nil) (nomark _)) (pw_and1 (pt_cmpR op_eq (pv 10) pe_str (nomark _))))) (pss_one (ps_expr (pe_bm PySem.F.plainAttrs_list PySem.F.slot_list_append PySem.F.type_list_append mt_append (pv 5) (pa_cons (pe_tup (pa_cons (pv 10) (pa_cons (pe_ix (k_ixL K) (pv 1) (pv 7) (fun _ _ => rfl)) (pa_cons (pe_tupleOf (by rfl) T.tuple (pv 9)) (pa_cons (pe_op op_add pe_int (pe_k cT hr (pa_cons (pv 0) (pa_cons (pe_len K (pv 9) T.len) pa_nil)))) pa_nil))))) pa_nil)))) (pss_one (ps_if (pt_cmpR (op_neD hu) (pv 9) (pe_lst pa_nil) (nomark _)) (pss_one (ps_expr (pe_bm PySem.F.plainAttrs_list PySem.F.slot_list_append PySem.F.type_list_append mt_append (pv 5) (pa_cons (pe_tup (pa_cons (pv 10) (pa_cons (pe_ix (k_ixL K) (pv 1) (pv 7) (fun _ _ => rfl)) (pa_cons (pe_tupleOf (by rfl) T.tuple (pv 9)) pa_nil)))) pa_nil)))) pss_nil))))))))) (pss_one (ps_ret (pv 5))))), ?_⟩
    have n1 := N.lo
    have n6 := N.hi
    refine ⟨by show 0 ≤ sizeLine; decide, fun r hr0 => ?_⟩
    have zr := S.no hr0
    have nr := S.np hr0
    have S1 := S.put (o := .lst []) zr nr
    have hr1 : (upd H r (.lst [])) r = some (.lst []) := upd_same
    generalize upd H r (.lst []) = H1 at S1 hr1 ⊢
    refine ⟨_, rfl, _, rfl, _, _, rfl, rfl, p, 5, rfl, S1.pool, by decide, by decide, fun H2 k kb2 hp2 k0 k1 => ?_⟩
    have S2 := S1.kb kb2 hp2
    have hr2 := kb2 _ _ nr hr1
    obtain ⟨kn, rfl⟩ : ∃ m : Nat, k = m := ⟨k.toNat, by omega⟩
    refine ⟨_, rfl, by omega, by omega, ?_⟩
    refine for_it (walk_range (lo := 0) (n := kn)) (fun i σ H' => ∃ (v6 v7 v8 v9 v10 : Option V) (wts : List Want), σ = [some (.ref p), some (.ref n), some (.int 4), some (.ref ww), some (.bl down), some (.ref r), v6, v7, v8, v9, v10] ∧ PS G p H' ∧ WantsAt H' r wts ∧ wts.length ≤ i ∧ ∀ x ∈ wts, WantOk ns x)
      ⟨_, _, _, _, _, [], rfl, S2, ⟨[], hr2, rfl, fun i t x e => by simp at e⟩, Nat.le_refl _, (fun x hx => by cases hx)⟩ (fun _ _ _ _ _ => trivial) ?_ ?_
    · rintro i x σ H' _ hi ⟨v6, v7, v8, v9, v10, wts, rfl, S3, W3, hle, hok⟩ ⟨rfl, rfl⟩
      -- spot
      refine ⟨_, rfl, _, rfl, n, _, rfl, .inl (.of (S3.s _ _ hn)), p, ns.length, by rw [List.length_map]; rfl, S3.pool, by omega, by omega, fun H4 j kb4 hp4 j0 j1 => ?_⟩
      obtain ⟨spot, rfl⟩ : ∃ m : Nat, j = m := ⟨j.toNat, by omega⟩
      have hsp : spot < ns.length := by omega
      have S4 := S3.kb kb4 hp4
      have W4 := W3.kb S3.pool nr kb4
      clear kb4 hp4 S3 W3 j0 j1
      -- others
      have both := fun (Q' : VK) => oth_read (K := K) (Q := Q') (σ := [some (.ref p), some (.ref n), some (.int 4), some (.ref ww), some (.bl down), some (.ref r), some (.int (0 + ((i : Nat) : Int))), some (.int ((spot : Nat) : Int)), v8, v9, v10]) (spot := spot) rfl rfl (S4.s _ _ hn) (by omega)
      refine ⟨_, rfl, down, rfl, ?_⟩
      refine if_both2 (both _ ?_)
      intro o oth H5 s5 ho h5 hoth
      have hno : ns[spot]? = some ns[spot] := List.getElem?_eq_getElem hsp
      have split3 : ns = ns.take spot ++ ns[spot] :: ns.drop (spot + 1) := by
        rw [List.getElem_cons_drop, List.take_append_drop]
      have nd3 : (ns.take spot ++ ns[spot] :: ns.drop (spot + 1)).Nodup := split3 ▸ N.nd
      have hothF : oth.Nodup ∧ (∀ x ∈ oth, x ∈ ns ∧ x ≠ ns[spot]) ∧ oth.length ≤ 6 := by
        have a := List.nodup_append.mp nd3
        have b := List.nodup_cons.mp a.2.1
        rcases hoth with rfl | rfl
        · refine ⟨a.1, fun x hx => ⟨List.mem_of_mem_take hx, fun e => a.2.2 x hx ns[spot] List.mem_cons_self e⟩, ?_⟩
          rw [List.length_take]
          omega
        · refine ⟨List.nodup_append.mpr ⟨a.1, b.2, fun x hx y hy => a.2.2 x hx y (List.mem_cons_of_mem _ hy)⟩, fun x hx => ?_, ?_⟩
          · rcases List.mem_append.mp hx with hx | hx
            · exact ⟨List.mem_of_mem_take hx, fun e => a.2.2 x hx ns[spot] List.mem_cons_self e⟩
            · exact ⟨List.mem_of_mem_drop hx, fun e => b.1 (e ▸ hx)⟩
          · rw [List.length_append, List.length_take, List.length_drop]
            omega
      have no := S4.np ho
      have S5 := S4.same s5
      have W5 := W4.same s5
      clear s5 S4 W4 both hoth
      -- some
      refine ⟨_, rfl, _, rfl, p, o, oth, rfl, S5.pool, h5, no, by omega, fun x hx => word_ok (N.word (hothF.2.1 x hx).1).1, fun H6 r6 ys kb6 hp6 _ nr6 h6 hperm => ?_⟩
      have S6 := S5.kb kb6 hp6
      have W6 := W5.kb S5.pool nr kb6
      clear kb6 hp6 h5
      refine ⟨_, rfl, p, 3, rfl, S6.pool, by decide, by decide, fun H7 k7 kb7 hp7 k70 k71 => ⟨_, _, rfl, rfl, _, rfl, r6, _, rfl, .of (kb7 _ _ nr6 h6), fun sm hsm => ?_⟩⟩
      obtain ⟨km, rfl⟩ : ∃ m : Nat, k7 = m := ⟨k7.toNat, by omega⟩
      have S7 := S6.kb kb7 hp7
      have W7 := W6.kb S6.pool nr kb7
      rw [show cutV (ys.map V.str) none (some (1 + ((km : Nat) : Int))) = (ys.take (km + 1)).map V.str from by
        rw [show (1 + ((km : Nat) : Int)) = ((km + 1 : Nat) : Int) by omega, cut_take, List.map_take]]
      have hsmF : (ys.take (km + 1)).Nodup ∧ (∀ x ∈ ys.take (km + 1), x ∈ ns ∧ x ≠ ns[spot]) ∧ (ys.take (km + 1)).length ≤ 6 := by
        refine ⟨(hperm.nodup_iff.mpr hothF.1).sublist (List.take_sublist _ _), fun x hx => hothF.2.1 x (hperm.mem_iff.mp (List.mem_of_mem_take hx)), ?_⟩
        have e := hperm.length_eq
        rw [List.length_take]
        omega
      generalize ys.take (km + 1) = sms at hsmF ⊢
      have S8 := S7.same (same_upd (o := .lst (sms.map V.str)) (Same.refl H7) hsm)
      have W8 := W7.same (same_upd (o := .lst (sms.map V.str)) (Same.refl H7) hsm)
      have h8 : (upd H7 sm (.lst (sms.map V.str))) sm = some (.lst (sms.map V.str)) := upd_same
      have nsm := S7.np hsm
      generalize upd H7 sm (.lst (sms.map V.str)) = H8 at S8 W8 h8 ⊢
      clear S5 W5 S6 W6 kb7 hp7 h6 hperm S7 W7 hsm hothF
      -- word
      refine ⟨_, rfl, _, rfl, p, ww, _, rfl, S8.pool, S8.s _ _ hw, ne_of_none hw S.z, by rw [List.length_map]; exact W.1, by rw [List.length_map]; have := W.2.1; omega, fun H9 v kb9 hp9 hv => ?_⟩
      obtain ⟨wd, hwd, rfl⟩ := List.mem_map.mp hv
      have S9 := S8.kb kb9 hp9
      have W9 := W8.kb S8.pool nr kb9
      have h9 := kb9 _ _ nsm h8
      clear kb9 hp9 hv S8 W8 h8
      have hle4 : wts.length + 1 ≤ i + 1 := by omega
      have hi4 : i < 5 := by omega
      have ev : PyData.eqv (.list (sms.map PyData.str)) (.list (([] : List Str).map PyData.str)) = decide (sms = []) := by
        rw [PyData.eqv]
        exact eqvAll_strs _ _
      have okS : SeqAt.shaped (.list (sms.map PyData.str)) = true := shp_strs _ fun x hx => word_ok (N.word (hsmF.2.1 x hx).1).1
      have okE : SeqAt.shaped (.list (([] : List Str).map PyData.str)) = true := shp_strs _ (fun x hx => by cases hx)
      refine ⟨_, rfl, by show 0 ≤ sizeLine; decide, fun e0 he0 => ⟨.list (sms.map PyData.str), .list (([] : List Str).map PyData.str), .lst (.of ((same_upd (Same.refl _) he0) _ _ h9)) (dp_strs _), .lst (.of upd_same) .nil, okS, okE, _, rfl, ?_⟩⟩
      rw [ev]
      have Sa := S9.same (same_upd (o := .lst []) (Same.refl H9) he0)
      have Wa := W9.same (same_upd (o := .lst []) (Same.refl H9) he0)
      have ha := (same_upd (o := .lst []) (Same.refl H9) he0) _ _ h9
      generalize upd H9 e0 (.lst []) = Ha at Sa Wa ha ⊢
      clear S9 W9 h9 he0
      by_cases hem : sms = []
      · rw [decide_eq_true hem]
        refine iteF (iteF ?_)
        refine ⟨_, rfl, by show 0 ≤ sizeLine; decide, fun e1 he1 => ⟨.list (sms.map PyData.str), .list (([] : List Str).map PyData.str), .lst (.of ((same_upd (Same.refl _) he1) _ _ ha)) (dp_strs _), .lst (.of upd_same) .nil, okS, okE, _, rfl, ?_⟩⟩
        rw [ev, decide_eq_true hem]
        exact iteF ⟨_, _, _, _, _, wts, rfl, Sa.same (same_upd (Same.refl _) he1), Wa.same (same_upd (Same.refl _) he1), by omega, hok⟩
      · rw [decide_eq_false hem]
        have hpos := List.length_pos_iff.mpr hem
        refine iteT ⟨_, rfl, rfl, _, rfl, ?_⟩
        by_cases hc : wd = "count"
        · rw [decide_eq_true (show V.str wd = V.str "count" from congrArg V.str hc)]
          obtain ⟨ts0, u1, _, _⟩ := id Wa
          refine iteT ⟨_, rfl, .inl ⟨rfl, _, .of u1⟩, _, rfl, _, rfl, _, rfl, n, _, _, _, rfl, rfl, .of (Sa.s _ _ hn), atI_nat (by rw [List.getElem?_map, hno]; rfl), ?_⟩
          refine ⟨_, rfl, .inl ⟨sm, _, rfl, .of ha, fun t2 ht2 => ?_⟩⟩
          have Sb := Sa.same (same_upd (o := .tup (sms.map V.str)) (Same.refl Ha) ht2)
          have Wb := Wa.same (same_upd (o := .tup (sms.map V.str)) (Same.refl Ha) ht2)
          have hb2 : (upd Ha t2 (.tup (sms.map V.str))) t2 = some (.tup (sms.map V.str)) := upd_same
          have hb := (same_upd (o := .tup (sms.map V.str)) (Same.refl Ha) ht2) _ _ ha
          have nt2 := Sa.np ht2
          generalize upd Ha t2 (.tup (sms.map V.str)) = Hb at Sb Wb hb2 hb ⊢
          refine ⟨_, rfl, _, rfl, sm, _, rfl, .inl (.of hb), p, sms.length, by rw [List.length_map]; rfl, Sb.pool, by omega, by omega, fun Hc kc kbc hpc kc0 kc1 => ⟨_, _, rfl, rfl, by show 4 ≤ sizeLine; decide, fun t ht => ?_⟩⟩
          have Sc := Sb.kb kbc hpc
          have Wc := Wb.kb Sb.pool nr kbc
          have hc2 := kbc _ _ nt2 hb2
          have Sd := Sc.same (same_upd (o := .tup [.str wd, .str ns[spot], .ref t2, .int (1 + kc)]) (Same.refl Hc) ht)
          have Wd := Wc.same (same_upd (o := .tup [.str wd, .str ns[spot], .ref t2, .int (1 + kc)]) (Same.refl Hc) ht)
          have hd : WantAt (upd Hc t (.tup [.str wd, .str ns[spot], .ref t2, .int (1 + kc)])) t ⟨wd, ns[spot], sms, some (1 + kc)⟩ := ⟨t2, upd_same, (same_upd (Same.refl _) ht) _ _ hc2⟩
          generalize upd Hc t (.tup [.str wd, .str ns[spot], .ref t2, .int (1 + kc)]) = Hd at Sd Wd hd ⊢
          obtain ⟨ts, ht1, ht2', ht3⟩ := id Wd
          refine ⟨r, _, .ref t, rfl, rfl, ht1, ?_, ?_⟩
          · rw [List.length_map, ht2']
            exact Nat.lt_of_le_of_lt (show wts.length ≤ 5 by omega) (by decide)
          refine ⟨_, _, _, _, _, wts ++ [⟨wd, ns[spot], sms, some (1 + kc)⟩], rfl, Sd.put zr nr, WantsAt.snoc ht1 ht2' ht3 hd, by rw [List.length_append]; exact hle4, fun x hx => ?_⟩
          rcases List.mem_append.mp hx with hx | hx
          · exact hok x hx
          · rw [List.mem_singleton.mp hx]
            have wsp := N.word (List.getElem_mem hsp)
            have a0 : (1 : Int) ≤ 1 + kc := by omega
            have a1 : 1 + kc ≤ (sms.length : Int) := by omega
            have a2 : ns[spot].length ≤ 1000 := by omega
            have a3 : 1 ≤ sms.length ∧ sms.length ≤ 1000 := ⟨hpos, by omega⟩
            exact ⟨.inl ⟨hc, 1 + kc, rfl, a0, a1⟩, ⟨⟨wsp.1, a2⟩, List.getElem_mem hsp⟩, a3, fun y hy => by
              have z := hsmF.2.1 y hy
              have wy := N.word z.1
              exact ⟨⟨wy.1, by omega⟩, z.1, z.2⟩, hsmF.1⟩
        · rw [decide_eq_false (show ¬ V.str wd = V.str "count" from fun z => hc (V.str.inj z))]
          refine iteF ?_
          refine ⟨_, rfl, by show 0 ≤ sizeLine; decide, fun e1 he1 => ⟨.list (sms.map PyData.str), .list (([] : List Str).map PyData.str), .lst (.of ((same_upd (Same.refl _) he1) _ _ ha)) (dp_strs _), .lst (.of upd_same) .nil, okS, okE, _, rfl, ?_⟩⟩
          rw [ev, decide_eq_false hem]
          have Sb := Sa.same (same_upd (o := .lst []) (Same.refl Ha) he1)
          have Wb := Wa.same (same_upd (o := .lst []) (Same.refl Ha) he1)
          have hb := (same_upd (o := .lst []) (Same.refl Ha) he1) _ _ ha
          generalize upd Ha e1 (.lst []) = Hb at Sb Wb hb ⊢
          obtain ⟨ts0, u1, _, _⟩ := id Wb
          refine iteT ⟨_, rfl, .inl ⟨rfl, _, .of u1⟩, _, rfl, _, rfl, _, rfl, n, _, _, _, rfl, rfl, .of (Sb.s _ _ hn), atI_nat (by rw [List.getElem?_map, hno]; rfl), ?_⟩
          refine ⟨_, rfl, .inl ⟨sm, _, rfl, .of hb, fun t2 ht2 => ⟨by show 3 ≤ sizeLine; decide, fun t ht => ?_⟩⟩⟩
          have Sc := Sb.same (same_upd (o := .tup (sms.map V.str)) (Same.refl Hb) ht2)
          have Wc := Wb.same (same_upd (o := .tup (sms.map V.str)) (Same.refl Hb) ht2)
          have hc2 : (upd Hb t2 (.tup (sms.map V.str))) t2 = some (.tup (sms.map V.str)) := upd_same
          generalize upd Hb t2 (.tup (sms.map V.str)) = Hc at Sc Wc hc2 ht ⊢
          have Sd := Sc.same (same_upd (o := .tup [.str wd, .str ns[spot], .ref t2]) (Same.refl Hc) ht)
          have Wd := Wc.same (same_upd (o := .tup [.str wd, .str ns[spot], .ref t2]) (Same.refl Hc) ht)
          have hd : WantAt (upd Hc t (.tup [.str wd, .str ns[spot], .ref t2])) t ⟨wd, ns[spot], sms, none⟩ := ⟨t2, upd_same, (same_upd (Same.refl _) ht) _ _ hc2⟩
          generalize upd Hc t (.tup [.str wd, .str ns[spot], .ref t2]) = Hd at Sd Wd hd ⊢
          obtain ⟨ts, ht1, ht2', ht3⟩ := id Wd
          refine ⟨r, _, .ref t, rfl, rfl, ht1, ?_, ?_⟩
          · rw [List.length_map, ht2']
            exact Nat.lt_of_le_of_lt (show wts.length ≤ 5 by omega) (by decide)
          refine ⟨_, _, _, _, _, wts ++ [⟨wd, ns[spot], sms, none⟩], rfl, Sd.put zr nr, WantsAt.snoc ht1 ht2' ht3 hd, by rw [List.length_append]; exact hle4, fun x hx => ?_⟩
          rcases List.mem_append.mp hx with hx | hx
          · exact hok x hx
          · rw [List.mem_singleton.mp hx]
            have wsp := N.word (List.getElem_mem hsp)
            have hwk : wd = "all" ∨ wd = "any" := by
              rcases W.2.2 wd hwd with e | e | e
              · exact .inl e
              · exact .inr e
              · exact absurd e hc
            have a2 : ns[spot].length ≤ 1000 := by omega
            have a3 : 1 ≤ sms.length ∧ sms.length ≤ 1000 := ⟨hpos, by omega⟩
            exact ⟨.inr ⟨hwk, rfl⟩, ⟨⟨wsp.1, a2⟩, List.getElem_mem hsp⟩, a3, fun y hy => by
              have z := hsmF.2.1 y hy
              have wy := N.word z.1
              exact ⟨⟨wy.1, by omega⟩, z.1, z.2⟩, hsmF.1⟩
    · rintro σ H' ⟨v6, v7, v8, v9, v10, wts, rfl, S3, W3, hle, hok⟩
      obtain ⟨G', S', sG, hG⟩ := S3.ext
      exact ⟨_, rfl, q G' H' r wts sG S' (W3.kb S3.pool nr hG) (by omega) hok⟩
end
end K75
set_option Elab.async false
set_option linter.all false
set_option maxRecDepth 100000
set_option maxHeartbeats 4000000
namespace K75
open PySem PySem.Spec PyProof.Rows L2
section
variable {P : Program} {w : World} {K : PySem.W.Frag} {mg : Str → Option Value} {base : Heap}
/-! ### a dict that is written -/
structure DAt (H : Hp) (d : Addr) (n : Nat) (l : List (Str × V)) : Prop where
  ex : ∃ kvs : List (Key × V), H d = some (.dK kvs) ∧ kvs.length ≤ n ∧ ∀ p ∈ l, valV kvs (.inr p.1) = some p.2
theorem DAt.same {H H' : Hp} {d : Addr} {n : Nat} {l : List (Str × V)} (h : DAt H d n l) (s : Same H H') : DAt H' d n l := by
  obtain ⟨kvs, a, b, c⟩ := h.ex
  exact ⟨kvs, s _ _ a, b, c⟩
theorem DAt.kb {H H' : Hp} {p d : Addr} {n : Nat} {l : List (Str × V)} (h : DAt H d n l) (q : d ≠ p) (k : KB p H H') : DAt H' d n l := by
  obtain ⟨kvs, a, b, c⟩ := h.ex
  exact ⟨kvs, k _ _ q a, b, c⟩
theorem DAt.sub {H : Hp} {d : Addr} {n m : Nat} {l l' : List (Str × V)} (h : DAt H d n l) (hm : n ≤ m) (hl : ∀ p ∈ l', p ∈ l) : DAt H d m l' := by
  obtain ⟨kvs, a, b, c⟩ := h.ex
  exact ⟨kvs, a, Nat.le_trans b hm, fun p hp => c p (hl p hp)⟩
theorem DAt.get {H : Hp} {d : Addr} {n : Nat} {l : List (Str × V)} (h : DAt H d n l) {k : Str} {v : V} (hm : (k, v) ∈ l) : DGet H d (.str k) (some v) := by
  obtain ⟨kvs, a, b, c⟩ := h.ex
  rw [← c _ hm]
  exact DGet.k (k := Sum.inr k) a
theorem DAt.put {H : Hp} {d : Addr} {n : Nat} {l : List (Str × V)} (h : DAt H d n l) (hn : n ≤ 1000) (k : Str) (hk : (l.map (·.1)).contains k = false) (y : V) : ∃ H', DPut H d (.str k) y H' ∧ DAt H' d (n + 1) ((k, y) :: l) ∧ (∀ c o, c ≠ d → H c = some o → H' c = some o) ∧ ∃ o, H' = upd H d o := by
  obtain ⟨kvs, a, b, c⟩ := h.ex
  refine ⟨_, DPut.k (k := Sum.inr k) a (Nat.lt_of_le_of_lt (show kvs.length ≤ 1000 by omega) (by decide)), ⟨_, upd_same, Nat.le_trans (length_putK kvs _ _) (by omega), fun p hp => ?_⟩, fun c o hc e => by rw [upd_ne hc]; exact e, _, rfl⟩
  rw [valV_put]
  rcases List.mem_cons.mp hp with rfl | hp
  · rw [if_pos rfl]
  · have ne : ¬ (Sum.inr p.1 : Key) = Sum.inr k := fun e => by
      have z := List.contains_iff_mem.mpr (List.mem_map.mpr ⟨p, hp, Sum.inr.inj e⟩ : k ∈ l.map (·.1))
      rw [hk] at z
      cases z
    rw [if_neg ne]
    exact c p hp
theorem PS.drop {G H : Hp} {p : Addr} (h : PS G p H) (d : Addr) : ∃ G', PS G' p H ∧ G' d = none ∧ ∀ c o, c ≠ d → G c = some o → G' c = some o := by
  refine ⟨fun c => if c = d then none else G c, ⟨fun c o e => ?_, ?_, h.pool⟩, if_pos rfl, fun c o n e => ?_⟩
  · have e' : (if c = d then none else G c) = some o := e
    by_cases n : c = d
    · rw [if_pos n] at e'; cases e'
    · rw [if_neg n] at e'
      exact h.s _ _ e'
  · show (if p = d then none else G p) = none
    split
    · rfl
    · exact h.z
  · show (if c = d then none else G c) = some o
    rw [if_neg n]
    exact e
theorem RowsAt.drop {G G' : Hp} {d r : Addr} {kvs : List (Key × V)} {rows : List (List V)} (h : RowsAt G r rows) (e : G d = some (.dK kvs)) (k : ∀ c o, c ≠ d → G c = some o → G' c = some o) : RowsAt G' r rows := by
  obtain ⟨ts, h1, h2, h3⟩ := h
  exact ⟨ts, k _ _ (ne_of h1 e (fun z => nomatch z)) h1, h2, fun i t xs e1 e2 => k _ _ (ne_of (h3 i t xs e1 e2) e (fun z => nomatch z)) (h3 i t xs e1 e2)⟩
theorem WantsAt.drop {G G' : Hp} {d r : Addr} {kvs : List (Key × V)} {ws : List Want} (h : WantsAt G r ws) (e : G d = some (.dK kvs)) (k : ∀ c o, c ≠ d → G c = some o → G' c = some o) : WantsAt G' r ws := by
  obtain ⟨ts, h1, h2, h3⟩ := h
  refine ⟨ts, k _ _ (ne_of h1 e (fun z => nomatch z)) h1, h2, fun i t x e1 e2 => ?_⟩
  obtain ⟨t2, w1, w2⟩ := h3 i t x e1 e2
  exact ⟨t2, k _ _ (ne_of w1 e (fun z => nomatch z)) w1, k _ _ (ne_of w2 e (fun z => nomatch z)) w2⟩
/-- the words that are drawn from -/
theorem words_read {σ : L2.St} {H : Hp} {Q : VK} (k : ∀ (o : Addr) (ws : List Str) (H2 : Hp), Same H H2 → H o = none → H2 o = some (.lst (ws.map V.str)) → wdOk ws → Q (.ref o) H2) :
    tLst (tCons (tC (.str "all")) tNil) σ H Q ∧ tLst (tCons (tC (.str "all")) (tCons (tC (.str "any")) (tCons (tC (.str "any")) (tCons (tC (.str "count")) tNil)))) σ H Q := by
  refine ⟨⟨by show 1 ≤ sizeLine; decide, fun o ho => ?_⟩, ⟨by show 4 ≤ sizeLine; decide, fun o ho => ?_⟩⟩
  · refine k o ["all"] _ (same_upd (Same.refl _) ho) ho upd_same ⟨by decide, by decide, fun x hx => ?_⟩
    exact .inl (List.mem_singleton.mp hx)
  · refine k o ["all", "any", "any", "count"] _ (same_upd (Same.refl _) ho) ho upd_same ⟨by decide, by decide, fun x hx => ?_⟩
    simp only [List.mem_cons, List.not_mem_nil, or_false] at hx
    rcases hx with rfl | rfl | rfl | rfl
    · exact .inl rfl
    · exact .inr (.inl rfl)
    · exact .inr (.inl rfl)
    · exact .inr (.inr rfl)
theorem pair_perm {a b c d : Str} (h : [a, b].Perm [c, d]) : (a = c ∧ b = d) ∨ (a = d ∧ b = c) := by
  have ha : a ∈ [c, d] := h.mem_iff.mp List.mem_cons_self
  simp only [List.mem_cons, List.not_mem_nil, or_false] at ha
  rcases ha with rfl | rfl
  · have h2 := (List.perm_cons a).mp h
    exact .inl ⟨rfl, List.singleton_perm_singleton.mp h2⟩
  · have h3 := h.trans (List.Perm.swap a c [])
    have h2 := (List.perm_cons a).mp h3
    exact .inr ⟨rfl, List.singleton_perm_singleton.mp h2⟩
theorem bars_any (brs : List (Str × Str)) (a b : Str) : ((brs.map fun q : Str × Str => PyData.tuple [.str q.1, .str q.2]).any fun z => PyData.eqv z (.tuple [.str a, .str b])) = decide ((a, b) ∈ brs) := by
  rw [List.any_map]
  by_cases h : (a, b) ∈ brs
  · rw [decide_eq_true h]
    exact List.any_eq_true.mpr ⟨(a, b), h, by simp [PyData.eqv, PyData.eqvAll]⟩
  · rw [decide_eq_false h, List.any_eq_false]
    intro q hq
    obtain ⟨q1, q2⟩ := q
    have e : PyData.eqv (.tuple [.str q1, .str q2]) (.tuple [.str a, .str b]) = decide ([q1, q2] = [a, b]) := by
      rw [PyData.eqv]
      exact eqvAll_strs [q1, q2] [a, b]
    show ¬ PyData.eqv (.tuple [.str q1, .str q2]) (.tuple [.str a, .str b]) = true
    rw [e]
    intro z
    have z2 := of_decide_eq_true z
    injection z2 with z3 z4
    injection z4 with z5 _
    rw [z3, z5] at hq
    exact h hq
theorem bars_lay : ∀ (brs : List (Str × Str)), (∀ q ∈ brs, PyData.strOk q.1 = true ∧ PyData.strOk q.2 = true) → PyData.canLayAll0 (brs.map fun q => .tuple [.str q.1, .str q.2]) = true ∧ PyData.depthAll (brs.map fun q => .tuple [.str q.1, .str q.2]) ≤ 1
  | [], _ => by simp [PyData.canLayAll0, PyData.depthAll]
  | q :: brs, h => by
    have h1 := h q List.mem_cons_self
    have h2 := bars_lay brs fun x hx => h x (List.mem_cons_of_mem _ hx)
    constructor
    · simp [PyData.canLayAll0, PyData.canLay0, h1.1, h1.2, h2.1]
    · have := h2.2
      simp only [List.map_cons, PyData.depthAll, PyData.depth]
      omega
theorem bars_shaped (brs : List (Str × Str)) (h : ∀ q ∈ brs, PyData.strOk q.1 = true ∧ PyData.strOk q.2 = true) : SeqAt.shaped (.list (brs.map fun q => .tuple [.str q.1, .str q.2])) = true := by
  show (PyData.canLay0 _ && decide (PyData.depth _ ≤ 64)) = true
  have h1 := bars_lay brs h
  rw [Bool.and_eq_true]
  refine ⟨by simp only [PyData.canLay0]; exact h1.1, decide_eq_true ?_⟩
  simp only [PyData.depth]
  omega
theorem ps_conv {X : Cx} {st : Stmt} {t t' : TS} (h : L2.PS X st t) (k : ∀ D σ H, t' D σ H → t D σ H) : L2.PS X st t' := ⟨fun pins s σ H D I q => h.run pins s σ H D I (k D σ H q)⟩
/-- if sort == 4: book['gives'] = .. -/
def T8 : TS := fun DD σ H => ∃ (p d Dn g1 : Addr) (sort : Int) (ns : List Str) (G : Hp) (n : Nat) (l : List (Str × V)) (v1 v3 v4 v6 v7 v9 v10 v11 : Option V), σ = [some (.ref p), v1, some (.int sort), v3, v4, some (.ref Dn), v6, v7, some (.ref d), v9, v10, v11] ∧ PS G p H ∧ G d = none ∧ d ≠ p ∧ DAt H d n (("gives", .ref g1) :: l) ∧ n ≤ 100 ∧ (l.map (·.1)).contains ("gives" : Str) = false ∧
  RowsAt G g1 (([] : List (Str × Int)).map skRow) ∧ G Dn = some (.lst (ns.map V.str)) ∧ NmOk ns ∧ Dn ≠ p ∧ ∀ (G6 H' : Hp) (ag : Addr) (gvs : List (Str × Int)), Same G G6 → PS G6 p H' → G6 d = none → DAt H' d (n + 1) (("gives", .ref ag) :: l) → RowsAt G6 ag (gvs.map skRow) → NuOk ns 1 3 gvs → DD.nx σ H'
def spBook : Sp := fun vs H Q _ => ∃ (p : Addr) (sort : Int) (G : Hp), vs = [.ref p, .int 6, .int sort] ∧ PS G p H ∧ ∀ (G' H' : Hp) (d : Addr) (kvs : List (Key × V)) (A : BookAd) (b : BookD), Same G G' → PS G' p H' → G' d = some (.dK kvs) → HoldsP kvs A b → PartsAt G' A b → BookOk b → NmOk b.ns → Q (.ref d) H'
theorem scBook : FnScope ["_law_pool_here", "_law_top", "_law_sort", "_law_rows_here", "_law_asked", "_law_names_here", "_law_row", "_law_words", "_law_book_here", "_law_turn", "_law_pair", "_law_name"] ["_law_pool_here", "_law_top", "_law_sort"] (defScope sLawBook) := ⟨rfl, rfl, rfl, by decide +kernel, rfl, by decide +kernel, by decide +kernel⟩
theorem cl_book (T : Tx K mg) (D : Df K mg "_law_book" sLawBook) (cT : Cl P w K mg base CX0 1 "_law_take" spTake) (cO : Cl P w K mg base CX0 2 "_law_one" spOne) (cU : Cl P w K mg base CX0 2 "_law_turned" spTurned) (cTr : Cl P w K mg base CX0 3 "_law_tree" spTree) (cRw : Cl P w K mg base CX0 3 "_law_rows" spRows) : Cl P w K mg base CX0 4 "_law_book" spBook := by
  refine cl_of D scBook (fun _ _ _ _ _ _ us hl => match us, hl with | [_, _, _], _ => rfl) (fun vs H Q E h => ?_) (fun f cdv A outer s H vs Q E hr h => ?_)
  · obtain ⟨p, sort, G, rfl, _⟩ := h
    rfl
  · obtain ⟨p, sort, G, rfl, S, q⟩ := h
    have hu1 : (A.deeper (envOfC "_law_book" (defScope sLawBook) s.heap.objs.size f cdv)).units + 1 < cLine := by have := hr.units; omega
    have hu2 : (A.deeper (envOfC "_law_book" (defScope sLawBook) s.heap.objs.size f cdv)).units + 65 < cLine := by have := hr.un; omega
    refine ⟨_, (pss_cons (ps_asg (pe_k cTr hr (pa_cons (pv 0) (pa_cons (pv 1) pa_nil))) (pg_unl rfl (pgs_cons (pg_name (i := 3) scBook.nd rfl (Or.inl rfl)) (pgs_cons (pg_name (i := 4) scBook.nd rfl (Or.inl rfl)) pgs_nil)))) (pss_cons (ps_setLc (i := 5) (own := [("_law_row", 6)]) (g := gName 6) (tt := tYes) rfl scBook.nd rfl (by rfl) (by rfl) (pi_list (pv 3)) (blkOk_by (N := ["_law_pool_here", "_law_top", "_law_sort", "_law_rows_here", "_law_asked", "_law_names_here", "_law_row", "_law_words", "_law_book_here", "_law_turn", "_law_pair", "_law_name"]) (sc := defScope sLawBook) (by decide +kernel)) (fun _ _ _ _ _ => (pg_name (i := 6) scBook.nd rfl (Or.inl rfl))) (fun _ _ _ _ _ => pts_nil) (fun _ _ _ _ _ => by exact (pe_ix (k_ixT K) (pv 6) pe_int (fun _ _ => rfl)))) (pss_cons (ps_asg (pe_ifExp (pt_cmpR op_eq (pv 2) pe_int (nomark _)) (pe_lst (pa_cons pe_str pa_nil)) (pe_lst (pa_cons pe_str (pa_cons pe_str (pa_cons pe_str (pa_cons pe_str pa_nil)))))) (pg_name (i := 7) scBook.nd rfl (Or.inl rfl))) (pss_cons (ps_asg (pe_disp (pps_cons pe_str (pv 3) (pps_cons pe_str (pe_k cO hr (pa_cons (pv 0) (pa_cons (pe_lst (pa_cons pe_int (pa_cons pe_int (pa_cons pe_int (pa_cons pe_int (pa_cons pe_int (pa_cons pe_int (pa_cons pe_int (pa_cons pe_int (pa_cons pe_int (pa_cons pe_int pa_nil))))))))))) pa_nil))) (pps_cons pe_str (pv 4) pps_nil))) rfl rfl (by intro z; cases z) (by decide)) (pg_name (i := 8) scBook.nd rfl (Or.inl rfl))) (pss_cons (ps_asg (pe_ifExp (pt_cmpR op_eq (pv 2) pe_int (nomark _)) (pe_lst pa_nil) (pe_k cRw hr (pa_cons (pv 0) (pa_cons (pv 5) (pa_cons pe_int (pa_cons (pv 7) (pa_cons (pe_cmpR op_lt (pv 2) pe_int (nomark _)) pa_nil))))))) (pg_sub (pv 8) pe_str (set_dict hu1))) (pss_cons (ps_asg (pe_tup (pa_cons (pe_lst pa_nil) (pa_cons (pe_lst pa_nil) pa_nil))) (k_tup K (pgs_cons (pg_sub (pv 8) pe_str (set_dict hu1)) (pgs_cons (pg_sub (pv 8) pe_str (set_dict hu1)) pgs_nil)))) (pss_cons (ps_for PassesOwn.never rfl (pi_range1 (by rfl) T.range (pa_cons (pe_ifExp (PW.pt (pw_and (pt_cmpR op_gt (pv 2) pe_int (nomark _)) (pw_and1 (pt_cmpR op_gt (pe_len K (pv 5) T.len) pe_int (nomark _))))) (pe_k cT hr (pa_cons (pv 0) (pa_cons pe_int pa_nil))) pe_int) pa_nil)) (pg_name (i := 9) scBook.nd rfl (Or.inl rfl)) (pss_cons (ps_asg (pe_tupleOf (by rfl) T.tuple (pe_slice sl_list (pe_k cU hr (pa_cons (pv 0) (pa_cons (pv 5) pa_nil))) po_none (po_some pe_int))) (pg_name (i := 10) scBook.nd rfl (Or.inl rfl))) (pss_one (ps_if (PW.pt (pw_and (pt_cmpR (op_notInD hu2) (pv 10) (pe_dget hu1 (pv 8) pe_str (fun _ _ => rfl)) rfl) (pw_and1 (pt_cmpR (op_notInD hu2) (pe_rev2 K (pv 10)) (pe_dget hu1 (pv 8) pe_str (fun _ _ => rfl)) rfl)))) (pss_one (ps_asg (pe_op op_cat (pe_dget hu1 (pv 8) pe_str (fun _ _ => rfl)) (pe_lst (pa_cons (pv 10) pa_nil))) (pg_sub (pv 8) pe_str (set_dict hu1)))) pss_nil)))) (pss_cons (ps_conv (t' := T8) (ps_if (pt_cmpR op_eq (pv 2) pe_int (nomark _)) (pss_one (ps_asg (pe_lc (own := [("_law_name", 11)]) (g := gName 11) (tt := tYes) rfl scBook.nd (pi_list (pe_slice sl_list (pe_k cU hr (pa_cons (pv 0) (pa_cons (pv 5) pa_nil))) po_none (po_some (pe_op op_add pe_int (pe_k cT hr (pa_cons (pv 0) (pa_cons pe_int pa_nil))))))) (blkOk_by (N := ["_law_pool_here", "_law_top", "_law_sort", "_law_rows_here", "_law_asked", "_law_names_here", "_law_row", "_law_words", "_law_book_here", "_law_turn", "_law_pair", "_law_name"]) (sc := defScope sLawBook) (by decide +kernel)) (fun _ _ _ _ _ => (pg_name (i := 11) scBook.nd rfl (Or.inl rfl))) (fun _ _ _ _ _ => pts_nil) (fun _ _ _ _ _ => by exact (pe_tup (pa_cons (pv 11) (pa_cons (pe_op op_add pe_int (pe_k cT hr (pa_cons (pv 0) (pa_cons pe_int pa_nil)))) pa_nil))))) (pg_sub (pv 8) pe_str (set_dict hu1)))) pss_nil) ?c8) (pss_cons (ps_asg (pe_lc (own := [("_law_name", 11)]) (g := gName 11) rfl scBook.nd (pi_list (pv 5)) (blkOk_by (N := ["_law_pool_here", "_law_top", "_law_sort", "_law_rows_here", "_law_asked", "_law_names_here", "_law_row", "_law_words", "_law_book_here", "_law_turn", "_law_pair", "_law_name"]) (sc := defScope sLawBook) (by decide +kernel)) (fun _ _ _ _ _ => (pg_name (i := 11) scBook.nd rfl (Or.inl rfl))) (fun _ _ _ _ _ => by exact (pts_one (pt_cmpR op_eq (pe_k cT hr (pa_cons (pv 0) (pa_cons pe_int pa_nil))) pe_int (nomark _)))) (fun _ _ _ _ _ => by exact (pe_tup (pa_cons (pv 11) (pa_cons (pe_k cO hr (pa_cons (pv 0) (pa_cons (pe_lst (pa_cons pe_int (pa_cons pe_int (pa_cons pe_int (pa_cons pe_int (pa_cons pe_int (pa_cons pe_int pa_nil))))))) pa_nil))) pa_nil))))) (pg_sub (pv 8) pe_str (set_dict hu1))) (pss_cons (ps_asg (pe_k cO hr (pa_cons (pv 0) (pa_cons (pe_lst (pa_cons pe_non (pa_cons pe_non (pa_cons pe_int (pa_cons pe_int (pa_cons pe_int (pa_cons pe_int (pa_cons pe_int (pa_cons pe_int pa_nil))))))))) pa_nil))) (pg_sub (pv 8) pe_str (set_dict hu1))) (pss_one (ps_ret (pv 8))))))))))))), ?main⟩
    case c8 =>
      intro DD σ H h
      obtain ⟨p, d, Dn, g1, sort, ns, G, n, l, v1, v3, v4, v6, v7, v9, v10, v11, rfl, S, zd, nd, DA, n100, hc, RG, hN, NO, nD, k⟩ := h
      have n1 := NO.lo
      have n6 := NO.hi
      refine ⟨_, rfl, rfl, _, rfl, ?_⟩
      by_cases hs : V.int sort = V.int 4
      · rw [decide_eq_true hs]
        refine iteT ?_
        refine ⟨_, rfl, _, rfl, p, Dn, ns, rfl, S.pool, S.s _ _ hN, nD, by omega, fun x hx => word_ok (NO.word hx).1, fun H1 r ys kb1 hp1 _ nr hr perm => ?_⟩
        have S1 := S.kb kb1 hp1
        have D1 := DA.kb nd kb1
        refine ⟨_, rfl, p, 2, rfl, S1.pool, by decide, by decide, fun H2 j kb2 hp2 j0 j1 => ⟨_, _, rfl, rfl, _, rfl, r, _, rfl, .of (kb2 _ _ nr hr), fun sl hsl => ?_⟩⟩
        obtain ⟨jn, rfl⟩ : ∃ m : Nat, j = m := ⟨j.toNat, by omega⟩
        have S2 := S1.kb kb2 hp2
        have D2 := D1.kb nd kb2
        rw [show cutV (ys.map V.str) none (some (1 + ((jn : Nat) : Int))) = (ys.take (jn + 1)).map V.str from by
          rw [show (1 + ((jn : Nat) : Int)) = ((jn + 1 : Nat) : Int) by omega, cut_take, List.map_take]]
        have hF : (ys.take (jn + 1)).Nodup ∧ (∀ x ∈ ys.take (jn + 1), x ∈ ns) ∧ (ys.take (jn + 1)).length ≤ 6 := by
          refine ⟨(perm.nodup_iff.mpr NO.nd).sublist (List.take_sublist _ _), fun x hx => perm.mem_iff.mp (List.mem_of_mem_take hx), ?_⟩
          have e := perm.length_eq
          rw [List.length_take]
          omega
        generalize ys.take (jn + 1) = sms at hF ⊢
        have S3 := S2.same (same_upd (o := .lst (sms.map V.str)) (Same.refl H2) hsl)
        have D3 := D2.same (same_upd (o := .lst (sms.map V.str)) (Same.refl H2) hsl)
        have h3 : (upd H2 sl (.lst (sms.map V.str))) sl = some (.lst (sms.map V.str)) := upd_same
        have nsl := S2.np hsl
        have dsl : sl ≠ d := by
          obtain ⟨kvs, e, _⟩ := D2.ex
          exact (ne_of_none e hsl).symm
        generalize upd H2 sl (.lst (sms.map V.str)) = H3 at S3 D3 h3 ⊢
        obtain ⟨G4, S4, sG4, hG4, z4⟩ := S3.ext2 zd nd
        have hs4 := hG4 _ _ nsl dsl h3
        refine ⟨sl, rfl, ⟨_, .of h3⟩, fun Da hDa => ?_⟩
        have za := S4.no hDa
        have na := S4.np hDa
        have da : Da ≠ d := by
          obtain ⟨kvs, e, _⟩ := D3.ex
          exact (ne_of_none e hDa).symm
        refine lc_it (walk_list (xs := sms.map V.str)) (fun i H' => PS G4 p H' ∧ DAt H' d n (("gives", .ref g1) :: l) ∧ ∃ gs : List (Str × Int), RowsAt H' Da (gs.map skRow) ∧ gs.map (fun x : Str × Int => x.1) = sms.take i ∧ ∀ x ∈ gs, 1 ≤ x.2 ∧ x.2 ≤ 3)
          ⟨S4.same (same_upd (Same.refl _) hDa), D3.same (same_upd (Same.refl _) hDa), [], ⟨[], upd_same, rfl, fun i t xs e => by simp at e⟩, by simp, fun x hx => by cases hx⟩ (fun i H' _ q => .of (q.1.s _ _ hs4)) ?_ ?_
        · rintro i x _ H' hi ⟨S5, D5, gs, R5, hg5, hv5⟩ ⟨rfl, hx⟩
          obtain ⟨nm, hnm, rfl⟩ := str_at hx
          refine ⟨rfl, _, rfl, _, rfl, p, 3, rfl, S5.pool, by decide, by decide, fun H6 m kb6 hp6 m0 m1 => ⟨_, _, rfl, rfl, by show 2 ≤ sizeLine; decide, fun t ht => ?_⟩⟩
          have S6 := S5.kb kb6 hp6
          have D6 := D5.kb nd kb6
          have R6 := R5.kb S5.pool na kb6
          have S7 := S6.same (same_upd (o := .tup [.str nm, .int (1 + m)]) (Same.refl H6) ht)
          have D7 := D6.same (same_upd (o := .tup [.str nm, .int (1 + m)]) (Same.refl H6) ht)
          have t7 : (upd H6 t (.tup [.str nm, .int (1 + m)])) t = some (.tup [.str nm, .int (1 + m)]) := upd_same
          obtain ⟨ts, u1, u2, u3⟩ := R6.same (same_upd (o := .tup [.str nm, .int (1 + m)]) (Same.refl H6) ht)
          generalize upd H6 t (.tup [.str nm, .int (1 + m)]) = H7 at S7 D7 t7 u1 u3 ⊢
          have il : i < sms.length := (List.getElem?_eq_some_iff.mp hnm).1
          have gl : gs.length = i := by
            have e := congrArg List.length hg5
            rw [List.length_map, List.length_take] at e
            omega
          refine ⟨_, u1, ?_, S7.put za na, ?_, gs ++ [(nm, 1 + m)], ?_, ?_, fun x hx => ?_⟩
          · rw [List.length_map, u2, List.length_map, gl]
            exact Nat.lt_of_le_of_lt (show i ≤ 6 by omega) (by decide)
          · obtain ⟨kvs, e1, e2, e3⟩ := D7.ex
            exact ⟨kvs, (upd_ne da.symm).trans e1, e2, e3⟩
          · rw [List.map_append]
            exact RowsAt.snoc u1 u2 u3 t7
          · rw [List.map_append, hg5, List.take_add_one, hnm]
            rfl
          · rcases List.mem_append.mp hx with hx | hx
            · exact hv5 x hx
            · rw [List.mem_singleton.mp hx]
              exact ⟨by show 1 ≤ 1 + m; omega, by show 1 + m ≤ 3; omega⟩
        rintro H8 ⟨S8, D8, gs, R8, hg8, hv8⟩
        rw [List.length_map, List.take_length] at hg8
        have D9 := D8.sub (l' := l) (Nat.le_refl _) (fun x hx => List.mem_cons_of_mem _ hx)
        obtain ⟨G9, S9, sG9, hG9, z9⟩ := S8.ext2 z4 nd
        have R9 : RowsAt G9 Da (gs.map skRow) := by
          obtain ⟨us, u1, u2, u3⟩ := R8
          obtain ⟨_, _, ep, _⟩ := S8.pool
          obtain ⟨kvs, ed, _⟩ := D8.ex
          exact ⟨us, hG9 _ _ na da u1, u2, fun i t xs e1 e2 => hG9 _ _ (ne_of (u3 i t xs e1 e2) ep (fun z => nomatch z)) (ne_of (u3 i t xs e1 e2) ed (fun z => nomatch z)) (u3 i t xs e1 e2)⟩
        obtain ⟨Hx, dx, Dx, _, ox, ex⟩ := D9.put (by omega) "gives" hc (.ref Da)
        refine ⟨_, rfl, d, Hx, rfl, dx, ?_⟩
        have Sx : PS G9 p Hx := by rw [ex]; exact S9.put z9 nd
        have gl : gs.length = sms.length := by rw [← hg8, List.length_map]
        refine k G9 Hx Da gs (sG4.trans sG9) Sx z9 Dx R9 ⟨by omega, fun x hx => ?_, by rw [show gs.map (·.1) = sms from hg8]; exact hF.1⟩
        have hm : x.1 ∈ sms := by rw [← hg8]; exact List.mem_map.mpr ⟨x, hx, rfl⟩
        have hw := NO.word (hF.2.1 _ hm)
        exact ⟨⟨hw.1, by omega⟩, hF.2.1 _ hm, hv8 x hx⟩
      · rw [decide_eq_false hs]
        exact iteF (k G H g1 [] (Same.refl _) S zd (DA.sub (Nat.le_succ _) fun x hx => hx) RG ⟨by decide, (fun x hx => by cases hx), .nil⟩)
    -- the tree
    refine ⟨_, rfl, _, rfl, p, G, rfl, S, fun G1 H1 t aS aN ss nds sG1 S1 ht RS SO NO RN NN => ?_⟩
    refine ⟨t, _, rfl, .of (S1.s _ _ ht), rfl, _, _, rfl, _, _, rfl, rfl, ?_⟩
    have z12 := SO.hi
    have z1 := NO.lo
    have z6 := NO.hi
    clear ht
    -- names
    obtain ⟨ts, h1, h2, h3⟩ := id RS
    refine ⟨_, rfl, aS, rfl, ⟨_, .of (S1.s _ _ h1)⟩, fun D hD => ?_⟩
    refine lc_rows (S1.s _ _ h1) h2 (fun i t xs e1 e2 => S1.s _ _ (h3 i t xs e1 e2)) (ss.map fun p => V.str p.1) (by simp) (by rw [List.length_map]; omega) hD ?_ ?_
    · intro i t xs H3 y hxs hy s3 ht R' hR
      obtain ⟨p, hp, rfl⟩ := names_comp (K := K) hxs
      rw [List.getElem?_map, hp] at hy
      cases hy
      exact ⟨rfl, _, rfl, t, _, _, _, rfl, rfl, .of ht, rfl, hR _ (Same.refl _)⟩
    intro H2 s2 hD2
    have hDn : H2 D = some (.lst ((ss.map fun x : Str × Int => x.1).map V.str)) := hD2.trans (by rw [List.map_map]; rfl)
    have S2 := S1.same s2
    have nD := S1.np hD
    clear hD2 s2 hD h1 h2 h3 ts
    generalize hns : (ss.map fun x : Str × Int => x.1) = ns at hDn NO z1 z6
    -- words
    refine ⟨_, rfl, rfl, _, rfl, if_both2 (words_read ?_)⟩
    intro ww ws H3 s3 hw3 hww W
    have S3 := S2.same s3
    have nww := S2.np hw3
    obtain ⟨G2, S4, sG2, hG2⟩ := S3.ext
    have hN2 := hG2 _ _ nD (s3 _ _ hDn)
    have hW2 := hG2 _ _ nww hww
    have RS2 := RS.same sG2
    have RN2 := RN.same sG2
    clear S1 S2 S3 hDn hw3 hww hG2 RS RN s3
    -- the dict
    refine fun d hd => ?_
    have nd := S4.np hd
    have zd := S4.no hd
    have S5 := S4.same (same_upd (o := .dK []) (Same.refl H3) hd)
    have hd5 : (upd H3 d (.dK [])) d = some (.dK []) := upd_same
    generalize upd H3 d (.dK []) = H5 at S5 hd5 ⊢
    refine ⟨_, rfl, _, rfl, by show 10 ≤ sizeLine; decide, fun l hl => ?_⟩
    have S6 := S5.same (same_upd (o := .lst [.int 0, .int 1, .int 2, .int 2, .int 3, .int 3, .int 4, .int 5, .int 7, .int 12]) (Same.refl H5) hl)
    have hd6 := (same_upd (o := .lst [.int 0, .int 1, .int 2, .int 2, .int 3, .int 3, .int 4, .int 5, .int 7, .int 12]) (Same.refl H5) hl) _ _ hd5
    refine ⟨p, l, _, rfl, S6.pool, upd_same, S5.np hl, by show 1 ≤ 10; decide, by show 10 ≤ 1000000; decide, fun H7 va kba hpa hva => ?_⟩
    obtain ⟨pts, rfl, pt0⟩ : ∃ z : Int, va = .int z ∧ 0 ≤ z ∧ z ≤ 12 := by
      simp only [List.mem_cons, List.not_mem_nil, or_false] at hva
      rcases hva with rfl | rfl | rfl | rfl | rfl | rfl | rfl | rfl | rfl | rfl <;> exact ⟨_, rfl, by decide, by decide⟩
    have S7 := S6.kb kba hpa
    have hd7 := kba _ _ nd hd6
    refine ⟨_, rfl, hd7, [(.inr "skills", .ref aS), (.inr "points", .int pts), (.inr "needs", .ref aN)], rfl, by show 3 ≤ 15; decide, ?_⟩
    have S8 := S7.put (o := .dK (mergeK [] [(.inr "skills", .ref aS), (.inr "points", .int pts), (.inr "needs", .ref aN)])) zd nd
    have D8 : DAt (upd H7 d (.dK (mergeK [] [(.inr "skills", .ref aS), (.inr "points", .int pts), (.inr "needs", .ref aN)]))) d 3 [("skills", .ref aS), ("points", .int pts), ("needs", .ref aN)] := by
      refine ⟨_, upd_same, by show 3 ≤ 3; decide, fun p hp => ?_⟩
      simp only [List.mem_cons, List.not_mem_nil, or_false] at hp
      rcases hp with rfl | rfl | rfl <;> rfl
    generalize upd H7 d (.dK (mergeK [] [(.inr "skills", .ref aS), (.inr "points", .int pts), (.inr "needs", .ref aN)])) = H8 at S8 D8 ⊢
    clear S4 S5 S6 S7 hd hd5 hd6 hd7 hl kba hpa hva
    -- wants
    have both : ∀ (Q' : VK), (∀ (G3 H9 : Hp) (r : Addr) (wts : List Want), Same G2 G3 → PS G3 p H9 → G3 d = none → DAt H9 d 3 [("skills", .ref aS), ("points", .int pts), ("needs", .ref aN)] → WantsAt G3 r wts → wts.length ≤ 4 → (∀ x ∈ wts, WantOk ns x) → Q' (.ref r) H9) →
        tLst tNil [some (.ref p), some (.int 6), some (.int sort), some (.ref aS), some (.ref aN), some (.ref D), none, some (.ref ww), some (.ref d), none, none, none] H8 Q' ∧
        tCall spRows [] E0 (tCons (tVar 0) (tCons (tVar 5) (tCons (tC (.int 4)) (tCons (tVar 7) (tCons (tOp (rI0 fun i j => .bl (decide (i < j))) (tVar 2) (tC (.int 3))) tNil))))) [some (.ref p), some (.int 6), some (.int sort), some (.ref aS), some (.ref aN), some (.ref D), none, some (.ref ww), some (.ref d), none, none, none] H8 Q' := fun Q' k => by
      constructor
      · refine ⟨by show 0 ≤ sizeLine; decide, fun o ho => ?_⟩
        have s1 := same_upd (o := .lst []) (Same.refl H8) ho
        obtain ⟨G3, Sx, sx, hx, zx⟩ := (S8.same s1).ext2 zd nd
        have od : o ≠ d := by
          obtain ⟨kvs, e, _⟩ := D8.ex
          exact (ne_of_none e ho).symm
        exact k G3 _ o [] sx Sx zx (D8.same s1) ⟨[], hx _ _ (S8.np ho) od upd_same, rfl, fun i t x e => by simp at e⟩ (by show 0 ≤ 4; decide) (fun x hx => by cases hx)
      · obtain ⟨G3, Sx, sx, hx⟩ := S8.ext
        obtain ⟨kvs, e8, e9, e10⟩ := D8.ex
        refine ⟨_, rfl, _, rfl, _, rfl, _, rfl, _, _, rfl, rfl, p, D, ww, _, G3, ns, ws, rfl, Sx, sx _ _ hN2, NO, sx _ _ hW2, W, fun G' H' r wts sG S' WA le ok => ?_⟩
        obtain ⟨G4, Sy, zy, hy⟩ := S'.drop d
        have hdd := sG _ _ (hx _ _ nd e8)
        exact k G4 H' r wts (fun c o e => hy c o (ne_of_none e zd) (sG _ _ (sx _ _ e))) Sy zy ⟨kvs, S'.s _ _ hdd, e9, e10⟩ (WA.drop hdd hy) le ok
    refine ⟨_, rfl, rfl, _, rfl, if_both2 (both _ ?_)⟩
    intro G3 H9 aW wts sG3 S9 z9 D9 WT wle wok
    have RS3 := RS2.same sG3
    have RN3 := RN2.same sG3
    have hN3 := sG3 _ _ hN2
    clear both S8 D8 RS2 RN2 hN2 hW2 zd
    obtain ⟨Ha, da, Da, _, oa, ea⟩ := D9.put (by decide) "wants" rfl (.ref aW)
    refine ⟨_, rfl, d, Ha, rfl, da, ?_⟩
    have Sa : PS G3 p Ha := by rw [ea]; exact S9.put z9 nd
    clear ea oa da S9 D9
    -- bars, gives
    refine ⟨by show 0 ≤ sizeLine; decide, fun b1 hb1 => ⟨by show 0 ≤ sizeLine; decide, fun g1 hg1 => ⟨by show 2 ≤ sizeLine; decide, fun t ht => ?_⟩⟩⟩
    have nb1 := Sa.np hb1
    have Sb := Sa.same (same_upd (o := .lst []) (Same.refl Ha) hb1)
    have hb2 : (upd Ha b1 (.lst [])) b1 = some (.lst []) := upd_same
    have Db := Da.same (same_upd (o := .lst []) (Same.refl Ha) hb1)
    have db1 : b1 ≠ d := by
      obtain ⟨kvs, e, _⟩ := Da.ex
      exact (ne_of_none e hb1).symm
    generalize upd Ha b1 (.lst []) = Hb at Sb hb2 Db hg1 ht ⊢
    have ng1 := Sb.np hg1
    have dg1 : g1 ≠ d := by
      obtain ⟨kvs, e, _⟩ := Db.ex
      exact (ne_of_none e hg1).symm
    have Sc := Sb.same (same_upd (o := .lst []) (Same.refl Hb) hg1)
    have hg2 : (upd Hb g1 (.lst [])) g1 = some (.lst []) := upd_same
    have hb3 := (same_upd (o := .lst []) (Same.refl Hb) hg1) _ _ hb2
    have Dc := Db.same (same_upd (o := .lst []) (Same.refl Hb) hg1)
    generalize upd Hb g1 (.lst []) = Hc at Sc hg2 hb3 Dc ht ⊢
    have Sd := Sc.same (same_upd (o := .tup [.ref b1, .ref g1]) (Same.refl Hc) ht)
    have Dd := Dc.same (same_upd (o := .tup [.ref b1, .ref g1]) (Same.refl Hc) ht)
    have hg4 := (same_upd (o := .tup [.ref b1, .ref g1]) (Same.refl Hc) ht) _ _ hg2
    have hb4 := (same_upd (o := .tup [.ref b1, .ref g1]) (Same.refl Hc) ht) _ _ hb3
    have ht4 : (upd Hc t (.tup [.ref b1, .ref g1])) t = some (.tup [.ref b1, .ref g1]) := upd_same
    generalize upd Hc t (.tup [.ref b1, .ref g1]) = Hd at Sd Dd hg4 hb4 ht4 ⊢
    obtain ⟨He, de, De, ke, oe, ee⟩ := Dd.put (by decide) "bars" rfl (.ref b1)
    obtain ⟨Hf, df, Df, kf, of, ef⟩ := De.put (by decide) "gives" rfl (.ref g1)
    refine ⟨t, _, rfl, .of ht4, rfl, _, _, rfl, _, rfl, d, He, rfl, de, _, _, rfl, _, rfl, d, Hf, rfl, df, rfl, ?_⟩
    have Sf : PS G3 p Hf := by rw [ef, ee]; exact (Sd.put z9 nd).put z9 nd
    have hg6 := kf _ _ dg1 (ke _ _ dg1 hg4)
    have hb6 := kf _ _ db1 (ke _ _ db1 hb4)
    clear Sa Da hb1 Sb hb2 Db hg1 Sc hg2 hb3 Dc ht Sd Dd hg4 hb4 ht4 de De ke ee df kf ef
    obtain ⟨G4, S4, sG4, hG4, z4⟩ := Sf.ext2 z9 nd
    have RB : RowsAt G4 b1 (([] : List (Str × Str)).map barRow) := ⟨[], hG4 _ _ nb1 db1 hb6, rfl, fun i t xs e => by simp at e⟩
    have RG : RowsAt G4 g1 (([] : List (Str × Int)).map skRow) := ⟨[], hG4 _ _ ng1 dg1 hg6, rfl, fun i t xs e => by simp at e⟩
    have RS4 := RS3.same sG4
    have RN4 := RN3.same sG4
    have WT4 := WT.same sG4
    have hN4 := sG4 _ _ hN3
    clear RS3 RN3 WT hN3 hG4 hg6 hb6 db1 dg1 Sf
    -- the loop
    have rg : ∀ (Q' : VK), (∀ (H' : Hp) (k : Int), KB p Hf H' → PoolAt H' p → 0 ≤ k → k < 3 → (0 < k → 2 ≤ ns.length) → Q' (.int k) H') →
        tIf (tAnd (tTest (tOp (rI0 fun i j => .bl (decide (j < i))) (tVar 2) (tC (.int 1)))) (tTest (tOp (rI0 fun i j => .bl (decide (j < i))) (tCB (rLenS K) (tCons (tVar 5) tNil)) (tC (.int 1))))) (tCall spTake [] E0 (tCons (tVar 0) (tCons (tC (.int 3)) tNil))) (tC (.int 0))
          [some (.ref p), some (.int 6), some (.int sort), some (.ref aS), some (.ref aN), some (.ref D), none, some (.ref ww), some (.ref d), none, none, none] Hf Q' := fun Q' k => by
      refine ⟨_, rfl, _, _, rfl, rfl, _, rfl, ?_⟩
      by_cases c1 : 1 < sort
      · rw [decide_eq_true c1]
        refine iteT ⟨_, rfl, D, _, rfl, .inl (.of (S4.s _ _ hN4)), _, _, rfl, rfl, _, rfl, ?_⟩
        by_cases c2 : 1 < (((ns.map V.str).length : Nat) : Int)
        · rw [decide_eq_true c2]
          rw [List.length_map] at c2
          exact iteT ⟨_, rfl, p, 3, rfl, S4.pool, by decide, by decide, fun H' r kb hp h0 h1 => k H' r kb hp h0 h1 fun _ => by omega⟩
        · rw [decide_eq_false c2]
          exact iteF (k Hf 0 KB.refl S4.pool (by decide) (by decide) (fun h => absurd h (by decide)))
      · rw [decide_eq_false c1]
        exact iteF (iteF (k Hf 0 KB.refl S4.pool (by decide) (by decide) (fun h => absurd h (by decide))))
    refine rg _ fun Hg k kbg hpg k0 k1 k2 => ⟨_, rfl, by omega, by omega, ?_⟩
    have Sg := S4.kb kbg hpg
    have Dg := Df.kb nd kbg
    obtain ⟨kn, rfl⟩ : ∃ m : Nat, k = m := ⟨k.toNat, by omega⟩
    clear rg kbg hpg Df S4
    refine for_it (walk_range (lo := 0) (n := kn)) (fun i σ H' => ∃ (v9 v10 : Option V) (G5 : Hp) (ab : Addr) (brs : List (Str × Str)), σ = [some (.ref p), some (.int 6), some (.int sort), some (.ref aS), some (.ref aN), some (.ref D), none, some (.ref ww), some (.ref d), v9, v10, none] ∧ Same G4 G5 ∧ PS G5 p H' ∧ G5 d = none ∧
      DAt H' d (6 + i) [("bars", .ref ab), ("gives", .ref g1), ("wants", .ref aW), ("skills", .ref aS), ("points", .int pts), ("needs", .ref aN)] ∧ RowsAt G5 ab (brs.map barRow) ∧ brs.length ≤ i ∧ (∀ x ∈ brs, (x.1 ∈ ns ∧ x.2 ∈ ns) ∧ x.1 ≠ x.2) ∧ brs.Pairwise fun a b => ¬ [a.1, a.2].Perm [b.1, b.2])
      ⟨_, _, G4, b1, [], rfl, Same.refl _, Sg, z4, Dg.sub (by decide) (by simp), RB, Nat.le_refl _, (fun x hx => by cases hx), .nil⟩ (fun _ _ _ _ _ => trivial) ?_ ?_
    · rintro i x σ H' _ hi ⟨v9, v10, G5, ab, brs, rfl, sG5, S5, z5, D5, R5, ble, bok, bun⟩ ⟨rfl, rfl⟩
      have n2 : 2 ≤ ns.length := k2 (by omega)
      refine ⟨_, rfl, _, rfl, p, D, ns, rfl, S5.pool, S5.s _ _ (sG5 _ _ hN4), nD, by omega, fun x hx => word_ok (NO.word hx).1, fun Hi r ys kbi hpi _ nri hri perm => ⟨_, rfl, r, _, rfl, .of hri, fun sl hsl => ?_⟩⟩
      have Si := S5.kb kbi hpi
      have Di := D5.kb nd kbi
      have ylen := perm.length_eq
      obtain ⟨x, y, rest, rfl⟩ : ∃ x y rest, ys = x :: y :: rest := by
        match ys, ylen with
        | [], e => simp at e; omega
        | [_], e => simp at e; omega
        | x :: y :: rest, _ => exact ⟨x, y, rest, rfl⟩
      have hx : x ∈ ns := perm.mem_iff.mp List.mem_cons_self
      have hy : y ∈ ns := perm.mem_iff.mp (List.mem_cons_of_mem _ List.mem_cons_self)
      have hxy : x ≠ y := by
        have nd := perm.nodup_iff.mpr NO.nd
        intro e
        exact (List.nodup_cons.mp nd).1 (e ▸ List.mem_cons_self)
      rw [show cutV ((x :: y :: rest).map V.str) none (some (2 : Int)) = [.str x, .str y] from by
        rw [show (2 : Int) = ((2 : Nat) : Int) from rfl, cut_take]; rfl]
      have Sj := Si.same (same_upd (o := .lst [.str x, .str y]) (Same.refl Hi) hsl)
      have Dj := Di.same (same_upd (o := .lst [.str x, .str y]) (Same.refl Hi) hsl)
      have hsl2 : (upd Hi sl (.lst [.str x, .str y])) sl = some (.lst [.str x, .str y]) := upd_same
      generalize upd Hi sl (.lst [.str x, .str y]) = Hj at Sj Dj hsl2 ⊢
      refine .inl ⟨sl, _, rfl, .of hsl2, fun pr hpr => ?_⟩
      have Sk := Sj.same (same_upd (o := .tup [.str x, .str y]) (Same.refl Hj) hpr)
      have Dk := Dj.same (same_upd (o := .tup [.str x, .str y]) (Same.refl Hj) hpr)
      have hpr2 : (upd Hj pr (.tup [.str x, .str y])) pr = some (.tup [.str x, .str y]) := upd_same
      generalize upd Hj pr (.tup [.str x, .str y]) = Hk at Sk Dk hpr2 ⊢
      clear S5 D5 Si Di kbi hpi hri hsl Sj Dj hsl2 hpr perm ylen
      -- the tests
      obtain ⟨ts, t1, t2, t3⟩ := id R5
      have dpB : ∀ {H' : Hp}, Same Hk H' → Dp K H' (.ref ab) (.list (brs.map fun q => .tuple [.str q.1, .str q.2])) := fun {H'} s => by
        refine .lst (.of (s _ _ (Sk.s _ _ t1))) ?_
        rw [List.length_map] at t2
        have t3' : ∀ (i : Nat) (t : Addr) (xs : List V), ts[i]? = some t → (brs.map barRow)[i]? = some xs → H' t = some (.tup xs) := fun i t xs e1 e2 => s _ _ (Sk.s _ _ (t3 i t xs e1 e2))
        clear t1 t3 R5 bun bok ble
        induction brs generalizing ts with
        | nil =>
          have e : ts = [] := List.eq_nil_of_length_eq_zero t2
          subst e
          exact .nil
        | cons q brs ih =>
          cases ts with
          | nil => cases t2
          | cons t ts =>
            refine .cons (.tup (.of (t3' 0 t _ rfl rfl)) (.cons (.str _) (.cons (.str _) .nil))) (ih ts (by simpa using t2) fun i t xs e1 e2 => t3' (i + 1) t xs (by simpa using e1) (by simpa using e2))
      have shpP : ∀ {a b : Str}, a ∈ ns → b ∈ ns → SeqAt.shaped (.tuple [.str a, .str b]) = true := fun {a b} ha hb => shp_tstrs [a, b] fun z hz => by
        simp only [List.mem_cons, List.not_mem_nil, or_false] at hz
        rcases hz with rfl | rfl
        · exact word_ok (NO.word ha).1
        · exact word_ok (NO.word hb).1
      have shpB : SeqAt.shaped (.list (brs.map fun q => .tuple [.str q.1, .str q.2])) = true := bars_shaped brs fun q hq => ⟨word_ok (NO.word (bok q hq).1.1).1, word_ok (NO.word (bok q hq).1.2).1⟩
      have anyB : ∀ (a b : Str), ((brs.map fun q : Str × Str => PyData.tuple [.str q.1, .str q.2]).any fun z => PyData.eqv z (.tuple [.str a, .str b])) = decide ((a, b) ∈ brs) := bars_any brs
      refine ⟨_, rfl, _, rfl, d, _, rfl, Dk.get (k := "bars") (v := .ref ab) (by simp), .tuple [.str x, .str y], _, .tup (.of hpr2) (.cons (.str _) (.cons (.str _) .nil)), dpB (Same.refl _), shpP hx hy, shpB, _, rfl, ?_⟩
      rw [anyB]
      have stay : ∀ {H' : Hp}, Same Hk H' → ∃ (v9 v10 : Option V) (G5 : Hp) (ab : Addr) (brs : List (Str × Str)), [some (.ref p), some (.int 6), some (.int sort), some (.ref aS), some (.ref aN), some (.ref D), none, some (.ref ww), some (.ref d), some (.int (0 + ((i : Nat) : Int))), some (.ref pr), none] = [some (.ref p), some (.int 6), some (.int sort), some (.ref aS), some (.ref aN), some (.ref D), none, some (.ref ww), some (.ref d), v9, v10, none] ∧ Same G4 G5 ∧ PS G5 p H' ∧ G5 d = none ∧
          DAt H' d (6 + (i + 1)) [("bars", .ref ab), ("gives", .ref g1), ("wants", .ref aW), ("skills", .ref aS), ("points", .int pts), ("needs", .ref aN)] ∧ RowsAt G5 ab (brs.map barRow) ∧ brs.length ≤ i + 1 ∧ (∀ x ∈ brs, (x.1 ∈ ns ∧ x.2 ∈ ns) ∧ x.1 ≠ x.2) ∧ brs.Pairwise fun a b => ¬ [a.1, a.2].Perm [b.1, b.2] := fun {H'} s =>
        ⟨_, _, G5, ab, brs, rfl, sG5, Sk.same s, z5, (Dk.same s).sub (by omega) (fun p hp => hp), R5, by omega, bok, bun⟩
      by_cases m1 : (x, y) ∈ brs
      · rw [decide_eq_true m1]
        exact iteF (iteF (stay (Same.refl _)))
      rw [decide_eq_false m1]
      refine iteT ⟨_, rfl, pr, _, _, rfl, .of hpr2, fun pr2 hpr3 => ?_⟩
      have sl' := same_upd (o := .tup [.str y, .str x]) (Same.refl Hk) hpr3
      refine ⟨_, rfl, d, _, rfl, (Dk.same sl').get (k := "bars") (v := .ref ab) (by simp), .tuple [.str y, .str x], _, .tup (.of upd_same) (.cons (.str _) (.cons (.str _) .nil)), dpB sl', shpP hy hx, shpB, _, rfl, ?_⟩
      rw [anyB]
      by_cases m2 : (y, x) ∈ brs
      · rw [decide_eq_true m2]
        exact iteF (stay sl')
      rw [decide_eq_false m2]
      have Sl := Sk.same sl'
      have Dl := Dk.same sl'
      have hprl := sl' _ _ hpr2
      generalize upd Hk pr2 (.tup [.str y, .str x]) = Hl at Sl Dl hprl ⊢
      clear stay dpB sl' hpr3 Sk Dk hpr2
      refine iteT ⟨_, rfl, d, _, rfl, Dl.get (k := "bars") (v := .ref ab) (by simp), _, rfl, by show 1 ≤ sizeLine; decide, fun l1 hl1 => ?_⟩
      have Sm := Sl.same (same_upd (o := .lst [.ref pr]) (Same.refl Hl) hl1)
      have Dm := Dl.same (same_upd (o := .lst [.ref pr]) (Same.refl Hl) hl1)
      have hl2 : (upd Hl l1 (.lst [.ref pr])) l1 = some (.lst [.ref pr]) := upd_same
      have hprm := (same_upd (o := .lst [.ref pr]) (Same.refl Hl) hl1) _ _ hprl
      generalize upd Hl l1 (.lst [.ref pr]) = Hm at Sm Dm hl2 hprm ⊢
      have i3 : i < 3 := by omega
      refine ⟨ab, l1, _, _, rfl, rfl, Sm.s _ _ t1, hl2, ?_, fun nb hnb => ?_⟩
      · rw [List.length_map, t2, List.length_map]
        exact Nat.le_trans (show brs.length + 1 ≤ 10 by omega) (by decide)
      have nnb := Sm.np hnb
      have dnb : nb ≠ d := by
        obtain ⟨kvs, e, _⟩ := Dm.ex
        exact (ne_of_none e hnb).symm
      have Sn := Sm.same (same_upd (o := .lst (ts.map V.ref ++ [.ref pr])) (Same.refl Hm) hnb)
      have Dn := Dm.same (same_upd (o := .lst (ts.map V.ref ++ [.ref pr])) (Same.refl Hm) hnb)
      have Rn : RowsAt (upd Hm nb (.lst (ts.map V.ref ++ [.ref pr]))) nb ((brs ++ [(x, y)]).map barRow) := by
        have sx := same_upd (o := .lst (ts.map V.ref ++ [.ref pr])) (Same.refl Hm) hnb
        refine ⟨ts ++ [pr], ?_, by rw [List.length_append, t2, List.length_map, List.length_map, List.length_append]; rfl, fun i t xs e1 e2 => ?_⟩
        · rw [upd_same, List.map_append]
          rfl
        · rw [List.map_append] at e2
          rcases snoc_at e1 with e1 | ⟨rfl, rfl⟩
          · rcases snoc_at (show ((brs.map barRow) ++ [barRow (x, y)])[i]? = some xs from e2) with e2 | ⟨rfl, rfl⟩
            · exact sx _ _ (Sm.s _ _ (t3 i t xs e1 e2))
            · exact absurd (List.getElem?_eq_some_iff.mp e1).1 (by omega)
          · rcases snoc_at (show ((brs.map barRow) ++ [barRow (x, y)])[ts.length]? = some xs from e2) with e2 | ⟨_, rfl⟩
            · exact absurd (List.getElem?_eq_some_iff.mp e2).1 (by omega)
            · exact sx _ _ hprm
      generalize upd Hm nb (.lst (ts.map V.ref ++ [.ref pr])) = Hn at Sn Dn Rn ⊢
      obtain ⟨G6, S6, sG6, hG6, z6'⟩ := Sn.ext2 z5 nd
      have R6 : RowsAt G6 nb ((brs ++ [(x, y)]).map barRow) := by
        obtain ⟨us, u1, u2, u3⟩ := Rn
        obtain ⟨_, _, ep, _⟩ := Sn.pool
        obtain ⟨kvs, ed, _⟩ := Dn.ex
        exact ⟨us, hG6 _ _ nnb dnb u1, u2, fun i t xs e1 e2 => hG6 _ _ (ne_of (u3 i t xs e1 e2) ep (fun z => nomatch z)) (ne_of (u3 i t xs e1 e2) ed (fun z => nomatch z)) (u3 i t xs e1 e2)⟩
      have D7 := Dn.sub (l' := [("gives", .ref g1), ("wants", .ref aW), ("skills", .ref aS), ("points", .int pts), ("needs", .ref aN)]) (m := 6 + i) (Nat.le_refl _) (by simp)
      obtain ⟨Ho, dO, Do, _, oo, eo⟩ := D7.put (by omega) "bars" rfl (.ref nb)
      refine ⟨_, rfl, d, Ho, rfl, dO, ?_⟩
      have So : PS G6 p Ho := by rw [eo]; exact S6.put z6' nd
      refine ⟨_, _, G6, nb, brs ++ [(x, y)], rfl, sG5.trans sG6, So, z6', Do, R6, by rw [List.length_append]; exact Nat.add_le_add_right ble 1, fun z hz => ?_, ?_⟩
      · rcases List.mem_append.mp hz with hz | hz
        · exact bok z hz
        · rw [List.mem_singleton.mp hz]
          exact ⟨⟨hx, hy⟩, hxy⟩
      · refine List.pairwise_append.mpr ⟨bun, List.pairwise_singleton _ _, fun a ha b hb => ?_⟩
        rw [List.mem_singleton.mp hb]
        intro pm
        obtain ⟨a1, a2⟩ := a
        rcases pair_perm pm with ⟨e1, e2⟩ | ⟨e1, e2⟩
        · simp only at e1 e2
          rw [e1, e2] at ha
          exact m1 ha
        · simp only at e1 e2
          rw [e1, e2] at ha
          exact m2 ha
    rintro σ Hh ⟨v9, v10, G5, ab, brs, rfl, sG5, S5, z5, D5, R5, ble, bok, bun⟩
    -- gives
    have D6 := D5.sub (l' := [("gives", .ref g1), ("wants", .ref aW), ("bars", .ref ab), ("skills", .ref aS), ("points", .int pts), ("needs", .ref aN)]) (m := 20) (by omega) (by simp)
    refine ⟨p, d, D, g1, sort, ns, G5, 20, _, _, _, _, _, _, _, _, _, rfl, S5, z5, nd, D6, by decide, rfl, RG.same sG5, sG5 _ _ hN4, NO, nD, fun G6 Hj ag gvs sG6 S6 z6' D7 RG6 GO => ?_⟩
    have sG46 := sG5.trans sG6
    have R6 := R5.same sG6
    have hN6 := sG46 _ _ hN4
    clear S5 z5 D5 D6 R5 RG sG6 sG5
    -- prices
    refine ⟨_, rfl, D, rfl, ⟨_, .of (S6.s _ _ hN6)⟩, fun Da hDa => ?_⟩
    have za := S6.no hDa
    have na := S6.np hDa
    have da : Da ≠ d := by
      obtain ⟨kvs, e, _⟩ := D7.ex
      exact (ne_of_none e hDa).symm
    refine lc_it (walk_list (xs := ns.map V.str)) (fun i H' => PS G6 p H' ∧ DAt H' d 21 [("gives", .ref ag), ("wants", .ref aW), ("bars", .ref ab), ("skills", .ref aS), ("points", .int pts), ("needs", .ref aN)] ∧ ∃ gs : List (Str × Int), RowsAt H' Da (gs.map skRow) ∧ (gs.map (fun x : Str × Int => x.1)).Sublist (ns.take i) ∧ ∀ x ∈ gs, 0 ≤ x.2 ∧ x.2 ≤ 99)
      ⟨S6.same (same_upd (Same.refl _) hDa), D7.same (same_upd (Same.refl _) hDa), [], ⟨[], upd_same, rfl, fun i t xs e => by simp at e⟩, List.nil_sublist _, fun x hx => by cases hx⟩ (fun i H' _ q => .of (q.1.s _ _ hN6)) ?_ ?_
    · rintro i x _ H' hi ⟨S5, D5, gs, R5, hg5, hv5⟩ ⟨rfl, hx⟩
      obtain ⟨nm, hnm, rfl⟩ := str_at hx
      have gl : gs.length ≤ 6 := by
        have e := hg5.length_le
        rw [List.length_map, List.length_take] at e
        omega
      refine ⟨rfl, _, rfl, p, 2, rfl, S5.pool, by decide, by decide, fun Hb m kb6 hp6 m0 m1 => ⟨rfl, _, rfl, ?_⟩⟩
      have S6' := S5.kb kb6 hp6
      have D6' := D5.kb nd kb6
      have R6' := R5.kb S5.pool na kb6
      by_cases hm : V.int m = V.int 0
      · rw [decide_eq_true hm]
        refine iteT ⟨_, rfl, _, rfl, by show 6 ≤ sizeLine; decide, fun l hl => ?_⟩
        have S7 := S6'.same (same_upd (o := .lst [.int 0, .int 1, .int 2, .int 3, .int 7, .int 99]) (Same.refl Hb) hl)
        have D7' := D6'.same (same_upd (o := .lst [.int 0, .int 1, .int 2, .int 3, .int 7, .int 99]) (Same.refl Hb) hl)
        have R7 := R6'.same (same_upd (o := .lst [.int 0, .int 1, .int 2, .int 3, .int 7, .int 99]) (Same.refl Hb) hl)
        refine ⟨p, l, _, rfl, S7.pool, upd_same, S6'.np hl, by show 1 ≤ 6; decide, by show 6 ≤ 1000000; decide, fun Hc va kba hpa hva => ⟨by show 2 ≤ sizeLine; decide, fun t ht => ?_⟩⟩
        obtain ⟨m, rfl, m0⟩ : ∃ m : Int, va = .int m ∧ 0 ≤ m ∧ m ≤ 99 := by
          simp only [List.mem_cons, List.not_mem_nil, or_false] at hva
          rcases hva with rfl | rfl | rfl | rfl | rfl | rfl <;> exact ⟨_, rfl, by decide, by decide⟩
        have S8 := S7.kb kba hpa
        have D8 := D7'.kb nd kba
        have R8 := R7.kb S7.pool na kba
        have S9 := S8.same (same_upd (o := .tup [.str nm, .int m]) (Same.refl Hc) ht)
        have D9 := D8.same (same_upd (o := .tup [.str nm, .int m]) (Same.refl Hc) ht)
        have t9 : (upd Hc t (.tup [.str nm, .int m])) t = some (.tup [.str nm, .int m]) := upd_same
        obtain ⟨ts, u1, u2, u3⟩ := R8.same (same_upd (o := .tup [.str nm, .int m]) (Same.refl Hc) ht)
        generalize upd Hc t (.tup [.str nm, .int m]) = Hd at S9 D9 t9 u1 u3 ⊢
        refine ⟨_, u1, ?_, S9.put za na, ?_, gs ++ [(nm, m)], ?_, ?_, fun x hx => ?_⟩
        · rw [List.length_map, u2, List.length_map]
          exact Nat.lt_of_le_of_lt gl (by decide)
        · obtain ⟨kvs, e1, e2, e3⟩ := D9.ex
          exact ⟨kvs, (upd_ne da.symm).trans e1, e2, e3⟩
        · rw [List.map_append]
          exact RowsAt.snoc u1 u2 u3 t9
        · rw [List.map_append, List.take_add_one, hnm]
          exact hg5.append (List.Sublist.refl _)
        · rcases List.mem_append.mp hx with hx | hx
          · exact hv5 x hx
          · rw [List.mem_singleton.mp hx]
            exact m0
      · rw [decide_eq_false hm]
        exact iteF ⟨S6', D6', gs, R6', hg5.trans (by rw [List.take_add_one]; exact List.sublist_append_left _ _), hv5⟩
    rintro Hk ⟨S8, D8, gs, R8, hg8, hv8⟩
    rw [List.length_map, List.take_length] at hg8
    obtain ⟨G9, S9, sG9, hG9, z9⟩ := S8.ext2 z6' nd
    have R9 : RowsAt G9 Da (gs.map skRow) := by
      obtain ⟨us, u1, u2, u3⟩ := R8
      obtain ⟨_, _, ep, _⟩ := S8.pool
      obtain ⟨kvs, ed, _⟩ := D8.ex
      exact ⟨us, hG9 _ _ na da u1, u2, fun i t xs e1 e2 => hG9 _ _ (ne_of (u3 i t xs e1 e2) ep (fun z => nomatch z)) (ne_of (u3 i t xs e1 e2) ed (fun z => nomatch z)) (u3 i t xs e1 e2)⟩
    obtain ⟨Hx, dx, Dx, _, ox, ex⟩ := D8.put (by decide) "prices" rfl (.ref Da)
    refine ⟨_, rfl, d, Hx, rfl, dx, ?_⟩
    have Sx : PS G9 p Hx := by rw [ex]; exact S9.put z9 nd
    clear S6 D7 hDa S8 D8 R8 hG9 dx ox ex S9 za
    -- reset
    refine ⟨_, rfl, by show 8 ≤ sizeLine; decide, fun l hl => ?_⟩
    have Sy := Sx.same (same_upd (o := .lst [.non, .non, .int 0, .int 1, .int 2, .int 4, .int 9, .int 99]) (Same.refl Hx) hl)
    have Dy := Dx.same (same_upd (o := .lst [.non, .non, .int 0, .int 1, .int 2, .int 4, .int 9, .int 99]) (Same.refl Hx) hl)
    refine ⟨p, l, _, rfl, Sy.pool, upd_same, Sx.np hl, by show 1 ≤ 8; decide, by show 8 ≤ 1000000; decide, fun Hm va kba hpa hva => ?_⟩
    obtain ⟨rst, rfl, r0⟩ : ∃ o : Option Int, va = rstV o ∧ ∀ i, o = some i → 0 ≤ i ∧ i ≤ 99 := by
      simp only [List.mem_cons, List.not_mem_nil, or_false] at hva
      rcases hva with rfl | rfl | rfl | rfl | rfl | rfl | rfl | rfl
      · exact ⟨none, rfl, fun i e => by cases e⟩
      · exact ⟨none, rfl, fun i e => by cases e⟩
      all_goals
        refine ⟨some _, rfl, fun i e => ?_⟩
        cases e
        exact ⟨by decide, by decide⟩
    have Sz := Sy.kb kba hpa
    have Dz := Dy.kb nd kba
    obtain ⟨Hn, dn, Dn, _, on, en⟩ := Dz.put (by decide) "reset" rfl (rstV rst)
    refine ⟨_, rfl, d, Hn, rfl, dn, ?_⟩
    have Sn : PS G9 p Hn := by rw [en]; exact Sz.put z9 nd
    -- the end
    refine ⟨_, rfl, ?_⟩
    obtain ⟨kvs, k1', _, k3⟩ := Dn.ex
    obtain ⟨Ge, Se, sGe, hGe⟩ := Sn.ext
    have sAll : Same G4 Ge := sG46.trans (sG9.trans sGe)
    have tot : Same G9 Ge := sGe
    refine q Ge Hn d kvs ⟨aS, aN, aW, ab, ag, Da⟩ ⟨ss, pts, nds, wts, brs, gvs, gs, rst⟩ (sG1.trans (sG2.trans (sG3.trans (sG4.trans sAll)))) Se (hGe _ _ nd k1') (fun x hx => ?_) ⟨RS4.same sAll, RN4.same sAll, WT4.same sAll, R6.same (sG9.trans sGe), RG6.same (sG9.trans sGe), R9.same sGe⟩ ?_ ?_
    · simp only [partsK, List.mem_cons, List.not_mem_nil, or_false] at hx
      rcases hx with rfl | rfl | rfl | rfl | rfl | rfl | rfl | rfl
      · exact k3 ("skills", .ref aS) (by simp)
      · exact k3 ("points", .int pts) (by simp)
      · exact k3 ("needs", .ref aN) (by simp)
      · exact k3 ("wants", .ref aW) (by simp)
      · exact k3 ("bars", .ref ab) (by simp)
      · exact k3 ("gives", .ref ag) (by simp)
      · exact k3 ("prices", .ref Da) (by simp)
      · exact k3 ("reset", rstV rst) (by simp)
    · have hb : BookD.ns ⟨ss, pts, nds, wts, brs, gvs, gs, rst⟩ = ns := hns
      refine ⟨SO, pt0, NN, Nat.le_trans wle (by decide), ?_, ?_, ?_, ?_, r0⟩
      · rw [hb]
        exact wok
      · rw [hb]
        refine ⟨?_, fun x hx => ?_, bun⟩
        · show brs.length ≤ 6
          omega
        · have h := bok x hx
          have w1 := NO.word h.1.1
          have w2 := NO.word h.1.2
          exact ⟨⟨⟨w1.1, by omega⟩, h.1.1⟩, ⟨⟨w2.1, by omega⟩, h.1.2⟩, h.2⟩
      · rw [hb]
        exact GO
      · rw [hb]
        refine ⟨?_, fun x hx => ?_, hg8.nodup NO.nd⟩
        · have e := hg8.length_le
          rw [List.length_map] at e
          show gs.length ≤ 12
          omega
        · have hm : x.1 ∈ ns := hg8.subset (List.mem_map.mpr ⟨x, hx, rfl⟩)
          have hw := NO.word hm
          exact ⟨⟨hw.1, by omega⟩, hm, hv8 x hx⟩
    · have hb : BookD.ns ⟨ss, pts, nds, wts, brs, gvs, gs, rst⟩ = ns := hns
      rw [hb]
      exact NO
end
end K75
set_option Elab.async false
set_option linter.all false
set_option maxRecDepth 100000
set_option maxHeartbeats 4000000
namespace K75
open PySem PySem.Spec PyProof.Rows L2
section
variable {X : Cx} (K : PySem.W.Frag)
theorem k_catA (h : X.K = K := by rfl) : OpR X (binaryOp .Add) (rCatA K) := by
  subst h
  exact op_catA
end
/-! ### all builds of a book's names -/
def lowB (ns b : List Str) : Nat := match b.getLast? with
  | none => 0
  | some y => ns.findIdx (fun z => decide (z = y)) + 1
def extB (ns b : List Str) : List (List Str) := (ns.drop (lowB ns b)).map fun x => b ++ [x]
def lvB (ns : List Str) : Nat → List (List Str)
  | 0 => [[]]
  | k + 1 => (lvB ns k).flatMap (extB ns)
def foundB (ns : List Str) : Nat → List (List Str)
  | 0 => [[]]
  | k + 1 => foundB ns k ++ lvB ns (k + 1)
def subsL (ns : List Str) : List (List Str) := foundB ns ns.length
theorem extB_len (ns b : List Str) : (extB ns b).length ≤ ns.length := by
  unfold extB
  rw [List.length_map, List.length_drop]
  omega
theorem flat_len {α β : Type} (f : α → List β) (m : Nat) (h : ∀ a, (f a).length ≤ m) : ∀ l : List α, (l.flatMap f).length ≤ l.length * m
  | [] => by simp
  | a :: l => by
    rw [List.flatMap_cons, List.length_append, List.length_cons, Nat.succ_mul]
    have := flat_len f m h l
    have := h a
    omega
theorem lvB_len {ns : List Str} (h : ns.length ≤ 6) : ∀ k, (lvB ns k).length ≤ 6 ^ k
  | 0 => Nat.le_refl _
  | k + 1 => by
    have a := flat_len (extB ns) 6 (fun b => Nat.le_trans (extB_len ns b) h) (lvB ns k)
    have b := lvB_len h k
    show ((lvB ns k).flatMap (extB ns)).length ≤ _
    rw [Nat.pow_succ]
    exact Nat.le_trans a (Nat.mul_le_mul_right 6 b)
theorem foundB_len {ns : List Str} (h : ns.length ≤ 6) : ∀ k, (foundB ns k).length ≤ (k + 1) * 6 ^ k
  | 0 => Nat.le_refl _
  | k + 1 => by
    have a := foundB_len h k
    have b := lvB_len h (k + 1)
    show (foundB ns k ++ lvB ns (k + 1)).length ≤ _
    rw [List.length_append]
    have e : (6 : Nat) ^ k ≤ 6 ^ (k + 1) := Nat.pow_le_pow_right (by decide) (Nat.le_succ k)
    have e2 := Nat.mul_le_mul_left (k + 1) e
    rw [show (k + 1 + 1) * 6 ^ (k + 1) = (k + 1) * 6 ^ (k + 1) + 6 ^ (k + 1) from Nat.succ_mul _ _]
    omega
theorem pow6 {k : Nat} (h : k ≤ 6) : 6 ^ k ≤ 46656 := Nat.le_trans (Nat.pow_le_pow_right (by decide) h) (by decide)
/-- a build and where it ends -/
theorem lowB_spec {ns : List Str} (nd : ns.Nodup) : ∀ (k : Nat) (b : List Str), b ∈ lvB ns k → b.length = k ∧ b.Sublist (ns.take (lowB ns b)) ∧ lowB ns b ≤ ns.length
  | 0, b, h => by
    have e : b = [] := List.mem_singleton.mp h
    subst e
    exact ⟨rfl, List.nil_sublist _, Nat.zero_le _⟩
  | k + 1, b, h => by
    obtain ⟨c, hc, hb⟩ := List.mem_flatMap.mp (show b ∈ (lvB ns k).flatMap (extB ns) from h)
    obtain ⟨l1, l2, l3⟩ := lowB_spec nd k c hc
    obtain ⟨x, hx, rfl⟩ := List.mem_map.mp hb
    obtain ⟨j, hj, ej⟩ := List.mem_iff_getElem.mp hx
    rw [List.length_drop] at hj
    rw [List.getElem_drop] at ej
    have hi : lowB ns c + j < ns.length := by omega
    have hl : lowB ns (c ++ [x]) = lowB ns c + j + 1 := by
      unfold lowB
      rw [List.getLast?_concat]
      show ns.findIdx (fun z => decide (z = x)) + 1 = _
      congr 1
      refine (List.findIdx_eq hi).mpr ⟨decide_eq_true ej, fun m hm => decide_eq_false fun e => ?_⟩
      have hm2 : m < ns.length := by omega
      have := (List.getElem_inj nd (i := m) (j := lowB ns c + j) (h₀ := hm2) (h₁ := hi)).mp (e.trans ej.symm)
      omega
    refine ⟨by rw [List.length_append, l1]; rfl, ?_, by omega⟩
    rw [hl, List.take_add_one, List.getElem?_eq_getElem hi, ej]
    exact (l2.trans (List.take_sublist_take_left (Nat.le_add_right _ _))).append (List.Sublist.refl _)
theorem after_of {y x : Str} {B : List Str} : ∀ {A : List Str}, y ∉ A → y ∉ B → [y, x].Sublist (A ++ y :: B) → x ∈ B
  | [], _, hB, h => by
    cases h with
    | cons _ h => exact absurd (h.subset List.mem_cons_self) hB
    | cons_cons _ h => exact h.subset List.mem_cons_self
  | a :: A, hA, hB, h => by
    have ne : y ≠ a := fun e => hA (e ▸ List.mem_cons_self)
    cases h with
    | cons _ h => exact after_of (fun hm => hA (List.mem_cons_of_mem _ hm)) hB h
    | cons_cons _ h => exact absurd rfl ne
theorem lvB_all {ns : List Str} (nd : ns.Nodup) : ∀ (k : Nat) (b : List Str), b.Sublist ns → b.length = k → b ∈ lvB ns k
  | 0, b, _, h => by
    have e : b = [] := List.eq_nil_of_length_eq_zero h
    subst e
    exact List.mem_singleton.mpr rfl
  | k + 1, b, hs, hl => by
    have hne : b ≠ [] := fun e => by
      rw [e] at hl
      cases hl
    obtain ⟨c, x, rfl⟩ : ∃ c x, b = c ++ [x] := ⟨b.dropLast, b.getLast hne, (List.dropLast_concat_getLast hne).symm⟩
    have hc : c.length = k := by
      rw [List.length_append, List.length_singleton] at hl
      omega
    have hcs : c.Sublist ns := (List.sublist_append_left c [x]).trans hs
    have ih := lvB_all nd k c hcs hc
    refine List.mem_flatMap.mpr ⟨c, ih, List.mem_map.mpr ⟨x, ?_, rfl⟩⟩
    rcases List.eq_nil_or_concat c with rfl | ⟨d, y, e⟩
    · show x ∈ ns.drop 0
      exact hs.subset (by simp)
    · rw [List.concat_eq_append] at e
      subst e
      have hlow : lowB ns (d ++ [y]) = ns.findIdx (fun z => decide (z = y)) + 1 := by
        unfold lowB
        rw [List.getLast?_concat]
      have hy : y ∈ ns := hcs.subset (by simp)
      have hi : ns.findIdx (fun z => decide (z = y)) < ns.length := List.findIdx_lt_length.mpr ⟨y, hy, decide_eq_true rfl⟩
      have hg : ns[ns.findIdx (fun z => decide (z = y))] = y := of_decide_eq_true (List.findIdx_getElem (w := hi))
      rw [hlow]
      generalize ns.findIdx (fun z => decide (z = y)) = i at hi hg ⊢
      have split3 : ns = ns.take i ++ y :: ns.drop (i + 1) := by
        rw [← hg, List.getElem_cons_drop, List.take_append_drop]
      have nd3 : (ns.take i ++ y :: ns.drop (i + 1)).Nodup := split3 ▸ nd
      have a := List.nodup_append.mp nd3
      have hyx : [y, x].Sublist ns := by
        have z : [y, x].Sublist (d ++ [y] ++ [x]) := by
          rw [List.append_assoc]
          exact List.sublist_append_right d _
        exact z.trans hs
      rw [split3] at hyx
      exact after_of (fun hm => a.2.2 y hm y List.mem_cons_self rfl) (List.nodup_cons.mp a.2.1).1 hyx
theorem foundB_mem {ns : List Str} (nd : ns.Nodup) : ∀ (k : Nat) (b : List Str), b ∈ foundB ns k ↔ b.Sublist ns ∧ b.length ≤ k
  | 0, b => by
    constructor
    · intro h
      have e : b = [] := List.mem_singleton.mp h
      subst e
      exact ⟨List.nil_sublist _, Nat.le_refl _⟩
    · intro h
      have e : b = [] := List.eq_nil_of_length_eq_zero (Nat.le_zero.mp h.2)
      subst e
      exact List.mem_singleton.mpr rfl
  | k + 1, b => by
    show b ∈ foundB ns k ++ lvB ns (k + 1) ↔ _
    rw [List.mem_append, foundB_mem nd k b]
    constructor
    · rintro (h | h)
      · exact ⟨h.1, by omega⟩
      · obtain ⟨h1, h2, h3⟩ := lowB_spec nd (k + 1) b h
        exact ⟨h2.trans (List.take_sublist _ _), by omega⟩
    · intro h
      by_cases e : b.length ≤ k
      · exact .inl ⟨h.1, e⟩
      · exact .inr (lvB_all nd (k + 1) b h.1 (by omega))
theorem subsL_mem {ns : List Str} (nd : ns.Nodup) (b : List Str) : b ∈ subsL ns ↔ b.Sublist ns := by
  unfold subsL
  rw [foundB_mem nd]
  exact ⟨fun h => h.1, fun h => ⟨h, h.length_le⟩⟩
theorem subsL_len {ns : List Str} (h : ns.length ≤ 6) : (subsL ns).length ≤ 400000 := by
  have a := foundB_len h ns.length
  have b := pow6 h
  have c := Nat.mul_le_mul (show ns.length + 1 ≤ 7 by omega) b
  unfold subsL
  omega
/-- a list of builds -/
def BsAt (H : Hp) (a : Addr) (bs : List (List Str)) : Prop := RowsAt H a (bs.map fun b => b.map V.str)
theorem BsAt.same {H H' : Hp} {a : Addr} {bs : List (List Str)} (h : BsAt H a bs) (s : Same H H') : BsAt H' a bs := RowsAt.same h s
section
variable {P : Program} {w : World} {K : PySem.W.Frag} {mg : Str → Option Value} {base : Heap}
def spNames : Sp := fun vs H Q _ => ∃ (d aS : Addr) (kvs : List (Key × V)) (ss : List (Str × Int)), vs = [.ref d] ∧ H d = some (.dK kvs) ∧ valV kvs (.inr "skills") = some (.ref aS) ∧ RowsAt H aS (ss.map skRow) ∧ ss.length ≤ 12 ∧ ∀ H' r, Same H H' → H r = none → H' r = some (.lst ((ss.map (·.1)).map V.str)) → Q (.ref r) H'
theorem scNames : FnScope ["_law_book_here", "_law_row"] ["_law_book_here"] (defScope sLawNames) := ⟨rfl, rfl, rfl, by decide +kernel, rfl, by decide +kernel, by decide +kernel⟩
theorem cl_names (D : Df K mg "_law_names" sLawNames) : Cl P w K mg base CX0 1 "_law_names" spNames := by
  refine cl_of D scNames (fun _ _ _ _ _ _ us hl => match us, hl with | [_], _ => rfl) (fun vs H Q E h => ?_) (fun f cdv A outer s H vs Q E hr h => ?_)
  · obtain ⟨d, aS, kvs, ss, rfl, _⟩ := h
    rfl
  · obtain ⟨d, aS, kvs, ss, rfl, hd, hk, RS, z12, q⟩ := h
    have hu1 : (A.deeper (envOfC "_law_names" (defScope sLawNames) s.heap.objs.size f cdv)).units + 1 < cLine := by have := hr.units; omega
    refine ⟨_, (pss_one (ps_ret (pe_lc (own := [("_law_row", 1)]) (g := gName 1) (tt := tYes) rfl scNames.nd (pi_list (pe_dget hu1 (pv 0) pe_str (fun _ _ => rfl))) (blkOk_by (N := ["_law_book_here", "_law_row"]) (sc := defScope sLawNames) (by decide +kernel)) (fun _ _ _ _ _ => (pg_name (i := 1) scNames.nd rfl (Or.inl rfl))) (fun _ _ _ _ _ => pts_nil) (fun _ _ _ _ _ => by exact (pe_ix (k_ixT K) (pv 1) pe_int (fun _ _ => rfl)))))), ?_⟩
    obtain ⟨ts, h1, h2, h3⟩ := id RS
    refine ⟨_, rfl, d, _, rfl, (by rw [← hk]; exact DGet.k (k := Sum.inr "skills") hd), aS, rfl, ⟨_, .of h1⟩, fun D hD => ?_⟩
    refine lc_rows h1 h2 h3 (ss.map fun p => V.str p.1) (by simp) (by rw [List.length_map]; omega) hD ?_ ?_
    · intro i t xs H3 y hxs hy s3 ht R' hR
      obtain ⟨p, hp, rfl⟩ := names_comp (K := K) hxs
      rw [List.getElem?_map, hp] at hy
      cases hy
      exact ⟨rfl, _, rfl, t, _, _, _, rfl, rfl, .of ht, rfl, hR _ (Same.refl _)⟩
    intro H2 s2 hD2
    exact q H2 D s2 hD (hD2.trans (by rw [List.map_map]; rfl))
def spSubs : Sp := fun vs H Q _ => ∃ (d aS : Addr) (kvs : List (Key × V)) (ss : List (Str × Int)), vs = [.ref d] ∧ H d = some (.dK kvs) ∧ valV kvs (.inr "skills") = some (.ref aS) ∧ RowsAt H aS (ss.map skRow) ∧ NmOk (ss.map fun x : Str × Int => x.1) ∧ ∀ H' r, Same H H' → BsAt H' r (subsL (ss.map fun x : Str × Int => x.1)) → Q (.ref r) H'
/-- two lists of tuples, one behind the other -/
theorem RowsAt.app {H : Hp} {a b p : Addr} {r1 r2 : List (List V)} (h1 : RowsAt H a r1) (h2 : RowsAt H b r2) (hp : H p = none) : ∃ xs ys : List V, H a = some (.lst xs) ∧ H b = some (.lst ys) ∧ xs.length = r1.length ∧ ys.length = r2.length ∧ RowsAt (L2.upd H p (.lst (xs ++ ys))) p (r1 ++ r2) := by
  obtain ⟨ts, u1, u2, u3⟩ := h1
  obtain ⟨us, v1, v2, v3⟩ := h2
  refine ⟨_, _, u1, v1, by rw [List.length_map]; exact u2, by rw [List.length_map]; exact v2, ts ++ us, by rw [upd_same, List.map_append], by rw [List.length_append, List.length_append, u2, v2], fun i t xs e1 e2 => ?_⟩
  have key : H t = some (.tup xs) := by
    rw [List.getElem?_append] at e1 e2
    by_cases c : i < ts.length
    · rw [if_pos c] at e1
      rw [if_pos (by omega)] at e2
      exact u3 i t xs e1 e2
    · rw [if_neg c] at e1
      rw [if_neg (by omega), ← u2] at e2
      exact v3 _ t xs e1 e2
  exact (upd_ne (ne_of_none key hp)).trans key
/-- names.index(build[-1]) + 1 if build != () else 0 -/
theorem low_read {σ : L2.St} {H : Hp} {Q : VK} {n t : Addr} {ns b : List Str} (h1 : σ[1]? = some (some (.ref n))) (h6 : σ[6]? = some (some (.ref t))) (hn : H n = some (.lst (ns.map V.str))) (ht : H t = some (.tup (b.map V.str))) (NO : NmOk ns) (bs : b.Sublist ns) (q : Q (.int (lowB ns b : Nat)) H) :
    if (!decide (b = [])) = true then tOp (rI0 fun i j => .int (i + j)) (tBM K "list" (rIndex K) (tVar 1) (tCons (tOp (rIxT K) (tVar 6) (tUn (rU fun i => .int (-i)) (tC (.int 1)))) tNil)) (tC (.int 1)) σ H Q else tC (.int 0) σ H Q := by
  rcases List.eq_nil_or_concat b with rfl | ⟨d, y, e⟩
  · exact iteF q
  · rw [List.concat_eq_append] at e
    subst e
    have hy : y ∈ ns := bs.subset (by simp)
    have hi : ns.findIdx (fun z => decide (z = y)) < ns.length := List.findIdx_lt_length.mpr ⟨y, hy, decide_eq_true rfl⟩
    have hg : ns[ns.findIdx (fun z => decide (z = y))] = y := of_decide_eq_true (List.findIdx_getElem (w := hi))
    have hlow : lowB ns (d ++ [y]) = ns.findIdx (fun z => decide (z = y)) + 1 := by
      unfold lowB
      rw [List.getLast?_concat]
    rw [decide_eq_false (by simp)]
    refine iteT ⟨_, h1, .inl ⟨rfl, _, .of hn⟩, _, h6, _, rfl, t, _, _, _, rfl, rfl, .of ht, (by rw [List.map_append]; exact atI_last _ _), n, _, .str y, ns.findIdx (fun z => decide (z = y)), .str y, rfl, rfl, .of hn, rfl, flat_strs ns, ?_, by simp [eqV], fun m z' hm hz' => ?_, _, _, rfl, rfl, ?_⟩
    · rw [List.getElem?_map, List.getElem?_eq_getElem hi, hg]
      rfl
    · obtain ⟨z, hz, rfl⟩ := str_at hz'
      have hm2 := List.not_of_lt_findIdx hm
      have e : ns[m]? = some z := hz
      have lt : m < ns.length := by omega
      rw [List.getElem?_eq_getElem lt] at e
      have e2 := Option.some.inj e
      rw [e2] at hm2
      have ne : ¬ z = y := of_decide_eq_false hm2
      simp [eqV, ne]
    · rw [hlow] at q
      exact q
theorem scSubs : FnScope ["_law_book_here", "_law_names_here", "_law_found", "_law_level", "_law_turn", "_law_longer", "_law_build", "_law_low", "_law_name"] ["_law_book_here"] (defScope sLawSubsets) := ⟨rfl, rfl, rfl, by decide +kernel, rfl, by decide +kernel, by decide +kernel⟩
theorem cl_subs (T : Tx K mg) (D : Df K mg "_law_subsets" sLawSubsets) (cNm : Cl P w K mg base CX0 1 "_law_names" spNames) : Cl P w K mg base CX0 2 "_law_subsets" spSubs := by
  refine cl_of D scSubs (fun _ _ _ _ _ _ us hl => match us, hl with | [_], _ => rfl) (fun vs H Q E h => ?_) (fun f cdv A outer s H vs Q E hr h => ?_)
  · obtain ⟨d, aS, kvs, ss, rfl, _⟩ := h
    rfl
  · obtain ⟨d, aS, kvs, ss, rfl, hd, hk, RS, NO, q⟩ := h
    have hu : (A.deeper (envOfC "_law_subsets" (defScope sLawSubsets) s.heap.objs.size f cdv)).units + 64 < cLine := hr.units
    have z6 : ss.length ≤ 6 := by have := NO.hi; rw [List.length_map] at this; exact this
    refine ⟨_, (pss_cons (ps_asg (pe_k cNm hr (pa_cons (pv 0) pa_nil)) (pg_name (i := 1) scSubs.nd rfl (Or.inl rfl))) (pss_cons (ps_par (i := 2) (j := 3) rfl scSubs.nd rfl rfl (by decide) rfl rfl (pa_cons (pe_lst (pa_cons (pe_tup pa_nil) pa_nil)) (pa_cons (pe_lst (pa_cons (pe_tup pa_nil) pa_nil)) pa_nil)) rfl) (pss_cons (ps_for PassesOwn.never rfl (pi_range1 (by rfl) T.range (pa_cons (pe_len K (pv 1) T.len) pa_nil)) (pg_name (i := 4) scSubs.nd rfl (Or.inl rfl)) (pss_cons (ps_asg (pe_lst pa_nil) (pg_name (i := 5) scSubs.nd rfl (Or.inl rfl))) (pss_cons (ps_for PassesOwn.never rfl (pi_list (pv 3)) (pg_name (i := 6) scSubs.nd rfl (Or.inr rfl)) (pss_cons (ps_asg (pe_ifExp (pt_cmpR (op_neD hu) (pv 6) (pe_tup pa_nil) (nomark _)) (pe_op op_add (pe_bm PySem.F.plainAttrs_list PySem.F.slot_list_index PySem.F.type_list_index mt_index (pv 1) (pa_cons (pe_ix (k_ixT K) (pv 6) (pe_un un_neg pe_int) (fun _ _ => rfl)) pa_nil)) pe_int) pe_int) (pg_name (i := 7) scSubs.nd rfl (Or.inl rfl))) (pss_one (ps_asg (pe_op op_cat (pv 5) (pe_lc (own := [("_law_name", 8)]) (g := gName 8) (tt := tYes) rfl scSubs.nd (pi_list (pe_slice sl_list (pv 1) (po_some (pv 7)) po_none)) (blkOk_by (N := ["_law_book_here", "_law_names_here", "_law_found", "_law_level", "_law_turn", "_law_longer", "_law_build", "_law_low", "_law_name"]) (sc := defScope sLawSubsets) (by decide +kernel)) (fun _ _ _ _ _ => (pg_name (i := 8) scSubs.nd rfl (Or.inl rfl))) (fun _ _ _ _ _ => pts_nil) (fun _ _ _ _ _ => by exact (pe_op (k_catA K) (pv 6) (pe_tup (pa_cons (pv 8) pa_nil)))))) (pg_name (i := 5) scSubs.nd rfl (Or.inl rfl)))))) (pss_one (ps_par (i := 2) (j := 3) rfl scSubs.nd rfl rfl (by decide) rfl rfl (pa_cons (pe_op op_cat (pv 2) (pv 5)) (pa_cons (pv 5) pa_nil)) rfl))))) (pss_one (ps_ret (pv 2)))))), ?_⟩
    refine ⟨_, rfl, d, aS, kvs, ss, rfl, hd, hk, RS, by omega, fun H1 n s1 _ hn => ?_⟩
    have hn : H1 n = some (.lst ((ss.map fun x : Str × Int => x.1).map V.str)) := hn
    generalize hns : (ss.map fun x : Str × Int => x.1) = ns at hn NO q
    have n6 := NO.hi
    clear RS hk hd
    refine ⟨by show 0 ≤ sizeLine; decide, fun e1 he1 => ⟨by show 1 ≤ sizeLine; decide, fun l1 hl1 => ⟨by show 0 ≤ sizeLine; decide, fun e2 he2 => ⟨by show 1 ≤ sizeLine; decide, fun l2 hl2 => ⟨_, _, rfl, ?_⟩⟩⟩⟩⟩
    have sA := (same_upd (o := .tup []) (Same.refl H1) he1).trans (same_upd (o := .lst [.ref e1]) (Same.refl _) hl1)
    have sB := (same_upd (o := .tup []) (Same.refl _) he2).trans (same_upd (o := .lst [.ref e2]) (Same.refl _) hl2)
    have B1 : BsAt (upd (upd H1 e1 (.tup [])) l1 (.lst [.ref e1])) l1 [[]] := ⟨[e1], upd_same, rfl, fun i t xs a b => by
      cases i with
      | zero =>
        cases a
        cases b
        exact (upd_ne (ne_of_none upd_same hl1)).trans upd_same
      | succ i => cases a⟩
    have B2 : BsAt (upd (upd (upd (upd H1 e1 (.tup [])) l1 (.lst [.ref e1])) e2 (.tup [])) l2 (.lst [.ref e2])) l2 [[]] := ⟨[e2], upd_same, rfl, fun i t xs a b => by
      cases i with
      | zero =>
        cases a
        cases b
        exact (upd_ne (ne_of_none upd_same hl2)).trans upd_same
      | succ i => cases a⟩
    have B1' := B1.same sB
    have s2 := s1.trans (sA.trans sB)
    have hn2 := sB _ _ (sA _ _ hn)
    generalize upd (upd (upd (upd H1 e1 (.tup [])) l1 (.lst [.ref e1])) e2 (.tup [])) l2 (.lst [.ref e2]) = H2 at B1' B2 s2 hn2 ⊢
    clear B1 sA sB he1 hl1 he2 hl2 hn s1
    refine ⟨_, rfl, n, _, rfl, .inl (.of hn2), _, rfl, by omega, ?_, ?_⟩
    · rw [List.length_map]
      omega
    rw [show (((ns.map V.str).length : Nat) : Int).toNat = ns.length by rw [List.length_map]; rfl]
    refine for_it (walk_range (lo := 0) (n := ns.length)) (fun i σ H' => ∃ (v4 v5 v6 v7 : Option V) (af al : Addr), σ = [some (.ref d), some (.ref n), some (.ref af), some (.ref al), v4, v5, v6, v7, none] ∧ Same H2 H' ∧ BsAt H' af (foundB ns i) ∧ BsAt H' al (lvB ns i))
      ⟨_, _, _, _, l1, l2, rfl, Same.refl _, B1', B2⟩ (fun _ _ _ _ _ => trivial) ?_ ?_
    · rintro i x σ _ H' hi ⟨v4, v5, v6, v7, af, al, rfl, s3, BF, BL⟩ ⟨rfl, rfl⟩
      have i6 : i < 6 := by omega
      refine ⟨by show 0 ≤ sizeLine; decide, fun g0 hg0 => ?_⟩
      have s4 := s3.trans (same_upd (o := .lst []) (Same.refl _) hg0)
      have BF4 := BF.same (same_upd (o := .lst []) (Same.refl _) hg0)
      have BL4 := BL.same (same_upd (o := .lst []) (Same.refl _) hg0)
      have BG4 : BsAt (upd H' g0 (.lst [])) g0 [] := ⟨[], upd_same, rfl, fun i t xs e => by simp at e⟩
      generalize upd H' g0 (.lst []) = H4 at s4 BF4 BL4 BG4 ⊢
      clear s3 BF BL hg0
      obtain ⟨ts, t1, t2, t3⟩ := id BL4
      have t2' : ts.length = (lvB ns i).length := by rw [t2, List.length_map]
      have lv6 : (lvB ns i).length ≤ 46656 := Nat.le_trans (lvB_len n6 i) (pow6 (by omega))
      refine ⟨_, rfl, al, rfl, ⟨_, .of t1⟩, for_list (K := K) (a := al) (xs := ts.map V.ref) (fun j σ H' => ∃ (v6 v7 : Option V) (ag : Addr), σ = [some (.ref d), some (.ref n), some (.ref af), some (.ref al), some (.int (0 + ((i : Nat) : Int))), some (.ref ag), v6, v7, none] ∧ Same H4 H' ∧ BsAt H' ag (((lvB ns i).take j).flatMap (extB ns)))
        ⟨_, _, g0, rfl, Same.refl _, BG4⟩ (fun j σ H' _ ⟨_, _, _, _, s, _⟩ => .of (s _ _ t1)) ?_ ?_⟩
      · rintro j x σ H' hx ⟨v6, v7, ag, rfl, s5, BG⟩
        obtain ⟨t, ht, rfl⟩ := ref_at hx
        obtain ⟨b, hb⟩ := row_at t2' ht
        have htt : H' t = some (.tup (b.map V.str)) := s5 _ _ (t3 j t _ ht (by rw [List.getElem?_map, hb]; rfl))
        have bm : b ∈ lvB ns i := mem_at hb
        obtain ⟨bl, bs, bw⟩ := lowB_spec NO.nd i b bm
        have bsub : b.Sublist ns := bs.trans (List.take_sublist _ _)
        have bok : ∀ x ∈ b, PyData.strOk x = true := fun x hx => word_ok (NO.word (bsub.subset hx)).1
        -- low
        refine ⟨_, rfl, by show 0 ≤ sizeLine; decide, fun e0 he0 => ?_⟩
        have sx := same_upd (o := .tup []) (Same.refl H') he0
        refine ⟨.tuple (b.map PyData.str), .tuple (([] : List Str).map PyData.str), .tup (.of (sx _ _ htt)) (dp_strs _), .tup (.of upd_same) .nil, shp_tstrs _ bok, shp_tstrs _ (fun x hx => by cases hx), _, rfl, ?_⟩
        have ev : PyData.eqv (.tuple (b.map PyData.str)) (.tuple (([] : List Str).map PyData.str)) = decide (b = []) := by
          rw [PyData.eqv]
          exact eqvAll_strs _ _
        rw [ev]
        have s6 := s5.trans sx
        have BG6 := BG.same sx
        have htt6 := sx _ _ htt
        generalize upd H' e0 (.tup []) = H6 at s6 BG6 htt6 ⊢
        clear sx he0 htt BG s5
        have hn6 := s6 _ _ (s4 _ _ hn2)
        refine low_read (K := K) (n := n) (t := t) rfl rfl hn6 htt6 NO bsub ?_
        have blow : lowB ns b ≤ ns.length := bw
        -- longer
        refine ⟨_, rfl, _, rfl, _, rfl, _, rfl, n, _, rfl, .of hn6, fun sl hsl => ?_⟩
        rw [show cutV (ns.map V.str) (some ((lowB ns b : Nat) : Int)) none = (ns.drop (lowB ns b)).map V.str from by rw [cut_drop, List.map_drop]]
        have s7 := s6.trans (same_upd (o := .lst ((ns.drop (lowB ns b)).map V.str)) (Same.refl H6) hsl)
        have BG7 := BG6.same (same_upd (o := .lst ((ns.drop (lowB ns b)).map V.str)) (Same.refl H6) hsl)
        have htt7 := (same_upd (o := .lst ((ns.drop (lowB ns b)).map V.str)) (Same.refl H6) hsl) _ _ htt6
        have hsl7 : (L2.upd H6 sl (.lst ((ns.drop (lowB ns b)).map V.str))) sl = some (.lst ((ns.drop (lowB ns b)).map V.str)) := upd_same
        generalize L2.upd H6 sl (.lst ((ns.drop (lowB ns b)).map V.str)) = H7 at s7 BG7 htt7 hsl7 ⊢
        clear s6 BG6 htt6 hsl hn6
        refine ⟨sl, rfl, ⟨_, .of hsl7⟩, fun D hD => ?_⟩
        refine lc_it (walk_list (xs := (ns.drop (lowB ns b)).map V.str)) (fun m H' => Same H7 H' ∧ BsAt H' D (((ns.drop (lowB ns b)).take m).map fun x => b ++ [x])) ⟨same_upd (Same.refl _) hD, ⟨[], upd_same, rfl, fun i t xs e => by simp at e⟩⟩ (fun m H' _ p => .of (p.1 _ _ hsl7)) ?_ ?_
        · rintro m y _ H8 hm ⟨s8, BD⟩ ⟨rfl, hy⟩
          obtain ⟨x, hx, rfl⟩ := str_at hy
          refine ⟨rfl, _, rfl, _, rfl, by show 1 ≤ sizeLine; decide, fun q1 hq1 => ?_⟩
          have s9 := same_upd (o := .tup [.str x]) (Same.refl H8) hq1
          have BD9 := BD.same s9
          have htt9 := s9 _ _ (s8 _ _ htt7)
          have hq9 : (L2.upd H8 q1 (.tup [.str x])) q1 = some (.tup [.str x]) := upd_same
          generalize L2.upd H8 q1 (.tup [.str x]) = H9 at s9 BD9 htt9 hq9 ⊢
          have fin : ∀ {Hx : Hp} {q2 : Addr}, Same H9 Hx → Hx q2 = some (.tup ((b ++ [x]).map V.str)) → ∃ acc, Hx D = some (.lst acc) ∧ acc.length < sizeLine ∧ Same H7 (L2.upd Hx D (.lst (acc ++ [.ref q2]))) ∧ BsAt (L2.upd Hx D (.lst (acc ++ [.ref q2]))) D (((ns.drop (lowB ns b)).take (m + 1)).map fun x => b ++ [x]) := fun {Hx q2} sx hq2 => by
            obtain ⟨us, u1, u2, u3⟩ := BD9.same sx
            refine ⟨_, u1, ?_, same_upd (s8.trans (s9.trans sx)) hD, ?_⟩
            · rw [List.length_map, u2, List.length_map, List.length_map, List.length_take, List.length_drop]
              exact Nat.lt_of_le_of_lt (show _ ≤ 6 by omega) (by decide)
            · rw [List.take_add_one, hx, List.map_append]
              unfold BsAt
              rw [List.map_append]
              exact RowsAt.snoc u1 u2 u3 hq2
          refine ⟨t, q1, b.map V.str, [.str x], rfl, rfl, .of htt9, .of hq9, ?_, fun e => ?_, fun _ e => (nomatch e), fun _ _ q2 hq2 => ?_⟩
          · rw [List.length_map, bl]
            exact Nat.le_trans (show i + 1 ≤ 7 by omega) (by decide)
          · have eb : b = [] := List.map_eq_nil_iff.mp e
            exact fin (Same.refl _) (by rw [eb]; exact hq9)
          · exact fin (same_upd (Same.refl _) hq2) (by rw [upd_same, List.map_append]; rfl)
        rintro H8 ⟨s8, BD⟩
        rw [List.length_map, List.take_length] at BD
        have e8 : ((ns.drop (lowB ns b)).map fun x => b ++ [x]) = extB ns b := rfl
        rw [e8] at BD
        have BG8 := BG7.same s8
        have cap : ∀ l : List (List Str), l.length ≤ 46656 → (l.flatMap (extB ns)).length ≤ 46656 * 6 := fun l h => Nat.le_trans (flat_len (extB ns) 6 (fun b => Nat.le_trans (extB_len ns b) n6) l) (Nat.mul_le_mul_right 6 h)
        have bnd : (((lvB ns i).take j).flatMap (extB ns)).length ≤ 46656 * 6 := cap _ (by rw [List.length_take]; omega)
        have bnd2 := Nat.le_trans (extB_len ns b) n6
        obtain ⟨us, u1, u2, u3⟩ := id BG8
        obtain ⟨ws, w1, w2, w3⟩ := id BD
        refine ⟨ag, D, _, _, rfl, rfl, u1, w1, ?_, fun p hp => ?_⟩
        · rw [List.length_map, List.length_map, u2, w2, List.length_map, List.length_map]
          exact Nat.le_trans (show _ ≤ 300000 by omega) (by decide)
        obtain ⟨xs', ys', y1, y2, _, _, y5⟩ := RowsAt.app BG8 BD hp
        rw [u1] at y1
        rw [w1] at y2
        cases y1
        cases y2
        refine ⟨_, _, p, rfl, (s7.trans s8).trans (same_upd (Same.refl _) hp), ?_⟩
        rw [List.take_add_one, hb, List.flatMap_append]
        unfold BsAt
        rw [List.map_append]
        have e9 : [b].flatMap (extB ns) = extB ns b := by rw [List.flatMap_cons, List.flatMap_nil, List.append_nil]
        show RowsAt _ p (_ ++ List.map _ ([b].flatMap (extB ns)))
        rw [e9]
        exact y5
      · rintro σ H' ⟨v6, v7, ag, rfl, s5, BG⟩
        have eG : ((lvB ns i).take (ts.map V.ref).length).flatMap (extB ns) = lvB ns (i + 1) := by
          rw [List.length_map, t2', List.take_length]
          rfl
        rw [eG] at BG
        have BF5 := BF4.same s5
        have lv7 : (lvB ns (i + 1)).length ≤ 46656 := Nat.le_trans (lvB_len n6 (i + 1)) (pow6 (by omega))
        have fo6 : (foundB ns i).length ≤ 400000 := by
          have a := foundB_len n6 i
          have b := pow6 (show i ≤ 6 by omega)
          have c := Nat.mul_le_mul (show i + 1 ≤ 7 by omega) b
          omega
        obtain ⟨us, u1, u2, u3⟩ := id BF5
        obtain ⟨ws, w1, w2, w3⟩ := id BG
        refine ⟨_, rfl, _, rfl, af, ag, _, _, rfl, rfl, u1, w1, ?_, fun p hp => ⟨_, rfl, _, _, rfl, ?_⟩⟩
        · rw [List.length_map, List.length_map, u2, w2, List.length_map, List.length_map]
          exact Nat.le_trans (show _ ≤ 500000 by omega) (by decide)
        obtain ⟨xs', ys', y1, y2, _, _, y5⟩ := RowsAt.app BF5 BG hp
        rw [u1] at y1
        rw [w1] at y2
        cases y1
        cases y2
        have sp := same_upd (o := .lst (us.map V.ref ++ ws.map V.ref)) (Same.refl H') hp
        refine ⟨_, _, _, _, p, ag, rfl, s4.trans (s5.trans sp), ?_, BG.same sp⟩
        show RowsAt _ p (List.map _ (foundB ns i ++ lvB ns (i + 1)))
        rw [List.map_append]
        exact y5
    · rintro σ H' ⟨v4, v5, v6, v7, af, al, rfl, s3, BF, BL⟩
      exact ⟨_, rfl, q H' af (s2.trans s3) BF⟩
end
end K75
set_option Elab.async false
set_option linter.all false
set_option maxRecDepth 100000
set_option maxHeartbeats 4000000
namespace K75
open PySem PySem.Spec PyProof.Rows L2
section
variable {P : Program} {w : World} {K : PySem.W.Frag} {mg : Str → Option Value} {base : Heap}
/-- a def whose parameters are all written, some of them by name -/
theorem kbind0 {x qual : Str} {params : Arguments} {body : List Stmt} {scope : Scope} {kws : List (Str × V)} {f : Addr} {fd : FuncData} {ps : List Str} (F : FunD K x qual params body scope [] kws f fd) (n : Nat) (ks : List Str)
    (h : ∀ (kV doc pm : Value) (an : Option Addr) (cdv ct : Value) (us ws : List Value), us.length = n → ws.length = ks.length → bindArgs (PySem.W.fnOf x qual params body scope .none kV doc pm an cdv ct) ⟨us, ks.zip ws⟩ = pure (ps.zip (us ++ ws))) :
    KBn K fd ps n ks (fun us ws => us ++ ws) (fun vs zs => vs ++ zs) := by
  obtain ⟨oc, od, dV, kV, doc, pm, an, cdv, ct, osl, rfl, lk, hcd, hD, hK⟩ := F.ex
  rcases hD with ⟨_, rfl⟩ | ⟨e, _⟩
  · exact ⟨fun s us ws _ l1 l2 => .of_eq (h kV doc pm an cdv ct us ws l1 l2), fun r1 r2 => r1.append r2⟩
  · exact absurd rfl e
/-- Book, as it is made -/
structure MkB (K : PySem.W.Frag) (mg : Str → Option Value) (C : Addr) : Prop where
  ex : ∃ (f : Addr) (fd : FuncData), mg "Book" = some (.ref C) ∧ Mk K C f ∧ FunD K "__init__" "Book.__init__" (defArgs sBookInit) (defBody sBookInit) (defScope sBookInit) [] [] f fd
def spMade (C : Addr) : Sp := fun vs H Q _ => ∃ (d : Addr) (kvs : List (Key × V)) (A : BookAd) (b : BookD), vs = [.ref d] ∧ H d = some (.dK kvs) ∧ HoldsP kvs A b ∧ PartsAt H A b ∧ BookOk b ∧ ∀ H' x, Same H H' → BookAt C H' x b.ns → Q (.ref x) H'
theorem scMade : FnScope ["_law_book_here"] ["_law_book_here"] (defScope sLawMade) := ⟨rfl, rfl, rfl, by decide +kernel, rfl, by decide +kernel, by decide +kernel⟩
theorem cl_made {C : Addr} (T : Tx K mg) (hPT : PaT K mg) (BT : BkT K mg C) (MB : MkB K mg C) (D : Df K mg "_law_made" sLawMade) (cL : Cl P w K mg base CX0 4 "look_at_parts" spLook) (cA : MtA P w K mg base 1 C "asked_by" (spAsk C)) : Cl P w K mg base CX0 7 "_law_made" (spMade C) := by
  obtain ⟨fB, fdB, hBm, hMk, FB⟩ := MB.ex
  have FI : FnOk P w K mg base CX0 5 fB fdB ["self", "skills", "points", "needs", "wants", "bars", "gives", "prices", "reset"] (spBkI C) := FB.ok scIni (fun vs H Q E h => by
    obtain ⟨me, dx, H0, A, b, rfl, _⟩ := h
    rfl) fun cdv A outer s H vs Q E hr h => by
      obtain ⟨t, h1, h2⟩ := ini_body (qual := "Book.__init__") T hPT BT cL cA fB cdv A outer s H vs Q E hr h
      exact ⟨t, h1.nox, h2⟩
  have hb := kbind0 FB (ps := ["self", "skills", "points", "needs", "wants", "bars", "gives", "prices", "reset"]) 3 ["needs", "wants", "bars", "gives", "prices", "reset"] (fun _ _ _ _ _ _ us ws l1 l2 => match us, l1, ws, l2 with | [_, _, _], _, [_, _, _, _, _, _], _ => rfl)
  refine cl_of D scMade (fun _ _ _ _ _ _ us hl => match us, hl with | [_], _ => rfl) (fun vs H Q E h => ?_) (fun f cdv A outer s H vs Q E hr h => ?_)
  · obtain ⟨d, kvs, A, b, rfl, _⟩ := h
    rfl
  · obtain ⟨d, kvs, A', b, rfl, hd, HP, PA, O, q⟩ := h
    have hu : (A.deeper (envOfC "_law_made" (defScope sLawMade) s.heap.objs.size f cdv)).units + 1 < cLine := by have := hr.units; omega
    refine ⟨_, (pss_one (ps_ret (pe_makeN (n := 2) hMk FI (hr.mono (by decide)) (by rfl) hBm hb pass0 (pa_cons (pe_dget hu (pv 0) pe_str (fun _ _ => rfl)) (pa_cons (pe_dget hu (pv 0) pe_str (fun _ _ => rfl)) pa_nil)) (pk_cons (pe_dget hu (pv 0) pe_str (fun _ _ => rfl)) (pk_cons (pe_dget hu (pv 0) pe_str (fun _ _ => rfl)) (pk_cons (pe_dget hu (pv 0) pe_str (fun _ _ => rfl)) (pk_cons (pe_dget hu (pv 0) pe_str (fun _ _ => rfl)) (pk_cons (pe_dget hu (pv 0) pe_str (fun _ _ => rfl)) (pk_cons (pe_dget hu (pv 0) pe_str (fun _ _ => rfl)) pk_nil))))))))), ?_⟩
    have gt : ∀ (i : Nat) (k : Str) (v : V), (partsK A' b)[i]? = some (Sum.inr k, v) → DGet H d (.str k) (some v) := fun i k v hm => by
      rw [← HP _ (mem_at hm)]
      exact DGet.k (k := Sum.inr k) hd
    refine ⟨_, rfl, d, _, rfl, gt 0 "skills" _ rfl, _, rfl, d, _, rfl, gt 1 "points" _ rfl, _, rfl, d, _, rfl, gt 2 "needs" _ rfl, _, rfl, d, _, rfl, gt 3 "wants" _ rfl, _, rfl, d, _, rfl, gt 4 "bars" _ rfl, _, rfl, d, _, rfl, gt 5 "gives" _ rfl, _, rfl, d, _, rfl, gt 6 "prices" _ rfl, _, rfl, d, _, rfl, gt 7 "reset" _ rfl, rfl, rfl, fun x dx hx hdx ne => ?_⟩
    have s1 := same_upd (o := .own x) (Same.refl H) hdx
    have hx1 : L2.upd H dx (.own x) x = none := by rw [upd_ne (fun e => ne e.symm)]; exact hx
    refine ⟨x, dx, L2.upd H dx (.own x), A', b, rfl, ⟨same_upd (Same.refl _) hx1, hx1, ⟨[], upd_same, (fun p hp => by cases hp), rfl, Nat.le_refl _⟩, fun p hp => by cases hp⟩, PA.same s1, O, fun H' s' B => ⟨rfl, q H' x (s1.trans s') B⟩⟩
end
end K75
set_option Elab.async false
set_option linter.all false
set_option maxRecDepth 100000
set_option maxHeartbeats 4000000
namespace K75
open PySem PySem.Spec PyProof.Rows L2
/-! ### != of two lists that hold the same texts -/
def rNeLs (K : PySem.W.Frag) : R2 := fun x y H Q => ∃ (a b : Addr) (xs : List Str), x = .ref a ∧ y = .ref b ∧ SqL K H a (xs.map V.str) ∧ SqL K H b (xs.map V.str) ∧ Q (.bl false) H
theorem vals_str : ∀ {xs : List Str} {us : List Value}, Vals (xs.map V.str) us → us.length = xs.length ∧ ∀ (j : Nat) (h : j < us.length), ∃ (x : Str) (t : Tok), xs[j]? = some x ∧ us[j] = .str x t
  | [], us, h => by
    cases h
    exact ⟨rfl, fun j h => absurd h (Nat.not_lt_zero _)⟩
  | x :: xs, us, h => by
    cases h with
    | cons a b =>
      obtain ⟨l, f⟩ := vals_str b
      obtain ⟨t, e⟩ := a
      refine ⟨congrArg Nat.succ l, fun j h => ?_⟩
      cases j with
      | zero => exact ⟨x, t, rfl, e⟩
      | succ j => exact f j (Nat.lt_of_succ_lt_succ h)
section
variable {X : Cx}
theorem op_neLs (hu : X.A.units + 1 < cLine) : OpR X (compareOp .NotEq) (rNeLs X.K) := by
  intro pins s σ H x y v u Q I rx ry h
  obtain ⟨a, b, xs, rfl, rfl, ha, hb, q⟩ := h
  cases rx
  cases ry
  obtain ⟨its, r1, p1, _⟩ := I.list ha
  obtain ⟨its2, r2, p2, _⟩ := I.list hb
  obtain ⟨l1, f1⟩ := vals_str r1
  obtain ⟨l2, f2⟩ := vals_str r2
  have z := PySem.SeqAt.RcNeAt.lists (A := X.A) (e := fun _ => true) p1.isList p2.isList (by simp [l1, l2]) (by omega) fun j h1 h2 => by
    rw [List.size_toArray] at h1 h2
    obtain ⟨x1, t1, e1, g1⟩ := f1 j h1
    obtain ⟨x2, t2, e2, g2⟩ := f2 j h2
    rw [e1] at e2
    cases e2
    simp only [List.getElem_toArray, g1, g2]
    have w := PySem.SeqAt.EqAt.str_str (A := X.A.in1) (s := s) x1 t1 x1 t2
    rw [beq_self_eq_true] at w
    exact w
  refine z X.prog X.w _ _ ⟨.bl false, H, I, ?_, q⟩
  show Value.bool _ = Value.bool false
  simp
theorem k_neLs (K : PySem.W.Frag) (hu : X.A.units + 1 < cLine) (h : X.K = K := by rfl) : OpR X (compareOp .NotEq) (rNeLs K) := by
  subst h
  exact op_neLs hu
end
/-! ### a build's text -/
theorem word_nosp {x : Str} (h : wordS x = true) : 32 ∉ TL.tl x := by
  unfold wordS at h
  simp only [Bool.and_eq_true, List.all_eq_true, decide_eq_true_eq] at h
  intro m
  have z := h.2 32 m
  exact absurd z (by decide)
theorem sp_tl : TL.tl " " = 32 :: [] := by decide
theorem word_dash : wordS "-" = false := by decide
theorem split_dash : Txt.split "-" " " = [("-" : Str)] := by decide +kernel
theorem split_nil : Txt.split "" " " = [("" : Str)] := by decide +kernel
theorem split_text {b : List Str} (h : ∀ x ∈ b, wordS x = true) : splitB (textOf b) = b := by
  unfold splitB textOf
  by_cases e : b = []
  · subst e
    rfl
  · rw [if_neg e]
    have z := TL.split_join sp_tl (by decide +kernel) e fun p hp => word_nosp (h p hp)
    by_cases c : Txt.join " " b = "-"
    · rw [c, split_dash] at z
      have w := h "-" (by rw [← z]; exact List.mem_singleton.mpr rfl)
      rw [word_dash] at w
      cases w
    · rw [if_neg c]
      exact z
theorem text_split (x : Str) : textOf (splitB x) = x := by
  unfold splitB
  by_cases c : x = "-"
  · rw [if_pos c, c]
    rfl
  · rw [if_neg c]
    have z : Txt.join " " (Txt.split x " ") = x := (TL.join_eq _ _).trans (StrLaws.join_split x " ")
    unfold textOf
    by_cases e : Txt.split x " " = []
    · rw [e] at z
      have zx : x = "" := z.symm.trans (by decide +kernel)
      rw [zx, split_nil] at e
      cases e
    · rw [if_neg e]
      exact z
theorem ord_sub {ns b : List Str} (nd : ns.Nodup) (h : b.Sublist ns) : ordB ns b = b := by
  unfold ordB
  induction h with
  | slnil => rfl
  | @cons l1 l2 a h ih =>
    have n2 := List.nodup_cons.mp nd
    rw [List.filter_cons_of_neg (by
      intro z
      exact n2.1 (h.subset (of_decide_eq_true z)))]
    exact ih n2.2
  | @cons_cons l1 l2 a h ih =>
    have n2 := List.nodup_cons.mp nd
    rw [List.filter_cons_of_pos (by simp)]
    congr 1
    refine Eq.trans (List.filter_congr fun x hx => ?_) (ih n2.2)
    have ne : ¬ x = a := fun e => n2.1 (e ▸ hx)
    simp [ne]
theorem isB_iff {ns b : List Str} (nd : ns.Nodup) (hw : ∀ x ∈ ns, wordS x = true) : isB ns b = true ↔ b.Sublist ns := by
  unfold isB skB
  simp only [Bool.and_eq_true, decide_eq_true_eq, List.all_eq_true]
  constructor
  · rintro ⟨_, e⟩
    rw [e]
    exact List.filter_sublist
  · intro h
    exact ⟨⟨fun x hx => ⟨hw x (h.subset hx), h.subset hx⟩, nd.sublist h⟩, (ord_sub nd h).symm⟩
/-- the text of a build, and no other, is one of the right ones -/
theorem right_iff {ns : List Str} (nd : ns.Nodup) (hw : ∀ x ∈ ns, wordS x = true) (x : Str) : isB ns (splitB x) = true ↔ ∃ b ∈ subsL ns, textOf b = x := by
  rw [isB_iff nd hw]
  constructor
  · intro h
    exact ⟨splitB x, (subsL_mem nd _).mpr h, text_split x⟩
  · rintro ⟨b, hb, rfl⟩
    have hs := (subsL_mem nd b).mp hb
    rw [split_text fun y hy => hw y (hs.subset hy)]
    exact hs
/-! ### the right builds by their texts -/
theorem putK_keys {kvs : List (Key × V)} {k : Key} {v : V} {kv : Key × V} (h : kv ∈ putK kvs k v) : kv.1 = k ∨ ∃ q ∈ kvs, q.1 = kv.1 := by
  unfold putK at h
  split at h
  · obtain ⟨q, hq, e⟩ := List.mem_map.mp h
    by_cases c : q.1 = k
    · rw [if_pos c] at e
      exact .inr ⟨q, hq, by rw [← e]⟩
    · rw [if_neg c] at e
      exact .inr ⟨q, hq, by rw [← e]⟩
  · rcases List.mem_append.mp h with h | h
    · exact .inr ⟨kv, h, rfl⟩
    · rw [List.mem_singleton.mp h]
      exact .inl rfl
theorem valV_none {kvs : List (Key × V)} {k : Key} (h : ∀ kv ∈ kvs, kv.1 ≠ k) : valV kvs k = none := by
  induction kvs with
  | nil => rfl
  | cons p r ih =>
    rw [valV_neg (h p List.mem_cons_self)]
    exact ih fun kv hk => h kv (List.mem_cons_of_mem _ hk)
structure RAt (H : Hp) (d : Addr) (bs : List (List Str)) : Prop where
  ex : ∃ kvs : List (Key × V), H d = some (.dK kvs) ∧ kvs.length ≤ bs.length ∧ (∀ kv ∈ kvs, ∃ b ∈ bs, kv.1 = Sum.inr (textOf b)) ∧ ∀ b ∈ bs, ∃ t : Addr, valV kvs (Sum.inr (textOf b)) = some (.ref t) ∧ H t = some (.tup (b.map V.str))
theorem RAt.same {H H' : Hp} {d : Addr} {bs : List (List Str)} (h : RAt H d bs) (s : Same H H') : RAt H' d bs := by
  obtain ⟨kvs, a, b, c, e⟩ := h.ex
  exact ⟨kvs, s _ _ a, b, c, fun x hx => let ⟨t, t1, t2⟩ := e x hx; ⟨t, t1, s _ _ t2⟩⟩
theorem RAt.put {H : Hp} {d t : Addr} {bs : List (List Str)} {b : List Str} (h : RAt H d bs) (hw : ∀ c ∈ bs, ∀ x ∈ c, wordS x = true) (hb : ∀ x ∈ b, wordS x = true) (ht : H t = some (.tup (b.map V.str))) (hn : bs.length ≤ 400000) :
    ∃ kvs, DPut H d (.str (textOf b)) (.ref t) (upd H d (.dK kvs)) ∧ RAt (upd H d (.dK kvs)) d (bs ++ [b]) := by
  obtain ⟨kvs, a, l, c, e⟩ := h.ex
  have ne : ∀ {q : Addr} {xs : List V}, H q = some (.tup xs) → q ≠ d := fun hq z => by
    rw [z, a] at hq
    cases hq
  refine ⟨_, DPut.k (k := Sum.inr (textOf b)) a (Nat.lt_of_le_of_lt (Nat.le_trans l hn) (by decide)), ⟨_, upd_same, ?_, fun kv hk => ?_, fun x hx => ?_⟩⟩
  · have := length_putK kvs (Sum.inr (textOf b)) (V.ref t)
    rw [List.length_append, List.length_singleton]
    omega
  · rcases putK_keys hk with z | ⟨q, hq, z⟩
    · exact ⟨b, by simp, z⟩
    · obtain ⟨b', h1, h2⟩ := c q hq
      exact ⟨b', List.mem_append_left _ h1, z ▸ h2⟩
  · rw [valV_put]
    have hxw : ∀ y ∈ x, wordS y = true := by
      rcases List.mem_append.mp hx with z | z
      · exact hw x z
      · rw [List.mem_singleton.mp z]
        exact hb
    by_cases q : textOf x = textOf b
    · have eb : x = b := by rw [← split_text hxw, q, split_text hb]
      subst eb
      exact ⟨t, if_pos rfl, (upd_ne (ne ht)).trans ht⟩
    · rw [if_neg (fun z => q (Sum.inr.inj z))]
      rcases List.mem_append.mp hx with z | z
      · obtain ⟨t', t1, t2⟩ := e x z
        exact ⟨t', t1, (upd_ne (ne t2)).trans t2⟩
      · exact absurd (congrArg textOf (List.mem_singleton.mp z)) q
/-- what a text finds -/
theorem RAt.yes {H : Hp} {d : Addr} {bs : List (List Str)} (h : RAt H d bs) {b : List Str} (hb : b ∈ bs) : ∃ t : Addr, DGet H d (.str (textOf b)) (some (.ref t)) ∧ H t = some (.tup (b.map V.str)) := by
  obtain ⟨kvs, a, l, c, e⟩ := h.ex
  obtain ⟨t, t1, t2⟩ := e b hb
  exact ⟨t, by rw [← t1]; exact DGet.k (k := Sum.inr (textOf b)) a, t2⟩
theorem RAt.no {H : Hp} {d : Addr} {bs : List (List Str)} (h : RAt H d bs) {x : Str} (hx : ∀ b ∈ bs, textOf b ≠ x) : DGet H d (.str x) none := by
  obtain ⟨kvs, a, l, c, e⟩ := h.ex
  have z : valV kvs (Sum.inr x) = none := valV_none fun kv hk z => by
    obtain ⟨b, hb, h2⟩ := c kv hk
    rw [z] at h2
    exact hx b hb (Sum.inr.inj h2).symm
  rw [← z]
  exact DGet.k (k := Sum.inr x) a
/-! ### the state of the law -/
theorem tabs_but {T : List (Addr × Str)} {H H' : Hp} {r : Addr} {o : HO} (t : LamX.Tabs T H) (hr : H r = some o) (n1 : ∀ ps, o ≠ .tbl ps) (n2 : ∀ c q, o ≠ LamX.CodeO c q) (k : ∀ c u, c ≠ r → H c = some u → H' c = some u) : LamX.Tabs T H' := fun p hp => by
  obtain ⟨ps, a1, a2, a3⟩ := t p hp
  refine ⟨ps, k _ _ (fun z => n1 ps ?_) a1, a2, fun pos cv hc => ?_⟩
  · rw [z, hr] at a1
    exact Option.some.inj a1
  · obtain ⟨c, e1, e2⟩ := a3 pos cv hc
    refine ⟨c, e1, k _ _ (fun z => n2 c p.2 ?_) e2⟩
    rw [z, hr] at e2
    have := Option.some.inj e2
    rw [z]
    exact this
theorem lst_tab {xs : List V} : (∀ ps, HO.lst xs ≠ .tbl ps) ∧ ∀ c q, HO.lst xs ≠ LamX.CodeO c q := ⟨fun ps z => (by cases z), fun c q z => by
  unfold LamX.CodeO at z
  cases z⟩
theorem dK_tab {xs : List (Key × V)} : (∀ ps, HO.dK xs ≠ .tbl ps) ∧ ∀ c q, HO.dK xs ≠ LamX.CodeO c q := ⟨fun ps z => (by cases z), fun c q z => by
  unfold LamX.CodeO at z
  cases z⟩
structure LS (T : List (Addr × Str)) (F : Hp) (p : Addr) (H : Hp) : Prop where
  s : Same F H
  nt : ∀ a ps, F a ≠ some (.tbl ps)
  z : F p = none
  pool : PoolAt H p
  tabs : LamX.Tabs T H
section
variable {T : List (Addr × Str)} {F H : Hp} {p : Addr}
theorem LS.same {H' : Hp} (h : LS T F p H) (s : Same H H') : LS T F p H' := ⟨h.s.trans s, h.nt, h.z, h.pool.same s, h.tabs.ext s⟩
theorem LS.kb {H' : Hp} (h : LS T F p H) (k : KB p H H') (q : PoolAt H' p) : LS T F p H' := by
  obtain ⟨a, b, e, _⟩ := h.pool
  exact ⟨fun c o e => k c o (ne_of_none e h.z) (h.s c o e), h.nt, h.z, q, tabs_but h.tabs e lst_tab.1 lst_tab.2 k⟩
theorem LS.extN {H' : Hp} (h : LS T F p H) (e : LamX.ExtN H H') (t : LamX.Tabs T H') : LS T F p H' := by
  obtain ⟨a, b, e1, r⟩ := h.pool
  exact ⟨fun c o q => e c o (h.s c o q) fun ps z => h.nt c ps (by rw [q, z]), h.nt, h.z, ⟨a, b, e p _ e1 lst_tab.1, r⟩, t⟩
theorem LS.put {r : Addr} {kvs : List (Key × V)} {o : HO} (h : LS T F p H) (z : F r = none) (n : r ≠ p) (hr : H r = some (.dK kvs)) : LS T F p (upd H r o) := by
  obtain ⟨a, b, e1, q⟩ := h.pool
  exact ⟨same_upd h.s z, h.nt, h.z, ⟨a, b, (upd_ne (fun e => n e.symm)).trans e1, q⟩, tabs_but h.tabs hr dK_tab.1 dK_tab.2 fun c u hc e => (upd_ne hc).trans e⟩
open Classical in
theorem LS.ext2 (h : LS T F p H) (r : Addr) (zr : F r = none) : ∃ F', LS T F' p H ∧ Same F F' ∧ (∀ c o, c ≠ p → c ≠ r → (∀ ps, o ≠ .tbl ps) → H c = some o → F' c = some o) ∧ F' r = none := by
  have at_ : ∀ {c : Addr} {o : HO}, (if c = p ∨ c = r ∨ ∃ ps, H c = some (.tbl ps) then none else H c) = some o → H c = some o ∧ c ≠ p ∧ ∀ ps, o ≠ .tbl ps := fun {c o} e => by
    by_cases n : c = p ∨ c = r ∨ ∃ ps, H c = some (.tbl ps)
    · rw [if_pos n] at e
      cases e
    · rw [if_neg n] at e
      exact ⟨e, fun z => n (.inl z), fun ps z => n (.inr (.inr ⟨ps, by rw [e, z]⟩))⟩
  refine ⟨fun c => if c = p ∨ c = r ∨ ∃ ps, H c = some (.tbl ps) then none else H c, ⟨fun c o e => (at_ e).1, fun a ps e => (at_ e).2.2 ps rfl, if_pos (.inl rfl), h.pool, h.tabs⟩, fun c o e => ?_, fun c o n1 n2 n3 e => ?_, if_pos (.inr (.inl rfl))⟩
  · have hc := h.s c o e
    refine (if_neg ?_).trans hc
    rintro (z | z | ⟨ps, z⟩)
    · rw [z, h.z] at e
      cases e
    · rw [z, zr] at e
      cases e
    · rw [hc] at z
      exact h.nt c ps (e.trans z)
  · refine (if_neg ?_).trans e
    rintro (z | z | ⟨ps, z⟩)
    · exact n1 z
    · exact n2 z
    · rw [e] at z
      exact n3 ps (Option.some.inj z)
theorem LS.ext (h : LS T F p H) : ∃ F', LS T F' p H ∧ Same F F' ∧ ∀ c o, c ≠ p → (∀ ps, o ≠ .tbl ps) → H c = some o → F' c = some o := by
  obtain ⟨F', a, b, c, _⟩ := h.ext2 p h.z
  exact ⟨F', a, b, fun x o n1 n2 e => c x o n1 n1 n2 e⟩
theorem LS.full (h : LS T F p H) : ∃ G, PS G p H ∧ LamX.Tabs T G ∧ Same F G := by
  obtain ⟨G, a, b, c⟩ := PS.ext (⟨h.s, h.z, h.pool⟩ : PS F p H)
  obtain ⟨x, y, e, _⟩ := h.pool
  exact ⟨G, a, tabs_but h.tabs e lst_tab.1 lst_tab.2 c, b⟩
theorem LS.back {G G' H' : Hp} (h : LS T F p H) (t : LamX.Tabs T G) (s : Same F G) (s2 : Same G G') (q : PS G' p H') : LS T F p H' := ⟨s.trans (s2.trans q.s), h.nt, h.z, q.pool, t.ext fun b o e => q.s _ _ (s2 _ _ e)⟩
end
end K75
set_option Elab.async false
set_option linter.all false
set_option maxRecDepth 100000
set_option maxHeartbeats 4000000
namespace K75
open PySem PySem.Spec PyProof.Rows L2
/-! ### texts of a bounded length -/
def TxOk (n : Nat) (x : Str) : Prop := x.length ≤ n ∧ ∀ c ∈ TL.tl x, c < 0x110000
theorem len_tl (x : Str) : x.length = (TL.tl x).length := by
  show x.cps.size = x.cps.toList.length
  rw [Array.length_toList]
theorem TxOk.mono {n m : Nat} {x : Str} (h : TxOk n x) (k : n ≤ m) : TxOk m x := ⟨Nat.le_trans h.1 k, h.2⟩
theorem TxOk.app {n m : Nat} {x y : Str} (h : TxOk n x) (k : TxOk m y) : TxOk (n + m) (x ++ y) := by
  constructor
  · rw [len_tl, TL.tl_append, List.length_append, ← len_tl, ← len_tl]
    exact Nat.add_le_add h.1 k.1
  · intro c hc
    rw [TL.tl_append] at hc
    rcases List.mem_append.mp hc with z | z
    · exact h.2 c z
    · exact k.2 c z
theorem TxOk.cut {n : Nat} {x : Str} (h : TxOk n x) (lo hi : Option Int) : TxOk n (cutS x lo hi) := by
  refine ⟨Nat.le_trans (cutS_length x lo hi) h.1, fun c hc => h.2 c ?_⟩
  have z : c ∈ ((x.cps.toList.drop (HT.sIx x.length 0 lo)).take (HT.sIx x.length x.length hi - HT.sIx x.length 0 lo)).toArray.toList := hc
  rw [List.toList_toArray] at z
  exact List.mem_of_mem_drop (List.mem_of_mem_take z)
theorem joinL_ok {S : List Nat} (hS : ∀ c ∈ S, c < 0x110000) {n : Nat} : ∀ {ps : List (List Nat)}, (∀ p ∈ ps, p.length ≤ n ∧ ∀ c ∈ p, c < 0x110000) → (TL.joinL S ps).length ≤ ps.length * (n + S.length) ∧ ∀ c ∈ TL.joinL S ps, c < 0x110000
  | [], _ => ⟨Nat.zero_le _, fun c hc => by cases hc⟩
  | [p], h => by
    obtain ⟨a, b⟩ := h p List.mem_cons_self
    refine ⟨?_, b⟩
    show p.length ≤ 1 * _
    omega
  | p :: q :: r, h => by
    obtain ⟨a, b⟩ := h p List.mem_cons_self
    obtain ⟨c, d⟩ := joinL_ok hS (ps := q :: r) fun x hx => h x (List.mem_cons_of_mem _ hx)
    constructor
    · show (p ++ (S ++ TL.joinL S (q :: r))).length ≤ ((q :: r).length + 1) * _
      rw [List.length_append, List.length_append, Nat.succ_mul]
      omega
    · intro x hx
      rcases List.mem_append.mp (show x ∈ p ++ (S ++ TL.joinL S (q :: r)) from hx) with z | z
      · exact b x z
      · rcases List.mem_append.mp z with z | z
        · exact hS x z
        · exact d x z
theorem join_ok {b : List Str} (h : ∀ x ∈ b, TxOk 8 x) (hl : b.length ≤ 6) : TxOk 60 (Txt.join " " b) := by
  have z := joinL_ok (S := TL.tl " ") (n := 8) (by rw [sp_tl]; decide) (ps := b.map TL.tl) fun p hp => by
    obtain ⟨x, hx, rfl⟩ := List.mem_map.mp hp
    exact ⟨by rw [← len_tl]; exact (h x hx).1, (h x hx).2⟩
  rw [TL.join_eq]
  refine ⟨?_, by rw [TL.tl_join]; exact z.2⟩
  rw [len_tl, TL.tl_join]
  refine Nat.le_trans z.1 ?_
  rw [List.length_map, sp_tl]
  exact Nat.le_trans (Nat.mul_le_mul_right _ hl) (by decide)
theorem word_tx {x : Str} (h : wordS x = true) : TxOk 8 x := by
  have z := word_ok h
  have z2 : x.cps.all (· < 0x110000) = true := z
  unfold wordS at h
  simp only [Bool.and_eq_true, decide_eq_true_eq] at h
  refine ⟨by omega, fun c hc => ?_⟩
  rw [← Array.all_toList, List.all_eq_true] at z2
  exact of_decide_eq_true (z2 c hc)
theorem text_ok {b : List Str} (h : ∀ x ∈ b, wordS x = true) (hl : b.length ≤ 6) : TxOk 60 (textOf b) := by
  unfold textOf
  split
  · exact ⟨by decide, by decide⟩
  · exact join_ok (fun x hx => word_tx (h x hx)) hl
/-- what is shown of it is no long line -/
theorem shown_tx {x : Str} (h : TxOk 500 x) : (PyData.str x).shown.length ≤ sizeLine := by
  refine PyData.shown_fits_bulk (B := 8) (by decide) (by decide) ?_ ?_
  · unfold PyData.leavesShort
    rw [List.all_eq_true]
    intro c hc
    exact decide_eq_true (Nat.lt_trans (h.2 c hc) (by decide))
  · unfold PyData.bulk
    exact Nat.le_trans h.1 (by decide)
theorem shown_small {d : PyData} (h1 : d.leavesShort 8 = true) (h2 : d.bulk ≤ 2 ^ 20) : d.shown.length ≤ sizeLine := PyData.shown_fits_bulk (by decide) (by decide) h1 h2
/-! ### texts of no build -/
theorem notB_in {ns ts : List Str} {x : Str} (NO : NmOk ns) (hx : x ∈ ts) (h : x ∉ nms1 ++ nms2) : isB ns ts = false := by
  cases e : isB ns ts with
  | false => rfl
  | true =>
    unfold isB skB at e
    simp only [Bool.and_eq_true, decide_eq_true_eq, List.all_eq_true] at e
    exact absurd (NO.mem x (e.1.1 x hx).2) h
theorem notB_nd {ns ts : List Str} (h : ¬ ts.Nodup) : isB ns ts = false := by
  cases e : isB ns ts with
  | false => rfl
  | true =>
    unfold isB skB at e
    simp only [Bool.and_eq_true, decide_eq_true_eq, List.all_eq_true] at e
    exact absurd e.1.2 h
section
variable {T : List (Addr × Str)} {F H : Hp} {p : Addr} {K : PySem.W.Frag} {C N B : Addr}
/-- _law_caught(lambda: read_build(made, v)) != ['note', repr(v)] -/
theorem rd_caught {σ : L2.St} {Q : VK} {ns : List Str} {mk : Addr} {j : Nat} {v : V} {d : PyData} (L : LS T F p H) (BA : BookAt C F mk ns) (NO : NmOk ns) (h4 : σ[4]? = some (some (.ref mk))) (hj : σ[j]? = some (some v))
    (hv : (∃ x, v = .str x ∧ x.length ≤ 500 ∧ isB ns (splitB x) = false) ∨ ∃ ty, (∀ H', Same F H' → TyOf K H' v ty) ∧ PySem.W.kitOne K ty (.type "str") = some false)
    (hs : ∀ H', Same F H' → Shw K H' v d) (h1 : d.showable = true) (h2 : d.depth ≤ 8) (h3 : d.shown.length ≤ sizeLine) (k : ∀ H', LS T F p H' → Q (.bl false) H') :
    tOp (rNeLs K) (LamX.tLam T (TTc K N B) (fun E => tCall (spRdB K C N) [] E (tCons (tVar 4) (tCons (tVar j) tNil)))) (tLst (tCons (tC (.str "note")) (tCons (tCB (rRepr K) (tCons (tVar j) tNil)) tNil))) σ H Q := by
  refine ⟨L.tabs, fun H1 e1 t1 => ?_⟩
  have L1 := L.extN e1 t1
  have fin : ∀ {H2 : Hp} {a : Addr}, Same H1 H2 → H2 a = some (.lst [.str "note", .str d.shown]) → tLst (tCons (tC (.str "note")) (tCons (tCB (rRepr K) (tCons (tVar j) tNil)) tNil)) σ H2 fun y H3 => rNeLs K (.ref a) y H3 Q := fun {H2 a} s2 ha => by
    refine ⟨_, hj, v, d, rfl, hs H2 (L1.s.trans s2), h1, h2, h3, by show 2 ≤ sizeLine; decide, fun b hb => ?_⟩
    have s3 := same_upd (o := .lst [.str "note", .str d.shown]) (Same.refl H2) hb
    exact ⟨a, b, ["note", d.shown], rfl, rfl, .of (s3 _ _ ha), .of upd_same, k _ (L1.same (s2.trans s3))⟩
  have err : ∀ (H2 : Hp) (a : Addr), Same H1 H2 → H2 a = none → (fun cls dd H' => (cls = Value.ref N ∧ ∃ d, ErrAt K "line" dd H' d ∧ ∀ H2 p, Same H' H2 → H2 p = some (.lst [.str "note", .str d.shown]) → (fun x H3 => tLst (tCons (tC (.str "note")) (tCons (tCB (rRepr K) (tCons (tVar j) tNil)) tNil)) σ H3 fun y H4 => rNeLs K x y H4 Q) (V.ref p) H2) ∨
      (cls = Value.ref B ∧ ∃ d, ErrAt K "build" dd H' d ∧ ∀ H2 p, Same H' H2 → H2 p = some (.lst [.str "build", .str d.shown]) → (fun x H3 => tLst (tCons (tC (.str "note")) (tCons (tCB (rRepr K) (tCons (tVar j) tNil)) tNil)) σ H3 fun y H4 => rNeLs K x y H4 Q) (V.ref p) H2)) (Value.ref N) (some a) (upd H2 a (.xd [("line", v)])) := fun H2 a s2 ha => by
    have s3 := same_upd (o := .xd [("line", v)]) (Same.refl H2) ha
    exact .inl ⟨rfl, d, ⟨a, v, rfl, upd_same, hs _ (L1.s.trans (s2.trans s3)), h1, h2, h3⟩, fun H4 q s4 hq => fin (s2.trans (s3.trans s4)) hq⟩
  refine ⟨_, h4, _, hj, mk, ns, v, rfl, BA.same L1.s, Nat.le_trans NO.hi (by decide), fun x hx => (NO.word hx).1, ?_⟩
  rcases hv with ⟨x, rfl, hl, hb⟩ | ⟨ty, ht, hk⟩
  · refine .inl ⟨x, rfl, hl, fun z => ?_, fun _ H2 a s2 ha => err H2 a s2 ha⟩
    rw [hb] at z
    cases z
  · exact .inr ⟨ty, ht _ L1.s, hk, fun a ha => err H1 a (Same.refl _) ha⟩
/-- _law_caught(lambda: write_build(v)) != ['build', repr(v)] -/
theorem wr_caught {σ : L2.St} {Q : VK} {j : Nat} {v : V} {d : PyData} (L : LS T F p H) (hj : σ[j]? = some (some v))
    (hv : (∃ (t : Addr) (xs : List V), v = .ref t ∧ F t = some (.tup xs) ∧ xs.length ≤ 1000 ∧ (∀ x ∈ xs, AskW x) ∧ xs.all wordV = false) ∨ ∃ ty, (∀ H', Same F H' → TyOf K H' v ty) ∧ PySem.W.kitOne K ty (.type "tuple") = some false)
    (hs : ∀ H', Same F H' → Shw K H' v d) (h1 : d.showable = true) (h2 : d.depth ≤ 8) (h3 : d.shown.length ≤ sizeLine) (k : ∀ H', LS T F p H' → Q (.bl false) H') :
    tOp (rNeLs K) (LamX.tLam T (TTc K N B) (fun E => tCall (spWrB K B) [] E (tCons (tVar j) tNil))) (tLst (tCons (tC (.str "build")) (tCons (tCB (rRepr K) (tCons (tVar j) tNil)) tNil))) σ H Q := by
  refine ⟨L.tabs, fun H1 e1 t1 => ?_⟩
  have L1 := L.extN e1 t1
  have fin : ∀ {H2 : Hp} {a : Addr}, Same H1 H2 → H2 a = some (.lst [.str "build", .str d.shown]) → tLst (tCons (tC (.str "build")) (tCons (tCB (rRepr K) (tCons (tVar j) tNil)) tNil)) σ H2 fun y H3 => rNeLs K (.ref a) y H3 Q := fun {H2 a} s2 ha => by
    refine ⟨_, hj, v, d, rfl, hs H2 (L1.s.trans s2), h1, h2, h3, by show 2 ≤ sizeLine; decide, fun b hb => ?_⟩
    have s3 := same_upd (o := .lst [.str "build", .str d.shown]) (Same.refl H2) hb
    exact ⟨a, b, ["build", d.shown], rfl, rfl, .of (s3 _ _ ha), .of upd_same, k _ (L1.same (s2.trans s3))⟩
  have err : ∀ (H2 : Hp) (a : Addr), Same H1 H2 → H2 a = none → (fun cls dd H' => (cls = Value.ref N ∧ ∃ d, ErrAt K "line" dd H' d ∧ ∀ H2 p, Same H' H2 → H2 p = some (.lst [.str "note", .str d.shown]) → (fun x H3 => tLst (tCons (tC (.str "build")) (tCons (tCB (rRepr K) (tCons (tVar j) tNil)) tNil)) σ H3 fun y H4 => rNeLs K x y H4 Q) (V.ref p) H2) ∨
      (cls = Value.ref B ∧ ∃ d, ErrAt K "build" dd H' d ∧ ∀ H2 p, Same H' H2 → H2 p = some (.lst [.str "build", .str d.shown]) → (fun x H3 => tLst (tCons (tC (.str "build")) (tCons (tCB (rRepr K) (tCons (tVar j) tNil)) tNil)) σ H3 fun y H4 => rNeLs K x y H4 Q) (V.ref p) H2)) (Value.ref B) (some a) (upd H2 a (.xd [("build", v)])) := fun H2 a s2 ha => by
    have s3 := same_upd (o := .xd [("build", v)]) (Same.refl H2) ha
    exact .inr ⟨rfl, d, ⟨a, v, rfl, upd_same, hs _ (L1.s.trans (s2.trans s3)), h1, h2, h3⟩, fun H4 q s4 hq => fin (s2.trans (s3.trans s4)) hq⟩
  refine ⟨_, hj, v, rfl, ?_⟩
  rcases hv with ⟨t, xs, rfl, ht, hl, ha, hw⟩ | ⟨ty, ht, hk⟩
  · exact .inr (.inl ⟨t, xs, rfl, L1.s _ _ ht, hl, ha, hw, fun H2 a s2 ha => err H2 a s2 ha⟩)
  · exact .inr (.inr ⟨ty, ht _ L1.s, hk, fun a ha => err H1 a (Same.refl _) ha⟩)
end
/-! ### the calls of the law -/
section
variable {X : Cx} {k j : Nat} {x : Str} {sp : Sp} {E : XK} {p pos : Pos} {e : Expr} {es : List Expr} {t : TA}
/-- f(e, ..): what it raises is taken -/
theorem pe_kX (c : Cl X.prog X.w X.K X.mg X.base (L2.CX X.prog X.w) k x sp) (hr : Room j X.A) (hx : Passes (L2.CX X.prog X.w) X E) (ha : PA X (e :: es) t) (hk : k ≤ j := by decide) (hg : Gl X x := by rfl)
    (hdb : (x == ("__debug__" : Str)) = false := by decide) (he : starEach (e :: es) X.env = (false, eval e X.env) :: starEach es X.env := by rfl) (hpl : (backTo pos (starEach es X.env)).any (·.1) = false := by rfl) :
    PE X (.Call (.Name x p) (e :: es) [] pos) (tCall sp [] E t) := by
  obtain ⟨f, fd, ps, F, hm, kp, b⟩ := c.ex
  exact pe_call F (hr.mono hk) hg hm kp b .nil hx ha hdb he hpl
/-- _law_caught(lambda: ..) -/
theorem pe_caught {T : List (Addr × Str)} {N B c Pt : Addr} {k : Nat} {params : Arguments} {body : Expr} {scope : Scope} {tl : XK → TE} {lpos : Pos} (Tt : Tx X.K X.mg) (G : CgT X.K X.mg N B) (D : Df X.K X.mg "_law_caught" sLawCaught) (gd : X.A.guards = some []) (hr : Room (k + 2) X.A)
    (TB : LamX.TabB X.base X.mg c Pt) (hcode : X.env.code = .ref c) (hT : T = [(Pt, X.env.qual ++ "<lambda>")]) (L : LamX.LamS X.env.scope scope)
    (hbody : ∀ (A : Around) (outer : List Env) (s : Shared) (H : Hp) (E : XK) (f c' : Addr), Room k (A.deeper (LamX.lamEnv X scope s.heap.objs.size f c')) → PE (LamX.lamCx X A outer s H E scope f c') body (tl E))
    (hg : Gl X "_law_caught" := by rfl) (hdef : defaultsOf params X.env = ([], []) := by rfl)
    (hbind : ∀ (q : Str) (cl : List (Str × Addr)) (pm cv ctv : Value), bindArgs (PySem.W.kla_fn "<lambda>" q params body scope cl pm cv ctv) ⟨[], []⟩ = pure [] := by intros; rfl) :
    PE X (.Call (.Name "_law_caught" p) [.Lambda params body scope lpos] [] pos) (LamX.tLam T (TTc X.K N B) tl) := by
  subst hT
  obtain ⟨g, fd, hm, F⟩ := D
  obtain ⟨oc, od, dV, kV, doc, pm, an, cdv, ct, osl, e, lk, hcd, hD, hK⟩ := id F.ex
  subst e
  have hb : L2.Binds X.K (PySem.W.fnOf "_law_caught" "_law_caught" (defArgs sLawCaught) (defBody sLawCaught) (defScope sLawCaught) dV kV doc pm an cdv ct) ["_law_call"] [] := F.bindsN fun _ _ _ _ _ _ us hl => match us, hl with | [_], _ => rfl
  exact LamX.pe_lamcall (Ng := ["_law_call", "e"]) hg hm F.kp lk hcd hb scCaught rfl (.inl rfl) (caught_gives Tt G gd (by have := hr.un; omega)) TB hcode (List.mem_singleton.mpr rfl) (fun q hq _ => by rw [List.mem_singleton.mp hq]) hr L hdef hbind hbody
/-- around a lambda's body -/
theorem pass_lam {A : Around} {outer : List Env} {s : Shared} {H : Hp} {E : XK} {scope : Scope} {f c' : Addr} : Passes (L2.CX X.prog X.w) (LamX.lamCx X A outer s H E scope f c') E := passes_call (takes_of rfl rfl rfl rfl) (fun _ _ _ _ h => h)
end
section
variable {X : Cx} {k j : Nat} {x : Str} {sp : Sp} {E : XK} {p pos : Pos} {e : Expr} {es : List Expr} {t : TA} {A : Around} {outer : List Env} {s : Shared} {H : Hp} {scope : Scope} {f c' : Addr}
/-- f(e, ..) in a lambda -/
theorem pe_kL (c : Cl X.prog X.w X.K X.mg X.base (L2.CX X.prog X.w) k x sp) (hr : Room j (A.deeper (LamX.lamEnv X scope s.heap.objs.size f c'))) (ha : PA (LamX.lamCx X A outer s H E scope f c') (e :: es) t) (hk : k ≤ j := by decide) (hg : Gl (LamX.lamCx X A outer s H E scope f c') x := by rfl)
    (hdb : (x == ("__debug__" : Str)) = false := by decide) (he : starEach (e :: es) (LamX.lamCx X A outer s H E scope f c').env = (false, eval e (LamX.lamCx X A outer s H E scope f c').env) :: starEach es (LamX.lamCx X A outer s H E scope f c').env := by rfl) (hpl : (backTo pos (starEach es (LamX.lamCx X A outer s H E scope f c').env)).any (·.1) = false := by rfl) :
    PE (LamX.lamCx X A outer s H E scope f c') (.Call (.Name x p) (e :: es) [] pos) (tCall sp [] E t) := pe_kX (X := LamX.lamCx X A outer s H E scope f c') c hr (pass_lam (X := X)) ha hk hg hdb he hpl
end
end K75
set_option Elab.async false
set_option linter.all false
set_option maxRecDepth 100000
set_option maxHeartbeats 4000000
namespace K75
open PySem PySem.Spec PyProof.Rows L2
/-! ### the odd things that are handed in -/
theorem ls_str {n : Nat} {x : Str} (h : TxOk n x) : PyData.leavesShort 8 (.str x) = true := by
  unfold PyData.leavesShort
  rw [List.all_eq_true]
  intro c hc
  exact decide_eq_true (Nat.lt_trans (h.2 c hc) (by decide))
theorem bk_str (x : Str) : PyData.bulk (.str x) = x.length := by unfold PyData.bulk; rfl
section
variable {K : PySem.W.Frag} {F : Hp} {ns : List Str}
/-- v can be shown as d -/
def ShwOk (K : PySem.W.Frag) (F : Hp) (v : V) : Prop := ∃ d : PyData, (∀ H', Same F H' → Shw K H' v d) ∧ d.showable = true ∧ d.depth ≤ 8 ∧ d.shown.length ≤ sizeLine
def OdR (K : PySem.W.Frag) (F : Hp) (ns : List Str) (v : V) : Prop := ShwOk K F v ∧ ((∃ x, v = .str x ∧ x.length ≤ 500 ∧ isB ns (splitB x) = false) ∨ ∃ ty, (∀ H', Same F H' → TyOf K H' v ty) ∧ PySem.W.kitOne K ty (.type "str") = some false)
def OdW (K : PySem.W.Frag) (F : Hp) (v : V) : Prop := ShwOk K F v ∧ ((∃ (t : Addr) (xs : List V), v = .ref t ∧ F t = some (.tup xs) ∧ xs.length ≤ 1000 ∧ (∀ x ∈ xs, AskW x) ∧ xs.all wordV = false) ∨ ∃ ty, (∀ H', Same F H' → TyOf K H' v ty) ∧ PySem.W.kitOne K ty (.type "tuple") = some false)
theorem shw_non : ShwOk K F .non := ⟨.none, fun _ _ => .inl ⟨.non, by simp only [PyData.hasDict]⟩, by simp only [PyData.showable], by simp only [PyData.depth]; decide, shown_small (by simp only [PyData.leavesShort]) (by simp only [PyData.bulk]; decide)⟩
theorem shw_five : ShwOk K F (.int 5) := ⟨.int 5, fun _ _ => .inl ⟨.int 5, by simp only [PyData.hasDict]⟩, by decide +kernel, by simp only [PyData.depth]; decide, by decide +kernel⟩
theorem shw_str {x : Str} (h : TxOk 500 x) : ShwOk K F (.str x) := ⟨.str x, fun _ _ => .inl ⟨.str x, by simp only [PyData.hasDict]⟩, by simp only [PyData.showable], by simp only [PyData.depth]; decide, shown_tx h⟩
theorem shw_tup1 {t : Addr} {x : Str} (ht : F t = some (.tup [.str x])) (h : TxOk 500 x) : ShwOk K F (.ref t) := ⟨.tuple [.str x], fun _ s => .inl ⟨.tup (.of (s _ _ ht)) (.cons (.str x) .nil), by simp only [PyData.hasDict, PyData.hasDictAll, Bool.or_self]⟩,
  by simp only [PyData.showable, PyData.showableAll, Bool.and_self], by simp only [PyData.depth, PyData.depthAll]; decide, shown_small (by simp only [PyData.leavesShort, PyData.leavesShortAll, Bool.and_true]; exact ls_str h) (by
    have := h.1
    simp only [PyData.bulk, PyData.bulkAll]
    exact Nat.le_trans (show x.length + 1 + 0 ≤ 501 by omega) (by decide))⟩
theorem shw_lst1 {t : Addr} {x : Str} (ht : F t = some (.lst [.str x])) (h : TxOk 500 x) : ShwOk K F (.ref t) := ⟨.list [.str x], fun _ s => .inl ⟨.lst (.of (s _ _ ht)) (.cons (.str x) .nil), by simp only [PyData.hasDict, PyData.hasDictAll, Bool.or_self]⟩,
  by simp only [PyData.showable, PyData.showableAll, Bool.and_self], by simp only [PyData.depth, PyData.depthAll]; decide, shown_small (by simp only [PyData.leavesShort, PyData.leavesShortAll, Bool.and_true]; exact ls_str h) (by
    have := h.1
    simp only [PyData.bulk, PyData.bulkAll]
    exact Nat.le_trans (show x.length + 1 + 0 ≤ 501 by omega) (by decide))⟩
theorem shw_tupN {t : Addr} (ht : F t = some (.tup [.non])) : ShwOk K F (.ref t) := ⟨.tuple [.none], fun _ s => .inl ⟨.tup (.of (s _ _ ht)) (.cons .non .nil), by simp only [PyData.hasDict, PyData.hasDictAll, Bool.or_self]⟩,
  by simp only [PyData.showable, PyData.showableAll, Bool.and_self], by simp only [PyData.depth, PyData.depthAll]; decide, shown_small (by simp only [PyData.leavesShort, PyData.leavesShortAll, Bool.and_true]) (by simp only [PyData.bulk, PyData.bulkAll]; decide)⟩
theorem ls_one : PyData.leavesShort 8 (.int 1) = true := by decide +kernel
theorem sh_one : PyData.showable (.int 1) = true := by decide +kernel
theorem shw_tup2 {t : Addr} {x : Str} (ht : F t = some (.tup [.str x, .int 1])) (h : TxOk 500 x) : ShwOk K F (.ref t) := ⟨.tuple [.str x, .int 1], fun _ s => .inl ⟨.tup (.of (s _ _ ht)) (.cons (.str x) (.cons (.int 1) .nil)), by simp only [PyData.hasDict, PyData.hasDictAll, Bool.or_self]⟩,
  by simp only [PyData.showable, PyData.showableAll, Bool.and_self]; decide +kernel, by simp only [PyData.depth, PyData.depthAll]; decide, shown_small (by
    unfold PyData.leavesShort PyData.leavesShortAll
    rw [ls_str h]
    unfold PyData.leavesShortAll
    rw [ls_one]
    rfl) (by
    have := h.1
    simp only [PyData.bulk, PyData.bulkAll]
    exact Nat.le_trans (show x.length + 1 + (0 + 1 + 0) ≤ 502 by omega) (by decide))⟩
theorem shw_dct {q : Addr} {x : Str} (hq : F q = some (.dK [(.inr x, .int 1)])) (h : TxOk 500 x) : ShwOk K F (.ref q) := ⟨.dict [(.str x, .int 1)], fun _ s => .inr ⟨q, x, 1, rfl, s _ _ hq, rfl⟩,
  by simp only [PyData.showable, PyData.showableKv, Bool.and_self]; decide +kernel, by simp only [PyData.depth, PyData.depthKv]; decide, shown_small (by
    unfold PyData.leavesShort PyData.leavesShortKv
    rw [ls_str h, ls_one]
    rfl) (by
    have := h.1
    simp only [PyData.bulk, PyData.bulkKv]
    exact Nat.le_trans (show x.length + 0 + 2 + 0 ≤ 502 by omega) (by decide))⟩
theorem odR_non : OdR K F ns .non := ⟨shw_non, .inr ⟨_, fun _ _ => .non, kit_ty (by decide +kernel)⟩⟩
theorem odR_five : OdR K F ns (.int 5) := ⟨shw_five, .inr ⟨_, fun _ _ => .int 5, kit_ty (by decide +kernel)⟩⟩
theorem odR_str {x : Str} (h : TxOk 500 x) (hb : isB ns (splitB x) = false) : OdR K F ns (.str x) := ⟨shw_str h, .inl ⟨x, rfl, h.1, hb⟩⟩
theorem odR_tup1 {t : Addr} {x : Str} (ht : F t = some (.tup [.str x])) (h : TxOk 500 x) : OdR K F ns (.ref t) := ⟨shw_tup1 ht h, .inr ⟨_, fun _ s => .tup (s _ _ ht), kit_ty (by decide +kernel)⟩⟩
theorem odR_lst1 {t : Addr} {x : Str} (ht : F t = some (.lst [.str x])) (h : TxOk 500 x) : OdR K F ns (.ref t) := ⟨shw_lst1 ht h, .inr ⟨_, fun _ s => .lst (s _ _ ht), kit_ty (by decide +kernel)⟩⟩
theorem odW_non : OdW K F .non := ⟨shw_non, .inr ⟨_, fun _ _ => .non, kit_ty (by decide +kernel)⟩⟩
theorem odW_five : OdW K F (.int 5) := ⟨shw_five, .inr ⟨_, fun _ _ => .int 5, kit_ty (by decide +kernel)⟩⟩
theorem odW_str {x : Str} (h : TxOk 500 x) : OdW K F (.str x) := ⟨shw_str h, .inr ⟨_, fun _ _ => .str x, kit_ty (by decide +kernel)⟩⟩
theorem odW_lst1 {t : Addr} {x : Str} (ht : F t = some (.lst [.str x])) (h : TxOk 500 x) : OdW K F (.ref t) := ⟨shw_lst1 ht h, .inr ⟨_, fun _ s => .lst (s _ _ ht), kit_ty (by decide +kernel)⟩⟩
theorem odW_dct {q : Addr} {x : Str} (hq : F q = some (.dK [(.inr x, .int 1)])) (h : TxOk 500 x) : OdW K F (.ref q) := ⟨shw_dct hq h, .inr ⟨_, fun _ s => .dK (s _ _ hq), kit_ty (by decide +kernel)⟩⟩
theorem odW_tupN {t : Addr} (ht : F t = some (.tup [.non])) : OdW K F (.ref t) := ⟨shw_tupN ht, .inl ⟨t, _, rfl, ht, by decide, fun x hx => by
  rw [List.mem_singleton.mp hx]
  exact .inr (.inl rfl), rfl⟩⟩
theorem odW_tup1 {t : Addr} {x : Str} (ht : F t = some (.tup [.str x])) (h : TxOk 500 x) (hw : wordS x = false) : OdW K F (.ref t) := ⟨shw_tup1 ht h, .inl ⟨t, _, rfl, ht, by show 1 ≤ 1000; decide, fun y hx => by
  rw [List.mem_singleton.mp hx]
  exact .inl ⟨x, rfl, Nat.le_trans h.1 (by decide)⟩, by
    show (wordS x && true) = false
    rw [hw]
    rfl⟩⟩
theorem odW_tup2 {t : Addr} {x : Str} (ht : F t = some (.tup [.str x, .int 1])) (h : TxOk 500 x) : OdW K F (.ref t) := ⟨shw_tup2 ht h, .inl ⟨t, _, rfl, ht, by show 2 ≤ 1000; decide, fun y hx => by
  rcases List.mem_cons.mp hx with e | e
  · rw [e]
    exact .inl ⟨x, rfl, Nat.le_trans h.1 (by decide)⟩
  · rw [List.mem_singleton.mp e]
    exact .inr (.inr ⟨1, rfl⟩), by
    show (wordS x && (false && true)) = false
    cases wordS x <;> rfl⟩⟩
end
/-- the texts that no book takes -/
theorem odd_texts {ns : List Str} (NO : NmOk ns) {n0 : Str} (h0 : n0 ∈ ns) : isB ns (splitB "") = false ∧ isB ns (splitB " ") = false ∧ isB ns (splitB "nobody") = false ∧ isB ns (splitB "- -") = false ∧ isB ns (splitB (n0 ++ " " ++ n0)) = false := by
  refine ⟨?_, ?_, ?_, ?_, ?_⟩
  · rw [show splitB "" = [("" : Str)] by decide +kernel]
    exact notB_in (x := "") NO List.mem_cons_self (by decide +kernel)
  · rw [show splitB " " = [("" : Str), ""] by decide +kernel]
    exact notB_in (x := "") NO List.mem_cons_self (by decide +kernel)
  · rw [show splitB "nobody" = [("nobody" : Str)] by decide +kernel]
    exact notB_in (x := "nobody") NO List.mem_cons_self (by decide +kernel)
  · rw [show splitB "- -" = [("-" : Str), "-"] by decide +kernel]
    exact notB_in (x := "-") NO List.mem_cons_self (by decide +kernel)
  · have e : n0 ++ " " ++ n0 = textOf [n0, n0] := by
      unfold textOf
      rw [if_neg (by intro z; cases z), TL.join_eq]
      rfl
    rw [e, split_text fun x hx => by
      rcases List.mem_cons.mp hx with z | z
      · rw [z]
        exact (NO.word h0).1
      · rw [List.mem_singleton.mp z]
        exact (NO.word h0).1]
    exact notB_nd (by simp)
end K75
set_option Elab.async false
set_option linter.all false
set_option maxRecDepth 100000
set_option maxHeartbeats 4000000
namespace K75
open PySem PySem.Spec PyProof.Rows L2
section
variable {P : Program} {w : World} {K : PySem.W.Frag} {mg : Str → Option Value} {base : Heap}
abbrev lawT (Pt : Addr) : List (Addr × Str) := [(Pt, (envOfC "law" (defScope sLaw) 0 0 .none).qual ++ "<lambda>")]
/-- what holds of a book behind its making -/
structure LF (C : Addr) (F : Hp) (mk nm : Addr) (ns : List Str) : Prop where
  B : BookAt C F mk ns
  N : NmOk ns
  nm : F nm = some (.lst (ns.map V.str))
theorem LF.same {C : Addr} {F F' : Hp} {mk nm : Addr} {ns : List Str} (h : LF C F mk nm ns) (s : Same F F') : LF C F' mk nm ns := ⟨h.B.same s, h.N, s _ _ h.nm⟩
def TBD (K : PySem.W.Frag) (T : List (Addr × Str)) (C : Addr) : TS := fun DD σ H => ∃ (a p d mk nm r aS : Addr) (k : Int) (v7 v8 v9 v10 v11 v12 v13 : Option V) (F : Hp) (ss : List (Str × Int)) (kvs : List (Key × V)),
  σ = [some (.ref a), some (.int k), some (.ref p), some (.ref d), some (.ref mk), some (.ref nm), some (.ref r), v7, v8, v9, v10, v11, v12, v13] ∧ LS T F p H ∧ F r = none ∧ r ≠ p ∧ H r = some (.dK []) ∧ LF C F mk nm (ss.map fun x : Str × Int => x.1) ∧
  H d = some (.dK kvs) ∧ valV kvs (.inr "skills") = some (.ref aS) ∧ RowsAt H aS (ss.map skRow) ∧
  ∀ v7 v8 H', LS T F p H' → RAt H' r (subsL (ss.map fun x : Str × Int => x.1)) → DD.nx [some (.ref a), some (.int k), some (.ref p), some (.ref d), some (.ref mk), some (.ref nm), some (.ref r), v7, v8, v9, v10, v11, v12, v13] H'
def TBE (T : List (Addr × Str)) (C : Addr) : TS := fun DD σ H => ∃ (a p d mk nm r : Addr) (k : Int) (v7 v8 v9 v10 v11 v12 v13 : Option V) (F : Hp) (ns : List Str),
  σ = [some (.ref a), some (.int k), some (.ref p), some (.ref d), some (.ref mk), some (.ref nm), some (.ref r), v7, v8, v9, v10, v11, v12, v13] ∧ LS T F p H ∧ LF C F mk nm ns ∧ RAt F r (subsL ns) ∧
  ∀ v8 v9 v10 v11 v12 H', LS T F p H' → DD.nx [some (.ref a), some (.int k), some (.ref p), some (.ref d), some (.ref mk), some (.ref nm), some (.ref r), v7, v8, v9, v10, v11, v12, v13] H'
def TB3 (T : List (Addr × Str)) (C : Addr) : TS := fun DD σ H => ∃ (a p d mk nm r : Addr) (k : Int) (m : Nat) (x g : Str) (v7 v9 v12 v13 : Option V) (F : Hp) (ns : List Str),
  σ = [some (.ref a), some (.int k), some (.ref p), some (.ref d), some (.ref mk), some (.ref nm), some (.ref r), v7, some (.str x), v9, some (.int m), some (.str g), v12, v13] ∧ LS T F p H ∧ LF C F mk nm ns ∧ RAt F r (subsL ns) ∧ TxOk 60 x ∧ TxOk 1 g ∧
  ∀ v12 H', LS T F p H' → DD.nx [some (.ref a), some (.int k), some (.ref p), some (.ref d), some (.ref mk), some (.ref nm), some (.ref r), v7, some (.str x), v9, some (.int m), some (.str g), v12, v13] H'
def TBF (T : List (Addr × Str)) (C : Addr) : TS := fun DD σ H => ∃ (a p d mk nm r : Addr) (k : Int) (v7 v8 v9 v10 v11 v12 v13 : Option V) (F : Hp) (ns : List Str),
  σ = [some (.ref a), some (.int k), some (.ref p), some (.ref d), some (.ref mk), some (.ref nm), some (.ref r), v7, v8, v9, v10, v11, v12, v13] ∧ LS T F p H ∧ LF C F mk nm ns ∧
  ∀ v13 H', LS T F p H' → DD.nx [some (.ref a), some (.int k), some (.ref p), some (.ref d), some (.ref mk), some (.ref nm), some (.ref r), v7, v8, v9, v10, v11, v12, v13] H'
theorem scLaw : FnScope ["_law_script", "_law_k", "_law_pool_here", "_law_book_here", "_law_made_here", "_law_names_here", "_law_right", "_law_build", "_law_text", "_law_turn", "_law_at", "_law_sign", "_law_bent", "_law_odd"] ["_law_script"] (defScope sLaw) := ⟨rfl, rfl, rfl, by decide +kernel, rfl, by decide +kernel, by decide +kernel⟩
theorem RAt.keys {H : Hp} {d : Addr} {bs : List (List Str)} (h : RAt H d bs) {b : List Str} (hb : b ∈ bs) : ∃ kvs : List (Key × V), H d = some (.dK kvs) ∧ 1 ≤ kvs.length ∧ kvs.length ≤ bs.length ∧ ∀ v ∈ kvs.map (fun kv => kV kv.1), ∃ b ∈ bs, v = .str (textOf b) := by
  obtain ⟨kvs, a, l, c, e⟩ := h.ex
  obtain ⟨t, e1, _⟩ := e b hb
  refine ⟨kvs, a, ?_, l, fun v hv => ?_⟩
  · cases kvs with
    | nil => cases e1
    | cons q r => exact Nat.succ_le_succ (Nat.zero_le _)
  · obtain ⟨kv, hk, rfl⟩ := List.mem_map.mp hv
    obtain ⟨b', h1, h2⟩ := c kv hk
    exact ⟨b', h1, by rw [h2]; rfl⟩
theorem text_read {σ : L2.St} {H : Hp} {Q : VK} {t : Addr} {b : List Str} (h7 : σ[7]? = some (some (.ref t))) (ht : H t = some (.tup (b.map V.str))) (hw : ∀ x ∈ b, wordS x = true) (hl : b.length ≤ 6) (q : Q (.str (textOf b)) H) :
    if (!decide (b = [])) = true then tM1 (fun x xs H Q => ∃ a p, ∃ ys : List Str, x = .str a ∧ xs = [.ref p] ∧ (SqL K H p (ys.map V.str) ∨ SqT K H p (ys.map V.str)) ∧ (ys.map (·.length)).sum + ys.length * a.length ≤ 16777216 ∧ Q (.str (Txt.join a ys)) H) (tC (.str " ")) (tVar 7) σ H Q else tC (.str "-") σ H Q := by
  unfold textOf at q
  by_cases e : b = []
  · rw [if_pos e] at q
    rw [decide_eq_true e]
    exact iteF q
  · rw [if_neg e] at q
    rw [decide_eq_false e]
    refine iteT ⟨⟨_, rfl⟩, _, h7, " ", t, b, rfl, rfl, .inr (.of ht), ?_, q⟩
    have := sum_le (ts := b) fun x hx => Nat.le_trans (word_tx (hw x hx)).1 (by decide)
    show _ + b.length * 1 ≤ _
    omega
theorem eqv_same (b c : List Str) : PyData.eqv (.tuple (b.map PyData.str)) (.tuple (c.map PyData.str)) = decide (b = c) := by
  rw [PyData.eqv]
  exact eqvAll_strs _ _
theorem bs_at {H : Hp} {a : Addr} {bs : List (List Str)} (h : BsAt H a bs) : ∃ ts : List Addr, H a = some (.lst (ts.map V.ref)) ∧ ts.length = bs.length ∧ ∀ (i : Nat) (t : Addr) (b : List Str), ts[i]? = some t → bs[i]? = some b → H t = some (.tup (b.map V.str)) := by
  obtain ⟨ts, t1, t2, t3⟩ := h
  refine ⟨ts, t1, by rw [t2, List.length_map], fun i t b e1 e2 => t3 i t _ e1 ?_⟩
  rw [List.getElem?_map, e2]
  rfl
theorem sql_same {H H' : Hp} {a : Addr} {xs : List V} (h : SqL K H a xs) (s : Same H H') : SqL K H' a xs := by
  rcases h with (h | ⟨o, h⟩) | h
  · exact .inl (.inl (s _ _ h))
  · exact .inl (.inr ⟨o, s _ _ h⟩)
  · exact .inr h
theorem strs_np {H : Hp} {p a : Addr} {xs : List Str} (h : PoolAt H p) (e : H a = some (.lst (xs.map V.str))) : a ≠ p := fun z => by
  obtain ⟨i, j, hp, _⟩ := h
  rw [z, hp] at e
  cases xs with
  | nil => cases e
  | cons x xs => cases e
theorem book_ext {C : Addr} {H F : Hp} {p mk : Addr} {ns : List Str} (h : BookAt C H mk ns) (pl : PoolAt H p) (ex : ∀ c o, c ≠ p → (∀ ps, o ≠ .tbl ps) → H c = some o → F c = some o) : BookAt C F mk ns := by
  obtain ⟨dx, ol, fs, h1, h2, h3⟩ := h
  refine ⟨dx, ol, fs, ex _ _ (fun z => ?_) (fun ps z => by cases z) h1, h2, ex _ _ (strs_np pl h3) (fun ps z => by cases z) h3⟩
  obtain ⟨i, j, hp, _⟩ := pl
  rw [z, hp] at h1
  cases h1
theorem rat_ext {H F : Hp} {p r : Addr} {bs : List (List Str)} (h : RAt H r bs) (pl : PoolAt H p) (n : r ≠ p) (ex : ∀ c o, c ≠ p → (∀ ps, o ≠ .tbl ps) → H c = some o → F c = some o) : RAt F r bs := by
  obtain ⟨kvs, a, l, c, e⟩ := h.ex
  refine ⟨kvs, ex _ _ n (fun ps z => by cases z) a, l, c, fun b hb => ?_⟩
  obtain ⟨t, t1, t2⟩ := e b hb
  refine ⟨t, t1, ex _ _ (fun z => ?_) (fun ps z => by cases z) t2⟩
  obtain ⟨i, j, hp, _⟩ := pl
  rw [z, hp] at t2
  cases t2
theorem nobody_text (n : Str) : textOf ["nobody", n] = "nobody " ++ n := by
  unfold textOf
  rw [if_neg (by intro z; cases z), TL.join_eq]
  show ("nobody" : Str) ++ " " ++ n = _
  rw [show ("nobody" : Str) ++ " " = "nobody " by decide +kernel]
theorem law_run {C N B c Pt : Addr} (Tt : Tx K mg) (G : CgT K mg N B) (Dc : Df K mg "_law_caught" sLawCaught) (TB : LamX.TabB base mg c Pt) (cP : Cl P w K mg base CX0 1 "_law_pool" (spPool K)) (cT : Cl P w K mg base CX0 1 "_law_take" spTake) (cO : Cl P w K mg base CX0 2 "_law_one" spOne) (cU : Cl P w K mg base CX0 2 "_law_turned" spTurned)
    (cBk : Cl P w K mg base CX0 4 "_law_book" spBook) (cMd : Cl P w K mg base CX0 7 "_law_made" (spMade C)) (cNm : Cl P w K mg base CX0 1 "_law_names" spNames) (cSb : Cl P w K mg base CX0 2 "_law_subsets" spSubs) (cW : Cl P w K mg base (L2.CX P w) 2 "write_build" (spWrB K B)) (cR : Cl P w K mg base (L2.CX P w) 4 "read_build" (spRdB K C N))
    (f : Addr) (A : Around) (outer : List Env) (s : Shared) (H : Hp) (a : Addr) (is : List Int) (gd : A.guards = some []) (hr : Room 7 (A.deeper (envOfC "law" (defScope sLaw) s.heap.objs.size f (.ref c)))) (hT : H Pt = some (.tbl #[])) (ha : SqL K H a (is.map V.int)) :
    ∃ t, PSs (cxOf CX0 P w K mg base ["_law_script", "_law_k", "_law_pool_here", "_law_book_here", "_law_made_here", "_law_names_here", "_law_right", "_law_build", "_law_text", "_law_turn", "_law_at", "_law_sign", "_law_bent", "_law_odd"] "law" (defScope sLaw) f (.ref c) A outer s H E0).nox (defBody sLaw) t ∧ t { nx := fun _ H' => V.non = .bl true, rt := fun v _ => v = .bl true } (L2.start ["_law_script", "_law_k", "_law_pool_here", "_law_book_here", "_law_made_here", "_law_names_here", "_law_right", "_law_build", "_law_text", "_law_turn", "_law_at", "_law_sign", "_law_bent", "_law_odd"] [.ref a]) H := by
  have hu : (A.deeper (envOfC "law" (defScope sLaw) s.heap.objs.size f (.ref c))).units + 64 < cLine := by have := hr.un; omega
  have hu1 : (A.deeper (envOfC "law" (defScope sLaw) s.heap.objs.size f (.ref c))).units + 1 < cLine := by omega
  have hr6 : Room 6 (A.deeper (envOfC "law" (defScope sLaw) s.heap.objs.size f (.ref c))) := hr.mono (by decide)
  have hTq : lawT Pt = [(Pt, (cxOf CX0 P w K mg base ["_law_script", "_law_k", "_law_pool_here", "_law_book_here", "_law_made_here", "_law_names_here", "_law_right", "_law_build", "_law_text", "_law_turn", "_law_at", "_law_sign", "_law_bent", "_law_odd"] "law" (defScope sLaw) f (.ref c) A outer s H E0).nox.env.qual ++ "<lambda>")] := rfl
  refine ⟨_, (pss_cons (ps_for PassesOwn.never rfl (pi_range1 (by rfl) Tt.range (pa_cons (pe_callB (call_max2 rfl) (by rfl) Tt.max b_max (pa_cons pe_int (pa_cons (pe_callB (call_min2 rfl) (by rfl) Tt.min b_min (pa_cons pe_int (pa_cons (pe_len K (pv 0) Tt.len) pa_nil))) pa_nil))) pa_nil)) (pg_name (i := 1) scLaw.nd rfl (Or.inl rfl)) (pss_cons (ps_asg (pe_k cP hr (pa_cons (pv 0) (pa_cons (pv 1) pa_nil))) (pg_name (i := 2) scLaw.nd rfl (Or.inl rfl))) (pss_cons (ps_asg (pe_k cBk hr (pa_cons (pv 2) (pa_cons pe_int (pa_cons (pe_k cT hr (pa_cons (pv 2) (pa_cons pe_int pa_nil))) pa_nil)))) (pg_name (i := 3) scLaw.nd rfl (Or.inl rfl))) (pss_cons (ps_asg (pe_tup (pa_cons (pe_k cMd hr (pa_cons (pv 3) pa_nil)) (pa_cons (pe_k cNm hr (pa_cons (pv 3) pa_nil)) (pa_cons pe_dnewK pa_nil)))) (k_tup K (pgs_cons (pg_name (i := 4) scLaw.nd rfl (Or.inr rfl)) (pgs_cons (pg_name (i := 5) scLaw.nd rfl (Or.inl rfl)) (pgs_cons (pg_name (i := 6) scLaw.nd rfl (Or.inl rfl)) pgs_nil))))) (pss_cons (ps_conv (t' := TBD K (lawT Pt) C) (ps_for PassesOwn.never rfl (pi_list (pe_k cSb hr (pa_cons (pv 3) pa_nil))) (pg_name (i := 7) scLaw.nd rfl (Or.inl rfl)) (pss_cons (ps_asg (pe_ifExp (pt_cmpR (op_neD hu) (pv 7) (pe_tup pa_nil) (nomark _)) (pe_join pe_str (pv 7)) pe_str) (pg_name (i := 8) scLaw.nd rfl (Or.inl rfl))) (pss_cons (ps_asg (pv 7) (pg_sub (pv 6) (pv 8) (set_dict hu1))) (pss_one (ps_if (PW.pt (pw_or (pt_cmpR op_ne (pe_kX cW hr passL (pa_cons (pv 7) pa_nil)) (pv 8) (nomark _)) (pw_or1 (pt_cmpR (op_neD hu) (pe_kX cR hr passL (pa_cons (pv 4) (pa_cons (pv 8) pa_nil))) (pv 7) (nomark _))))) pss_nev pss_nil))))) ?cD) (pss_cons (ps_conv (t' := TBE (lawT Pt) C) (ps_for PassesOwn.never rfl (pi_range1 (by rfl) Tt.range (pa_cons pe_int pa_nil)) (pg_name (i := 9) scLaw.nd rfl (Or.inl rfl)) (pss_cons (ps_asg (pe_k cO hr (pa_cons (pv 2) (pa_cons (pe_callTy (call_list_dK rfl) (by rfl) Tt.list b_list (pa_cons (pv 6) pa_nil)) pa_nil))) (pg_name (i := 8) scLaw.nd rfl (Or.inl rfl))) (pss_cons (ps_par (i := 10) (j := 11) rfl scLaw.nd rfl rfl (by decide) rfl rfl (pa_cons (pe_k cT hr (pa_cons (pv 2) (pa_cons (pe_op op_add (pe_callB call_len_str (by rfl) Tt.len b_len (pa_cons (pv 8) pa_nil)) pe_int) pa_nil))) (pa_cons (pe_k cO hr (pa_cons (pv 2) (pa_cons (pe_lst (pa_cons pe_str (pa_cons pe_str (pa_cons pe_str (pa_cons pe_str (pa_cons pe_str (pa_cons pe_str pa_nil))))))) pa_nil))) pa_nil)) rfl) (pss_one (ps_conv (t' := TB3 (lawT Pt) C) (ps_for PassesOwn.never rfl (pi_list (pe_lst (pa_cons (pe_op op_add_str (pe_op op_add_str (pe_slice sl_str (pv 8) po_none (po_some (pv 10))) (pv 11)) (pe_slice sl_str (pv 8) (po_some (pv 10)) po_none)) (pa_cons (pe_op op_add_str (pe_slice sl_str (pv 8) po_none (po_some (pv 10))) (pe_slice sl_str (pv 8) (po_some (pe_op op_add (pv 10) pe_int)) po_none)) (pa_cons (pe_join pe_str (pe_k cU hr (pa_cons (pv 2) (pa_cons (pv 5) pa_nil)))) pa_nil))))) (pg_name (i := 12) scLaw.nd rfl (Or.inr rfl)) (pss_one (ps_if (pt_cmp (pc_din hu1 (pv 12) (pv 6))) (pss_one (ps_if (pt_cmpR (op_neD hu) (pe_kX cR hr passL (pa_cons (pv 4) (pa_cons (pv 12) pa_nil))) (pe_dget hu1 (pv 6) (pv 12) (fun _ _ => rfl)) (nomark _)) pss_nev pss_nil)) (pss_one (ps_if (pt_cmpR (k_neLs K hu1) (pe_caught (T := lawT Pt) (k := 4) Tt G Dc gd hr6 TB rfl hTq (LamX.lamS_by (sc := defScope sLaw) (by decide +kernel)) (fun A outer s H E f c' hr => by exact (pe_kL cR hr (pa_cons (pv 4) (pa_cons (pv 12) pa_nil))))) (pe_lst (pa_cons pe_str (pa_cons (pe_callB (k_repr K gd hu) (by rfl) Tt.repr b_repr (pa_cons (pv 12) pa_nil)) pa_nil))) (nomark _)) pss_nev pss_nil))))) ?cB))))) ?cE) (pss_cons (ps_conv (t' := TBF (lawT Pt) C) (ps_for PassesOwn.never rfl (pi_list (pe_lst (pa_cons pe_non (pa_cons pe_int (pa_cons pe_str (pa_cons pe_str (pa_cons pe_str (pa_cons pe_str (pa_cons (pe_op op_add_str (pe_op op_add_str (pe_ix (k_ixL K) (pv 5) pe_int (fun _ _ => rfl)) pe_str) (pe_ix (k_ixL K) (pv 5) pe_int (fun _ _ => rfl))) (pa_cons (pe_tup (pa_cons (pe_ix (k_ixL K) (pv 5) pe_int (fun _ _ => rfl)) pa_nil)) (pa_cons (pe_lst (pa_cons (pe_ix (k_ixL K) (pv 5) pe_int (fun _ _ => rfl)) pa_nil)) pa_nil))))))))))) (pg_name (i := 13) scLaw.nd rfl (Or.inr rfl)) (pss_one (ps_if (pt_cmpR (k_neLs K hu1) (pe_caught (T := lawT Pt) (k := 4) Tt G Dc gd hr6 TB rfl hTq (LamX.lamS_by (sc := defScope sLaw) (by decide +kernel)) (fun A outer s H E f c' hr => by exact (pe_kL cR hr (pa_cons (pv 4) (pa_cons (pv 13) pa_nil))))) (pe_lst (pa_cons pe_str (pa_cons (pe_callB (k_repr K gd hu) (by rfl) Tt.repr b_repr (pa_cons (pv 13) pa_nil)) pa_nil))) (nomark _)) pss_nev pss_nil))) ?cF) (pss_cons (ps_conv (t' := TBF (lawT Pt) C) (ps_for PassesOwn.never rfl (pi_list (pe_lst (pa_cons pe_non (pa_cons pe_int (pa_cons pe_str (pa_cons (pe_lst (pa_cons (pe_ix (k_ixL K) (pv 5) pe_int (fun _ _ => rfl)) pa_nil)) (pa_cons (pe_tup (pa_cons pe_non pa_nil)) (pa_cons (pe_tup (pa_cons pe_str pa_nil)) (pa_cons (pe_tup (pa_cons (pe_ix (k_ixL K) (pv 5) pe_int (fun _ _ => rfl)) (pa_cons pe_int pa_nil))) (pa_cons (pe_disp (pps_cons (pe_ix (k_ixL K) (pv 5) pe_int (fun _ _ => rfl)) pe_int pps_nil) rfl rfl (by intro z; cases z) (by decide)) pa_nil)))))))))) (pg_name (i := 13) scLaw.nd rfl (Or.inr rfl)) (pss_one (ps_if (pt_cmpR (k_neLs K hu1) (pe_caught (T := lawT Pt) (k := 4) Tt G Dc gd hr6 TB rfl hTq (LamX.lamS_by (sc := defScope sLaw) (by decide +kernel)) (fun A outer s H E f c' hr => by exact (pe_kL cW hr (pa_cons (pv 13) pa_nil)))) (pe_lst (pa_cons pe_str (pa_cons (pe_callB (k_repr K gd hu) (by rfl) Tt.repr b_repr (pa_cons (pv 13) pa_nil)) pa_nil))) (nomark _)) pss_nev pss_nil))) ?cG) (pss_one (ps_if (pt_cmpR op_ne (pe_kX cW hr passL (pa_cons (pe_tup (pa_cons pe_str (pa_cons (pe_ix (k_ixL K) (pv 5) pe_int (fun _ _ => rfl)) pa_nil))) pa_nil)) (pe_op op_add_str pe_str (pe_ix (k_ixL K) (pv 5) pe_int (fun _ _ => rfl))) (nomark _)) pss_nev pss_nil)))))))))) (pss_one (ps_ret pe_bl))), ?main⟩
  case cD =>
    intro DD σ H h
    obtain ⟨a, p, d, mk, nm, r, aS, k, v7, v8, v9, v10, v11, v12, v13, F, ss, kvs, rfl, L, zr, nr, hr, Lf, hd, hk, RS, fin⟩ := h
    refine ⟨_, rfl, d, aS, kvs, ss, rfl, hd, hk, RS, Lf.N, fun H1 bl s1 hb1 => ?_⟩
    generalize hns : (ss.map fun x : Str × Int => x.1) = ns at *
    have L1 := L.same s1
    have hr1 := s1 _ _ hr
    obtain ⟨ts, t1, t2, t3⟩ := bs_at hb1
    have blr : bl ≠ r := fun z => by
      rw [z, hr1] at t1
      cases t1
    have cap := subsL_len Lf.N.hi
    refine ⟨bl, rfl, ⟨_, .of t1⟩, for_list (K := K) (a := bl) (xs := ts.map V.ref) (fun j σ H' => ∃ v7 v8, σ = [some (.ref a), some (.int k), some (.ref p), some (.ref d), some (.ref mk), some (.ref nm), some (.ref r), v7, v8, v9, v10, v11, v12, v13] ∧ KB r H1 H' ∧ LS (lawT Pt) F p H' ∧ RAt H' r ((subsL ns).take j))
      ⟨_, _, rfl, KB.refl, L1, ⟨[], hr1, Nat.zero_le _, (fun kv hk => by cases hk), fun b hb => by simp at hb⟩⟩ (fun j σ H' _ ⟨_, _, _, kb, _⟩ => .of (kb _ _ blr t1)) ?_ ?_⟩
    · rintro j x σ H' hx ⟨v7, v8, rfl, kb, L2', R2⟩
      obtain ⟨t, ht, rfl⟩ := ref_at hx
      obtain ⟨b, hb⟩ := row_at t2 ht
      have htt1 := t3 j t b ht hb
      have ntr : t ≠ r := fun z => by
        rw [z, hr1] at htt1
        cases htt1
      have htt := kb _ _ ntr htt1
      have bm : b ∈ subsL ns := mem_at hb
      have bsub : b.Sublist ns := (subsL_mem Lf.N.nd b).mp bm
      have bw : ∀ x ∈ b, wordS x = true := fun x hx => (Lf.N.word (bsub.subset hx)).1
      have bok : ∀ x ∈ b, PyData.strOk x = true := fun x hx => word_ok (bw x hx)
      have b6 : b.length ≤ 6 := Nat.le_trans bsub.length_le Lf.N.hi
      have tok := text_ok bw b6
      -- the text
      refine ⟨_, rfl, by show 0 ≤ sizeLine; decide, fun e0 he0 => ?_⟩
      have sx := same_upd (o := .tup []) (Same.refl H') he0
      refine ⟨.tuple (b.map PyData.str), .tuple (([] : List Str).map PyData.str), .tup (.of (sx _ _ htt)) (dp_strs _), .tup (.of upd_same) .nil, shp_tstrs _ bok, shp_tstrs _ (fun x hx => by cases hx), _, rfl, ?_⟩
      rw [eqv_same]
      have L3 := L2'.same sx
      have R3 := R2.same sx
      have htt3 := sx _ _ htt
      have kb3 := kb.trans (KB.same (p := r) sx)
      generalize L2.upd H' e0 (.tup []) = H3 at L3 R3 htt3 kb3 ⊢
      refine text_read (K := K) rfl htt3 bw b6 ?_
      -- right[text] = build
      obtain ⟨kn, dp, R4⟩ := R3.put (b := b) (fun c hc x hx => (Lf.N.word (((subsL_mem Lf.N.nd c).mp (List.mem_of_mem_take hc)).subset hx)).1) bw htt3 (by rw [List.length_take]; omega)
      refine ⟨_, rfl, _, rfl, _, rfl, r, _, rfl, dp, ?_⟩
      obtain ⟨kr, hkr⟩ : ∃ kr, H3 r = some (.dK kr) := let ⟨kr, e, _⟩ := R3.ex; ⟨kr, e⟩
      have L4 := L3.put (o := .dK kn) zr nr hkr
      have kb4 : KB r H1 (L2.upd H3 r (.dK kn)) := fun c o n e => (upd_ne n).trans (kb3 c o n e)
      have htt4 := kb4 _ _ ntr htt1
      generalize L2.upd H3 r (.dK kn) = H4 at L4 kb4 htt4 R4 ⊢
      -- write_build, read_build
      have X : Txts b := ⟨by omega, fun x hx => Nat.le_trans (word_tx (bw x hx)).1 (by decide)⟩
      refine ⟨_, rfl, _, rfl, .inl ⟨t, b, rfl, htt4, X, bw, fun H5 s5 => ?_⟩⟩
      refine ⟨_, rfl, rfl, _, rfl, ?_⟩
      rw [show (!decide (V.str (textOf b) = V.str (textOf b))) = false by simp]
      have L5 := L4.same s5
      refine iteF ⟨_, rfl, _, rfl, mk, ns, _, rfl, Lf.B.same L5.s, Nat.le_trans Lf.N.hi (by decide), fun x hx => (Lf.N.word hx).1, .inl ⟨textOf b, rfl, Nat.le_trans tok.1 (by decide), fun _ H6 p6 s6 hp6 => ?_, fun z => ?_⟩⟩
      · rw [split_text bw] at hp6
        refine ⟨_, rfl, .tuple (b.map PyData.str), .tuple (b.map PyData.str), .tup (.of hp6) (dp_strs _), .tup (.of (s6 _ _ (s5 _ _ htt4))) (dp_strs _), shp_tstrs _ bok, shp_tstrs _ bok, _, rfl, ?_⟩
        rw [eqv_same, decide_eq_true rfl]
        refine iteF ⟨_, _, rfl, kb4.trans (KB.same (s5.trans s6)), L5.same s6, ?_⟩
        have e : (subsL ns).take (j + 1) = (subsL ns).take j ++ [b] := by
          rw [List.take_add_one, hb]
          rfl
        rw [e]
        exact R4.same (s5.trans s6)
      · rw [(right_iff Lf.N.nd (fun x hx => (Lf.N.word hx).1) _).mpr ⟨b, bm, rfl⟩] at z
        cases z
    · rintro σ H' ⟨v7, v8, rfl, kb, L2', R2⟩
      rw [List.length_map, t2, List.take_length] at R2
      exact fin _ _ _ L2' R2
  case cB =>
    intro DD σ H h
    obtain ⟨a, p, d, mk, nm, r, k, m, x, g, v7, v9, v12, v13, F, ns, rfl, L, Lf, R, tx, tg, fin⟩ := h
    have np_of : ∀ {H' : Hp} {q : Addr}, LS (lawT Pt) F p H' → H' q = none → q ≠ p := fun {H' q} Lq hq z => by
      obtain ⟨_, _, e, _⟩ := Lq.pool
      rw [z, e] at hq
      cases hq
    have hx : x.length ≤ sizeLine := Nat.le_trans tx.1 (by decide)
    have c1 := tx.cut none (some (m : Int))
    have c2 := tx.cut (some (m : Int)) none
    have c3 := tx.cut (some ((m : Int) + 1)) none
    have a1 := c1.app tg
    have a2 := a1.app c2
    have a3 := c1.app c3
    refine ⟨_, rfl, _, rfl, _, rfl, x, rfl, hx, _, rfl, _, _, rfl, rfl, Nat.le_trans (Nat.add_le_add c1.1 tg.1) (by decide), ?_⟩
    refine ⟨_, rfl, _, rfl, _, rfl, x, rfl, hx, _, _, rfl, rfl, Nat.le_trans (Nat.add_le_add a1.1 c2.1) (by decide), ?_⟩
    refine ⟨_, rfl, _, rfl, _, rfl, x, rfl, hx, ?_⟩
    refine ⟨_, rfl, _, rfl, _, _, rfl, rfl, _, rfl, x, rfl, hx, _, _, rfl, rfl, Nat.le_trans (Nat.add_le_add c1.1 c3.1) (by decide), ?_⟩
    have hm := L.s _ _ Lf.nm
    have nmp : nm ≠ p := ne_of_none Lf.nm L.z
    refine ⟨⟨_, rfl⟩, _, rfl, _, rfl, p, nm, ns, rfl, L.pool, hm, nmp, Nat.le_trans Lf.N.hi (by decide), fun x hx => word_ok (Lf.N.word hx).1, fun H1 rr ys kb hp _ _ hrr perm => ?_⟩
    have L1 := L.kb kb hp
    have yw : ∀ y ∈ ys, TxOk 8 y := fun y hy => word_tx (Lf.N.word (perm.mem_iff.mp hy)).1
    have y6 : ys.length ≤ 6 := by
      rw [perm.length_eq]
      exact Lf.N.hi
    refine ⟨" ", rr, ys, rfl, rfl, .inl (.of hrr), ?_, ?_⟩
    · have := sum_le (ts := ys) fun x hx => Nat.le_trans (yw x hx).1 (by decide)
      show _ + ys.length * 1 ≤ _
      omega
    refine ⟨by show 3 ≤ sizeLine; decide, fun o ho => ?_⟩
    have j1 := join_ok yw y6
    generalize cutS x none (some (m : Int)) ++ g ++ cutS x (some (m : Int)) none = z1 at a2 ⊢
    generalize cutS x none (some (m : Int)) ++ cutS x (some ((m : Int) + 1)) none = z2 at a3 ⊢
    generalize Txt.join " " ys = z3 at j1 ⊢
    have all : ∀ y ∈ [V.str z1, .str z2, .str z3], ∃ z, y = .str z ∧ TxOk 500 z := fun y hy => by
      simp only [List.mem_cons, List.not_mem_nil, or_false] at hy
      rcases hy with rfl | rfl | rfl
      · exact ⟨_, rfl, a2.mono (by decide)⟩
      · exact ⟨_, rfl, a3.mono (by decide)⟩
      · exact ⟨_, rfl, j1.mono (by decide)⟩
    have op := np_of L1 ho
    have L2' := L1.same (same_upd (o := .lst [.str z1, .str z2, .str z3]) (Same.refl H1) ho)
    obtain ⟨F', LF', sF, ex⟩ := L2'.ext
    have fo : F' o = some (.lst [.str z1, .str z2, .str z3]) := ex _ _ op (fun ps z => by cases z) upd_same
    have back : ∀ {H'}, LS (lawT Pt) F' p H' → LS (lawT Pt) F p H' := fun q => ⟨sF.trans q.s, L.nt, L.z, q.pool, q.tabs⟩
    have Lg := Lf.same sF
    have Rg := R.same sF
    refine ⟨o, rfl, ⟨_, .of upd_same⟩, for_list (K := K) (a := o) (xs := [.str z1, .str z2, .str z3]) (fun j σ H' => ∃ v12, σ = [some (.ref a), some (.int k), some (.ref p), some (.ref d), some (.ref mk), some (.ref nm), some (.ref r), v7, some (.str x), v9, some (.int m), some (.str g), v12, v13] ∧ LS (lawT Pt) F' p H')
      ⟨_, rfl, LF'⟩ (fun j σ H' _ ⟨_, _, q⟩ => .of (q.s _ _ fo)) ?_ ?_⟩
    · rintro j y σ H' hy ⟨v12, rfl, Lj⟩
      obtain ⟨z, rfl, tz⟩ := all y (mem_at hy)
      have Rj := Rg.same Lj.s
      by_cases hb : isB ns (splitB z) = true
      · obtain ⟨b, bm, rfl⟩ := (right_iff Lf.N.nd (fun x hx => (Lf.N.word hx).1) z).mp hb
        have bsub : b.Sublist ns := (subsL_mem Lf.N.nd b).mp bm
        have bw : ∀ x ∈ b, wordS x = true := fun x hx => (Lf.N.word (bsub.subset hx)).1
        have bok : ∀ x ∈ b, PyData.strOk x = true := fun x hx => word_ok (bw x hx)
        obtain ⟨t, dg, htt⟩ := Rj.yes bm
        refine ⟨_, rfl, _, rfl, r, _, rfl, dg, _, rfl, iteT ?_⟩
        refine ⟨_, rfl, _, rfl, mk, ns, _, rfl, Lg.B.same Lj.s, Nat.le_trans Lf.N.hi (by decide), fun x hx => (Lf.N.word hx).1, .inl ⟨textOf b, rfl, tz.1, fun _ H6 p6 s6 hp6 => ?_, fun e => ?_⟩⟩
        · rw [split_text bw] at hp6
          obtain ⟨t2, dg2, htt2⟩ := (Rj.same s6).yes bm
          refine ⟨_, rfl, _, rfl, r, _, rfl, dg2, .tuple (b.map PyData.str), .tuple (b.map PyData.str), .tup (.of hp6) (dp_strs _), .tup (.of htt2) (dp_strs _), shp_tstrs _ bok, shp_tstrs _ bok, _, rfl, ?_⟩
          rw [eqv_same, decide_eq_true rfl]
          exact iteF ⟨_, rfl, Lj.same s6⟩
        · rw [hb] at e
          cases e
      · have hb' : isB ns (splitB z) = false := by
          cases e : isB ns (splitB z) with
          | false => rfl
          | true => exact absurd e hb
        refine ⟨_, rfl, _, rfl, r, _, rfl, Rj.no (fun b bm e => hb ((right_iff Lf.N.nd (fun x hx => (Lf.N.word hx).1) z).mpr ⟨b, bm, e⟩)), _, rfl, iteF ?_⟩
        obtain ⟨⟨dt, q1, q2, q3, q4⟩, q5⟩ := odR_str (K := K) (F := F') tz hb'
        exact rd_caught Lj Lg.B Lf.N rfl rfl q5 q1 q2 q3 q4 fun H4 L4 => ⟨_, rfl, iteF ⟨_, rfl, L4⟩⟩
    · rintro σ H' ⟨v12, rfl, Lj⟩
      exact fin _ _ (back Lj)
  case cE =>
    intro DD σ H h
    obtain ⟨a, p, d, mk, nm, r, k, v7, v8, v9, v10, v11, v12, v13, F, ns, rfl, L, Lf, R, fin⟩ := h
    refine ⟨_, rfl, by decide, by decide, ?_⟩
    refine for_it (walk_range (lo := 0) (n := 6)) (fun i σ H' => ∃ v8 v9 v10 v11 v12, σ = [some (.ref a), some (.int k), some (.ref p), some (.ref d), some (.ref mk), some (.ref nm), some (.ref r), v7, v8, v9, v10, v11, v12, v13] ∧ LS (lawT Pt) F p H')
      ⟨_, _, _, _, _, rfl, L⟩ (fun _ _ _ _ _ => trivial) ?_ ?_
    · rintro i y σ _ H' hi ⟨v8, v9, v10, v11, v12, rfl, L1⟩ ⟨rfl, rfl⟩
      have np_of : ∀ {H' : Hp} {q : Addr}, LS (lawT Pt) F p H' → H' q = none → q ≠ p := fun {H' q} Lq hq z => by
        obtain ⟨_, _, e, _⟩ := Lq.pool
        rw [z, e] at hq
        cases hq
      obtain ⟨kvs, hk, k1, k2, keys⟩ := (R.same L1.s).keys (b := []) ((subsL_mem Lf.N.nd []).mpr (List.nil_sublist _))
      refine ⟨_, rfl, _, rfl, r, kvs, rfl, hk, fun q hq => ?_⟩
      have L2' := L1.same (same_upd (o := .lst (kvs.map fun kv => kV kv.1)) (Same.refl H') hq)
      refine ⟨p, q, _, rfl, L2'.pool, upd_same, np_of L1 hq, by rw [List.length_map]; exact k1, by rw [List.length_map]; exact Nat.le_trans k2 (Nat.le_trans (subsL_len Lf.N.hi) (by decide)), fun H2 v kb2 hp2 hv => ?_⟩
      obtain ⟨b, bm, rfl⟩ := keys v hv
      have L3 := L2'.kb kb2 hp2
      have bsub : b.Sublist ns := (subsL_mem Lf.N.nd b).mp bm
      have tok := text_ok (b := b) (fun x hx => (Lf.N.word (bsub.subset hx)).1) (Nat.le_trans bsub.length_le Lf.N.hi)
      generalize textOf b = x at tok ⊢
      clear keys hv bm bsub
      have l60 := tok.1
      refine ⟨_, rfl, _, rfl, x, rfl, Nat.le_trans l60 (by decide), _, _, rfl, rfl, p, _, rfl, L3.pool, by omega, by omega, fun H3 m kb3 hp3 m0 _ => ?_⟩
      obtain ⟨m, rfl⟩ : ∃ n : Nat, m = n := ⟨m.toNat, by omega⟩
      have L4 := L3.kb kb3 hp3
      refine ⟨_, rfl, by show 6 ≤ sizeLine; decide, fun ol hol => ?_⟩
      have L5 := L4.same (same_upd (o := .lst [.str " ", .str "a", .str "-", .str "A", .str "z", .str "\n"]) (Same.refl H3) hol)
      refine ⟨p, ol, _, rfl, L5.pool, upd_same, np_of L4 hol, by decide, by decide, fun H4 g kb4 hp4 hg => ?_⟩
      have L6 := L5.kb kb4 hp4
      obtain ⟨gg, rfl, tg⟩ : ∃ gg, g = V.str gg ∧ TxOk 1 gg := by
        simp only [List.mem_cons, List.not_mem_nil, or_false] at hg
        rcases hg with rfl | rfl | rfl | rfl | rfl | rfl <;> exact ⟨_, rfl, by decide, by decide⟩
      refine ⟨_, _, rfl, ?_⟩
      exact ⟨a, p, d, mk, nm, r, k, m, x, gg, v7, _, v12, v13, F, ns, rfl, L6, Lf, R, tok, tg, fun v12 H' L7 => ⟨_, _, _, _, _, rfl, L7⟩⟩
    · rintro σ H' ⟨v8, v9, v10, v11, v12, rfl, L1⟩
      exact fin _ _ _ _ _ _ L1
  case cF =>
    intro DD σ H h
    obtain ⟨a, p, d, mk, nm, r, k, v7, v8, v9, v10, v11, v12, v13, F, ns, rfl, L, Lf, fin⟩ := h
    obtain ⟨n0, rest, ens⟩ : ∃ n0 rest, ns = n0 :: rest := by
      cases ns with
      | nil => exact absurd Lf.N.lo (by decide)
      | cons n0 rest => exact ⟨n0, rest, rfl⟩
    have h0 : n0 ∈ ns := by rw [ens]; exact List.mem_cons_self
    have at0 : atI (ns.map V.str) 0 = some (.str n0) := by
      rw [ens]
      exact atI_nat (j := 0) rfl
    have hm := L.s _ _ Lf.nm
    have t0 := word_tx (Lf.N.word h0).1
    have l0 := t0.1
    refine ⟨_, rfl, nm, _, _, .str n0, rfl, rfl, .of hm, at0, n0, " ", rfl, rfl, ?_, ?_⟩
    · exact Nat.le_trans (Nat.add_le_add_right l0 _) (by decide)
    refine ⟨_, rfl, nm, _, _, .str n0, rfl, rfl, .of hm, at0, n0 ++ " ", n0, rfl, rfl, ?_, ?_⟩
    · exact Nat.le_trans (Nat.add_le_add (TxOk.app (m := 1) t0 (y := " ") ⟨by decide, by decide⟩).1 l0) (by decide)
    refine ⟨_, rfl, nm, _, _, .str n0, rfl, rfl, .of hm, at0, by show 1 ≤ sizeLine; decide, fun t ht => ?_⟩
    have s1 := same_upd (o := .tup [.str n0]) (Same.refl H) ht
    have ht1 : (L2.upd H t (.tup [.str n0])) t = some (.tup [.str n0]) := upd_same
    have L1 := L.same s1
    have hm1 := s1 _ _ hm
    have tp : t ≠ p := fun z => by
      obtain ⟨_, _, e, _⟩ := L.pool
      rw [z, e] at ht
      cases ht
    generalize L2.upd H t (.tup [.str n0]) = H1 at s1 ht1 L1 hm1 ⊢
    refine ⟨_, rfl, nm, _, _, .str n0, rfl, rfl, .of hm1, at0, by show 1 ≤ sizeLine; decide, fun l hl => ?_⟩
    have s2 := same_upd (o := .lst [.str n0]) (Same.refl H1) hl
    have hl2 : (L2.upd H1 l (.lst [.str n0])) l = some (.lst [.str n0]) := upd_same
    have L2' := L1.same s2
    have lp : l ≠ p := fun z => by
      obtain ⟨_, _, e, _⟩ := L1.pool
      rw [z, e] at hl
      cases hl
    have ht2 := s2 _ _ ht1
    generalize L2.upd H1 l (.lst [.str n0]) = H2 at s2 hl2 L2' ht2 ⊢
    refine ⟨by show 9 ≤ sizeLine; decide, fun o ho => ?_⟩
    have s3 := same_upd (o := .lst [.non, .int 5, .str "", .str " ", .str "nobody", .str "- -", .str (n0 ++ " " ++ n0), .ref t, .ref l]) (Same.refl H2) ho
    have L3 := L2'.same s3
    have op : o ≠ p := fun z => by
      obtain ⟨_, _, e, _⟩ := L2'.pool
      rw [z, e] at ho
      cases ho
    obtain ⟨F', LF', sF, ex⟩ := L3.ext
    have fo : F' o = some (.lst [.non, .int 5, .str "", .str " ", .str "nobody", .str "- -", .str (n0 ++ " " ++ n0), .ref t, .ref l]) := ex _ _ op (fun ps z => by cases z) upd_same
    have ft := ex _ _ tp (fun ps z => by cases z) (s3 _ _ ht2)
    have fl := ex _ _ lp (fun ps z => by cases z) (s3 _ _ hl2)
    have B' := Lf.B.same sF
    have back : ∀ {H'}, LS (lawT Pt) F' p H' → LS (lawT Pt) F p H' := fun q => ⟨sF.trans q.s, L.nt, L.z, q.pool, q.tabs⟩
    have odd := odd_texts Lf.N h0
    have small : ∀ (x : Str), x.length ≤ 500 → (∀ c ∈ TL.tl x, c < 0x110000) → TxOk 500 x := fun _ a b => ⟨a, b⟩
    have all : ∀ x ∈ [V.non, .int 5, .str "", .str " ", .str "nobody", .str "- -", .str (n0 ++ " " ++ n0), .ref t, .ref l], OdR K F' ns x := fun x hx => by
      simp only [List.mem_cons, List.not_mem_nil, or_false] at hx
      rcases hx with rfl | rfl | rfl | rfl | rfl | rfl | rfl | rfl | rfl
      · exact odR_non
      · exact odR_five
      · exact odR_str (small _ (by decide) (by decide)) odd.1
      · exact odR_str (small _ (by decide) (by decide)) odd.2.1
      · exact odR_str (small _ (by decide) (by decide)) odd.2.2.1
      · exact odR_str (small _ (by decide) (by decide)) odd.2.2.2.1
      · exact odR_str (((t0.app (m := 1) (y := " ") ⟨by decide, by decide⟩).app t0).mono (by decide)) odd.2.2.2.2
      · exact odR_tup1 ft (t0.mono (by decide))
      · exact odR_lst1 fl (t0.mono (by decide))
    refine ⟨o, rfl, ⟨_, .of upd_same⟩, for_list (K := K) (a := o) (xs := [.non, .int 5, .str "", .str " ", .str "nobody", .str "- -", .str (n0 ++ " " ++ n0), .ref t, .ref l]) (fun j σ H' => ∃ v13, σ = [some (.ref a), some (.int k), some (.ref p), some (.ref d), some (.ref mk), some (.ref nm), some (.ref r), v7, v8, v9, v10, v11, v12, v13] ∧ LS (lawT Pt) F' p H')
      ⟨_, rfl, LF'⟩ (fun j σ H' _ ⟨_, _, q⟩ => .of (q.s _ _ fo)) ?_ ?_⟩
    · rintro j x σ H' hx ⟨v13, rfl, Lj⟩
      obtain ⟨⟨dt, q1, q2, q3, q4⟩, q5⟩ := all x (mem_at hx)
      exact rd_caught Lj B' Lf.N rfl rfl q5 q1 q2 q3 q4 fun H4 L4 => ⟨_, rfl, iteF ⟨_, rfl, L4⟩⟩
    · rintro σ H' ⟨v13, rfl, Lj⟩
      exact fin _ _ (back Lj)
  case cG =>
    intro DD σ H h
    obtain ⟨a, p, d, mk, nm, r, k, v7, v8, v9, v10, v11, v12, v13, F, ns, rfl, L, Lf, fin⟩ := h
    obtain ⟨n0, rest, ens⟩ : ∃ n0 rest, ns = n0 :: rest := by
      cases ns with
      | nil => exact absurd Lf.N.lo (by decide)
      | cons n0 rest => exact ⟨n0, rest, rfl⟩
    have h0 : n0 ∈ ns := by rw [ens]; exact List.mem_cons_self
    have at0 : atI (ns.map V.str) 0 = some (.str n0) := by
      rw [ens]
      exact atI_nat (j := 0) rfl
    have hm := L.s _ _ Lf.nm
    have t0 := word_tx (Lf.N.word h0).1
    have t5 : TxOk 500 n0 := t0.mono (by decide)
    have step : ∀ {H' : Hp} {q : Addr}, LS (lawT Pt) F p H' → H' q = none → ∀ o : HO, ∃ Hn, L2.upd H' q o = Hn ∧ LS (lawT Pt) F p Hn ∧ Hn q = some o ∧ Same H' Hn ∧ q ≠ p := fun {H' q} Lq hq o => ⟨_, rfl, Lq.same (same_upd (Same.refl _) hq), upd_same, same_upd (Same.refl _) hq, fun z => by
      obtain ⟨_, _, e, _⟩ := Lq.pool
      rw [z, e] at hq
      cases hq⟩
    refine ⟨_, rfl, nm, _, _, .str n0, rfl, rfl, .of hm, at0, by show 1 ≤ sizeLine; decide, fun l hl => ?_⟩
    obtain ⟨H1, e1, L1, hl1, s1, lp⟩ := step L hl (.lst [.str n0])
    rw [e1]
    refine ⟨by show 1 ≤ sizeLine; decide, fun t ht => ?_⟩
    obtain ⟨H2, e2, L2', ht2, s2, tp⟩ := step L1 ht (.tup [.non])
    rw [e2]
    refine ⟨by show 1 ≤ sizeLine; decide, fun t2 hu2 => ?_⟩
    obtain ⟨H3, e3, L3, ht3, s3, tp2⟩ := step L2' hu2 (.tup [.str "A"])
    rw [e3]
    refine ⟨_, rfl, nm, _, _, .str n0, rfl, rfl, .of (s3 _ _ (s2 _ _ (s1 _ _ hm))), at0, by show 2 ≤ sizeLine; decide, fun t3 hu3 => ?_⟩
    obtain ⟨H4, e4, L4, ht4, s4, tp3⟩ := step L3 hu3 (.tup [.str n0, .int 1])
    rw [e4]
    refine fun q hq => ⟨_, rfl, nm, _, _, .str n0, rfl, rfl, .of ((same_upd (o := .dK []) (Same.refl H4) hq) _ _ (s4 _ _ (s3 _ _ (s2 _ _ (s1 _ _ hm))))), at0, upd_same, [(.inr n0, .int 1)], rfl, by show 1 ≤ 15; decide, ?_⟩
    have s5 := same_upd (o := .dK (mergeK [] [(.inr n0, .int 1)])) (same_upd (o := .dK []) (Same.refl H4) hq) hq
    have L5 := L4.same s5
    have hq5 : (L2.upd (L2.upd H4 q (.dK [])) q (.dK (mergeK [] [(.inr n0, .int 1)]))) q = some (.dK [(.inr n0, .int 1)]) := upd_same
    have qp : q ≠ p := fun z => by
      obtain ⟨_, _, e, _⟩ := L4.pool
      rw [z, e] at hq
      cases hq
    generalize L2.upd (L2.upd H4 q (.dK [])) q (.dK (mergeK [] [(.inr n0, .int 1)])) = H5 at s5 L5 hq5 ⊢
    refine ⟨by show 8 ≤ sizeLine; decide, fun o ho => ?_⟩
    have s6 := same_upd (o := .lst [.non, .int 5, .str "a", .ref l, .ref t, .ref t2, .ref t3, .ref q]) (Same.refl H5) ho
    have L6 := L5.same s6
    have op : o ≠ p := fun z => by
      obtain ⟨_, _, e, _⟩ := L5.pool
      rw [z, e] at ho
      cases ho
    obtain ⟨F', LF', sF, ex⟩ := L6.ext
    have fo : F' o = some (.lst [.non, .int 5, .str "a", .ref l, .ref t, .ref t2, .ref t3, .ref q]) := ex _ _ op (fun ps z => by cases z) upd_same
    have fl := ex _ _ lp (fun ps z => by cases z) (s6 _ _ (s5 _ _ (s4 _ _ (s3 _ _ (s2 _ _ hl1)))))
    have ft := ex _ _ tp (fun ps z => by cases z) (s6 _ _ (s5 _ _ (s4 _ _ (s3 _ _ ht2))))
    have ft2 := ex _ _ tp2 (fun ps z => by cases z) (s6 _ _ (s5 _ _ (s4 _ _ ht3)))
    have ft3 := ex _ _ tp3 (fun ps z => by cases z) (s6 _ _ (s5 _ _ ht4))
    have fq := ex _ _ qp (fun ps z => by cases z) (s6 _ _ hq5)
    have back : ∀ {H'}, LS (lawT Pt) F' p H' → LS (lawT Pt) F p H' := fun q => ⟨sF.trans q.s, L.nt, L.z, q.pool, q.tabs⟩
    have all : ∀ x ∈ ([.non, .int 5, .str "a", .ref l, .ref t, .ref t2, .ref t3, .ref q] : List V), OdW K F' x := fun x hx => by
      simp only [List.mem_cons, List.not_mem_nil, or_false] at hx
      rcases hx with rfl | rfl | rfl | rfl | rfl | rfl | rfl | rfl
      · exact odW_non
      · exact odW_five
      · exact odW_str ⟨by decide, by decide⟩
      · exact odW_lst1 fl t5
      · exact odW_tupN ft
      · exact odW_tup1 ft2 ⟨by decide, by decide⟩ (by decide)
      · exact odW_tup2 ft3 t5
      · exact odW_dct fq t5
    refine ⟨o, rfl, ⟨_, .of upd_same⟩, for_list (K := K) (a := o) (xs := [.non, .int 5, .str "a", .ref l, .ref t, .ref t2, .ref t3, .ref q]) (fun j σ H' => ∃ v13, σ = [some (.ref a), some (.int k), some (.ref p), some (.ref d), some (.ref mk), some (.ref nm), some (.ref r), v7, v8, v9, v10, v11, v12, v13] ∧ LS (lawT Pt) F' p H')
      ⟨_, rfl, LF'⟩ (fun j σ H' _ ⟨_, _, q⟩ => .of (q.s _ _ fo)) ?_ ?_⟩
    · rintro j x σ H' hx ⟨v13, rfl, Lj⟩
      obtain ⟨⟨dt, q1, q2, q3, q4⟩, q5⟩ := all x (mem_at hx)
      exact wr_caught Lj rfl q5 q1 q2 q3 q4 fun H4 L4 => ⟨_, rfl, iteF ⟨_, rfl, L4⟩⟩
    · rintro σ H' ⟨v13, rfl, Lj⟩
      exact fin _ _ (back Lj)
  case main =>
    refine ⟨_, rfl, a, _, rfl, .inl ha, _, _, rfl, _, _, rfl, ?_⟩
    have cap : ∀ L : Int, 1 ≤ (if (if L < 8 then L else 8) > 1 then (if L < 8 then L else 8) else 1) ∧ (if (if L < 8 then L else 8) > 1 then (if L < 8 then L else 8) else 1) ≤ 8 := fun L => by
      by_cases h1 : L < 8
      · rw [if_pos h1]
        by_cases h2 : L > 1
        · rw [if_pos h2]
          omega
        · rw [if_neg h2]
          omega
      · rw [if_neg h1]
        decide
    have cap2 := cap (((is.map V.int).length : Nat) : Int)
    refine ⟨_, rfl, ?_⟩
    generalize (if (if (((is.map V.int).length : Nat) : Int) < 8 then (((is.map V.int).length : Nat) : Int) else 8) > 1 then (if (((is.map V.int).length : Nat) : Int) < 8 then (((is.map V.int).length : Nat) : Int) else 8) else 1) = J at cap2 ⊢
    obtain ⟨n, rfl⟩ : ∃ n : Nat, J = n := ⟨J.toNat, by omega⟩
    refine ⟨by omega, by omega, ?_⟩
    rw [show ((n : Nat) : Int).toNat = n from rfl]
    refine for_it (walk_range (lo := 0) (n := n)) (fun i σ H' => ∃ v1 v2 v3 v4 v5 v6 v7 v8 v9 v10 v11 v12 v13 : Option V, σ = [some (.ref a), v1, v2, v3, v4, v5, v6, v7, v8, v9, v10, v11, v12, v13] ∧ SqL K H' a (is.map V.int) ∧ LamX.Tabs (lawT Pt) H')
      ⟨_, _, _, _, _, _, _, _, _, _, _, _, _, rfl, ha, fun q hq => by
        rw [List.mem_singleton.mp hq]
        exact LamX.TabS.nil hT⟩ (fun _ _ _ _ _ => trivial) ?_ ?_
    · rintro i y σ _ H' hi ⟨v1, v2, v3, v4, v5, v6, v7, v8, v9, v10, v11, v12, v13, rfl, ha', hT'⟩ ⟨rfl, rfl⟩
      have i8 : i ≤ 8 := by omega
      -- the pool
      refine ⟨_, rfl, _, rfl, a, is, i, (by
        show [V.ref a, V.int (0 + (i : Int))] = _
        rw [Int.zero_add]), ha', i8, fun H1 p s1 pl np => ?_⟩
      have L0 : LS (lawT Pt) (fun _ => none) p H1 := ⟨(fun c o e => nomatch e), (fun a ps e => nomatch e), rfl, pl, hT'.ext s1⟩
      obtain ⟨F1, L1, _, ex1⟩ := L0.ext
      have ha1 : SqL K F1 a (is.map V.int) := by
        rcases ha' with (h | ⟨o, h⟩) | h
        · exact .inl (.inl (ex1 _ _ (ne_of_none h np) (fun ps z => by cases z) (s1 _ _ h)))
        · exact .inl (.inr ⟨o, ex1 _ _ (ne_of_none h np) (fun ps z => by cases z) (s1 _ _ h)⟩)
        · exact .inr h
      clear ex1 L0 ha' hT' np s1 pl
      -- the book
      refine ⟨_, rfl, _, rfl, p, 5, rfl, L1.pool, by decide, by decide, fun H2 m kb2 hp2 m0 _ => ?_⟩
      have L2' := L1.kb kb2 hp2
      obtain ⟨G0, PG, TG, sFG⟩ := L2'.full
      refine ⟨p, m, G0, rfl, PG, fun G' H3 d kvs A' b sG S3 hd HP PA O NO => ?_⟩
      have L3 := L2'.back TG sFG sG S3
      have hd3 := S3.s _ _ hd
      have PA3 := PA.same S3.s
      have hk : valV kvs (.inr "skills") = some (.ref A'.s) := HP (.inr "skills", .ref A'.s) List.mem_cons_self
      clear PG TG sFG sG S3 hd PA L2' kb2 hp2 L1
      generalize hE : b.ns = ns at NO
      have hE : (b.ss.map fun x : Str × Int => x.1) = ns := hE
      -- made, names, the right ones
      refine ⟨_, rfl, d, kvs, A', b, rfl, hd3, HP, PA3, O, fun H4 mk s4 BA => ?_⟩
      have L4 := L3.same s4
      refine ⟨_, rfl, d, A'.s, kvs, b.ss, rfl, s4 _ _ hd3, hk, PA3.ss.same s4, O.ss.hi, fun H5 nm s5 _ hnm => ?_⟩
      have L5 := L4.same s5
      refine fun r hr0 => ⟨by show 3 ≤ sizeLine; decide, fun t ht => ?_⟩
      have s6 := (same_upd (o := .dK []) (Same.refl H5) hr0).trans (same_upd (o := .tup [.ref mk, .ref nm, .ref r]) (Same.refl _) ht)
      have L6 := L5.same s6
      have rp : r ≠ p := fun z => by
        obtain ⟨_, _, e, _⟩ := L5.pool
        rw [z, e] at hr0
        cases hr0
      have zr : F1 r = none := by
        cases e : F1 r with
        | none => rfl
        | some o =>
          have := L5.s _ _ e
          rw [hr0] at this
          cases this
      have hr6 := (same_upd (o := .tup [.ref mk, .ref nm, .ref r]) (Same.refl _) ht) r _ (upd_same (H := H5) (a := r) (o := .dK []))
      refine ⟨t, _, rfl, .of upd_same, rfl, _, _, rfl, _, _, rfl, _, _, rfl, rfl, ?_⟩
      generalize L2.upd (L2.upd H5 r (.dK [])) t (.tup [.ref mk, .ref nm, .ref r]) = H6 at s6 L6 hr6 ⊢
      obtain ⟨F, L7, sF, exF, zF⟩ := L6.ext2 r zr
      have exr : ∀ c o, c ≠ p → c ≠ r → (∀ ps, o ≠ .tbl ps) → H6 c = some o → F c = some o := exF
      have hnm : H5 nm = some (.lst ((b.ss.map fun x : Str × Int => x.1).map V.str)) := hnm
      rw [hE] at hnm
      have hE2 : b.ns = ns := hE
      rw [hE2] at BA
      have nmr : nm ≠ r := ne_of_none hnm hr0
      have nmF := exr nm _ (strs_np L5.pool hnm) nmr (fun ps z => by cases z) (s6 _ _ hnm)
      have BF : BookAt C F mk ns := by
        obtain ⟨dx, ol, fs, h1, h2, h3⟩ := BA.same s5
        refine ⟨dx, ol, fs, exr _ _ (fun z => ?_) (ne_of_none h1 hr0) (fun ps z => by cases z) (s6 _ _ h1), h2, exr _ _ (strs_np L5.pool h3) (ne_of_none h3 hr0) (fun ps z => by cases z) (s6 _ _ h3)⟩
        obtain ⟨_, _, e, _⟩ := L5.pool
        rw [z, e] at h1
        cases h1
      have Lf : LF C F mk nm ns := ⟨BF, NO, nmF⟩
      have haF := sql_same ha1 sF
      have s36 : Same H3 H6 := s4.trans (s5.trans s6)
      refine ⟨a, p, d, mk, nm, r, A'.s, _, v7, v8, v9, v10, v11, v12, v13, F, b.ss, kvs, rfl, L7, zF, rp, hr6, (by rw [hE]; exact Lf), s36 _ _ hd3, hk, PA3.ss.same s36, fun v7 v8 H7 L8 R8 => ?_⟩
      rw [hE] at R8
      clear exF exr hr6 zr hr0 ht s6 L6 L5 s5 hnm BA s4 L4 L3 hd3 HP PA3 s36
      obtain ⟨F2, L9, sF2, ex2⟩ := L8.ext
      have R2 := rat_ext R8 L8.pool rp ex2
      have Lf2 := Lf.same sF2
      have haF2 := sql_same haF sF2
      refine ⟨a, p, d, mk, nm, r, _, v7, v8, v9, v10, v11, v12, v13, F2, ns, rfl, L9, Lf2, R2, fun v8 v9 v10 v11 v12 H8 L10 => ?_⟩
      refine ⟨a, p, d, mk, nm, r, _, v7, v8, v9, v10, v11, v12, v13, F2, ns, rfl, L10, Lf2, fun v13 H9 L11 => ?_⟩
      refine ⟨a, p, d, mk, nm, r, _, v7, v8, v9, v10, v11, v12, v13, F2, ns, rfl, L11, Lf2, fun v13 H10 L12 => ?_⟩
      obtain ⟨n0, rest, ens⟩ : ∃ n0 rest, ns = n0 :: rest := by
        cases ns with
        | nil => exact absurd NO.lo (by decide)
        | cons n0 rest => exact ⟨n0, rest, rfl⟩
      have h0 : n0 ∈ ns := by rw [ens]; exact List.mem_cons_self
      have at0 : atI (ns.map V.str) 0 = some (.str n0) := by
        rw [ens]
        exact atI_nat (j := 0) rfl
      have hm := L12.s _ _ Lf2.nm
      have t0 := word_tx (NO.word h0).1
      have l0 := t0.1
      refine ⟨_, rfl, nm, _, _, .str n0, rfl, rfl, .of hm, at0, by show 2 ≤ sizeLine; decide, fun t ht => ?_⟩
      have s7 := same_upd (o := .tup [.str "nobody", .str n0]) (Same.refl H10) ht
      refine ⟨_, rfl, .inl ⟨t, ["nobody", n0], rfl, upd_same, ⟨by show 2 ≤ 1000; decide, fun x hx => ?_⟩, fun x hx => ?_, fun H11 s8 => ?_⟩⟩
      · rcases List.mem_cons.mp hx with z | z
        · rw [z]
          decide
        · rw [List.mem_singleton.mp z]
          exact Nat.le_trans l0 (by decide)
      · rcases List.mem_cons.mp hx with z | z
        · rw [z]
          decide +kernel
        · rw [List.mem_singleton.mp z]
          exact (NO.word h0).1
      have L13 := (L12.same s7).same s8
      refine ⟨_, rfl, nm, _, _, .str n0, rfl, rfl, .of (s8 _ _ (s7 _ _ hm)), at0, "nobody ", n0, rfl, rfl, Nat.le_trans (Nat.add_le_add_left l0 _) (by decide), rfl, _, rfl, ?_⟩
      rw [nobody_text, show (!decide (V.str ("nobody " ++ n0) = V.str ("nobody " ++ n0))) = false by simp]
      exact iteF ⟨_, _, _, _, _, _, _, _, _, _, _, _, _, rfl, sql_same haF2 L13.s, L13.tabs⟩
    · rintro σ H' ⟨v1, v2, v3, v4, v5, v6, v7, v8, v9, v10, v11, v12, v13, rfl, _, _⟩
      rfl
end
end K75
set_option Elab.async false
set_option linter.all false
set_option maxRecDepth 100000
set_option maxHeartbeats 4000000
namespace K75
open PySem PySem.Spec PyProof.Rows L2 LamX
/-! ### the end: the law's def is called with no repr under way, one table of code objects -/
theorem vals_of_ints : ∀ {vs : List Value} {ns : List Int}, IntsAre vs ns → Vals (ns.map V.int) vs
  | _, _, .nil => .nil
  | _, _, .cons n t r => .cons ⟨t, rfl⟩ (vals_of_ints r)
/-- what is told at the entry: the table is empty; the script, unless the fragment holds it -/
def H0 (K : PySem.W.Frag) (Pt a : Addr) (vs : List Value) (ns : List Int) : Hp := fun b => if b = Pt then some (.tbl #[]) else if b = a ∧ K.lookup a = none then some (.frz { cls := .type "list", data := .seq vs.toArray } (.lst (ns.map V.int))) else none
theorem law_callG {P : Program} {w : World} {K : PySem.W.Frag} {mg mb : Str → Option Value} {fa a c Pt : Addr} {s1 : Shared} {vs : List Value} {ns : List Int}
    (KX : K.In s1.heap) (hns : s1.heap.Ns mainGlobals mg) (hb : s1.heap.Ns builtinsNs mb) (hbb : ∀ x : Str, x ≠ "__name__" → mb x = bootBuiltins x) (hlim : s1.heap.NoLimit) (hg : s1.gens = #[])
    (hT : s1.heap.get? Pt = some { cls := .none, data := .fields #[] }) (nT : K.lookup Pt = none) (hC : PySem.W.CodeHd s1.heap c Pt)
    (hbm : ∃ (bm : Addr) (ob : Obj), mg "__builtins__" = some (.ref bm) ∧ bm ≠ builtinsNs ∧ s1.heap.get? bm = some ob ∧ ob.cls = .type "module" ∧ ob.dict = some builtinsNs ∧ ob.data = .plain)
    (ha : s1.heap.get? a = some { cls := .type "list", data := .seq vs.toArray }) (hi : IntsAre vs ns) (hl : ns.length ≤ sizeLine)
    (F : ∀ (base : Heap) (H : Hp), K.In base → base.Ns mainGlobals mg → TabB base mg c Pt → H Pt = some (.tbl #[]) → SqL K H a (ns.map V.int) → Env0 P w K mg base callerA [] s1 H →
      codeAny (model P w) callerA (.call (.ref fa) ⟨[.ref a], []⟩) (CR CX0 [] P w H s1 (fun v _ => v = .bl true) E0) s1) :
    codeAny (model P w) callerA (.call (.ref fa) ⟨[.ref a], []⟩) (fun r s' => r = .ok (.ret (.bool true)) ∧ OldK s1.heap s'.heap ∧ s'.os = s1.os ∧ AllBare s'.gens) s1 := by
  have rv := vals_of_ints hi
  have nPa : ¬ a = Pt := fun z => by
    rw [z, hT] at ha
    have d := congrArg Obj.data (Option.some.inj ha)
    cases d
  -- the told heap
  obtain ⟨H, eH⟩ : ∃ H, H = H0 K Pt a vs ns := ⟨_, rfl⟩
  have hP : H Pt = some (.tbl #[]) := by rw [eH]; exact if_pos rfl
  have hother : ∀ b, b ≠ Pt → b ≠ a → H b = none := fun b n1 n2 => by
    rw [eH]
    show (if b = Pt then _ else _) = none
    rw [if_neg n1, if_neg fun z => n2 z.1]
  have hgone : K.lookup a ≠ none → H a = none := fun q => by
    rw [eH]
    show (if a = Pt then _ else _) = none
    rw [if_neg nPa, if_neg fun z => q z.2]
  have hfrz : K.lookup a = none → H a = some (.frz { cls := .type "list", data := .seq vs.toArray } (.lst (ns.map V.int))) := fun q => by
    rw [eH]
    show (if a = Pt then _ else _) = _
    rw [if_neg nPa, if_pos ⟨rfl, q⟩]
  clear eH
  have kinds : ∀ {b : Addr} {u : HO}, H b = some u → (b = Pt ∧ u = .tbl #[]) ∨ (b = a ∧ u = .frz { cls := .type "list", data := .seq vs.toArray } (.lst (ns.map V.int)) ∧ K.lookup a = none) := fun {b u} e => by
    by_cases n1 : b = Pt
    · rw [n1, hP] at e
      exact .inl ⟨n1, (Option.some.inj e).symm⟩
    · by_cases n2 : b = a
      · rw [n2] at e
        cases q : K.lookup a with
        | none =>
          rw [hfrz q] at e
          exact .inr ⟨n2, (Option.some.inj e).symm, rfl⟩
        | some o =>
          rw [hgone (by rw [q]; simp)] at e
          cases e
      · rw [hother b n1 n2] at e
        cases e
  have hok : HOk P w H s1.heap := fun b u e => by
    rcases kinds e with ⟨rfl, rfl⟩ | ⟨rfl, rfl, _⟩
    · exact hT
    · exact ⟨ha, by rw [List.length_map]; exact hl, vs, _, rv, ha⟩
  have untold : ∀ {b : Addr} {o : Obj}, s1.heap.get? b = some o → (∀ xs n, o.data ≠ .seq xs n) → o.data ≠ .fields #[] → H b = none := fun {b o} e n1 n2 => by
    cases q : H b with
    | none => rfl
    | some u =>
      rcases kinds q with ⟨rfl, _⟩ | ⟨rfl, _, _⟩
      · rw [hT] at e
        cases e
        exact (n2 rfl).elim
      · rw [ha] at e
        cases e
        exact (n1 _ _ rfl).elim
  have stands : ∀ {b : Addr} {o : Obj}, s1.heap.get? b = some o → (∀ xs n, o.data ≠ .seq xs n) → o.data ≠ .fields #[] → (hidT s1.heap H).get? b = some o := fun e n1 n2 => hidT_get e (untold e n1 n2)
  have nsB : ∀ {b : Addr} {m : Str → Option Value}, s1.heap.Ns b m → (hidT s1.heap H).Ns b m := fun {b m} ⟨o, es, ep, e, d, r⟩ => ⟨o, es, ep, stands e (fun xs n z => by rw [d] at z; cases z) (fun z => by rw [d] at z; cases z), d, r⟩
  have kin : K.In (hidT s1.heap H) := fun b o e => hidT_get (KX b o e) (by
    cases q : H b with
    | none => rfl
    | some u =>
      rcases kinds q with ⟨rfl, _⟩ | ⟨rfl, _, z⟩
      · rw [nT] at e
        cases e
      · rw [z] at e
        cases e)
  obtain ⟨mc, lm1, lm2⟩ := id hlim
  have hM : L2.Mod K mg (hidT s1.heap H) := ⟨kin, nsB hns, ⟨mb, nsB hb, hbb⟩, ⟨mc, nsB lm1, lm2⟩⟩
  have TB : TabB (hidT s1.heap H) mg c Pt := by
    obtain ⟨bm, ob, b1, b2, b3, b4, b5, b6⟩ := hbm
    obtain ⟨o, us, file, tf, flags, tg, inF, text, tt, e1, r1, r2, r3, r4, r5, r6, r7, r8, hne⟩ := hC
    obtain ⟨og, es, ep, eg, hd, _⟩ := id hns
    refine ⟨⟨o, us, file, tf, flags, tg, inF, text, tt, stands e1 (fun xs n z => ?_) (fun z => ?_), r1, r2, r3, r4, r5, r6, r7, r8, hne⟩, ⟨bm, ob, b1, b2, fun z => ?_, fun z => ?_, stands b3 (fun xs n z => by rw [b6] at z; cases z) (fun z => by rw [b6] at z; cases z), b4, b5, b6⟩, fun z => ?_⟩
    · rw [r2] at z
      cases z
    · rw [r2] at z
      cases z
      simp at r3
    · rw [z, eg] at b3
      cases b3
      rw [hd] at b6
      cases b6
    · rw [z, hT] at b3
      cases b3
      cases b6
    · rw [z, hT] at eg
      cases eg
      cases hd
  have sq : SqL K H a (ns.map V.int) := by
    cases q : K.lookup a with
    | none => exact .inl (.inr ⟨_, hfrz q⟩)
    | some o =>
      have e := KX a o q
      rw [ha] at e
      cases e
      exact .inr ⟨_, vs.toArray, _, q, rfl, rfl, rfl, by rw [List.size_toArray, hi.length]; exact hl, by simpa using rv⟩
  have env : Env0 P w K mg (hidT s1.heap H) callerA [] s1 H := ⟨rfl, hM, fun b o e => of_hidT e, by rw [hidT_size]; exact Nat.le_refl _, trivial, (fun b hm => nomatch (show b ∈ ([] : List Addr) from hm)), hok, .of_eq hg⟩
  refine codeAny_mono (F _ H kin (nsB hns) TB hP sq env) fun r s' h => ?_
  match r, h with
  | .error e, h => exact (show False from h).elim
  | .ok .next, h => exact (show False from h).elim
  | .ok .brk, h => exact (show False from h).elim
  | .ok .cont, h => exact (show False from h).elim
  | .ok (.ret u), h =>
    obtain ⟨v, H', os, bare, un, hok', rel, q⟩ := h
    have q' : v = .bl true := q
    subst q'
    obtain rfl : u = Value.bool true := rel
    obtain ⟨more, hmore⟩ := un.tbls Pt #[] hP
    have hPt' : s'.heap.get? Pt = some { cls := .none, data := .fields (#[] ++ more) } := hok' Pt _ hmore
    have same : ∀ b o, b ≠ Pt → s1.heap.get? b = some o → s'.heap.get? b = some o := fun b o n e => by
      cases z : H b with
      | none => exact un.keep b o e z (fun m => nomatch (show b ∈ ([] : List Addr) from m)) (fun m => nomatch m)
      | some u =>
        rcases kinds z with ⟨z1, _⟩ | ⟨rfl, rfl, _⟩
        · exact absurd z1 n
        · have k1 := (hok' b _ (un.frzs b _ _ z)).1
          rw [ha] at e
          cases e
          exact k1
    refine ⟨rfl, ⟨fun b o e => ?_, fun b o e => ?_⟩, os, bare⟩
    · by_cases n : b = Pt
      · rw [n] at e ⊢
        rw [hT] at e
        cases e
        exact .inr (.inl ⟨(hC.tab hT).isCodeTable, rfl, #[], more, rfl, hPt'⟩)
      · exact .inl (same b o n e)
    · by_cases n : b = Pt
      · rw [n]
        exact ⟨_, hPt'⟩
      · exact ⟨o, same b o n e⟩
end K75
set_option Elab.async false
set_option linter.all false
set_option maxRecDepth 100000
set_option maxHeartbeats 0
namespace K75
open PySem PySem.Spec PyProof.Rows L2 He
def dIsWhole : He.DefD := ⟨("is_whole", none), "is_whole", "is_whole", defArgs sIsWhole, defBody sIsWhole, defScope sIsWhole, [], []⟩
def dIsNumber : He.DefD := ⟨("is_number", none), "is_number", "is_number", defArgs sIsNumber, defBody sIsNumber, defScope sIsNumber, [], []⟩
def dIsWord : He.DefD := ⟨("is_word", none), "is_word", "is_word", defArgs sIsWord, defBody sIsWord, defScope sIsWord, [], []⟩
def dIsRow : He.DefD := ⟨("is_row", none), "is_row", "is_row", defArgs sIsRow, defBody sIsRow, defScope sIsRow, [], []⟩
def dAreUnlike : He.DefD := ⟨("are_unlike", none), "are_unlike", "are_unlike", defArgs sAreUnlike, defBody sAreUnlike, defScope sAreUnlike, [], []⟩
def dAreTuples : He.DefD := ⟨("are_tuples", none), "are_tuples", "are_tuples", defArgs sAreTuples, defBody sAreTuples, defScope sAreTuples, [], []⟩
def dAreSkills : He.DefD := ⟨("are_skills", none), "are_skills", "are_skills", defArgs sAreSkills, defBody sAreSkills, defScope sAreSkills, [], []⟩
def dAreNeeds : He.DefD := ⟨("are_needs", none), "are_needs", "are_needs", defArgs sAreNeeds, defBody sAreNeeds, defScope sAreNeeds, [], []⟩
def dIsWant : He.DefD := ⟨("is_want", none), "is_want", "is_want", defArgs sIsWant, defBody sIsWant, defScope sIsWant, [], []⟩
def dAreBars : He.DefD := ⟨("are_bars", none), "are_bars", "are_bars", defArgs sAreBars, defBody sAreBars, defScope sAreBars, [], []⟩
def dAreNumbered : He.DefD := ⟨("are_numbered", none), "are_numbered", "are_numbered", defArgs sAreNumbered, defBody sAreNumbered, defScope sAreNumbered, [], []⟩
def dLookAtParts : He.DefD := ⟨("look_at_parts", none), "look_at_parts", "look_at_parts", defArgs sLookAtParts, defBody sLookAtParts, defScope sLookAtParts, [], []⟩
def dBookInit : He.DefD := ⟨("Book", some "__init__"), "__init__", "Book.__init__", defArgs sBookInit, defBody sBookInit, defScope sBookInit, [], []⟩
def dBookAsked : He.DefD := ⟨("Book", some "asked_by"), "asked_by", "Book.asked_by", defArgs sBookAsked, defBody sBookAsked, defScope sBookAsked, [], []⟩
def dAreSkillsOf : He.DefD := ⟨("are_skills_of", none), "are_skills_of", "are_skills_of", defArgs sAreSkillsOf, defBody sAreSkillsOf, defScope sAreSkillsOf, [], []⟩
def dInOrder : He.DefD := ⟨("in_order", none), "in_order", "in_order", defArgs sInOrder, defBody sInOrder, defScope sInOrder, [], []⟩
def dIsBuild : He.DefD := ⟨("is_build", none), "is_build", "is_build", defArgs sIsBuild, defBody sIsBuild, defScope sIsBuild, [], []⟩
def dWriteBuild : He.DefD := ⟨("write_build", none), "write_build", "write_build", defArgs sWriteBuild, defBody sWriteBuild, defScope sWriteBuild, [], []⟩
def dReadBuild : He.DefD := ⟨("read_build", none), "read_build", "read_build", defArgs sReadBuild, defBody sReadBuild, defScope sReadBuild, [], []⟩
def dLawPool : He.DefD := ⟨("_law_pool", none), "_law_pool", "_law_pool", defArgs sLawPool, defBody sLawPool, defScope sLawPool, [], []⟩
def dLawTake : He.DefD := ⟨("_law_take", none), "_law_take", "_law_take", defArgs sLawTake, defBody sLawTake, defScope sLawTake, [], []⟩
def dLawOne : He.DefD := ⟨("_law_one", none), "_law_one", "_law_one", defArgs sLawOne, defBody sLawOne, defScope sLawOne, [], []⟩
def dLawTurned : He.DefD := ⟨("_law_turned", none), "_law_turned", "_law_turned", defArgs sLawTurned, defBody sLawTurned, defScope sLawTurned, [], []⟩
def dLawTree : He.DefD := ⟨("_law_tree", none), "_law_tree", "_law_tree", defArgs sLawTree, defBody sLawTree, defScope sLawTree, [], []⟩
def dLawRows : He.DefD := ⟨("_law_rows", none), "_law_rows", "_law_rows", defArgs sLawRows, defBody sLawRows, defScope sLawRows, [], []⟩
def dLawBook : He.DefD := ⟨("_law_book", none), "_law_book", "_law_book", defArgs sLawBook, defBody sLawBook, defScope sLawBook, [], []⟩
def dLawMade : He.DefD := ⟨("_law_made", none), "_law_made", "_law_made", defArgs sLawMade, defBody sLawMade, defScope sLawMade, [], []⟩
def dLawNames : He.DefD := ⟨("_law_names", none), "_law_names", "_law_names", defArgs sLawNames, defBody sLawNames, defScope sLawNames, [], []⟩
def dLawSubsets : He.DefD := ⟨("_law_subsets", none), "_law_subsets", "_law_subsets", defArgs sLawSubsets, defBody sLawSubsets, defScope sLawSubsets, [], []⟩
def dLawCaught : He.DefD := ⟨("_law_caught", none), "_law_caught", "_law_caught", defArgs sLawCaught, defBody sLawCaught, defScope sLawCaught, [], []⟩
def dLaw : He.DefD := ⟨("law", none), "law", "law", defArgs sLaw, defBody sLaw, defScope sLaw, [], []⟩
def fnL : List He.DefD := [dIsWhole, dIsNumber, dIsWord, dIsRow, dAreUnlike, dAreTuples, dAreSkills, dAreNeeds, dIsWant, dAreBars, dAreNumbered, dLookAtParts, dBookInit, dBookAsked, dAreSkillsOf, dInOrder, dIsBuild, dWriteBuild, dReadBuild, dLawPool, dLawTake, dLawOne, dLawTurned, dLawTree, dLawRows, dLawBook, dLawMade, dLawNames, dLawSubsets, dLawCaught, dLaw]


def faA : List He.Fa := [.free "isinstance", .free "len", .free "all", .free "max", .free "min", .free "sum", .free "sorted", .free "repr", .free "str", .free "int", .free "bool", .free "list", .free "tuple", .free "dict", .free "zip", .free "range", .free "super", .str "LETTERS" "abcdefghijklmnopqrstuvwxyz", .int "MOST_LETTERS" 8, .int "MOST_SKILLS" 12, .int "MOST_TIERS" 4, .int "MOST_POINTS" 12, .int "MOST_WANTS" 12, .int "MOST_BARS" 6, .int "MOST_GIVEN" 3, .int "MOST_PRICE" 99]
def faB : List He.Fa := [.glo "is_whole", .glo "is_number", .glo "is_word", .glo "is_row", .glo "are_unlike", .glo "are_tuples", .glo "are_skills", .glo "are_needs", .glo "is_want", .glo "are_bars", .glo "are_numbered", .glo "look_at_parts", .glo "are_skills_of", .glo "in_order", .glo "is_build", .glo "write_build", .glo "read_build", .glo "_law_pool", .glo "_law_take", .glo "_law_one", .glo "_law_turned", .glo "_law_tree", .glo "_law_rows", .glo "_law_book", .glo "_law_made", .glo "_law_names", .glo "_law_subsets", .glo "_law_caught", .glo "law", .glo "Book", .glo "PARTS", .glo "NoBook", .glo "NoSkill", .glo "NoBuild", .glo "NoStep", .glo "NoPlain", .glo "NoNumber", .glo "NoWorth", .glo "NoSeen", .glo "NoKind", .glo "NothingBack", .glo "NoNote"]
def faC : List He.Fa := [.cls "Book", .mkr "Book", .meth "Book" "asked_by", .noat "Book" "own_names", .noat "Book" "record", .noat "Book" "own_points", .noat "Book" "own_reset", .noat "Book" "own_tiers", .noat "Book" "tier_by", .noat "Book" "spots", .noat "Book" "bits", .noat "Book" "own_needs", .noat "Book" "own_prices", .noat "Book" "own_given", .noat "Book" "barred", .noat "Book" "asked", .noat "NoNote" "line", .noat "NoBuild" "build", .exm "NoNote" "NoBook" false, .exm "NoNote" "NoSkill" false, .exm "NoNote" "NoBuild" false, .exm "NoNote" "NoStep" false, .exm "NoNote" "NoPlain" false, .exm "NoNote" "NoNumber" false, .exm "NoNote" "NoWorth" false, .exm "NoNote" "NoSeen" false, .exm "NoNote" "NoKind" false, .exm "NoNote" "NothingBack" false, .exm "NoNote" "NoNote" true, .exm "NoBuild" "NoBook" false, .exm "NoBuild" "NoSkill" false, .exm "NoBuild" "NoBuild" true]
def faL : List He.Fa := faA ++ (faB ++ faC)
def tfL : List He.Defn := [("law", none)]
/-- an own error's __init__: its cell, its code object -/
def ccOf (K : PySem.W.Frag) (f : Addr) : Addr := match K.lookup f with
  | some ⟨_, _, .func fd, _⟩ => (match fd.closure with
    | [(_, c)] => c
    | _ => 0)
  | _ => 0
def cdOf (K : PySem.W.Frag) (f : Addr) : Addr := match K.lookup f with
  | some ⟨_, _, .func fd, _⟩ => (match fd.code with
    | .ref c => c
    | _ => 0)
  | _ => 0
def isRefV : Value → Bool
  | .ref _ => true
  | _ => false
abbrev FnZ : Type := Option (Str × Str × Arguments × FuncBody × Scope × Addr × List Str × Bool × Addr)
def fnZ (K : PySem.W.Frag) (f : Addr) : FnZ := match K.lookup f with
  | some ⟨_, _, .func fd, _⟩ => some (fd.name, fd.qualname, fd.params, fd.body, fd.scope, fd.globals, fd.closure.map (·.1), (decide (fd.defaults = .none) && isRefV fd.code), fd.builtins)
  | _ => none
def valZ (qual : Str) (st : Stmt) : FnZ := some ("__init__", qual, defArgs st, .stmts (defBody st), defScope st, mainGlobals, ["__class__"], true, builtinsNs)
def iniOf (K : PySem.W.Frag) (nm : Str) : Addr := ma K (ga K nm) "__init__"
/-- the class's object -/
def clsB (K : PySem.W.Frag) (C : Addr) : Bool := match K.lookup C with
  | some ⟨.type c, _, .cls cd, sl⟩ => decide (c = "type") && (match cd.mro, sl.toList with
    | .ref C' :: bm, [_, _, _, _, some (.builtin n), _] => decide (C' = C) && (decide (n = "ValueError.__new__") && (cd.hasDict && (!cd.hasDel && PySem.HandSPX.refsVE bm)))
    | _, _ => false)
  | _ => false
def fileB (K : PySem.W.Frag) (c : Addr) : Bool := match K.lookup c with
  | some ⟨_, _, .fields vs, _⟩ => (match vs[2]? with
    | some (Value.str file _) => PySem.Challenge.pw_refundtrees_k75_whole_builds_written.main.file == file
    | _ => false)
  | _ => false
def cellB (K : PySem.W.Frag) (cc C : Addr) : Bool := match K.lookup cc with
  | some ⟨_, _, .cell (some (.ref D)), _⟩ => decide (D = C)
  | _ => false
/-- what is asked of an own error's class -/
def exI (K : PySem.W.Frag) (nm qual attr : Str) : List Bool := [clsB K (ga K nm), eqO (PySem.W.findIn K (.ref (ga K nm)) "__setattr__") (some (some (.builtin "object.__setattr__"))), eqO (PySem.W.findIn K (.ref (ga K nm)) attr) (some none),
  eqO (PySem.W.findIn K (.ref (ga K nm)) "__init__") (some (some (.ref (iniOf K nm)))), decide (PySem.W.typeIn K (.ref (iniOf K nm)) = some (.type "function")), PySem.W.keepIn K (.ref (ga K nm)), decide (PySem.W.subIn K (.ref (ga K nm)) (.type "BaseException") = some true),
  decide (PySem.W.typeIn K (.ref (ga K nm)) = some (.type "type")), decide (PySem.W.subIn K (.ref (ga K nm)) (.type "ValueError") = some true), decide (PySem.W.mroIn K (ga K nm) (.ref (ga K nm)) = some true),
  eqO (PySem.W.ks_superIn K (ga K nm) (ga K nm) "__init__") (some (some (.builtin "ValueError.__init__"))), eqO (PySem.W.nsIn K cStatics "thirdparty.any") (some none), PySem.W.codeIn K (.ref (cdOf K (iniOf K nm))) qual, fileB K (cdOf K (iniOf K nm)), cellB K (ccOf K (iniOf K nm)) (ga K nm), xfB K (ga K nm)]
def exB (K : PySem.W.Frag) : Bool := He.tupB K "PARTS" [.str "skills", .str "points", .str "needs", .str "wants", .str "bars", .str "gives", .str "prices", .str "reset"] && ((exI K "NoNote" "NoNote.__init__" "line").all id && (exI K "NoBuild" "NoBuild.__init__" "build").all id)
/-- what the module's names reach, the cells of its functions, the statics -/
def asY (g : Addr → Option Obj) (n : Nat) : List Addr := cStatics :: (asD g n ++ (asD g n).flatMap fun a => match g a with
  | some ⟨_, _, .func fd, _⟩ => fd.closure.map (·.2)
  | _ => [])
abbrev AlY : Type := AlX × (FnZ × FnZ)
def obsY (g : Addr → Option Obj) : AlY := ((obsT faL fnL [] (frT g (asY g 5)), exB (frT g (asY g 5)) && tabsB g tfL (frT g (asY g 5))), (fnZ (frT g (asY g 5)) (iniOf (frT g (asY g 5)) "NoNote"), fnZ (frT g (asY g 5)) (iniOf (frT g (asY g 5)) "NoBuild")))
def valY (w : World) : AlY := (valX fnL [] w, (valZ "NoNote.__init__" sNoNoteInit, valZ "NoBuild.__init__" sNoBuildInit))
structure SaysY (w : World) (h : Heap) (K : PySem.W.Frag) : Prop where
  x : SaysX faL fnL [] tfL exB w h K
  n : fnZ K (iniOf K "NoNote") = valZ "NoNote.__init__" sNoNoteInit
  b : fnZ K (iniOf K "NoBuild") = valZ "NoBuild.__init__" sNoBuildInit
theorem saysY_of {w : World} {h : Heap} (e : obsY h.get? = valY w) : SaysY w h (frT h.get? (asY h.get? 5)) := by
  have e0 := congrArg (fun z : AlY => z.1) e
  have eT : obsT faL fnL [] (frT h.get? (asY h.get? 5)) = valT fnL [] w := congrArg (fun z : AlX => z.1) e0
  have eB : (exB (frT h.get? (asY h.get? 5)) && tabsB h.get? tfL (frT h.get? (asY h.get? 5))) = true := congrArg (fun z : AlX => z.2) e0
  have eN : fnZ (frT h.get? (asY h.get? 5)) (iniOf (frT h.get? (asY h.get? 5)) "NoNote") = valZ "NoNote.__init__" sNoNoteInit := congrArg (fun z : AlY => z.2.1) e
  have eM : fnZ (frT h.get? (asY h.get? 5)) (iniOf (frT h.get? (asY h.get? 5)) "NoBuild") = valZ "NoBuild.__init__" sNoBuildInit := congrArg (fun z : AlY => z.2.2) e
  clear e e0
  generalize asY h.get? 5 = as at *
  obtain ⟨b1, b2⟩ := ba eB
  have tb : ∀ p ∈ tfL, PySem.W.codeHdIn (frT h.get? as) (cT (frT h.get? as) p).1 (cT (frT h.get? as) p).2 = true ∧ ∃ o, h.get? (cT (frT h.get? as) p).2 = some o ∧ emptyTab o = true := fun p hp => by
    obtain ⟨b3, b4⟩ := ba (List.all_eq_true.mp b2 p hp)
    cases q : h.get? (cT (frT h.get? as) p).2 with
    | none => rw [q] at b4; cases b4
    | some o => rw [q] at b4; exact ⟨b3, o, rfl, b4⟩
  exact ⟨⟨eT, b1, fun p hp => (tb p hp).1, fun p hp => let ⟨_, _, q, z⟩ := tb p hp; frT_none q z, fun p hp => by
    obtain ⟨_, o, q, z⟩ := tb p hp
    rw [q, emptyTab_eq z]⟩, eN, eM⟩
def hkY : PySem.W.Hook where
  α := AlY
  obs := fun s => obsY s.heap.get?
  val := valY
  says := fun w h => ∃ K : PySem.W.Frag, K.In h ∧ SaysY w h K
  of := fun _ _ e => ⟨_, frT_in, saysY_of e⟩
  keeps := fun _ _ _ ⟨K, hK, c⟩ k => ⟨K, PySem.W.Frag.In.keeps hK k, ⟨⟨c.x.t, c.x.more, c.x.hd, c.x.out, fun p hp => k _ _ (c.x.empty p hp)⟩, c.n, c.b⟩⟩
abbrev R : PySem.W.OpenRow := PySem.W.OpenLaw.row PySem.Challenge.rw_refundtrees_k75_whole_builds_written
def obY (s : PySem.W.SharedT) : AlY := obsY (HandSHeadRun.getT s)
theorem obY_eq (s : PySem.W.SharedT) : obY s = hkY.obs s.abs := by
  have e : HandSHeadRun.getT s = s.abs.heap.get? := funext (HandSHeadRun.getT_eq s)
  show obsY (HandSHeadRun.getT s) = obsY s.abs.heap.get?
  rw [e]
def looseA : List PySem.Str := ["_wall", "TreeError", "NoBook", "NoSkill", "NoBuild", "NoStep", "NoPlain", "NoNumber", "NoWorth", "NoSeen", "NoKind", "NothingBack", "NoNote", "LETTERS", "MOST_LETTERS", "is_whole", "is_number", "is_word", "is_row", "are_unlike", "are_tuples", "PARTS", "MOST_SKILLS", "MOST_TIERS", "MOST_POINTS", "MOST_WANTS", "MOST_BARS", "MOST_GIVEN", "MOST_PRICE"]
def looseB : List PySem.Str := ["are_skills", "are_needs", "is_want", "are_bars", "are_numbered", "look_at_parts", "Book", "are_skills_of", "in_order", "is_build", "write_build", "read_build", "_law_pool", "_law_take", "_law_one", "_law_turned", "_law_tree", "_law_rows", "_law_book", "_law_made", "_law_names", "_law_subsets", "_law_caught"]
def loose : List PySem.Str := looseA ++ looseB

theorem runY (w : World) : HandSHeadRun.RunEq R (PySem.W.view R.prog [58]) hkY obY 6000 loose w := by
  intro os
  kernel_rfl
end K75
set_option Elab.async false
set_option linter.all false
set_option maxRecDepth 100000
set_option maxHeartbeats 4000000
namespace K75
open PySem PySem.Spec PyProof.Rows L2 He
/-! ### what the head leaves, in the walk's words -/
abbrev PW : Program := PySem.Challenge.pw_refundtrees_k75_whole_builds_written
theorem iniNote : IniD K75.PW "NoNote.__init__" sNoNoteInit "line" "line" "a row is not written as it has to be" :=
  ⟨⟨_, _, _, _, _, _, _, _, _, _, _, rfl, fun env => ⟨_, rfl⟩⟩, by intros; rfl, by decide +kernel, rfl, rfl, rfl, rfl, rfl, rfl, rfl, ⟨_, rfl, rfl⟩, by decide, by decide, by decide +kernel⟩
theorem iniBuild : IniD K75.PW "NoBuild.__init__" sNoBuildInit "build" "build" "a value is no build that is asked for" :=
  ⟨⟨_, _, _, _, _, _, _, _, _, _, _, rfl, fun env => ⟨_, rfl⟩⟩, by intros; rfl, by decide +kernel, rfl, rfl, rfl, rfl, rfl, rfl, rfl, ⟨_, rfl, rfl⟩, by decide, by decide, by decide +kernel⟩
section
variable {K : PySem.W.Frag} {mg : Str → Option Value} {nm qual attr arg msg : Str} {st : Stmt}
theorem clsB_ok {C : Addr} (h : clsB K C = true) : ∃ nm q N bs bm sn sub ab col dd k0 k1 k2 k3 k5, K.lookup C = some (excClassObj nm q C N bs bm true sn sub ab col dd k0 k1 k2 k3 k5 "ValueError.__new__") ∧ PySem.HandSPX.refsVE bm = true := by
  unfold clsB at h
  split at h
  · rename_i c dd cd sl ho
    obtain ⟨hc, h⟩ := ba h
    split at h
    · rename_i C' bm k0 k1 k2 k3 n k5 hm hs
      obtain ⟨h1, h⟩ := ba h
      obtain ⟨h2, h⟩ := ba h
      obtain ⟨h3, h⟩ := ba h
      obtain ⟨h4, h5⟩ := ba h
      have e1 := of_decide_eq_true h1
      have e2 := of_decide_eq_true h2
      have ec := of_decide_eq_true hc
      subst e1 e2 ec
      obtain ⟨nm, bs, mro, ns, qn, hd, sn, sub, ab, col, del⟩ := cd
      dsimp only at hm h3 h4
      subst hm h3
      have ed : del = false := by
        cases del with
        | false => rfl
        | true => cases h4
      subst ed
      have es : sl = #[k0, k1, k2, k3, some (.builtin "ValueError.__new__"), k5] := by
        obtain ⟨l⟩ := sl
        simp only at hs
        rw [hs]
      subst es
      exact ⟨nm, qn, ns, bs, bm, sn, sub, ab, col, dd, k0, k1, k2, k3, k5, ho, h5⟩
    · cases h
  · cases h
structure ExF (P : Program) (K : PySem.W.Frag) (mg : Str → Option Value) (nm qual attr arg msg : Str) (st : Stmt) : Prop where
  t : ExT P K mg nm qual attr arg msg st (ga K nm) (iniOf K nm) (ccOf K (iniOf K nm))
  xf : XfC K (ga K nm)
theorem exF_of (h : (exI K nm qual attr).all id = true) (z : fnZ K (iniOf K nm) = valZ qual st) (ini : IniD K75.PW qual st attr arg msg) (gC : mg nm = some (.ref (ga K nm))) (sup : mg "super" = none) : ExF K75.PW K mg nm qual attr arg msg st := by
  have hh := List.all_eq_true.mp h
  have at_ : ∀ (i : Nat) (b : Bool), (exI K nm qual attr)[i]? = some b → b = true := fun i b e => hh b (List.mem_of_getElem? e)
  have q0 := at_ 0 _ rfl
  have q1 := eqO_ok (at_ 1 _ rfl)
  have q2 := eqO_ok (at_ 2 _ rfl)
  have q3 := eqO_ok (at_ 3 _ rfl)
  have q4 := of_decide_eq_true (at_ 4 _ rfl)
  have q5 := at_ 5 _ rfl
  have q6 := of_decide_eq_true (at_ 6 _ rfl)
  have q7 := of_decide_eq_true (at_ 7 _ rfl)
  have q8 := of_decide_eq_true (at_ 8 _ rfl)
  have q9 := of_decide_eq_true (at_ 9 _ rfl)
  have q10 := eqO_ok (at_ 10 _ rfl)
  have q11 := eqO_ok (at_ 11 _ rfl)
  have q12 := at_ 12 _ rfl
  have q13 := at_ 13 _ rfl
  have q14 := at_ 14 _ rfl
  have q15 := at_ 15 _ rfl
  have file : ∃ (ccl : Value) (cdd : Option Addr) (vs : Array Value) (ccs : Array (Option Value)) (file : Str) (tf : Tok), K.lookup (cdOf K (iniOf K nm)) = some ⟨ccl, cdd, .fields vs, ccs⟩ ∧ vs[2]? = some (.str file tf) ∧ (K75.PW.main.file == file) = true := by
    unfold fileB at q13
    split at q13
    · rename_i ccl cdd vs ccs ho
      split at q13
      · rename_i file tf hv
        exact ⟨ccl, cdd, vs, ccs, file, tf, ho, hv, q13⟩
      · cases q13
    · cases q13
  have cell : ∃ (cl : Value) (cld : Option Addr) (csl : Array (Option Value)), K.lookup (ccOf K (iniOf K nm)) = some ⟨cl, cld, .cell (some (.ref (ga K nm))), csl⟩ := by
    unfold cellB at q14
    split at q14
    · rename_i cl cld D csl ho
      have e := of_decide_eq_true q14
      rw [e] at ho
      exact ⟨cl, cld, csl, ho⟩
    · cases q14
  have fn : ∃ (oc : Value) (od : Option Addr) (kV doc pm : Value) (an : Option Addr) (cda : Addr) (ct : Value) (osl : Array (Option Value)), K.lookup (iniOf K nm) = some ⟨oc, od, .func (iniFd qual st kV doc pm an (.ref cda) ct (ccOf K (iniOf K nm))), osl⟩ ∧ PySem.W.codeIn K (.ref cda) qual = true ∧
      ∃ (ccl : Value) (cdd : Option Addr) (vs : Array Value) (ccs : Array (Option Value)) (file : Str) (tf : Tok), K.lookup cda = some ⟨ccl, cdd, .fields vs, ccs⟩ ∧ vs[2]? = some (.str file tf) ∧ (K75.PW.main.file == file) = true := by
    clear at_ hh h q13 q14
    have hcd : ∀ {oc : Value} {od : Option Addr} {fd : FuncData} {osl : Array (Option Value)}, K.lookup (iniOf K nm) = some ⟨oc, od, .func fd, osl⟩ → cdOf K (iniOf K nm) = (match fd.code with | .ref c => c | _ => 0) ∧ ccOf K (iniOf K nm) = (match fd.closure with | [(_, c)] => c | _ => 0) := fun e => by
      unfold cdOf ccOf
      rw [e]
      exact ⟨rfl, rfl⟩
    unfold fnZ at z
    cases e : K.lookup (iniOf K nm) with
    | none =>
      rw [e] at z
      cases z
    | some o =>
      obtain ⟨oc, od, dt, osl⟩ := o
      rw [e] at z
      cases dt with
      | func fd =>
        obtain ⟨c1, c2⟩ := hcd e
        obtain ⟨n1, n2, n3, n4, n5, n6, n7, n8, n9, n10, n11, n12, n13, n14, n15⟩ := fd
        have z2 : (some (n1, n2, n3, n4, n5, n6, n7.map (·.1), (decide (n8 = .none) && isRefV n13), n15) : FnZ) = some (("__init__" : Str), qual, defArgs st, FuncBody.stmts (defBody st), defScope st, mainGlobals, [("__class__" : Str)], true, builtinsNs) := z
        simp only [Option.some.injEq, Prod.mk.injEq] at z2
        obtain ⟨h1, h2, h3, h4, h5, h6, h7, h8, h9⟩ := z2
        obtain ⟨x, hx⟩ : ∃ x : Addr, n7 = [(("__class__" : Str), x)] := by
          match n7, h7 with
          | [(a, b)], h7 =>
            have ea : a = "__class__" := (List.cons.inj h7).1
            exact ⟨b, by rw [ea]⟩
        obtain ⟨h8a, h8b⟩ := ba h8
        have h8' : n8 = Value.none := of_decide_eq_true h8a
        subst h1 h2 h3 h4 h5 h6 h8' h9 hx
        have c2' : ccOf K (iniOf K nm) = x := c2
        cases n13 with
        | ref cda =>
          have c1' : cdOf K (iniOf K nm) = cda := c1
          rw [c1'] at q12 file
          rw [c2']
          exact ⟨oc, od, n9, n10, n11, n12, cda, n14, osl, rfl, q12, file⟩
        | _ => cases h8b
      | _ => cases z
  exact ⟨⟨ini, gC, sup, clsB_ok q0, q1, q2, q3, q4, q5, q6, q7, q8, q9, q10, q11, fn, cell⟩, xfB_ok q15⟩
theorem dfOf {x : Str} {d : DefD} (F : ∃ fd, FunD K d.name d.qual d.params d.body d.scope (d.dvs K) (d.kws K) (fAd K d.at_) fd) (hg : mg x = some (.ref (ga K x))) (e : d = ⟨(x, none), x, x, defArgs st, defBody st, defScope st, [], []⟩ := by rfl) : Df K mg x st := by
  subst e
  obtain ⟨fd, F⟩ := F
  exact ⟨_, fd, hg, F⟩
/-- all of it -/
structure Left (K : PySem.W.Frag) (mg : Str → Option Value) : Prop where
  tx : Tx K mg
  pa : PaT K mg
  bk : BkT K mg (ga K "Book")
  mb : MkB K mg (ga K "Book")
  ask : DfM K (ga K "Book") "asked_by" "Book.asked_by" sBookAsked
  exN : ExF K75.PW K mg "NoNote" "NoNote.__init__" "line" "line" "a row is not written as it has to be" sNoNoteInit
  exB : ExF K75.PW K mg "NoBuild" "NoBuild.__init__" "build" "build" "a value is no build that is asked for" sNoBuildInit
  cg : CgT K mg (ga K "NoNote") (ga K "NoBuild")
  dfIsWhole : Df K mg "is_whole" sIsWhole
  dfIsNumber : Df K mg "is_number" sIsNumber
  dfIsWord : Df K mg "is_word" sIsWord
  dfIsRow : Df K mg "is_row" sIsRow
  dfAreUnlike : Df K mg "are_unlike" sAreUnlike
  dfAreTuples : Df K mg "are_tuples" sAreTuples
  dfAreSkills : Df K mg "are_skills" sAreSkills
  dfAreNeeds : Df K mg "are_needs" sAreNeeds
  dfIsWant : Df K mg "is_want" sIsWant
  dfAreBars : Df K mg "are_bars" sAreBars
  dfAreNumbered : Df K mg "are_numbered" sAreNumbered
  dfLookAtParts : Df K mg "look_at_parts" sLookAtParts
  dfAreSkillsOf : Df K mg "are_skills_of" sAreSkillsOf
  dfInOrder : Df K mg "in_order" sInOrder
  dfIsBuild : Df K mg "is_build" sIsBuild
  dfWriteBuild : Df K mg "write_build" sWriteBuild
  dfReadBuild : Df K mg "read_build" sReadBuild
  dfLawPool : Df K mg "_law_pool" sLawPool
  dfLawTake : Df K mg "_law_take" sLawTake
  dfLawOne : Df K mg "_law_one" sLawOne
  dfLawTurned : Df K mg "_law_turned" sLawTurned
  dfLawTree : Df K mg "_law_tree" sLawTree
  dfLawRows : Df K mg "_law_rows" sLawRows
  dfLawBook : Df K mg "_law_book" sLawBook
  dfLawMade : Df K mg "_law_made" sLawMade
  dfLawNames : Df K mg "_law_names" sLawNames
  dfLawSubsets : Df K mg "_law_subsets" sLawSubsets
  dfLawCaught : Df K mg "_law_caught" sLawCaught
  dfLaw : Df K mg "law" sLaw
theorem left_of {w : World} {h : Heap} (X : K.In h) (G : h.Ns mainGlobals mg) (S : SaysY w h K) : Left K mg := by
  have c : SaysD faL fnL K := S.x.t.d
  obtain ⟨m1, m2⟩ := ba (show (_ && _) = true from S.x.more)
  obtain ⟨m3, m4⟩ := ba m2
  have exN : ExF K75.PW K mg "NoNote" "NoNote.__init__" "line" "line" "a row is not written as it has to be" sNoNoteInit := exF_of m3 S.n iniNote (glo_ok X G (c.fact 67 (f := .glo "NoNote") rfl)) (free_ok X G (c.fact 16 (f := .free "super") rfl))
  have exB2 : ExF K75.PW K mg "NoBuild" "NoBuild.__init__" "build" "build" "a value is no build that is asked for" sNoBuildInit := exF_of m4 S.b iniBuild (glo_ok X G (c.fact 59 (f := .glo "NoBuild") rfl)) (free_ok X G (c.fact 16 (f := .free "super") rfl))
  obtain ⟨fdI, FI⟩ := c.def_ 12 (d := dBookInit) rfl
  obtain ⟨fdA, FA⟩ := c.def_ 13 (d := dBookAsked) rfl
  exact {
    tx := ⟨free_ok X G (c.fact 0 (f := .free "isinstance") rfl), free_ok X G (c.fact 1 (f := .free "len") rfl), free_ok X G (c.fact 2 (f := .free "all") rfl), free_ok X G (c.fact 3 (f := .free "max") rfl), free_ok X G (c.fact 4 (f := .free "min") rfl), free_ok X G (c.fact 5 (f := .free "sum") rfl), free_ok X G (c.fact 6 (f := .free "sorted") rfl), free_ok X G (c.fact 7 (f := .free "repr") rfl), free_ok X G (c.fact 8 (f := .free "str") rfl), free_ok X G (c.fact 9 (f := .free "int") rfl), free_ok X G (c.fact 10 (f := .free "bool") rfl), free_ok X G (c.fact 11 (f := .free "list") rfl), free_ok X G (c.fact 12 (f := .free "tuple") rfl), free_ok X G (c.fact 13 (f := .free "dict") rfl), free_ok X G (c.fact 14 (f := .free "zip") rfl), free_ok X G (c.fact 15 (f := .free "range") rfl), free_ok X G (c.fact 16 (f := .free "super") rfl), str_ok X G (c.fact 17 (f := .str "LETTERS" "abcdefghijklmnopqrstuvwxyz") rfl), int_ok X G (c.fact 18 (f := .int "MOST_LETTERS" 8) rfl), int_ok X G (c.fact 19 (f := .int "MOST_SKILLS" 12) rfl), int_ok X G (c.fact 20 (f := .int "MOST_TIERS" 4) rfl), int_ok X G (c.fact 21 (f := .int "MOST_POINTS" 12) rfl), int_ok X G (c.fact 22 (f := .int "MOST_WANTS" 12) rfl), int_ok X G (c.fact 23 (f := .int "MOST_BARS" 6) rfl), int_ok X G (c.fact 24 (f := .int "MOST_GIVEN" 3) rfl), int_ok X G (c.fact 25 (f := .int "MOST_PRICE" 99) rfl)⟩
    pa := ⟨_, (glo_ok X G (c.fact 56 (f := .glo "PARTS") rfl)), fun H => tupB_ok m1 H⟩
    bk := ⟨(glo_ok X G (c.fact 55 (f := .glo "Book") rfl)), cls_ok (c.fact 68 (f := .cls "Book") rfl), noat_ok (c.fact 71 (f := .noat "Book" "own_names") rfl), noat_ok (c.fact 72 (f := .noat "Book" "record") rfl), noat_ok (c.fact 73 (f := .noat "Book" "own_points") rfl), noat_ok (c.fact 74 (f := .noat "Book" "own_reset") rfl), noat_ok (c.fact 75 (f := .noat "Book" "own_tiers") rfl), noat_ok (c.fact 76 (f := .noat "Book" "tier_by") rfl), noat_ok (c.fact 77 (f := .noat "Book" "spots") rfl), noat_ok (c.fact 78 (f := .noat "Book" "bits") rfl), noat_ok (c.fact 79 (f := .noat "Book" "own_needs") rfl), noat_ok (c.fact 80 (f := .noat "Book" "own_prices") rfl), noat_ok (c.fact 81 (f := .noat "Book" "own_given") rfl), noat_ok (c.fact 82 (f := .noat "Book" "barred") rfl), noat_ok (c.fact 83 (f := .noat "Book" "asked") rfl)⟩
    mb := ⟨_, fdI, (glo_ok X G (c.fact 55 (f := .glo "Book") rfl)), mkr_ok (c.fact 69 (f := .mkr "Book") rfl), FI⟩
    ask := ⟨_, fdA, meth_ok (c.fact 70 (f := .meth "Book" "asked_by") rfl), FA⟩
    exN := exN
    exB := exB2
    cg := ⟨⟨_, (glo_ok X G (c.fact 57 (f := .glo "NoBook") rfl)), exm_ok (c.fact 86 (f := .exm "NoNote" "NoBook" false) rfl), exm_ok (c.fact 97 (f := .exm "NoBuild" "NoBook" false) rfl)⟩, ⟨_, (glo_ok X G (c.fact 58 (f := .glo "NoSkill") rfl)), exm_ok (c.fact 87 (f := .exm "NoNote" "NoSkill" false) rfl), exm_ok (c.fact 98 (f := .exm "NoBuild" "NoSkill" false) rfl)⟩, ⟨(glo_ok X G (c.fact 59 (f := .glo "NoBuild") rfl)), exm_ok (c.fact 88 (f := .exm "NoNote" "NoBuild" false) rfl), exm_ok (c.fact 99 (f := .exm "NoBuild" "NoBuild" true) rfl)⟩, ⟨_, (glo_ok X G (c.fact 60 (f := .glo "NoStep") rfl)), exm_ok (c.fact 89 (f := .exm "NoNote" "NoStep" false) rfl)⟩, ⟨_, (glo_ok X G (c.fact 61 (f := .glo "NoPlain") rfl)), exm_ok (c.fact 90 (f := .exm "NoNote" "NoPlain" false) rfl)⟩, ⟨_, (glo_ok X G (c.fact 62 (f := .glo "NoNumber") rfl)), exm_ok (c.fact 91 (f := .exm "NoNote" "NoNumber" false) rfl)⟩, ⟨_, (glo_ok X G (c.fact 63 (f := .glo "NoWorth") rfl)), exm_ok (c.fact 92 (f := .exm "NoNote" "NoWorth" false) rfl)⟩, ⟨_, (glo_ok X G (c.fact 64 (f := .glo "NoSeen") rfl)), exm_ok (c.fact 93 (f := .exm "NoNote" "NoSeen" false) rfl)⟩, ⟨_, (glo_ok X G (c.fact 65 (f := .glo "NoKind") rfl)), exm_ok (c.fact 94 (f := .exm "NoNote" "NoKind" false) rfl)⟩, ⟨_, (glo_ok X G (c.fact 66 (f := .glo "NothingBack") rfl)), exm_ok (c.fact 95 (f := .exm "NoNote" "NothingBack" false) rfl)⟩, ⟨(glo_ok X G (c.fact 67 (f := .glo "NoNote") rfl)), exm_ok (c.fact 96 (f := .exm "NoNote" "NoNote" true) rfl)⟩, exN.xf, exB2.xf, noat_ok (c.fact 84 (f := .noat "NoNote" "line") rfl), noat_ok (c.fact 85 (f := .noat "NoBuild" "build") rfl)⟩
    dfIsWhole := dfOf (d := dIsWhole) (c.def_ 0 (d := dIsWhole) rfl) (glo_ok X G (c.fact 26 (f := .glo "is_whole") rfl))
    dfIsNumber := dfOf (d := dIsNumber) (c.def_ 1 (d := dIsNumber) rfl) (glo_ok X G (c.fact 27 (f := .glo "is_number") rfl))
    dfIsWord := dfOf (d := dIsWord) (c.def_ 2 (d := dIsWord) rfl) (glo_ok X G (c.fact 28 (f := .glo "is_word") rfl))
    dfIsRow := dfOf (d := dIsRow) (c.def_ 3 (d := dIsRow) rfl) (glo_ok X G (c.fact 29 (f := .glo "is_row") rfl))
    dfAreUnlike := dfOf (d := dAreUnlike) (c.def_ 4 (d := dAreUnlike) rfl) (glo_ok X G (c.fact 30 (f := .glo "are_unlike") rfl))
    dfAreTuples := dfOf (d := dAreTuples) (c.def_ 5 (d := dAreTuples) rfl) (glo_ok X G (c.fact 31 (f := .glo "are_tuples") rfl))
    dfAreSkills := dfOf (d := dAreSkills) (c.def_ 6 (d := dAreSkills) rfl) (glo_ok X G (c.fact 32 (f := .glo "are_skills") rfl))
    dfAreNeeds := dfOf (d := dAreNeeds) (c.def_ 7 (d := dAreNeeds) rfl) (glo_ok X G (c.fact 33 (f := .glo "are_needs") rfl))
    dfIsWant := dfOf (d := dIsWant) (c.def_ 8 (d := dIsWant) rfl) (glo_ok X G (c.fact 34 (f := .glo "is_want") rfl))
    dfAreBars := dfOf (d := dAreBars) (c.def_ 9 (d := dAreBars) rfl) (glo_ok X G (c.fact 35 (f := .glo "are_bars") rfl))
    dfAreNumbered := dfOf (d := dAreNumbered) (c.def_ 10 (d := dAreNumbered) rfl) (glo_ok X G (c.fact 36 (f := .glo "are_numbered") rfl))
    dfLookAtParts := dfOf (d := dLookAtParts) (c.def_ 11 (d := dLookAtParts) rfl) (glo_ok X G (c.fact 37 (f := .glo "look_at_parts") rfl))
    dfAreSkillsOf := dfOf (d := dAreSkillsOf) (c.def_ 14 (d := dAreSkillsOf) rfl) (glo_ok X G (c.fact 38 (f := .glo "are_skills_of") rfl))
    dfInOrder := dfOf (d := dInOrder) (c.def_ 15 (d := dInOrder) rfl) (glo_ok X G (c.fact 39 (f := .glo "in_order") rfl))
    dfIsBuild := dfOf (d := dIsBuild) (c.def_ 16 (d := dIsBuild) rfl) (glo_ok X G (c.fact 40 (f := .glo "is_build") rfl))
    dfWriteBuild := dfOf (d := dWriteBuild) (c.def_ 17 (d := dWriteBuild) rfl) (glo_ok X G (c.fact 41 (f := .glo "write_build") rfl))
    dfReadBuild := dfOf (d := dReadBuild) (c.def_ 18 (d := dReadBuild) rfl) (glo_ok X G (c.fact 42 (f := .glo "read_build") rfl))
    dfLawPool := dfOf (d := dLawPool) (c.def_ 19 (d := dLawPool) rfl) (glo_ok X G (c.fact 43 (f := .glo "_law_pool") rfl))
    dfLawTake := dfOf (d := dLawTake) (c.def_ 20 (d := dLawTake) rfl) (glo_ok X G (c.fact 44 (f := .glo "_law_take") rfl))
    dfLawOne := dfOf (d := dLawOne) (c.def_ 21 (d := dLawOne) rfl) (glo_ok X G (c.fact 45 (f := .glo "_law_one") rfl))
    dfLawTurned := dfOf (d := dLawTurned) (c.def_ 22 (d := dLawTurned) rfl) (glo_ok X G (c.fact 46 (f := .glo "_law_turned") rfl))
    dfLawTree := dfOf (d := dLawTree) (c.def_ 23 (d := dLawTree) rfl) (glo_ok X G (c.fact 47 (f := .glo "_law_tree") rfl))
    dfLawRows := dfOf (d := dLawRows) (c.def_ 24 (d := dLawRows) rfl) (glo_ok X G (c.fact 48 (f := .glo "_law_rows") rfl))
    dfLawBook := dfOf (d := dLawBook) (c.def_ 25 (d := dLawBook) rfl) (glo_ok X G (c.fact 49 (f := .glo "_law_book") rfl))
    dfLawMade := dfOf (d := dLawMade) (c.def_ 26 (d := dLawMade) rfl) (glo_ok X G (c.fact 50 (f := .glo "_law_made") rfl))
    dfLawNames := dfOf (d := dLawNames) (c.def_ 27 (d := dLawNames) rfl) (glo_ok X G (c.fact 51 (f := .glo "_law_names") rfl))
    dfLawSubsets := dfOf (d := dLawSubsets) (c.def_ 28 (d := dLawSubsets) rfl) (glo_ok X G (c.fact 52 (f := .glo "_law_subsets") rfl))
    dfLawCaught := dfOf (d := dLawCaught) (c.def_ 29 (d := dLawCaught) rfl) (glo_ok X G (c.fact 53 (f := .glo "_law_caught") rfl))
    dfLaw := dfOf (d := dLaw) (c.def_ 30 (d := dLaw) rfl) (glo_ok X G (c.fact 54 (f := .glo "law") rfl)) }
end
end K75
set_option Elab.async false
set_option linter.all false
set_option maxRecDepth 100000
set_option maxHeartbeats 4000000
namespace K75
open PySem PySem.Spec PyProof.Rows L2 He
/-- the law's def, called -/
theorem law_runs {w : World} {K : PySem.W.Frag} {mg : Str → Option Value} {base : Heap} {fa a c Pt : Addr} {s : Shared} {H : Hp} {is : List Int} (L : Left K mg) (hfa : mg "law" = some (.ref fa)) (hc : ∀ (oc : Value) (od : Option Addr) (fd : FuncData) (osl : Array (Option Value)), K.lookup fa = some ⟨oc, od, .func fd, osl⟩ → fd.code = .ref c)
    (TB : LamX.TabB base mg c Pt) (hT : H Pt = some (.tbl #[])) (ha : SqL K H a (is.map V.int)) (e0 : Env0 K75.PW w K mg base callerA [] s H) :
    codeAny (model K75.PW w) callerA (.call (.ref fa) ⟨[.ref a], []⟩) (CR CX0 [] K75.PW w H s (fun v _ => v = .bl true) E0) s := by
  have T := L.tx
  have cWh : Cl K75.PW w K mg base CX0 1 "is_whole" spWhole := cl_whole T L.dfIsWhole
  have cNu : Cl K75.PW w K mg base CX0 2 "is_number" spNumber := cl_number T L.dfIsNumber cWh
  have cWd : Cl K75.PW w K mg base CX0 1 "is_word" spWord := cl_word T L.dfIsWord
  have cRo : Cl K75.PW w K mg base CX0 1 "is_row" spRow := cl_row T L.dfIsRow
  have cTu : Cl K75.PW w K mg base CX0 2 "are_tuples" spTuples := cl_tuples T L.dfAreTuples cRo
  have cUK : Cl K75.PW w K mg base CX0 1 "are_unlike" spUnlikeK := cl_unlikeK T L.dfAreUnlike
  have cUT : Cl K75.PW w K mg base CX0 1 "are_unlike" spUnlikeT := cl_unlikeT T L.dfAreUnlike
  have cSk : Cl K75.PW w K mg base CX0 3 "are_skills" spSkills := cl_skills T L.dfAreSkills cTu cWd cNu cUK
  have cNd : Cl K75.PW w K mg base CX0 3 "are_needs" spNeeds := cl_needs T L.dfAreNeeds cTu cNu cUK
  have cNb : Cl K75.PW w K mg base CX0 3 "are_numbered" spNumbered := cl_numbered T L.dfAreNumbered cTu cWd cNu cUK
  have cWt : Cl K75.PW w K mg base CX0 3 "is_want" spWant := cl_want T L.dfIsWant cWd cNu cUK
  have cBa : Cl K75.PW w K mg base CX0 3 "are_bars" spBars := cl_bars T L.dfAreBars cTu cWd cUT
  have cLo : Cl K75.PW w K mg base CX0 4 "look_at_parts" spLook := cl_look T L.dfLookAtParts cSk cNu cNd cRo cWt cBa cNb
  have cSO : Cl K75.PW w K mg base CX0 2 "are_skills_of" (spSkOf (ga K "Book")) := cl_skOf T L.bk L.dfAreSkillsOf cRo cWd cUK
  have cIO : Cl K75.PW w K mg base CX0 1 "in_order" (spInOrd (ga K "Book")) := cl_inOrd T L.bk L.dfInOrder
  have cIB : Cl K75.PW w K mg base CX0 3 "is_build" (spIsB (ga K "Book")) := cl_isB T L.dfIsBuild cSO cIO
  have cWr : Cl K75.PW w K mg base (L2.CX K75.PW w) 2 "write_build" (spWrB K (ga K "NoBuild")) := cl_wrB T L.exB.t L.dfWriteBuild cWd
  have cRd : Cl K75.PW w K mg base (L2.CX K75.PW w) 4 "read_build" (spRdB K (ga K "Book") (ga K "NoNote")) := cl_rdB T L.exN.t L.dfReadBuild cIB
  have cAs : MtA K75.PW w K mg base 1 (ga K "Book") "asked_by" (spAsk (ga K "Book")) := mt_ask T L.bk L.ask
  have cPo : Cl K75.PW w K mg base CX0 1 "_law_pool" (spPool K) := cl_pool T L.dfLawPool
  have cTa : Cl K75.PW w K mg base CX0 1 "_law_take" spTake := cl_take T L.dfLawTake
  have cOn : Cl K75.PW w K mg base CX0 2 "_law_one" spOne := cl_one T L.dfLawOne cTa
  have cTn : Cl K75.PW w K mg base CX0 2 "_law_turned" spTurned := cl_turned T L.dfLawTurned cTa
  have cTr : Cl K75.PW w K mg base CX0 3 "_law_tree" spTree := cl_tree T L.dfLawTree cTa cOn
  have cRw : Cl K75.PW w K mg base CX0 3 "_law_rows" spRows := cl_rows T L.dfLawRows cTa cOn cTn
  have cBk : Cl K75.PW w K mg base CX0 4 "_law_book" spBook := cl_book T L.dfLawBook cTa cOn cTn cTr cRw
  have cMd : Cl K75.PW w K mg base CX0 7 "_law_made" (spMade (ga K "Book")) := cl_made T L.pa L.bk L.mb L.dfLawMade cLo cAs
  have cNm : Cl K75.PW w K mg base CX0 1 "_law_names" spNames := cl_names L.dfLawNames
  have cSb : Cl K75.PW w K mg base CX0 2 "_law_subsets" spSubs := cl_subs T L.dfLawSubsets cNm
  obtain ⟨f, fd, hm, F⟩ := L.dfLaw
  have ef := hm.symm.trans hfa
  cases ef
  have hb := F.bindsA (ps := ["_law_script"]) fun _ _ _ _ _ _ us hl => match us, hl with | [_], _ => rfl
  obtain ⟨oc, od, dV, kV, doc, pm, an, cdv, ct, osl, e, lk, hcd, hD, hK⟩ := F.ex
  subst e
  have ec : cdv = .ref c := hc _ _ _ _ lk
  subst ec
  refine LamX.run_ofS (N := ["_law_script", "_law_k", "_law_pool_here", "_law_book_here", "_law_made_here", "_law_names_here", "_law_right", "_law_build", "_law_text", "_law_turn", "_law_at", "_law_sign", "_law_bent", "_law_odd"]) (ps := ["_law_script"]) (us := [.ref a]) (vs := [.ref a]) (k := 7) lk hcd scLaw ⟨rfl, by decide, by decide⟩ e0 (hb s [.ref a] rfl) (.cons rfl .nil) rfl fun hr => ?_
  obtain ⟨t, h1, h2⟩ := law_run T L.cg L.dfLawCaught TB cPo cTa cOn cTn cBk cMd cNm cSb cWr cRd fa callerA [] s H a is rfl hr hT ha
  exact ⟨t, h1.nox, h2⟩
theorem walk : PySem.W.WalkO (PySem.W.view R.prog [58]) loose (PySem.W.XL (PySem.W.view R.prog [58]) []) hkY.says R.toRowW (HandSHeadRun.topDef R.prog 58) [] (fun f vs => PySem.call f vs) := by
  refine Att.attach_callB (l := PySem.Challenge.rw_refundtrees_k75_whole_builds_written) (n := 63) rfl (by kernel_rfl) fun w s0 s1 mg mb fa o pm cd doc a vs is G Y ho hd hcd hmg0 hobj hints hlen hbits hg => ?_
  obtain ⟨K, KX, S⟩ := Y
  have hmg : mg ("law" : Str) = some (.ref fa) := by
    have e : (HandSHeadRun.topDef R.prog 58).name = ("law" : Str) := by kernel_rfl
    rw [← e]
    exact hmg0
  have L := left_of KX G.T.g S
  have hga : fa = ga K "law" := by
    have z := hmg.symm.trans (glo_ok KX G.T.g (S.x.t.d.fact 54 (f := .glo "law") rfl))
    cases z
    rfl
  have m0 : (("law", none) : He.Defn) ∈ tfL := List.mem_singleton.mpr rfl
  refine law_callG (c := (cT K ("law", none)).1) (Pt := (cT K ("law", none)).2) KX G.T.g G.T.b G.T.builtins G.T.nolimit hg (S.x.empty _ m0) (S.x.out _ m0) (PySem.W.codeHd_of_K KX (S.x.hd _ m0)) G.T.bmain hobj hints (Nat.le_trans hlen (by decide)) fun base H kin hns TB hP sq env => ?_
  refine law_runs L hmg (fun oc od fd osl lk => ?_) TB hP sq env
  have lk2 : K.lookup (fAd K ("law", none)) = some ⟨oc, od, .func fd, osl⟩ := by rw [← lk, hga]; rfl
  obtain ⟨fd2, F⟩ := S.x.t.d.def_ 30 (d := dLaw) rfl
  obtain ⟨oc2, od2, dV, kV, doc2, pm2, an, cdv, ct, osl2, e, lk3, hcd3, _, _⟩ := F.ex
  subst e
  have lk4 : K.lookup (fAd K ("law", none)) = some ⟨oc2, od2, .func _, osl2⟩ := lk3
  rw [lk2] at lk4
  cases lk4
  obtain ⟨c', ec⟩ := codeIn_ref hcd3
  have z : codeOf K ("law", none) = c' := codeOf_eq lk2 ec
  show cdv = .ref (codeOf K ("law", none))
  rw [z, ec]
end K75
open PySem PySem.W PySem.Calls PyProof.Rows
theorem PySem.Challenge.cw_refundtrees_k75_whole_builds_written_holds : PySem.Challenge.rw_refundtrees_k75_whole_builds_written.Holds := by
  w_on; o_law
  refine HandSHeadRun.head_any (r := K75.R) (q := view K75.R.prog [58]) (H := K75.hkY) (ob := K75.obY) (M := 6000) (loose := K75.loose) (d := HandSHeadRun.topDef K75.R.prog 58) (kwd := []) K75.obY_eq
    (by kernel_rfl) (fun s => by kernel_rfl) K75.runY (by kernel_rfl) (by kernel_rfl) (by kernel_rfl) (by rfl) (by first | assumption | decide +kernel) (by decide +kernel) ⟨rfl, rfl, rfl, rfl, rfl, by decide +kernel⟩ ?hw K75.walk
  case hw => w_witness2
