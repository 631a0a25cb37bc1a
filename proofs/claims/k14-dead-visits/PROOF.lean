import PyProof.Rows.All
import Wide.All
import OpenK.AllK
import Wide.FinOn
import KE.GoesMore
import KE.KDictKeyed
import HandS.ForMost
import HandS.ForExc
import HandS.Evl
import HandS.More
import HandS.Deep
import HandS.Style
import HandS.Star
import HandS.ClsMeth
import HandS.IsInst
import HandS.ExcInit
import HandS.ExcField
import HandS.ExcIs
import HandS.FStr
import PyProof.FString
import KE.KExcSuper
import HandS.ExcOwn
import HandS.Defaults
import HandS.HeadHook1
import HandS.HeadHook2
import KE.KExcInit
import HandS.Head0
import HandS.Head1
import HandS.Head2
import HandS.HeadEnd
import KE.KDictDisplayH
import KE.KExcIs
import KE.KIsAll
import PySem.Challenge.RW_twinrope_k14_whole_dead_stations_and_vis
set_option Elab.async false
set_option linter.all false
set_option maxRecDepth 100000
set_option maxHeartbeats 0
namespace TR
open PySem L2 PyProof.Rows
open AutoSeq1 (wpAny_loadPart')

theorem meets_enumerate_newT (l : Addr) (items : Array Value) (n : Nat) (dct : Option Addr) (sl : Array (Option Value)) :
    Meets (Builtin.«enumerate.__new__» ⟨[.type "enumerate", .ref l], []⟩) (fun _ R s => s.heap.get? l = some { cls := .type "tuple", dict := dct, data := .seq items n, slots := sl } ∧
      R (.ok (.ret (.ref (s.heap.push { cls := .type "tuple_iterator", data := .fields #[.ref l, .int 0 0] }).objs.size)))
        { s with heap := (s.heap.push { cls := .type "tuple_iterator", data := .fields #[.ref l, .int 0 0] }).push { cls := .type "enumerate", data := .fields #[.none, .bool false, .ref s.heap.objs.size, rawInt 0, .none, .none] } }) :=
  .of_wp fun prog w A R s h => by
    obtain ⟨hp, g, d, tk, os⟩ := s; obtain ⟨hl, h⟩ := h
    have hsub := sub_enumerate
    have hL : Heap.IsTuple (Shared.heap ⟨hp, g, d, tk, os⟩) l items := ⟨_, hl, rfl, n, rfl⟩
    wp_walk using wpAny_loadPart' hl
    refine wpAny_stack_any fun st => wpAny_pure ?_
    split
    · rename_i c _ _ _ _ _
      cases (c == Value.type "enumerate")
      · wp_walk using wpAny_loadPart' hl, wpAny_pyIter_tuple hL
        exact ⟨_, rfl, h⟩
      · wp_walk using wpAny_loadPart' hl, wpAny_pyIter_tuple hL
        exact ⟨_, rfl, h⟩
    · wp_walk using wpAny_loadPart' hl, wpAny_pyIter_tuple hL
      exact ⟨_, rfl, h⟩
section
variable {prog : Program} {w : World} {A : Around} {E : Value → Shared → Prop} {s : Shared}
theorem call_enumerate_tuple {l : Addr} {items : Array Value} {Q : Value → Shared → Prop} (hL : s.heap.IsTuple l items)
    (h : ∀ h', IsEnum h' (s.heap.objs.size + 1) s.heap.objs.size 0 .none → h'.IsTupleIter s.heap.objs.size l 0 → h'.objs.size = s.heap.objs.size + 2 →
      (∀ b o, s.heap.get? b = some o → h'.get? b = some o) → Q (.ref (s.heap.objs.size + 1)) { s with heap := h' }) :
    wpAny (model prog w) A (call (.type "enumerate") [.ref l]) Q E s := by
  obtain ⟨⟨c, dct, dt, sl⟩, hl, hc, n, hd⟩ := hL
  replace hc : c = .type "tuple" := hc
  replace hd : dt = .seq items n := hd
  subst hc hd
  refine callType_new F.called_enumerate (by decide) (F.typeCall_enumerate_1 _) (F.newCall_enumerate_1 _) (fun obj => F.args_object_init_2 obj _) F.entry_enumerate_new
    (meets_enumerate_newT l items n dct sl) ⟨hl, ?_⟩
  have hz : (s.heap.push { cls := .type "tuple_iterator", data := .fields #[.ref l, .int 0 0] }).objs.size = s.heap.objs.size + 1 := Heap.size_push ..
  show _ ∧ _
  rw [hz]
  have he : IsEnum ((s.heap.push { cls := .type "tuple_iterator", data := .fields #[.ref l, .int 0 0] }).push
      { cls := .type "enumerate", data := .fields #[.none, .bool false, .ref s.heap.objs.size, rawInt 0, .none, .none] }) (s.heap.objs.size + 1) s.heap.objs.size 0 .none := by
    have := Heap.get?_push_size (s.heap.push { cls := .type "tuple_iterator", data := .fields #[.ref l, .int 0 0] })
      (o := { cls := .type "enumerate", data := .fields #[.none, .bool false, .ref s.heap.objs.size, rawInt 0, .none, .none] }) rfl
    rw [hz] at this; exact this
  refine ⟨⟨_, he, rfl⟩, h _ he ⟨_, Heap.get?_push_of_some _ (Heap.get?_push_size _ rfl), rfl, rfl⟩ (by rw [Heap.size_push, hz]) fun b o x => Heap.get?_push_of_some _ (Heap.get?_push_of_some _ x)⟩
end
/-- the tuple at a, each item in a new pair -/
def IteT (K : PySem.W.Frag) (a : Addr) : It :=
  ⟨fun i H => ∃ (xs : List V) (x : V), SqT K H a xs ∧ xs[i]? = some x, fun i H v H' => ∃ T x, v = .ref T ∧ H T = none ∧ H' = upd H T (.tup [.int (i : Nat), x]) ∧ ∀ xs, SqT K H a xs → xs[i]? = some x, fun i H => ∃ xs : List V, SqT K H a xs ∧ xs.length ≤ i⟩
theorem turn_enumT {P : Program} {w : World} {K : PySem.W.Frag} {elts : List Expr} {kk : Nat} {tpos : Pos} (a e it : Addr) :
    Turn P w K (.Tuple elts kk tpos) (IteT K a) [e, it] e (fun i h => (∃ old, IsEnum h e it ((i : Nat) : Int) old) ∧ h.IsTupleIter it a i ∧ e ≠ it ∧ a ≠ it ∧ a ≠ e) where
  mem := by simp
  obj := fun i h st b hb => by
    obtain ⟨⟨old, he⟩, ⟨o, ho, hc, hd⟩, _⟩ := st
    have e' : b = e ∨ b = it := by simpa using hb
    rcases e' with z | z
    · rw [z]; exact ⟨_, he, fun v q => nomatch q⟩
    · rw [z]; exact ⟨o, ho, fun v q => by rw [hd] at q; cases q⟩
  keep := fun i h h' st k => let ⟨⟨old, he⟩, hi, hne⟩ := st; ⟨⟨old, k e (by simp) _ he⟩, hi.at fun o q => k it (by simp) o q, hne⟩
  item := by
    intro X hP hw hK hc i pins s σ H E I hf st hg
    subst hP hw hK
    obtain ⟨⟨old, he⟩, hit, hne, hai, hae⟩ := st
    obtain ⟨xs, x, hq, hx⟩ := hg
    obtain ⟨its, rv, p, hz⟩ := I.tuple hq
    obtain ⟨u, hu, ru⟩ := rv.get hx
    have hel : e < s.heap.objs.size := Heap.lt_size he
    have hil : it < s.heap.objs.size := by obtain ⟨_, q, _⟩ := hit; exact Heap.lt_size q
    have hu' : its.toArray[i]? = some u := by simpa using hu
    have hin : i < its.toArray.size := (Array.getElem?_eq_some_iff.mp hu').1
    refine wpAny_pyNext_enum_itemD (Draws.tuple (A := X.A.in1) (show X.A.in1.handled = none from I.ok.hd hc) it a hai its.toArray) he ⟨hit, p⟩ hin hne (fun q => ?_) fun x' h' tk hP' ho hit' hT hsz hk => ?_
    · have e' : e = it ∨ e = a := by simpa using q
      rcases e' with z | z
      · exact hne z
      · exact hae z.symm
    have ex : x' = u := Option.some.inj (hP'.symm.trans hu')
    subst ex
    refine ⟨_, rfl, wpAny_letOwnedTupleGo_enum (s := { s with heap := h', toks := tk + 1 }) ho fun h'' he' sb => ?_⟩
    have hT2 : h''.get? s.heap.objs.size = some { cls := .type "tuple", data := .seq #[.int i tk, x'] } := (sb.2 _ (Nat.ne_of_gt hel)).trans hT
    have new : ObjOk X.prog X.w (upd H s.heap.objs.size (.tup [.int (i : Nat), x])) h'' s.heap.objs.size (.tup [.int (i : Nat), x]) :=
      ⟨by show 2 ≤ sizeLine; decide, [.int i tk, x'], .cons ⟨_, rfl⟩ (.cons ru .nil), ⟨_, hT2, rfl, _, rfl⟩⟩
    have I1 : Inv X pins σ (upd H s.heap.objs.size (.tup [.int (i : Nat), x])) { s with heap := h'', toks := tk + 1 } :=
      I.turnedNew (ch := [e, it]) (fun b ob hb q => (sb.2 b (fun z => hb (by simp [z]))).trans (hk b ob (fun z => hb (by simp [z])) (fun z => hb (by simp [z])) q)) hf (Nat.le_refl _) new
    refine ⟨.ref s.heap.objs.size, _, I1, rfl, ⟨_, x, rfl, I.hok.fresh (Nat.le_refl _), rfl, fun ys hy => by rw [I.tuple_inj hy hq]; exact hx⟩, ⟨⟨x', ?_⟩, hit'.1.at fun o q => (sb.2 it (Ne.symm hne)).trans q, hne, hai, hae⟩, fun b hb => ?_⟩
    · have e1 : ((i + 1 : Nat) : Int) = (i : Int) + 1 := by omega
      rw [e1]; exact he'
    · have hb' : b < s.heap.objs.size := by
        have e' : b = e ∨ b = it := by simpa using hb
        rcases e' with z | z
        · rw [z]; exact hel
        · rw [z]; exact hil
      rw [upd_ne (Nat.ne_of_lt hb')]
      exact (hf b hb).1
  done := by
    intro X hP hw hK hc i pins s σ H E I hf st hg
    subst hP hw hK
    obtain ⟨⟨old, he⟩, hit, hne, hai, hae⟩ := st
    obtain ⟨xs, hq, hx⟩ := hg
    obtain ⟨its, rv, p, hz⟩ := I.tuple hq
    obtain ⟨f0, f1, f2, f3, f4, f5⟩ := hf it (by simp)
    have hl := rv.length
    have hT : s.TypeIs (.ref e) "enumerate" := ⟨_, he, rfl⟩
    unfold pyNext
    refine wpAny_bind (wpAny_attempt (wpAny_callSpecial?_slot (name := Str.ofString "__next__") hT F.slot_enumerate_next
      (wpAny_call_entry F.slot_enumerate_next hT F.entry_enumerate_next ?_ (F.args_enumerate_next_1 _))))
    show wpAny _ _ (field (.ref e) 2 >>= _) _ _ _
    refine wpAny_bind (wpAny_field he rfl (x := .ref it) rfl ?_)
    refine wpAny_bind (wpAny_nextOf_tuple_end (I.ok.hd hc) hit p (by simp; omega) fun h' x he' hx' => ?_)
    obtain ⟨o, ho, hc'⟩ := hx'
    refine wpAny_bind (wpAny_isInstance (T := "StopIteration") (b := true) ⟨o, ho, hc'⟩ isSubtype_stop ?_)
    exact wpAny_pure ⟨rfl, I.turned (t' := s.toks) (fun b o hb q => he' b o hb q) f0 f1 f3 f4 f5⟩
  self := fun A i s Q E st h => let ⟨⟨_, he⟩, _⟩ := st; wpAny_pyIter_enum he h
/-- enumerate of a list or a tuple -/
def iEnumS (K : PySem.W.Frag) (ta : TA) : TI := fun σ H R => ta σ H fun vs H1 => ∃ a xs, vs = [.ref a] ∧ ((SqL K H1 a xs ∧ R (Ite K a) H1) ∨ (SqT K H1 a xs ∧ R (IteT K a) H1))
theorem pi_enumS {X : Cx} {e : Expr} {ta : TA} {p pos tpos : Pos} {elts : List Expr} {kk : Nat} (hg : Gl X "enumerate") (hm : X.mg "enumerate" = none) (ha : PA X [e] ta) (hs : starEach [e] X.env = [(false, eval e X.env)] := by rfl) :
    PI X (.Tuple elts kk tpos) (.Call (.Name "enumerate" p) [e] [] pos) (iEnumS X.K ta) := by
  refine ⟨fun pins s σ H R I h => ?_⟩
  refine Call_ (ld_blt I hg hm boot_enumerate (PyProof.Rows.callWith_type1 (thn (ha.run pos pins s σ H _ I h) fun us s1 ⟨vs, H1, I1, r1, q1⟩ => ?_) hs rfl))
  obtain ⟨a, xs, ex, q⟩ := q1
  subst ex
  cases r1 with
  | cons r rr =>
    cases rr
    cases r
    have fp : ∀ b ∈ [s1.heap.objs.size + 1, s1.heap.objs.size], FpOk X pins H1 b := fun b hb => by
      have e' : b = s1.heap.objs.size + 1 ∨ b = s1.heap.objs.size := by simpa using hb
      have hle : s1.heap.objs.size ≤ b := by
        rcases e' with z | z
        · rw [z]; exact Nat.le_add_right _ _
        · rw [z]; exact Nat.le_refl _
      exact I1.fpOk hle (I1.hok.fresh hle)
    rcases q with ⟨hq, q⟩ | ⟨hq, q⟩
    · obtain ⟨its, rv, p', hz⟩ := I1.list hq
      refine call_enumerate_list p'.isList fun h' he hit hsz hk => wpAny_pyIter_enum he ?_
      have I2 : Inv X pins σ H1 { s1 with heap := h' } := I1.kept (t' := s1.toks) hk
      exact ⟨s1.heap.objs.size + 1, [s1.heap.objs.size + 1, s1.heap.objs.size], _, _, H1, rfl, I2, turn_enum a (s1.heap.objs.size + 1) s1.heap.objs.size, ⟨⟨.none, he⟩, hit, Nat.succ_ne_self _⟩, fp, q⟩
    · obtain ⟨its, rv, p', hz⟩ := I1.tuple hq
      have hal : a < s1.heap.objs.size := p'.lt
      refine call_enumerate_tuple p' fun h' he hit hsz hk => wpAny_pyIter_enum he ?_
      have I2 : Inv X pins σ H1 { s1 with heap := h' } := I1.kept (t' := s1.toks) hk
      exact ⟨s1.heap.objs.size + 1, [s1.heap.objs.size + 1, s1.heap.objs.size], _, _, H1, rfl, I2, turn_enumT a (s1.heap.objs.size + 1) s1.heap.objs.size, ⟨⟨.none, he⟩, hit, Nat.succ_ne_self _, Nat.ne_of_lt hal, Nat.ne_of_lt (Nat.lt_succ_of_lt hal)⟩, fp, q⟩

theorem sum_rawT {prog : Program} {w : World} {A : Around} {E : Value → Shared → Prop} {s : Shared} {l : Addr} {its : List Value} {ns : List Int} {Q : Value → Shared → Prop} (hh : A.handled = none) (hl : s.heap.IsTuple l its.toArray) (hi : IntsAre its ns)
    (h : ∀ h' tk t', (∀ b o, s.heap.get? b = some o → h'.get? b = some o) → Q (.int ns.sum t') { s with heap := h', toks := tk }) : wpAny (model prog w) A (call (.builtin "sum") [.ref l]) Q E s := by
  obtain ⟨xs, e⟩ := hi.allInts.items
  have hn : numsOf (intItems xs).toList = ns := by rw [← e]; exact hi.numsOf
  rw [nums_intItems] at hn
  rw [e] at hl
  have hlt : l < s.heap.objs.size := by obtain ⟨_, e, _⟩ := hl; exact Heap.lt_size e
  refine call_sum_walkG (wpAny_pyIter_tuple hl ?_)
  refine ⟨_, _, _, _, _, _, numAt xs, rfl, Walks.tuple (A := A.in1) hh s.heap.objs.size l (Nat.ne_of_lt hlt) (intItems xs), ⟨⟨_, Heap.get?_push_size _ rfl, rfl, rfl⟩, hl.push _⟩, fun b hb => ?_, (fun _ _ => intItems_at), fun h' tk t' hk => ?_⟩
  · show b < (s.heap.push _).objs.size
    rw [Heap.size_push]
    have e' : b = s.heap.objs.size ∨ b = l := by simpa using hb
    rcases e' with z | z
    · rw [z]; exact Nat.lt_succ_self _
    · rw [z]; exact Nat.lt_succ_of_lt hlt
  · have := h h' tk t' (fun b o q => hk b o (fun z => by
      have e' : b = s.heap.objs.size := by simpa using z
      rw [e'] at q
      exact absurd (Heap.lt_size q) (Nat.lt_irrefl _)) (Heap.get?_push_of_some _ q))
    have e2 : (intItems xs).size = xs.size := by simp [intItems]
    rw [e2, preSum_eq, List.take_of_length_le (by simp), hn]; exact this
/-- sum(xs) of a list or tuple of ints -/
def rSumS (K : PySem.W.Frag) : List V → Hp → VK → Prop := fun vs H Q => ∃ (a : Addr) (ns : List Int), vs = [V.ref a] ∧ (SqL K H a (ns.map V.int) ∨ SqT K H a (ns.map V.int)) ∧ Q (.int ns.sum) H
theorem cr_sumS {X : Cx} (hc : X.calm = true) : CallR X (.builtin "sum") (rSumS X.K) := by
  intro pins s σ H vs us Q I r h
  obtain ⟨a, ns, rfl, hs, q⟩ := h
  rw [Vals.ref1 r]
  rcases hs with hs | hs
  · obtain ⟨its, rv, hl, _⟩ := I.list hs
    exact sum_raw (I.ok.hd hc) hl.isList rv.ints fun h' tk t' hk => ⟨.int _, H, I.kept hk, ⟨_, rfl⟩, q⟩
  · obtain ⟨its, rv, hl, _⟩ := I.tuple hs
    exact sum_rawT (I.ok.hd hc) hl rv.ints fun h' tk t' hk => ⟨.int _, H, I.kept hk, ⟨_, rfl⟩, q⟩
end TR
namespace PySem
namespace TRX
open PySem.W PySem.Calls PyProof.Rows PySem.HandSPX L2
/-- what the written part says of an error class x, at C, and of its __init__, at fI: the field f, the def st -/
structure ErrTxt (prog : Program) (K : Frag) (mg : Str → Option Value) (x f q : Str) (st : Stmt) (C fI : Addr) : Prop where
  gC : mg x = some (.ref C)
  cls : ∃ nm q N bs bm sn sub ab col dd k0 k1 k2 k3 k5, K.lookup C = some (excClassObj nm q C N bs bm true sn sub ab col dd k0 k1 k2 k3 k5 "ValueError.__new__") ∧ refsVE bm = true
  sa : findIn K (.ref C) "__setattr__" = some (some (.builtin "object.__setattr__"))
  noN : findIn K (.ref C) f = some none
  iC : findIn K (.ref C) "__init__" = some (some (.ref fI))
  tC : typeIn K (.ref fI) = some (.type "function")
  kC : keepIn K (.ref C) = true
  exC : subIn K (.ref C) (.type "BaseException") = some true
  tyC : typeIn K (.ref C) = some (.type "type")
  sVE : subIn K (.ref C) (.type "ValueError") = some true
  sC : mroIn K C (.ref C) = some true
  isC : (clsIn K C).isSome = true
  sup : ks_superIn K C C "__init__" = some (some (.builtin "ValueError.__init__"))
  exI : excInitIn K C [.type "ValueError", .type "Exception", .type "BaseException", .type "object"] "ValueError.__new__" = true
  anyS : nsIn K cStatics "thirdparty.any" = some none
  fn : ∃ (oc : Value) (od : Option Addr) (doc pm : Value) (an : Option Addr) (ct : Value) (osl : Array (Option Value)) (cc cda : Addr) (ccl : Value) (cdd : Option Addr) (vs : Array Value) (ccs : Array (Option Value)) (file : Str) (tf : Tok) (cl : Value) (cld : Option Addr) (csl : Array (Option Value)),
    K.lookup fI = some ⟨oc, od, .func (ksFn "__init__" q (defArgs st) (defBody st) (defScope st) .none .none doc pm an (.ref cda) ct cc), osl⟩ ∧ codeIn K (.ref cda) q = true ∧
    K.lookup cda = some ⟨ccl, cdd, .fields vs, ccs⟩ ∧ vs[2]? = some (.str file tf) ∧ ((prog.main.file : Str) == file) = true ∧ K.lookup cc = some ⟨cl, cld, .cell (some (.ref C)), csl⟩
/-- the shape of the def -/
structure ErrDef (f q : Str) (st : Stmt) (es : List Expr) : Prop where
  body : ∃ q1 q2 q3 q4 p0 p1 p2 p3 p4 p5, defBody st = [.Assign [.Attribute (.Name "self" q1) f q2] (.Name f q3) q4, .Expr (.Call (.Attribute (.Call (.Name "super" p0) [] [] p1) "__init__" p2) [.JoinedStr es p3] [] p4) p5] ∧
    ∀ env : Env, ∃ pl : Sem Bool, eval (.Call (.Attribute (.Call (.Name "super" p0) [] [] p1) "__init__" p2) [.JoinedStr es p3] [] p4) env = (do
      let ov ← attributeBase (.Call (.Name "super" p0) [] [] p1) "__init__" env (eval (.Call (.Name "super" p0) [] [] p1) env)
      standAt p2.atName
      let (f, first) ← holding [ov] (getMethod ov "__init__" pl)
      callWith p4 f first (backTo p4 (starEach [.JoinedStr es p3] env)) [])
  inter : ∀ env : Env, env.scope = defScope st → interactive env = false
  arg : ∃ ar, ((defArgs st).posonlyargs ++ (defArgs st).args).head? = some ar ∧ ar.arg = "self"
  kind : (defScope st).kind = .function
  co : (defScope st).isCoroutine = false
  gen : (defScope st).isGenerator = false
  cell : ∀ x ∈ (defScope st).names, x.2 ≠ .cell
  self : (defScope st).names.lookup ("self" : Str) = some .local
  fld : (defScope st).names.lookup f = some .local
  sup : (defScope st).names.lookup ("super" : Str) = some .globalImplicit
  cls : (defScope st).names.lookup ("__class__" : Str) = some .free
  binds : ∀ (s : Shared) (x v : Value) (doc pm : Value) (an : Option Addr) (cdv ct : Value) (cc : Addr), BindsTo s (ksFn "__init__" q (defArgs st) (defBody st) (defScope st) .none .none doc pm an cdv ct cc) ⟨[x, v], []⟩ [("self", x), (f, v)]
  ne : f ≠ "self"
  nd : (f == ("__debug__" : Str)) = false
  join : ∀ {prog : Program} {w : World} {A : Around} {E : Value → Shared → Prop} {s : Shared} {env : Env} {m : Str → Option Value} {i : Int} {t : Tok} {pos : Pos} {Q : Value → Shared → Prop}, env.scope = defScope st → s.heap.Ns env.locals m → m f = some (.int i t) → i.natAbs.log2 < 1920 →
    (∀ out tk k, Q (.str out tk) { s with toks := k }) → wpAny (model prog w) A (eval (.JoinedStr es pos) env) Q E s
/-- what __init__ leaves of a fresh exception at x -/
structure InitEnd (h h' : Heap) (x C dx t1 : Addr) (f : Str) (v : Value) : Prop where
  keep : ∀ b o, b ≠ x → h.get? b = some o → h'.get? b = some o
  obj : h'.get? x = some { cls := .ref C, dict := some dx, data := .fields #[.ref t1, .none, .none, .none, .bool false, .none] }
  dbig : h.objs.size ≤ dx
  dne : dx ≠ x
  ns : h'.Ns1 dx (fun y => if y = f then some v else none)
section
variable {prog : Program} {w : World} {A : Around} {E : Value → Shared → Prop} {R : Result → Shared → Prop} {s : Shared} {K : Frag} {mg : Str → Option Value} {C fI : Addr} {xn f q : Str} {st : Stmt} {es : List Expr}
theorem err_init (T : ErrTxt prog K mg xn f q st C fI) (D : ErrDef f q st es) (htop : (prog.main.scope.names.lookup ("super" : Str)).isSome = false) {x t0 : Addr} {i : Int} {t : Tok} (X : K.In s.heap) (hlim : s.heap.NoLimit)
    (G : s.heap.Ns mainGlobals mg) (B : ∃ mb, s.heap.Ns builtinsNs mb ∧ ∀ y : Str, y ≠ "__name__" → mb y = bootBuiltins y) (hsup : mg "super" = none)
    (hx : s.heap.get? x = some (excO C t0)) (hnx : K.lookup x = none) (hi : i.natAbs.log2 < 1920) (hroom : A.depth < recursionLimit)
    (hq : ∀ h' tk dx t1, InitEnd s.heap h' x C dx t1 f (.int i t) → R (.ok (.ret .none)) { s with heap := h', toks := tk }) :
    codeAny (model prog w) A (.call (.ref fI) ⟨[.ref x, .int i t], []⟩) R s := by
  obtain ⟨oc, od, doc, pm, an, ct, osl, cc, cda, ccl, cdd, vs, ccs, file, tf, cl, cld, csl, ho, hcd, hcda, hvs, hfile, hcc⟩ := T.fn
  obtain ⟨q1, q2, q3, q4, p0, p1, p2, p3, p4, p5, hB, hEv⟩ := D.body
  obtain ⟨ar, har, hars⟩ := D.arg
  obtain ⟨nm, qn, N, bs, bm, sn, sub, ab, col, dd, k0, k1, k2, k3, k5, hC, hbm⟩ := T.cls
  obtain ⟨mb, hmb, hmb2⟩ := B
  have hcl : clsIn K C = some { name := nm, bases := bs, mro := .ref C :: bm, ns := N, qualname := qn, hasDict := true, slotNames := sn, subclasses := sub, abstract := ab, collection := col, hasDel := false } := by unfold clsIn; rw [hC] <;> rfl
  refine ks_codeAny_call_defAt (fd := ksFn "__init__" q (defArgs st) (defBody st) (defScope st) .none .none doc pm an (.ref cda) ct cc) (body := defBody st) (binds := [("self", .ref x), (f, .int i t)]) hroom (X _ _ ho) rfl hlim (codeRec_of X hcd) rfl (D.binds s _ _ doc pm an _ ct cc) D.cell ?_ (fun h₁ hns k => ?_) D.co D.gen D.kind
  · intro y hy
    simp only [List.mem_cons, List.not_mem_nil, or_false] at hy
    rcases hy with rfl | rfl
    · exact D.self
    · exact D.fld
  show _root_.PySem.wpAt (model prog w) (A.deeper (ksEnv q (defScope st) s.heap.objs.size fI (.ref cda) cc)) (.func (defBody st) (ksEnv q (defScope st) s.heap.objs.size fI (.ref cda) cc)) (execs (defBody st) (ksEnv q (defScope st) s.heap.objs.size fI (.ref cda) cc)) _ _ _
  generalize hL : s.heap.objs.size = L at *
  have hxL : L ≠ x := by rw [← hL]; exact Nat.ne_of_gt (Heap.lt_size hx)
  have X₁ : K.In h₁ := X.keeps k
  have hx₁ := k _ _ hx
  have vself : (fun y => ([("self", Value.ref x), (f, Value.int i t)] : List (Str × Value)).reverse.lookup y) ("self" : Str) = some (Value.ref x) := by
    have e : (("self" : Str) == f) = false := beq_eq_false_iff_ne.mpr (Ne.symm D.ne)
    simp [List.lookup, e]
  have vf : (fun y => ([("self", Value.ref x), (f, Value.int i t)] : List (Str × Value)).reverse.lookup y) f = some (Value.int i t) := by
    simp [List.lookup]
  generalize (fun y => ([("self", Value.ref x), (f, Value.int i t)] : List (Str × Value)).reverse.lookup y) = m at *
  generalize hE : ksEnv q (defScope st) L fI (.ref cda) cc = env at *
  have es0 : env.scope = defScope st := by rw [← hE]
  have el : env.locals = L := by rw [← hE]
  have eg : env.globals = mainGlobals := by rw [← hE]
  have eb : env.builtins = builtinsNs := by rw [← hE]
  have hk : env.scope.kind = .function := by rw [es0]; exact D.kind
  have ki : ∀ y, env.kindOf y = (defScope st).names.lookup y := fun y => by rw [← hE]; rfl
  have kself : env.kindOf "self" = some .local := (ki _).trans D.self
  have kf : env.kindOf f = some .local := (ki _).trans D.fld
  have ksup : env.kindOf "super" = some .globalImplicit := (ki _).trans D.sup
  have kcls : env.kindOf "__class__" = some .free := (ki _).trans D.cls
  have hns' : h₁.Ns env.locals m := by rw [el]; exact hns
  rw [hB]
  refine ks_wpAt_execs_cons (wpAt_of_wpAny (plainObj_wpAny_Assign_Attribute ?_))
  refine wpAny_Name (wpAny_loadName_local hk kf hns' vf (wpAny_Name (wpAny_loadName_local hk kself hns' vself ?_))) D.nd
  refine set_plain X₁ (ox := excO C t0) (od := none) ⟨hx₁, rfl, rfl, trivial⟩ T.sa ?_
  refine exc_osa X₁ hx₁ hcl (show refsVE (.ref C :: bm) = true from hbm) rfl T.noN (fun h₃ tk₃ dx k₃ dn dne hx₃ hn₃ => ?_)
  show _root_.PySem.wpAt _ _ _ (execs _ env) _ _ _
  -- the second statement
  have zL : L < h₁.objs.size := hns.lt
  have hnL : h₃.Ns L m := by
    obtain ⟨oL, a1, a2, hoL, r⟩ := hns
    exact ⟨oL, a1, a2, k₃ _ _ hxL hoL, r⟩
  have hdx0 : s.heap.objs.size ≤ dx := by rw [hL]; exact Nat.le_of_lt (Nat.lt_of_lt_of_le zL dn)
  obtain ⟨oD, aD, bD, hoD, hrD⟩ := hn₃
  have hide : ∀ b o, (hideAll s.heap [x]).get? b = some o → b ≠ x := fun b o e z => by
    rw [z, hideAll_none [x] (List.mem_cons_self ..)] at e; cases e
  have F₀ : Fr (hideAll s.heap [x]) L h₃ m := ⟨hnL, fun b o e => k₃ b o (hide b o e) (k b o (of_hideAll _ e)), by rw [hideAll_size]; exact Nat.le_of_eq hL⟩
  have X₀ : K.In (hideAll s.heap [x]) := fun a o e => hideAll_get [x] (X a o e) (fun z => by
    rw [List.mem_singleton] at z
    rw [z, hnx] at e; cases e)
  have n0 : ∀ a, s.heap.objs.size ≤ a → (hideAll s.heap [x]).get? a = none := fun a ha => by
    cases e : (hideAll s.heap [x]).get? a with
    | none => rfl
    | some o => exact absurd (Heap.lt_size e) (by rw [hideAll_size]; exact Nat.not_lt.mpr ha)
  have N₀ : News (hideAll s.heap [x]) L h₃ [(x, excObj C t0 (some dx) .none), (dx, oD)] := fun p hp => by
    simp only [List.mem_cons, List.not_mem_nil, or_false] at hp
    rcases hp with rfl | rfl
    · exact ⟨hx₃, Ne.symm hxL, hideAll_none [x] (List.mem_cons_self ..)⟩
    · refine ⟨hoD, fun z => ?_, n0 _ hdx0⟩
      have z : dx = L := z
      rw [z] at dn
      exact absurd dn (Nat.not_le.mpr zL)
  have X₃ : K.In h₃ := X₀.keeps F₀.keep
  have ngx : ∀ {a : Addr} {mm}, s.heap.Ns a mm → a ≠ x := fun {a mm} h z => by
    obtain ⟨o, es, ep, ho, hd, _⟩ := h
    rw [z, hx] at ho
    cases ho
    cases hd
  have keep3 : ∀ b o, b ≠ x → s.heap.get? b = some o → h₃.get? b = some o := fun b o hb e => k₃ b o hb (k b o e)
  have G3 : h₃.Ns mainGlobals mg := by
    have := ngx G
    obtain ⟨o, es, ep, ho, hd⟩ := G
    exact ⟨o, es, ep, keep3 _ _ this ho, hd⟩
  have B3 : h₃.Ns builtinsNs mb := by
    have := ngx hmb
    obtain ⟨o, es, ep, ho, hd⟩ := hmb
    exact ⟨o, es, ep, keep3 _ _ this ho, hd⟩
  have I3 : InstAt h₃ x (excObj C t0 (some dx) .none) C (some oD) := ⟨hx₃, rfl, rfl, hoD⟩
  obtain ⟨pl, hpl⟩ := hEv env
  refine ks_wpAt_execs_cons (ks_wpAt_Expr_any (ks_wpAt_MethodCall (pl := pl) ?_ hpl) (D.inter env es0) rfl)
  rw [← hE]
  refine ks_wpAt_super_base (env := ksEnv q (defScope st) L fI (.ref cda) cc) (by rw [hE]; exact ksup) (by rw [hE]; exact kcls) rfl rfl (X₃ _ _ ho) rfl har rfl (X₃ _ _ hcda) rfl hvs hfile htop ?_
  rw [hE]
  refine ks_loadName_global hk ksup (loadGlobal_builtin (by rw [eg]; exact G3) hsup (by rw [eb]; exact B3) ((hmb2 "super" (by decide)).trans (by first | boot_by_name | rfl | kernel_rfl)) ⟨rfl, ?_⟩)
  refine wpAny_loadName_free hk kcls (by rw [← hE]; rfl) ⟨_, X₃ _ _ hcc, rfl⟩ ?_
  rw [hars]
  refine wpAny_loadName_local hk kself (by rw [el]; exact hnL) vself ?_
  have hC3 := X₃ _ _ hC
  refine ks_wpAny_isType_cls hC3 rfl ⟨rfl, ?_⟩
  refine ks_wpAny_call_super hC3 rfl I3.at_ I3.cls (fun c e => by cases e) (looks_mroIn X₃ T.sC) (fun h₄ e4 k4 => ?_)
  obtain ⟨F₄, N₄, l4⟩ := ks_newsPush (s := ⟨h₃, s.gens, s.drawn, tk₃, s.os⟩) F₀ N₀ rfl e4 k4
  have I4 : InstAt h₄ x (excObj C t0 (some dx) .none) C (some oD) := ⟨k4 _ _ hx₃, rfl, rfl, k4 _ _ hoD⟩
  refine kxs_method (x := x) (C := C) (D := C) (K := K) (news := _ :: _) (B := "ValueError") kxs_ValueError F₄ X₀ N₄ (List.mem_cons_self ..) I4 T.anyS T.sup T.sVE (by decide) (fun qq h₅ F₅ N₅ l5 => ?_)
  refine kxs_callWith1 N₅ (List.mem_cons_self ..) ?_ rfl rfl
  have e0 : starEach [Expr.JoinedStr es p3] env = (false, eval (.JoinedStr es p3) env) :: starEach [] env := rfl
  rw [e0]
  show wpAny _ _ (spliced ((false, eval (.JoinedStr es p3) env) :: backTo p4 (starEach [] env))) _ _ _
  refine spliced_cons (D.join es0 (by rw [el]; exact F₅.ns) vf hi fun out tk kk => spliced_nil ⟨kxs_at N₅ (List.mem_cons_self ..), ?_⟩)
  have hxm : (x, excObj C t0 (some dx) .none) ∈ [(x, excObj C t0 (some dx) .none), (dx, oD)] := List.mem_cons_self ..
  have U : UpdF x (excObj C t0 (some dx) .none) ((qq, kxs_mw "ValueError.__init__" x) :: (h₃.objs.size, ks_superObj C x C) :: [(x, excObj C t0 (some dx) .none), (dx, oD)]) (fun o' => (qq, kxs_mw "ValueError.__init__" x) :: (h₃.objs.size, ks_superObj C x C) :: (x, o') :: [(dx, oD)]) :=
    .tail (Ne.symm (Nat.ne_of_lt (l5 _ (List.mem_cons_of_mem _ hxm)))) (.tail (Ne.symm (Nat.ne_of_lt (l4 _ hxm))) (.head fun p hp => by
      rw [List.mem_singleton] at hp
      subst hp
      exact dne))
  refine kxs_call F₅ X₀ N₅ F.excBase_ValueError T.exI (List.mem_cons_self ..) U (by show 1 ≤ sizeLine; rw [sizeLine_eq]; omega) (fun t' h₆ F₆ N₆ _ => ?_)
  show _root_.PySem.wpAt _ _ _ (execs [] env) _ _ _
  refine wpAt_of_wpAny (wpAny_execs_nil ?_)
  have hxm' : (x, excObj C t' (some dx) .none) ∈ [(x, excObj C t' (some dx) .none), (dx, oD)] := List.mem_cons_self ..
  refine hq h₆ _ dx t' ⟨fun b o hb e => F₆.keep b o (hideAll_get [x] e (fun z => hb (List.mem_singleton.mp z))), (N₆ _ (List.mem_cons_of_mem _ (List.mem_cons_of_mem _ (List.mem_cons_of_mem _ hxm')))).1, hdx0, dne, ?_⟩
  exact ⟨oD, aD, bD, (N₆ (dx, oD) (List.mem_cons_of_mem _ (List.mem_cons_of_mem _ (List.mem_cons_of_mem _ (List.mem_cons_of_mem _ (List.mem_cons_self ..)))))).1, hrD⟩
/-- a made error -/
structure OwnMade (h h' : Heap) (e C d : Addr) (f : Str) (v : Value) : Prop where
  keep : ∀ b o, h.get? b = some o → h'.get? b = some o
  new : h.objs.size ≤ e
  obj : ∃ oe vs, h'.get? e = some oe ∧ oe.cls = .ref C ∧ oe.dict = some d ∧ oe.data = .fields vs ∧ vs[1]? = some .none
  dbig : h.objs.size ≤ d
  dne : d ≠ e
  ns : h'.Ns1 d (fun y => if y = f then some v else none)
theorem err_made (T : ErrTxt prog K mg xn f q st C fI) (D : ErrDef f q st es) (htop : (prog.main.scope.names.lookup ("super" : Str)).isSome = false) {i : Int} {t : Tok} (X : K.In s.heap) (hlim : s.heap.NoLimit)
    (G : s.heap.Ns mainGlobals mg) (B : ∃ mb, s.heap.Ns builtinsNs mb ∧ ∀ y : Str, y ≠ "__name__" → mb y = bootBuiltins y) (hsup : mg "super" = none) (hi : i.natAbs.log2 < 1920) (hroom : A.depth + 1 < recursionLimit)
    (hq : ∀ h' tk e d, OwnMade s.heap h' e C d f (.int i t) → R (.ok (.ret (.ref e))) { s with heap := h', toks := tk }) :
    codeAny (model prog w) A (.call (.ref C) ⟨[.int i t], []⟩) R s := by
  obtain ⟨nm, qn, N, bs, bm, sn, sub, ab, col, dd, k0, k1, k2, k3, k5, hC, hbm⟩ := T.cls
  obtain ⟨hp, g, dr, tk, os⟩ := s
  have k : ∀ b o, hp.get? b = some o → ((hp.push (kdv_tup [.int i t])).push (excO C hp.objs.size)).get? b = some o := fun b o e => Heap.get?_push_of_some _ (Heap.get?_push_of_some _ e)
  have hget : ((hp.push (kdv_tup [.int i t])).push (excO C hp.objs.size)).get? (hp.objs.size + 1) = some (excO C hp.objs.size) := by heap_get
  have hnx : K.lookup (hp.objs.size + 1) = none := by
    cases e : K.lookup (hp.objs.size + 1) with
    | none => rfl
    | some o =>
      have z : hp.get? (hp.objs.size + 1) = some o := X _ _ e
      exact absurd (Nat.lt_of_succ_lt (Heap.lt_size z)) (Nat.lt_irrefl _)
  obtain ⟨mb, hmb, hmb2⟩ := B
  refine call_own F.excBase_ValueError (fun X => refsVE_contains X bm hbm) (X _ _ hC) (looks_findIn X T.iC) (fun self => bind_fn X self T.tC) (by show 1 ≤ sizeLine; rw [sizeLine_eq]; omega) ?_
  refine err_init (s := ⟨(hp.push (kdv_tup [.int i t])).push (excO C hp.objs.size), g, dr, tk, os⟩) T D htop (X.keeps k) (hlim.keeps k) (G.keeps k) ⟨mb, hmb.keeps k, hmb2⟩ hsup hget hnx hi ?_ fun h' tk' dx t1 ⟨k', hx, dn, dne, hns⟩ => ?_
  · show A.depth + 1 < recursionLimit
    exact hroom
  · have old : ∀ b o, hp.get? b = some o → h'.get? b = some o := fun b o e => k' b o (Nat.ne_of_lt (Nat.lt_succ_of_lt (Heap.lt_size e))) (k b o e)
    have z : hp.objs.size + 1 + 1 ≤ dx := by
      first
        | (simpa only [Heap.size_push] using dn)
        | exact dn
        | (have q := dn; rw [Heap.size_push, Heap.size_push] at q; exact q)
    exact ⟨rfl, hq h' tk' (hp.objs.size + 1) dx ⟨old, Nat.le_succ _, ⟨_, _, hx, rfl, rfl, rfl, rfl⟩, Nat.le_trans (Nat.le_trans (Nat.le_succ _) (Nat.le_succ _)) z, dne, hns⟩⟩
end
end TRX
end PySem
namespace TR
open PySem PySem.Spec PyProof.Rows L2
theorem relO_one {f g : Str} {v : V} {v' : Value} (r : RelV v v') : RelO (List.lookup g [(f, v)]) (if g = f then some v' else none) := by
  by_cases hw : g = f
  · subst hw
    rw [if_pos rfl]
    have q : List.lookup g [(g, v)] = some v := by simp [List.lookup]
    rw [q]
    exact r
  · rw [if_neg hw]
    have qw : (g == f) = false := by simpa using hw
    have q2 : List.lookup g [(f, v)] = none := by simp [List.lookup, qw]
    rw [q2]
    trivial
def tMkE (C : Addr) (f : Str) (ta : TA) : L2.St → Hp → XK → Prop := fun σ H Q => ta σ H fun vs H1 => ∃ i : Int, vs = [.int i] ∧ i.natAbs.log2 < 1920 ∧ ∀ d, H1 d = none → Q (.ref C) (some d) (upd H1 d (.xd [(f, .int i)]))
def tRaiseE (C : Addr) (f : Str) (E : XK) (ta : TA) : TS := fun _ σ H => tMkE C f ta σ H E
section
variable {X : Cx} {C fI : Addr} {xn f q : Str} {st : Stmt} {es : List Expr}
theorem pmk_err {a : Expr} {ta : TA} {p pos : Pos} {k : Nat} (T : PySem.TRX.ErrTxt X.prog X.K X.mg xn f q st C fI) (D : PySem.TRX.ErrDef f q st es) (htop : (X.prog.main.scope.names.lookup ("super" : Str)).isSome = false) (hsup : X.mg "super" = none) (hr : Room k X.A) (ha : PA X [a] ta) (hg : Gl X xn)
    (hd : (xn == ("__debug__" : Str)) = false := by decide) (he : starEach (a :: []) X.env = (false, eval a X.env) :: starEach [] X.env := by rfl) (hpl : (backTo pos (starEach [] X.env)).any (·.1) = false := by rfl) :
    PMk X (.Call (.Name xn p) [a] [] pos) (tMkE C f ta) := by
  intro pins s σ H Q I h
  refine wpAny_Call_Name_kw (ld_glob I hg T.gC ?_ hd)
  refine PySem.W.callWith_K (h₀ := X.base) I.ok.mod.kin T.kC (thn (ha.run pos pins s σ H _ I h) fun us s1 hh => ?_) he hpl
  obtain ⟨vs, H1, I1, r1, i, ev, hi, q1⟩ := hh
  subst ev
  refine ⟨I1.kIn, ?_⟩
  cases r1 with
  | cons rv rn =>
    rename_i v' us'
    cases rn
    obtain ⟨t, rfl⟩ := rv
    show wpAny _ _ (call (.ref C) [.int i t]) _ _ _
    have hlim := I1.nolimit
    obtain ⟨mb, hmb, hmb2⟩ := I1.mod.blt
    have hG := I1.mod.glob.keeps I1.bk
    have hB := hmb.keeps I1.bk
    have hK := I1.kIn
    obtain ⟨hp, g, dr, tk, os⟩ := s1
    refine wpAny_call (PySem.TRX.err_made T D htop hK hlim hG ⟨mb, hB, hmb2⟩ hsup hi (by have := hr.dp; omega) fun h' tk' e d M => ?_)
    show MkP X pins σ Q (.ref e) ⟨h', g, dr, tk', os⟩
    obtain ⟨oe, fv, hoe, hc, hd, hdat, h1⟩ := M.obj
    have hns := M.ns
    obtain ⟨G', g1, g2⟩ := restrict h' fun b => decide (b ≠ e)
    have gk : ∀ b, b ≠ e → G'.get? b = h'.get? b := fun b hb => g1 b (decide_eq_true hb)
    have ge : G'.get? e = none := g2 e (by simp)
    have old : ∀ b o, hp.get? b = some o → G'.get? b = some o := fun b o q => (gk b (Nat.ne_of_lt (Nat.lt_of_lt_of_le (Heap.lt_size q) M.new))).trans (M.keep b o q)
    have ob : ObjOk X.prog X.w (upd H1 d (.xd [(f, .int i)])) G' d (.xd [(f, .int i)]) :=
      ⟨_, hns.at (fun o q => (gk d M.dne).trans q), fun g => relO_one (show RelV (.int i) (.int i t) from ⟨t, rfl⟩)⟩
    have J : Inv X pins σ (upd H1 d (.xd [(f, .int i)])) ⟨G', g, dr, tk', os⟩ := I1.laid (t' := tk') old M.dbig ob
    refine ⟨e, oe, fv, ⟨G', g, dr, tk', os⟩, _, .ref C, some d, rfl, J, fun b o q => ?_, ge, hoe, ⟨hc, hd⟩, hdat, h1, ?_, rfl, I1.bare, raises_own T.exC T.tyC, q1 d (I1.hok.fresh M.dbig)⟩
    · by_cases hb : b = e
      · have q' : G'.get? b = some o := q
        rw [hb, ge] at q'; cases q'
      · exact (gk b hb).symm.trans q
    · rw [upd_ne (Ne.symm M.dne)]
      exact I1.hok.fresh M.new
end
end TR
namespace TR
open PySem L2 PyProof.Rows
def top (i : Nat) : Stmt := PySem.Challenge.pw_twinrope_k14_whole_dead_stations_and_vis.main.body.getD i (.Pass ⟨0, 0, 0, 0⟩)
abbrev s_check_station : Stmt := top 24
abbrev N_check_station : List Str := ["net", "station"]
abbrev P_check_station : List Str := ["net", "station"]
theorem sc_check_station : FnScope N_check_station P_check_station (defScope s_check_station) := ⟨rfl, rfl, rfl, by decide +kernel, rfl, by decide +kernel, by decide +kernel⟩
abbrev s_check_rope : Stmt := top 25
abbrev N_check_rope : List Str := ["net", "rope"]
abbrev P_check_rope : List Str := ["net", "rope"]
theorem sc_check_rope : FnScope N_check_rope P_check_rope (defScope s_check_rope) := ⟨rfl, rfl, rfl, by decide +kernel, rfl, by decide +kernel, by decide +kernel⟩
abbrev s_check_colour : Stmt := top 26
abbrev N_check_colour : List Str := ["colour"]
abbrev P_check_colour : List Str := ["colour"]
theorem sc_check_colour : FnScope N_check_colour P_check_colour (defScope s_check_colour) := ⟨rfl, rfl, rfl, by decide +kernel, rfl, by decide +kernel, by decide +kernel⟩
abbrev s_check_rides : Stmt := top 27
abbrev N_check_rides : List Str := ["net", "rides", "rope", "colour"]
abbrev P_check_rides : List Str := ["net", "rides"]
theorem sc_check_rides : FnScope N_check_rides P_check_rides (defScope s_check_rides) := ⟨rfl, rfl, rfl, by decide +kernel, rfl, by decide +kernel, by decide +kernel⟩
abbrev s_check_cars : Stmt := top 28
abbrev N_check_cars : List Str := ["net", "cars", "place", "car"]
abbrev P_check_cars : List Str := ["net", "cars"]
theorem sc_check_cars : FnScope N_check_cars P_check_cars (defScope s_check_cars) := ⟨rfl, rfl, rfl, by decide +kernel, rfl, by decide +kernel, by decide +kernel⟩
abbrev s_check_guests : Stmt := top 30
abbrev N_check_guests : List Str := ["net", "part", "guests", "place", "count"]
abbrev P_check_guests : List Str := ["net", "part", "guests"]
theorem sc_check_guests : FnScope N_check_guests P_check_guests (defScope s_check_guests) := ⟨rfl, rfl, rfl, by decide +kernel, rfl, by decide +kernel, by decide +kernel⟩
abbrev s_Standing_init : Stmt := inClass (top 31) 1
abbrev N_Standing_init : List Str := ["self", "net", "reds", "blues", "cars"]
abbrev P_Standing_init : List Str := ["self", "net", "reds", "blues", "cars"]
theorem sc_Standing_init : FnScope N_Standing_init P_Standing_init (defScope s_Standing_init) := ⟨rfl, rfl, rfl, by decide +kernel, rfl, by decide +kernel, by decide +kernel⟩
abbrev s_Standing_red_car : Stmt := inClass (top 31) 6
abbrev N_Standing_red_car : List Str := ["self", "rope"]
abbrev P_Standing_red_car : List Str := ["self", "rope"]
theorem sc_Standing_red_car : FnScope N_Standing_red_car P_Standing_red_car (defScope s_Standing_red_car) := ⟨rfl, rfl, rfl, by decide +kernel, rfl, by decide +kernel, by decide +kernel⟩
abbrev s_Standing_blue_car : Stmt := inClass (top 31) 7
abbrev N_Standing_blue_car : List Str := ["self", "rope"]
abbrev P_Standing_blue_car : List Str := ["self", "rope"]
theorem sc_Standing_blue_car : FnScope N_Standing_blue_car P_Standing_blue_car (defScope s_Standing_blue_car) := ⟨rfl, rfl, rfl, by decide +kernel, rfl, by decide +kernel, by decide +kernel⟩
abbrev s_far_end : Stmt := top 32
abbrev N_far_end : List Str := ["net", "rope", "station", "first", "second"]
abbrev P_far_end : List Str := ["net", "rope", "station"]
theorem sc_far_end : FnScope N_far_end P_far_end (defScope s_far_end) := ⟨rfl, rfl, rfl, by decide +kernel, rfl, by decide +kernel, by decide +kernel⟩
abbrev s_car_station : Stmt := top 33
abbrev N_car_station : List Str := ["standing", "rope", "colour", "car"]
abbrev P_car_station : List Str := ["standing", "rope", "colour"]
theorem sc_car_station : FnScope N_car_station P_car_station (defScope s_car_station) := ⟨rfl, rfl, rfl, by decide +kernel, rfl, by decide +kernel, by decide +kernel⟩
abbrev s_guests_of : Stmt := top 34
abbrev N_guests_of : List Str := ["standing", "colour"]
abbrev P_guests_of : List Str := ["standing", "colour"]
theorem sc_guests_of : FnScope N_guests_of P_guests_of (defScope s_guests_of) := ⟨rfl, rfl, rfl, by decide +kernel, rfl, by decide +kernel, by decide +kernel⟩
abbrev s_moved : Stmt := top 35
abbrev N_moved : List Str := ["standing", "rope", "colour", "start", "end", "guests", "cars"]
abbrev P_moved : List Str := ["standing", "rope", "colour"]
theorem sc_moved : FnScope N_moved P_moved (defScope s_moved) := ⟨rfl, rfl, rfl, by decide +kernel, rfl, by decide +kernel, by decide +kernel⟩
abbrev s_is_possible : Stmt := top 37
abbrev N_is_possible : List Str := ["standing", "rope", "colour"]
abbrev P_is_possible : List Str := ["standing", "rope", "colour"]
theorem sc_is_possible : FnScope N_is_possible P_is_possible (defScope s_is_possible) := ⟨rfl, rfl, rfl, by decide +kernel, rfl, by decide +kernel, by decide +kernel⟩
abbrev s_walk : Stmt := top 38
abbrev N_walk : List Str := ["standing", "rides", "here", "standings", "step", "rope", "colour"]
abbrev P_walk : List Str := ["standing", "rides"]
theorem sc_walk : FnScope N_walk P_walk (defScope s_walk) := ⟨rfl, rfl, rfl, by decide +kernel, rfl, by decide +kernel, by decide +kernel⟩
abbrev s_end_of : Stmt := top 39
abbrev N_end_of : List Str := ["standing", "back", "rides", "order"]
abbrev P_end_of : List Str := ["standing", "back", "rides"]
theorem sc_end_of : FnScope N_end_of P_end_of (defScope s_end_of) := ⟨rfl, rfl, rfl, by decide +kernel, rfl, by decide +kernel, by decide +kernel⟩
abbrev s_arrows_of : Stmt := top 14
abbrev N_arrows_of : List Str := ["standing", "rope"]
abbrev P_arrows_of : List Str := ["standing"]
theorem sc_arrows_of : FnScope N_arrows_of P_arrows_of (defScope s_arrows_of) := ⟨rfl, rfl, rfl, by decide +kernel, rfl, by decide +kernel, by decide +kernel⟩
abbrev s_reached_from : Stmt := top 15
abbrev N_reached_from : List Str := ["pairs", "stations", "starts", "followers", "tail", "head", "reached", "waiting", "start", "_", "station"]
abbrev P_reached_from : List Str := ["pairs", "stations", "starts"]
theorem sc_reached_from : FnScope N_reached_from P_reached_from (defScope s_reached_from) := ⟨rfl, rfl, rfl, by decide +kernel, rfl, by decide +kernel, by decide +kernel⟩
abbrev s_red_reach : Stmt := top 16
abbrev N_red_reach : List Str := ["standing", "starts", "station", "many"]
abbrev P_red_reach : List Str := ["standing"]
theorem sc_red_reach : FnScope N_red_reach P_red_reach (defScope s_red_reach) := ⟨rfl, rfl, rfl, by decide +kernel, rfl, by decide +kernel, by decide +kernel⟩
abbrev s_blue_reach : Stmt := top 17
abbrev N_blue_reach : List Str := ["standing", "starts", "against", "station", "many", "tail", "head"]
abbrev P_blue_reach : List Str := ["standing"]
theorem sc_blue_reach : FnScope N_blue_reach P_blue_reach (defScope s_blue_reach) := ⟨rfl, rfl, rfl, by decide +kernel, rfl, by decide +kernel, by decide +kernel⟩
abbrev s_can_meet : Stmt := top 18
abbrev N_can_meet : List Str := ["standing", "station"]
abbrev P_can_meet : List Str := ["standing"]
theorem sc_can_meet : FnScope N_can_meet P_can_meet (defScope s_can_meet) := ⟨rfl, rfl, rfl, by decide +kernel, rfl, by decide +kernel, by decide +kernel⟩
abbrev s_lengths_to_blue : Stmt := top 19
abbrev N_lengths_to_blue : List Str := ["standing", "pairs", "lengths", "length", "tail", "head", "many"]
abbrev P_lengths_to_blue : List Str := ["standing", "pairs"]
theorem sc_lengths_to_blue : FnScope N_lengths_to_blue P_lengths_to_blue (defScope s_lengths_to_blue) := ⟨rfl, rfl, rfl, by decide +kernel, rfl, by decide +kernel, by decide +kernel⟩
abbrev s_least_ropes : Stmt := top 20
abbrev N_least_ropes : List Str := ["pairs", "lengths", "starts", "ropes", "places", "remaining", "rope", "tail", "head"]
abbrev P_least_ropes : List Str := ["pairs", "lengths", "starts"]
theorem sc_least_ropes : FnScope N_least_ropes P_least_ropes (defScope s_least_ropes) := ⟨rfl, rfl, rfl, by decide +kernel, rfl, by decide +kernel, by decide +kernel⟩
abbrev s_meeting_way : Stmt := top 21
abbrev N_meeting_way : List Str := ["standing", "pairs", "lengths", "starts", "station", "many", "shortest", "nearest", "ropes"]
abbrev P_meeting_way : List Str := ["standing"]
theorem sc_meeting_way : FnScope N_meeting_way P_meeting_way (defScope s_meeting_way) := ⟨rfl, rfl, rfl, by decide +kernel, rfl, by decide +kernel, by decide +kernel⟩
abbrev s_dead_stations : Stmt := top 22
abbrev N_dead_stations : List Str := ["standing", "reds", "blues", "reached", "station"]
abbrev P_dead_stations : List Str := ["standing"]
theorem sc_dead_stations : FnScope N_dead_stations P_dead_stations (defScope s_dead_stations) := ⟨rfl, rfl, rfl, by decide +kernel, rfl, by decide +kernel, by decide +kernel⟩
abbrev s_ropes_back : Stmt := top 41
abbrev N_ropes_back : List Str := ["came", "place", "ropes", "rope"]
abbrev P_ropes_back : List Str := ["came", "place"]
theorem sc_ropes_back : FnScope N_ropes_back P_ropes_back (defScope s_ropes_back) := ⟨rfl, rfl, rfl, by decide +kernel, rfl, by decide +kernel, by decide +kernel⟩
abbrev s_shortest_way : Stmt := top 42
abbrev N_shortest_way : List Str := ["steps", "starts", "goals", "came", "waiting", "start", "at", "place", "rope", "tail", "head"]
abbrev P_shortest_way : List Str := ["steps", "starts", "goals"]
theorem sc_shortest_way : FnScope N_shortest_way P_shortest_way (defScope s_shortest_way) := ⟨rfl, rfl, rfl, by decide +kernel, rfl, by decide +kernel, by decide +kernel⟩
abbrev s_lone_row : Stmt := top 43
abbrev N_lone_row : List Str := ["standing", "colour", "station", "steps", "rope", "red_place", "blue_place", "starts", "ropes", "place", "many"]
abbrev P_lone_row : List Str := ["standing", "colour", "station"]
theorem sc_lone_row : FnScope N_lone_row P_lone_row (defScope s_lone_row) := ⟨rfl, rfl, rfl, by decide +kernel, rfl, by decide +kernel, by decide +kernel⟩
abbrev s_pair_row : Stmt := top 44
abbrev N_pair_row : List Str := ["standing", "goals", "net", "place", "meeting_ropes", "row", "met", "rope", "steps", "one", "two"]
abbrev P_pair_row : List Str := ["standing", "goals"]
theorem sc_pair_row : FnScope N_pair_row P_pair_row (defScope s_pair_row) := ⟨rfl, rfl, rfl, by decide +kernel, rfl, by decide +kernel, by decide +kernel⟩
abbrev s_visit_row : Stmt := top 45
abbrev N_visit_row : List Str := ["standing", "station", "colour", "row", "pair_row", "_"]
abbrev P_visit_row : List Str := ["standing", "station"]
theorem sc_visit_row : FnScope N_visit_row P_visit_row (defScope s_visit_row) := ⟨rfl, rfl, rfl, by decide +kernel, rfl, by decide +kernel, by decide +kernel⟩
abbrev s_run_rope : Stmt := top 46
abbrev N_run_rope : List Str := ["standing", "rope", "red_place", "blue_place", "colour", "place", "row", "pair_row"]
abbrev P_run_rope : List Str := ["standing", "rope"]
theorem sc_run_rope : FnScope N_run_rope P_run_rope (defScope s_run_rope) := ⟨rfl, rfl, rfl, by decide +kernel, rfl, by decide +kernel, by decide +kernel⟩
abbrev s_cut_off : Stmt := top 48
abbrev N_cut_off : List Str := ["stations", "ropes", "joined", "growing", "first", "second", "station"]
abbrev P_cut_off : List Str := ["stations", "ropes"]
theorem sc_cut_off : FnScope N_cut_off P_cut_off (defScope s_cut_off) := ⟨rfl, rfl, rfl, by decide +kernel, rfl, by decide +kernel, by decide +kernel⟩
abbrev s_check_size : Stmt := top 49
abbrev N_check_size : List Str := ["stations", "least"]
abbrev P_check_size : List Str := ["stations", "least"]
theorem sc_check_size : FnScope N_check_size P_check_size (defScope s_check_size) := ⟨rfl, rfl, rfl, by decide +kernel, rfl, by decide +kernel, by decide +kernel⟩
abbrev s_Net_init : Stmt := inClass (top 50) 2
abbrev N_Net_init : List Str := ["self", "stations", "ropes", "place", "first", "second", "missing"]
abbrev P_Net_init : List Str := ["self", "stations", "ropes"]
theorem sc_Net_init : FnScope N_Net_init P_Net_init (defScope s_Net_init) := ⟨rfl, rfl, rfl, by decide +kernel, rfl, by decide +kernel, by decide +kernel⟩
abbrev s_l_integer : Stmt := top 52
abbrev N_l_integer : List Str := ["_law_value"]
abbrev P_l_integer : List Str := ["_law_value"]
theorem sc_l_integer : FnScope N_l_integer P_l_integer (defScope s_l_integer) := ⟨rfl, rfl, rfl, by decide +kernel, rfl, by decide +kernel, by decide +kernel⟩
abbrev s_l_bag : Stmt := top 53
abbrev N_l_bag : List Str := ["_law_script", "_law_k", "_law_seed", "_law_item"]
abbrev P_l_bag : List Str := ["_law_script", "_law_k"]
theorem sc_l_bag : FnScope N_l_bag P_l_bag (defScope s_l_bag) := ⟨rfl, rfl, rfl, by decide +kernel, rfl, by decide +kernel, by decide +kernel⟩
abbrev s_l_take : Stmt := top 54
abbrev N_l_take : List Str := ["_law_bag_here", "_law_many", "_law_drawn", "_law_one", "_law_two"]
abbrev P_l_take : List Str := ["_law_bag_here", "_law_many"]
theorem sc_l_take : FnScope N_l_take P_l_take (defScope s_l_take) := ⟨rfl, rfl, rfl, by decide +kernel, rfl, by decide +kernel, by decide +kernel⟩
abbrev s_l_order : Stmt := top 55
abbrev N_l_order : List Str := ["_law_bag_here", "_law_many", "_law_order_here", "_law_k", "_law_at"]
abbrev P_l_order : List Str := ["_law_bag_here", "_law_many"]
theorem sc_l_order : FnScope N_l_order P_l_order (defScope s_l_order) := ⟨rfl, rfl, rfl, by decide +kernel, rfl, by decide +kernel, by decide +kernel⟩
abbrev s_l_add_rope : Stmt := top 56
abbrev N_l_add_rope : List Str := ["_law_bag_here", "_law_net_here", "_law_near", "_law_far", "_law_at", "_law_turned"]
abbrev P_l_add_rope : List Str := ["_law_bag_here", "_law_net_here", "_law_near", "_law_far"]
theorem sc_l_add_rope : FnScope N_l_add_rope P_l_add_rope (defScope s_l_add_rope) := ⟨rfl, rfl, rfl, by decide +kernel, rfl, by decide +kernel, by decide +kernel⟩
abbrev s_l_net : Stmt := top 57
abbrev N_l_net : List Str := ["_law_bag_here", "_law_stations", "_law_further", "_law_order_here", "_law_shape", "_law_chain", "_law_net_here", "_law_k", "_law_near", "_law_one", "_law_gap"]
abbrev P_l_net : List Str := ["_law_bag_here", "_law_stations", "_law_further"]
theorem sc_l_net : FnScope N_l_net P_l_net (defScope s_l_net) := ⟨rfl, rfl, rfl, by decide +kernel, rfl, by decide +kernel, by decide +kernel⟩
abbrev s_l_guests : Stmt := top 58
abbrev N_l_guests : List Str := ["_law_bag_here", "_law_order_here", "_law_most", "_law_counts", "_law_sort", "_law_many", "_law_k", "_law_at", "_law_dress", "_law_guests_here"]
abbrev P_l_guests : List Str := ["_law_bag_here", "_law_order_here", "_law_most"]
theorem sc_l_guests : FnScope N_l_guests P_l_guests (defScope s_l_guests) := ⟨rfl, rfl, rfl, by decide +kernel, rfl, by decide +kernel, by decide +kernel⟩
abbrev s_l_cars : Stmt := top 59
abbrev N_l_cars : List Str := ["_law_bag_here", "_law_ropes", "_law_ahead", "_law_counts", "_law_way", "_law_cars_here", "_law_k", "_law_pair", "_law_car"]
abbrev P_l_cars : List Str := ["_law_bag_here", "_law_ropes", "_law_ahead", "_law_counts"]
theorem sc_l_cars : FnScope N_l_cars P_l_cars (defScope s_l_cars) := ⟨rfl, rfl, rfl, by decide +kernel, rfl, by decide +kernel, by decide +kernel⟩
abbrev s_l_world : Stmt := top 60
abbrev N_l_world : List Str := ["_law_bag_here", "_law_stations", "_law_most", "_law_net_here", "_law_counts", "_law_cars_here"]
abbrev P_l_world : List Str := ["_law_bag_here"]
theorem sc_l_world : FnScope N_l_world P_l_world (defScope s_l_world) := ⟨rfl, rfl, rfl, by decide +kernel, rfl, by decide +kernel, by decide +kernel⟩
abbrev s_l_standing : Stmt := top 61
abbrev N_l_standing : List Str := ["_law_world_here", "_law_state", "_law_net_here"]
abbrev P_l_standing : List Str := ["_law_world_here", "_law_state"]
theorem sc_l_standing : FnScope N_l_standing P_l_standing (defScope s_l_standing) := ⟨rfl, rfl, rfl, by decide +kernel, rfl, by decide +kernel, by decide +kernel⟩
abbrev s_l_shows : Stmt := top 62
abbrev N_l_shows : List Str := ["_law_standing_here", "_law_state", "_law_told", "_law_k", "_law_at"]
abbrev P_l_shows : List Str := ["_law_standing_here", "_law_state"]
theorem sc_l_shows : FnScope N_l_shows P_l_shows (defScope s_l_shows) := ⟨rfl, rfl, rfl, by decide +kernel, rfl, by decide +kernel, by decide +kernel⟩
abbrev s_l_arrows : Stmt := top 63
abbrev N_l_arrows : List Str := ["_law_ropes", "_law_cars_here", "_law_k"]
abbrev P_l_arrows : List Str := ["_law_ropes", "_law_cars_here"]
theorem sc_l_arrows : FnScope N_l_arrows P_l_arrows (defScope s_l_arrows) := ⟨rfl, rfl, rfl, by decide +kernel, rfl, by decide +kernel, by decide +kernel⟩
abbrev s_l_rides : Stmt := top 64
abbrev N_l_rides : List Str := ["_law_ropes", "_law_state", "_law_arrows_here", "_law_found", "_law_rope"]
abbrev P_l_rides : List Str := ["_law_ropes", "_law_state"]
theorem sc_l_rides : FnScope N_l_rides P_l_rides (defScope s_l_rides) := ⟨rfl, rfl, rfl, by decide +kernel, rfl, by decide +kernel, by decide +kernel⟩
abbrev s_l_ride : Stmt := top 65
abbrev N_l_ride : List Str := ["_law_ropes", "_law_state", "_law_ride_here", "_law_pair", "_law_side", "_law_counts", "_law_guests_here", "_law_cars_here"]
abbrev P_l_ride : List Str := ["_law_ropes", "_law_state", "_law_ride_here"]
theorem sc_l_ride : FnScope N_l_ride P_l_ride (defScope s_l_ride) := ⟨rfl, rfl, rfl, by decide +kernel, rfl, by decide +kernel, by decide +kernel⟩
abbrev s_l_search : Stmt := top 66
abbrev N_l_search : List Str := ["_law_world_here", "_law_state", "_law_most", "_law_found", "_law_known", "_law_at", "_law_here", "_law_ride_here", "_law_there"]
abbrev P_l_search : List Str := ["_law_world_here", "_law_state", "_law_most"]
theorem sc_l_search : FnScope N_l_search P_l_search (defScope s_l_search) := ⟨rfl, rfl, rfl, by decide +kernel, rfl, by decide +kernel, by decide +kernel⟩
abbrev s_l_reach : Stmt := top 67
abbrev N_l_reach : List Str := ["_law_stations", "_law_pairs", "_law_starts", "_law_known", "_law_turn", "_law_grown", "_law_pair", "_law_count", "_law_at"]
abbrev P_l_reach : List Str := ["_law_stations", "_law_pairs", "_law_starts"]
theorem sc_l_reach : FnScope N_l_reach P_l_reach (defScope s_l_reach) := ⟨rfl, rfl, rfl, by decide +kernel, rfl, by decide +kernel, by decide +kernel⟩
abbrev s_l_reaches : Stmt := top 68
abbrev N_l_reaches : List Str := ["_law_world_here", "_law_state", "_law_arrows_here", "_law_back", "_law_pair"]
abbrev P_l_reaches : List Str := ["_law_world_here", "_law_state"]
theorem sc_l_reaches : FnScope N_l_reaches P_l_reaches (defScope s_l_reaches) := ⟨rfl, rfl, rfl, by decide +kernel, rfl, by decide +kernel, by decide +kernel⟩
abbrev s_l_alive : Stmt := top 69
abbrev N_l_alive : List Str := ["_law_world_here", "_law_state", "_law_found", "_law_stations", "_law_ropes", "_law_there", "_law_at", "_law_ride_here", "_law_reaches_here", "_law_meets", "_law_arrows_here", "_law_rope"]
abbrev P_l_alive : List Str := ["_law_world_here", "_law_state", "_law_found"]
theorem sc_l_alive : FnScope N_l_alive P_l_alive (defScope s_l_alive) := ⟨rfl, rfl, rfl, by decide +kernel, rfl, by decide +kernel, by decide +kernel⟩
abbrev s_l_is_list : Stmt := top 70
abbrev N_l_is_list : List Str := ["_law_told", "_law_due", "_law_k"]
abbrev P_l_is_list : List Str := ["_law_told", "_law_due"]
theorem sc_l_is_list : FnScope N_l_is_list P_l_is_list (defScope s_l_is_list) := ⟨rfl, rfl, rfl, by decide +kernel, rfl, by decide +kernel, by decide +kernel⟩
abbrev s_l_are_rides : Stmt := top 71
abbrev N_l_are_rides : List Str := ["_law_told", "_law_ropes", "_law_ride_here"]
abbrev P_l_are_rides : List Str := ["_law_told", "_law_ropes"]
theorem sc_l_are_rides : FnScope N_l_are_rides P_l_are_rides (defScope s_l_are_rides) := ⟨rfl, rfl, rfl, by decide +kernel, rfl, by decide +kernel, by decide +kernel⟩
abbrev s_l_end : Stmt := top 72
abbrev N_l_end : List Str := ["_law_ropes", "_law_state", "_law_rides_here", "_law_ride_here"]
abbrev P_l_end : List Str := ["_law_ropes", "_law_state", "_law_rides_here"]
theorem sc_l_end : FnScope N_l_end P_l_end (defScope s_l_end) := ⟨rfl, rfl, rfl, by decide +kernel, rfl, by decide +kernel, by decide +kernel⟩
abbrev s_l_visit : Stmt := top 73
abbrev N_l_visit : List Str := ["_law_world_here", "_law_standing_here", "_law_at", "_law_alive_here", "_law_rides_here", "fault", "_law_last", "_law_kept"]
abbrev P_l_visit : List Str := ["_law_world_here", "_law_standing_here", "_law_at", "_law_alive_here"]
theorem sc_l_visit : FnScope N_l_visit P_l_visit (defScope s_l_visit) := ⟨rfl, rfl, rfl, by decide +kernel, rfl, by decide +kernel, by decide +kernel⟩
abbrev s_l_run : Stmt := top 74
abbrev N_l_run : List Str := ["_law_world_here", "_law_standing_here", "_law_rope", "_law_alive_here", "_law_rides_here", "fault", "_law_kept", "_law_k"]
abbrev P_l_run : List Str := ["_law_world_here", "_law_standing_here", "_law_rope", "_law_alive_here"]
theorem sc_l_run : FnScope N_l_run P_l_run (defScope s_l_run) := ⟨rfl, rfl, rfl, by decide +kernel, rfl, by decide +kernel, by decide +kernel⟩
abbrev s_l_no_station : Stmt := top 75
abbrev N_l_no_station : List Str := ["_law_standing_here", "_law_station", "_law_told", "fault"]
abbrev P_l_no_station : List Str := ["_law_standing_here", "_law_station"]
theorem sc_l_no_station : FnScope N_l_no_station P_l_no_station (defScope s_l_no_station) := ⟨rfl, rfl, rfl, by decide +kernel, rfl, by decide +kernel, by decide +kernel⟩
abbrev s_l_no_rope : Stmt := top 76
abbrev N_l_no_rope : List Str := ["_law_standing_here", "_law_rope", "_law_told", "fault"]
abbrev P_l_no_rope : List Str := ["_law_standing_here", "_law_rope"]
theorem sc_l_no_rope : FnScope N_l_no_rope P_l_no_rope (defScope s_l_no_rope) := ⟨rfl, rfl, rfl, by decide +kernel, rfl, by decide +kernel, by decide +kernel⟩
abbrev s_law : Stmt := top 77
abbrev N_law : List Str := ["_law_script", "_law_world_here", "_law_bag_here", "_law_standing_here", "_law_alive_here", "_law_dead", "_law_far", "_law_past", "_law_told", "_law_at", "_law_rope"]
abbrev P_law : List Str := ["_law_script"]
theorem sc_law : FnScope N_law P_law (defScope s_law) := ⟨rfl, rfl, rfl, by decide +kernel, rfl, by decide +kernel, by decide +kernel⟩
/-- a def of the module as it stands behind the top -/
structure Dn (K : PySem.W.Frag) (mg : Str → Option Value) (x : Str) (st : Stmt) (ps : List Str) : Type where
  f : Addr
  fd : FuncData
  F : Fun K x x st f fd
  b : Binds K fd ps []
  g : mg x = some (.ref f)
/-- a method -/
structure Me (K : PySem.W.Frag) (C : Addr) (x qual : Str) (st : Stmt) (ps : List Str) : Type where
  f : Addr
  fd : FuncData
  F : Fun K x qual st f fd
  b : Binds K fd ps []
  m : Meth K C x f
structure NetC (K : PySem.W.Frag) (mg : Str → Option Value) : Type where
  C : Addr
  cl : Cls K C
  g : mg "Net" = some (.ref C)
  init : Me K C "__init__" "Net.__init__" s_Net_init P_Net_init
  mkc : Mk K C init.f
  nStations : NoAttr K C "stations"
  nRopes : NoAttr K C "ropes"
  uR : Value
  mostRopes : Con K C "MOST_ROPES" (.int 40) uR
  mc : Value
  rd : ClX.CRead K C mc
  uS : Value
  mostStations : ClX.CVal K C mc "MOST_STATIONS" (.int 24) uS
structure StaC (K : PySem.W.Frag) (mg : Str → Option Value) : Type where
  C : Addr
  cl : Cls K C
  g : mg "Standing" = some (.ref C)
  init : Me K C "__init__" "Standing.__init__" s_Standing_init P_Standing_init
  mkc : Mk K C init.f
  nNet : NoAttr K C "net"
  nReds : NoAttr K C "reds"
  nBlues : NoAttr K C "blues"
  nCars : NoAttr K C "cars"
  red_car : Me K C "red_car" "Standing.red_car" s_Standing_red_car P_Standing_red_car
  blue_car : Me K C "blue_car" "Standing.blue_car" s_Standing_blue_car P_Standing_blue_car
  uG : Value
  mostGuests : Con K C "MOST_GUESTS" (.int 30) uG
  ha : PySem.W.findIn K (.ref C) "__class__" = some (some (.builtin "object.__class__"))
  hn : PySem.W.specialIn K (.builtin "object.__class__") "__get__" = some (some (.builtin "getset_descriptor.__get__"))
  htk : PySem.W.takesIn K (.builtin "object.__class__") = some true
  hm : PySem.W.mroIn K C (.type "object") = some true
  kit : PySem.W.kitOne K (.ref C) (.ref C) = some true
abbrev PW : Program := PySem.Challenge.pw_twinrope_k14_whole_dead_stations_and_vis
/-- an own error class -/
structure ErrC (K : PySem.W.Frag) (mg : Str → Option Value) (x f q : Str) (st : Stmt) : Type where
  C : Addr
  fI : Addr
  g : mg x = some (.ref C)
  t : PySem.TRX.ErrTxt PW K mg x f q st C fI
  xf : XfC K C
  xc : ExcC K C
  em : PySem.W.exmOne K (.ref C) (.ref C) = some true
  nf : PySem.W.findIn K (.ref C) f = some none
structure RopeC (mg : Str → Option Value) : Type where
  C : Addr
  g : mg "RopeError" = some (.ref C)
def errDef (i : Nat) : Stmt := inClass (top i) 0
structure Txt (K : PySem.W.Frag) (mg : Str → Option Value) : Type where
  Net : NetC K mg
  Standing : StaC K mg
  RopeError : RopeC mg
  b_super : mg "super" = none
  NoStation : ErrC K mg "NoStation" "number" "NoStation.__init__" (errDef 6)
  NoRope : ErrC K mg "NoRope" "number" "NoRope.__init__" (errDef 7)
  Dead : ErrC K mg "Dead" "station" "Dead.__init__" (errDef 11)
  Still : ErrC K mg "Still" "rope" "Still.__init__" (errDef 12)
  k_NoStation_RopeError : PySem.W.kitOne K (.ref NoStation.C) (.ref RopeError.C) = some true
  k_NoStation_Dead : PySem.W.kitOne K (.ref NoStation.C) (.ref Dead.C) = some false
  k_NoRope_RopeError : PySem.W.kitOne K (.ref NoRope.C) (.ref RopeError.C) = some true
  k_NoRope_Still : PySem.W.kitOne K (.ref NoRope.C) (.ref Still.C) = some false
  k_Dead_RopeError : PySem.W.kitOne K (.ref Dead.C) (.ref RopeError.C) = some true
  k_Dead_Still : PySem.W.kitOne K (.ref Dead.C) (.ref Still.C) = some false
  k_Still_RopeError : PySem.W.kitOne K (.ref Still.C) (.ref RopeError.C) = some true
  k_Still_Dead : PySem.W.kitOne K (.ref Still.C) (.ref Dead.C) = some false
  k_Dead_ValueError : PySem.W.kitOne K (.ref Dead.C) (.type "ValueError") = some true
  k_Still_ValueError : PySem.W.kitOne K (.ref Still.C) (.type "ValueError") = some true
  b_len : mg "len" = none
  b_isinstance : mg "isinstance" = none
  b_any : mg "any" = none
  b_min : mg "min" = none
  b_sum : mg "sum" = none
  b_list : mg "list" = none
  b_tuple : mg "tuple" = none
  b_int : mg "int" = none
  b_range : mg "range" = none
  b_enumerate : mg "enumerate" = none
  b_bool : mg "bool" = none
  b_str : mg "str" = none
  b_ValueError : mg "ValueError" = none
  check_station : Dn K mg "check_station" s_check_station P_check_station
  check_rope : Dn K mg "check_rope" s_check_rope P_check_rope
  check_colour : Dn K mg "check_colour" s_check_colour P_check_colour
  check_rides : Dn K mg "check_rides" s_check_rides P_check_rides
  check_cars : Dn K mg "check_cars" s_check_cars P_check_cars
  check_guests : Dn K mg "_check_guests" s_check_guests P_check_guests
  far_end : Dn K mg "far_end" s_far_end P_far_end
  car_station : Dn K mg "car_station" s_car_station P_car_station
  guests_of : Dn K mg "guests_of" s_guests_of P_guests_of
  moved : Dn K mg "moved" s_moved P_moved
  is_possible : Dn K mg "_is_possible" s_is_possible P_is_possible
  walk : Dn K mg "walk" s_walk P_walk
  arrows_of : Dn K mg "arrows_of" s_arrows_of P_arrows_of
  reached_from : Dn K mg "reached_from" s_reached_from P_reached_from
  red_reach : Dn K mg "red_reach" s_red_reach P_red_reach
  blue_reach : Dn K mg "blue_reach" s_blue_reach P_blue_reach
  can_meet : Dn K mg "can_meet" s_can_meet P_can_meet
  lengths_to_blue : Dn K mg "_lengths_to_blue" s_lengths_to_blue P_lengths_to_blue
  least_ropes : Dn K mg "_least_ropes" s_least_ropes P_least_ropes
  meeting_way : Dn K mg "meeting_way" s_meeting_way P_meeting_way
  dead_stations : Dn K mg "dead_stations" s_dead_stations P_dead_stations
  ropes_back : Dn K mg "_ropes_back" s_ropes_back P_ropes_back
  shortest_way : Dn K mg "_shortest_way" s_shortest_way P_shortest_way
  lone_row : Dn K mg "_lone_row" s_lone_row P_lone_row
  pair_row : Dn K mg "_pair_row" s_pair_row P_pair_row
  visit_row : Dn K mg "visit_row" s_visit_row P_visit_row
  run_rope : Dn K mg "run_rope" s_run_rope P_run_rope
  cut_off : Dn K mg "_cut_off" s_cut_off P_cut_off
  check_size : Dn K mg "_check_size" s_check_size P_check_size
  l_integer : Dn K mg "_law_integer" s_l_integer P_l_integer
  l_bag : Dn K mg "_law_bag" s_l_bag P_l_bag
  l_take : Dn K mg "_law_take" s_l_take P_l_take
  l_order : Dn K mg "_law_order" s_l_order P_l_order
  l_add_rope : Dn K mg "_law_add_rope" s_l_add_rope P_l_add_rope
  l_net : Dn K mg "_law_net" s_l_net P_l_net
  l_guests : Dn K mg "_law_guests" s_l_guests P_l_guests
  l_cars : Dn K mg "_law_cars" s_l_cars P_l_cars
  l_world : Dn K mg "_law_world" s_l_world P_l_world
  l_standing : Dn K mg "_law_standing" s_l_standing P_l_standing
  l_shows : Dn K mg "_law_shows" s_l_shows P_l_shows
  l_arrows : Dn K mg "_law_arrows" s_l_arrows P_l_arrows
  l_rides : Dn K mg "_law_rides" s_l_rides P_l_rides
  l_ride : Dn K mg "_law_ride" s_l_ride P_l_ride
  l_search : Dn K mg "_law_search" s_l_search P_l_search
  l_reach : Dn K mg "_law_reach" s_l_reach P_l_reach
  l_reaches : Dn K mg "_law_reaches" s_l_reaches P_l_reaches
  l_alive : Dn K mg "_law_alive" s_l_alive P_l_alive
  l_is_list : Dn K mg "_law_is_list" s_l_is_list P_l_is_list
  l_are_rides : Dn K mg "_law_are_rides" s_l_are_rides P_l_are_rides
  l_end : Dn K mg "_law_end" s_l_end P_l_end
  l_visit : Dn K mg "_law_visit" s_l_visit P_l_visit
  l_run : Dn K mg "_law_run" s_l_run P_l_run
  l_no_station : Dn K mg "_law_no_station" s_l_no_station P_l_no_station
  l_no_rope : Dn K mg "_law_no_rope" s_l_no_rope P_l_no_rope
  law : Dn K mg "law" s_law P_law
  end_of_f : Addr
  end_of_g : mg "end_of" = some (.ref end_of_f)
  end_of_kp : PySem.W.keepIn K (.ref end_of_f) = true
  end_of_fd : FuncData
  end_of_F : FunD K "end_of" "end_of" (defArgs s_end_of) (defBody s_end_of) (defScope s_end_of) [] [("back", .bl false)] end_of_f end_of_fd
end TR
namespace TR
open PySem PySem.W PySem.Calls PyProof.Rows L2
def joinEs (st : Stmt) : List Expr := match defBody st with
  | [_, .Expr (.Call _ [.JoinedStr es _] _ _) _] => es
  | _ => []
theorem text_len {i : Int} (h : i.natAbs.log2 < 1920) : (PySem.Str.ofString (toString i)).length ≤ 1921 := int_text_len_1921 h
theorem len_app {a b : Str} : (a ++ b).length = a.length + b.length := PySem.Str.length_append ..
section
variable {prog : Program} {w : World} {A : Around} {E : Value → Shared → Prop} {s : Shared} {env : Env} {m : Str → Option Value} {i : Int} {t : Tok} {pos p1 p2 p3 p4 : Pos} {Q : Value → Shared → Prop} {f a b : Str} {j j2 : Nat}
theorem join2 (hk : env.scope.kind = .function) (hf : env.kindOf f = some .local) (hns : s.heap.Ns env.locals m) (hm : m f = some (.int i t)) (hi : i.natAbs.log2 < 1920) (ha : a.length ≤ 1000) (hd : (f == ("__debug__" : Str)) = false)
    (q : ∀ out tk k, Q (.str out tk) { s with toks := k }) : wpAny (model prog w) A (eval (.JoinedStr [.Constant (.str a) j p1, .FormattedValue (.Name f p2) (-1) none p3] pos) env) Q E s := by
  refine wpAny_JoinedStr (rest := []) ?_
  show wpAny _ _ (eval (.Constant (.str a) j p1) env) _ _ _
  have hl := text_len hi
  refine Constant_str ⟨_, _, rfl, ?_, ?_⟩
  · rw [len_app, sizeLine_eq]; show 0 + _ ≤ _; omega
  show wpAny _ _ (eval (.FormattedValue (.Name f p2) (-1) none p3) env) _ _ _
  refine wpAny_FormattedValue_plain (wpAny_Name (wpAny_loadName_local hk hf hns hm ?_) hd)
  have hz : ((Str.empty ++ a) ++ Str.ofString (toString i)).length ≤ sizeLine := by
    rw [len_app, len_app, sizeLine_eq]
    have : Str.empty.length = 0 := rfl
    omega
  refine wpAny_formatField_int hi ⟨_, _, rfl, hz, hz, ?_⟩
  exact q _ _ _
theorem join3 (hk : env.scope.kind = .function) (hf : env.kindOf f = some .local) (hns : s.heap.Ns env.locals m) (hm : m f = some (.int i t)) (hi : i.natAbs.log2 < 1920) (ha : a.length ≤ 1000) (hb : b.length ≤ 1000) (hd : (f == ("__debug__" : Str)) = false)
    (q : ∀ out tk k, Q (.str out tk) { s with toks := k }) : wpAny (model prog w) A (eval (.JoinedStr [.Constant (.str a) j p1, .FormattedValue (.Name f p2) (-1) none p3, .Constant (.str b) j2 p4] pos) env) Q E s := by
  refine wpAny_JoinedStr (rest := [_]) ?_
  show wpAny _ _ (eval (.Constant (.str a) j p1) env) _ _ _
  have hl := text_len hi
  have h0 : Str.empty.length = 0 := rfl
  refine Constant_str ⟨_, _, rfl, ?_, ?_⟩
  · rw [len_app, sizeLine_eq]; omega
  show wpAny _ _ (eval (.FormattedValue (.Name f p2) (-1) none p3) env) _ _ _
  refine wpAny_FormattedValue_plain (wpAny_Name (wpAny_loadName_local hk hf hns hm ?_) hd)
  have hz : ((Str.empty ++ a) ++ Str.ofString (toString i)).length ≤ sizeLine := by
    rw [len_app, len_app, sizeLine_eq]; omega
  have hz2 : (((Str.empty ++ a) ++ Str.ofString (toString i)) ++ b).length ≤ sizeLine := by
    rw [len_app, len_app, len_app, sizeLine_eq]; omega
  refine wpAny_formatField_int hi ⟨_, _, rfl, hz, ?_⟩
  show wpAny _ _ (eval (.Constant (.str b) j2 p4) env) _ _ _
  exact Constant_str ⟨_, _, rfl, hz2, hz2, q _ _ _⟩
end
theorem er_NoStation : PySem.TRX.ErrDef "number" "NoStation.__init__" (errDef 6) (joinEs (errDef 6)) :=
  ⟨⟨_, _, _, _, _, _, _, _, _, _, rfl, fun _ => ⟨_, rfl⟩⟩, fun env h => by unfold interactive; rw [h]; rfl, ⟨_, rfl, rfl⟩, rfl, rfl, rfl, by decide +kernel, rfl, rfl, rfl, rfl, fun _ _ _ _ _ _ _ _ _ => .of_eq rfl, by decide +kernel, by decide +kernel, fun {prog w A E s env m i t pos Q} h hns hm hi q => join2 (f := "number") (by rw [h]; rfl) (by unfold Env.kindOf; rw [h]; rfl) hns hm hi (by decide +kernel) (by decide +kernel) q⟩
theorem er_NoRope : PySem.TRX.ErrDef "number" "NoRope.__init__" (errDef 7) (joinEs (errDef 7)) :=
  ⟨⟨_, _, _, _, _, _, _, _, _, _, rfl, fun _ => ⟨_, rfl⟩⟩, fun env h => by unfold interactive; rw [h]; rfl, ⟨_, rfl, rfl⟩, rfl, rfl, rfl, by decide +kernel, rfl, rfl, rfl, rfl, fun _ _ _ _ _ _ _ _ _ => .of_eq rfl, by decide +kernel, by decide +kernel, fun {prog w A E s env m i t pos Q} h hns hm hi q => join2 (f := "number") (by rw [h]; rfl) (by unfold Env.kindOf; rw [h]; rfl) hns hm hi (by decide +kernel) (by decide +kernel) q⟩
theorem er_Dead : PySem.TRX.ErrDef "station" "Dead.__init__" (errDef 11) (joinEs (errDef 11)) :=
  ⟨⟨_, _, _, _, _, _, _, _, _, _, rfl, fun _ => ⟨_, rfl⟩⟩, fun env h => by unfold interactive; rw [h]; rfl, ⟨_, rfl, rfl⟩, rfl, rfl, rfl, by decide +kernel, rfl, rfl, rfl, rfl, fun _ _ _ _ _ _ _ _ _ => .of_eq rfl, by decide +kernel, by decide +kernel, fun {prog w A E s env m i t pos Q} h hns hm hi q => join3 (f := "station") (by rw [h]; rfl) (by unfold Env.kindOf; rw [h]; rfl) hns hm hi (by decide +kernel) (by decide +kernel) (by decide +kernel) q⟩
theorem er_Still : PySem.TRX.ErrDef "rope" "Still.__init__" (errDef 12) (joinEs (errDef 12)) :=
  ⟨⟨_, _, _, _, _, _, _, _, _, _, rfl, fun _ => ⟨_, rfl⟩⟩, fun env h => by unfold interactive; rw [h]; rfl, ⟨_, rfl, rfl⟩, rfl, rfl, rfl, by decide +kernel, rfl, rfl, rfl, rfl, fun _ _ _ _ _ _ _ _ _ => .of_eq rfl, by decide +kernel, by decide +kernel, fun {prog w A E s env m i t pos Q} h hns hm hi q => join3 (f := "rope") (by rw [h]; rfl) (by unfold Env.kindOf; rw [h]; rfl) hns hm hi (by decide +kernel) (by decide +kernel) (by decide +kernel) q⟩
theorem top_super : (PW.main.scope.names.lookup ("super" : Str)).isSome = false := by decide +kernel
end TR
namespace PySem
namespace TRX
open PySem.W PySem.Calls PyProof.Rows PySem.HandSPX L2
def clsOkB (K : Frag) (C : Addr) : Bool := match K.lookup C with
  | some ⟨.type "type", _, .cls cd, sl⟩ => (match cd.mro, sl.toList with
    | .ref C' :: bm, [_, _, _, _, some (.builtin n), _] => C' == C && (n == "ValueError.__new__" && (!cd.hasDel && (cd.hasDict && refsVE bm)))
    | _, _ => false)
  | _ => false
theorem clsOk_of {K : Frag} {C : Addr} (h : clsOkB K C = true) : ∃ nm q N bs bm sn sub ab col dd k0 k1 k2 k3 k5, K.lookup C = some (excClassObj nm q C N bs bm true sn sub ab col dd k0 k1 k2 k3 k5 "ValueError.__new__") ∧ refsVE bm = true := by
  unfold clsOkB at h
  split at h
  · rename_i dd cd sl ho
    split at h
    · rename_i C' bm k0 k1 k2 k3 n k5 hm hs
      simp only [Bool.and_eq_true, beq_iff_eq, Bool.not_eq_true'] at h
      obtain ⟨rfl, rfl, hdel, hdict, hv⟩ := h
      obtain ⟨nm, bs, mro, ns, qn, hd, sn, sub, ab, col, del⟩ := cd
      dsimp only at hm hdel hdict
      subst hm hdel hdict
      have hsl : sl = #[k0, k1, k2, k3, some (.builtin "ValueError.__new__"), k5] := by
        obtain ⟨l⟩ := sl
        simp only at hs
        rw [hs]
      subst hsl
      exact ⟨nm, qn, ns, bs, bm, sn, sub, ab, col, dd, k0, k1, k2, k3, k5, ho, hv⟩
    · cases h
  · cases h
/-- an own error's __init__: what is compared .. -/
abbrev FnE : Type := Option (Str × Str × Arguments × FuncBody × Scope × Addr × List Str × Addr)
def fnE (K : Frag) (f : Addr) : FnE := match K.lookup f with
  | some ⟨_, _, .func fd, _⟩ => some (fd.name, fd.qualname, fd.params, fd.body, fd.scope, fd.globals, fd.closure.map (·.1), fd.builtins)
  | _ => none
abbrev fnEv (q : Str) (st : Stmt) : FnE := some (("__init__" : Str), q, defArgs st, FuncBody.stmts (defBody st), defScope st, mainGlobals, ([("__class__" : Str)] : List Str), builtinsNs)
/-- .. and what is looked at -/
def fnEok (K : Frag) (C f : Addr) (q file : Str) : Bool := match K.lookup f with
  | some ⟨_, _, .func fd, _⟩ => (match fd.defaults, fd.kwdefaults with
      | .none, .none => true
      | _, _ => false) && (codeIn K fd.code q && ((match fd.closure with
      | [(_, cc)] => (match K.lookup cc with
        | some ⟨_, _, .cell (some (.ref C')), _⟩ => C' == C
        | _ => false)
      | _ => false) && (match fd.code with
      | .ref cda => (match K.lookup cda with
        | some ⟨_, _, .fields vs, _⟩ => (match (vs : Array Value).toList[2]? with
          | some (Value.str fl _) => file == fl
          | _ => false)
        | _ => false)
      | _ => false)))
  | _ => false
theorem fnE_of {K : Frag} {C f : Addr} {q file : Str} {st : Stmt} (e : fnE K f = fnEv q st) (h : fnEok K C f q file = true) :
    ∃ (oc : Value) (od : Option Addr) (doc pm : Value) (an : Option Addr) (ct : Value) (osl : Array (Option Value)) (cc cda : Addr) (ccl : Value) (cdd : Option Addr) (vs : Array Value) (ccs : Array (Option Value)) (fl : Str) (tf : Tok) (cl : Value) (cld : Option Addr) (csl : Array (Option Value)),
    K.lookup f = some ⟨oc, od, .func (ksFn "__init__" q (defArgs st) (defBody st) (defScope st) .none .none doc pm an (.ref cda) ct cc), osl⟩ ∧ codeIn K (.ref cda) q = true ∧
    K.lookup cda = some ⟨ccl, cdd, .fields vs, ccs⟩ ∧ vs[2]? = some (.str fl tf) ∧ (file == fl) = true ∧ K.lookup cc = some ⟨cl, cld, .cell (some (.ref C)), csl⟩ := by
  unfold fnEok at h
  unfold fnE at e
  split at h
  · rename_i oc od fd osl ho
    rw [ho] at e
    obtain ⟨n1, n2, n3, n4, n5, n6, n7, n8, n9, n10, n11, n12, n13, n14, n15⟩ := fd
    have e2 : (some (n1, n2, n3, n4, n5, n6, n7.map (·.1), n15) : FnE) = some (("__init__" : Str), q, defArgs st, FuncBody.stmts (defBody st), defScope st, mainGlobals, (["__class__"] : List Str), builtinsNs) := e
    simp only [Option.some.injEq, Prod.mk.injEq] at e2
    obtain ⟨h1, h2, h3, h4, h5, h6, h7, h8⟩ := e2
    subst h1 h2 h3 h4 h5 h6 h8
    rw [Bool.and_eq_true, Bool.and_eq_true, Bool.and_eq_true] at h
    obtain ⟨a1, a2, a3, a4⟩ := h
    have hn7 : ∃ cc, n7 = [(("__class__" : Str), cc)] := by
      cases n7 with
      | nil => cases h7
      | cons p l =>
        obtain ⟨nm, cc⟩ := p
        cases l with
        | nil =>
          have h7' : nm = ("__class__" : Str) := by
            have z : [nm] = [("__class__" : Str)] := h7
            injection z
          exact ⟨cc, by rw [h7']⟩
        | cons p' l' =>
          have z : nm :: p'.1 :: l'.map (·.1) = [("__class__" : Str)] := h7
          injection z with _ z
          cases z
    obtain ⟨cc, hn7⟩ := hn7
    subst hn7
    dsimp only at a1 a2 a3 a4
    split at a1
    · split at a3
      · rename_i cl cld C' csl hcc
        split at a4
        · rename_i cda
          split at a4
          · rename_i ccl cdd vs ccs hcd
            split at a4
            · rename_i fl tf hv
              have hc : C' = C := by simpa using a3
              subst hc
              exact ⟨oc, od, n10, n11, n12, n14, osl, cc, cda, ccl, cdd, vs, ccs, fl, tf, cl, cld, csl, ho, a2, hcd, by rw [← hv, Array.getElem?_toList], a4, hcc⟩
            · cases a4
          · cases a4
        · cases a4
      · cases a3
    · cases a1
  · cases h
def eqV (a b : Option Value) : Bool := decide (a = b)
def eqB (a b : Option Bool) : Bool := decide (a = b)
/-- an own error class with such an __init__ -/
def errBs (K : Frag) (x f q file : Str) : List Bool := [
  He.eqO (nsIn K mainGlobals x) (some (some (.ref (He.ga K x)))), clsOkB K (He.ga K x), He.eqO (findIn K (.ref (He.ga K x)) "__setattr__") (some (some (.builtin "object.__setattr__"))),
  He.eqO (findIn K (.ref (He.ga K x)) f) (some none), He.eqO (findIn K (.ref (He.ga K x)) "__init__") (some (some (.ref (He.ma K (He.ga K x) "__init__")))),
  eqV (typeIn K (.ref (He.ma K (He.ga K x) "__init__"))) (some (.type "function")), keepIn K (.ref (He.ga K x)), eqB (subIn K (.ref (He.ga K x)) (.type "BaseException")) (some true),
  eqV (typeIn K (.ref (He.ga K x))) (some (.type "type")), eqB (subIn K (.ref (He.ga K x)) (.type "ValueError")) (some true), eqB (mroIn K (He.ga K x) (.ref (He.ga K x))) (some true), (clsIn K (He.ga K x)).isSome,
  He.eqO (ks_superIn K (He.ga K x) (He.ga K x) "__init__") (some (some (.builtin "ValueError.__init__"))), excInitIn K (He.ga K x) [.type "ValueError", .type "Exception", .type "BaseException", .type "object"] "ValueError.__new__",
  He.eqO (nsIn K cStatics "thirdparty.any") (some none), fnEok K (He.ga K x) (He.ma K (He.ga K x) "__init__") q file, xfB K (He.ga K x),
  He.eqO (findIn K (.ref (He.ga K x)) "__class__") (some (some (.builtin "object.__class__"))), He.eqO (specialIn K (.builtin "object.__class__") "__get__") (some (some (.builtin "getset_descriptor.__get__"))),
  eqB (takesIn K (.builtin "object.__class__")) (some true), eqB (mroIn K (He.ga K x) (.type "object")) (some true), eqB (exmOne K (.ref (He.ga K x)) (.ref (He.ga K x))) (some true)]
theorem all_at {l : List Bool} (h : l.all id = true) {b : Bool} (i : Nat) (e : l[i]? = some b) : b = true := List.all_eq_true.mp h b (List.mem_of_getElem? e)
def errE (K : Frag) (x : Str) : FnE := fnE K (He.ma K (He.ga K x) "__init__")
end TRX
end PySem
namespace TR
open PySem PySem.Spec PyProof.Rows L2
open PySem.TRX (errBs errE FnE fnEv all_at eqV eqB)
section
variable {K : PySem.W.Frag} {h : Heap} {mg : Str → Option Value} {x f q file : Str} {st : Stmt}
def mkErr (X : K.In h) (G : h.Ns mainGlobals mg) (c : (errBs K x f q PW.main.file).all id = true) (e : errE K x = fnEv q st) : ErrC K mg x f q st where
  C := He.ga K x
  fI := He.ma K (He.ga K x) "__init__"
  g := PySem.W.mg_of X G (He.eqO_ok (all_at c 0 rfl))
  t := { gC := PySem.W.mg_of X G (He.eqO_ok (all_at c 0 rfl)), cls := PySem.TRX.clsOk_of (all_at c 1 rfl), sa := He.eqO_ok (all_at c 2 rfl), noN := He.eqO_ok (all_at c 3 rfl), iC := He.eqO_ok (all_at c 4 rfl),
         tC := of_decide_eq_true (all_at c 5 rfl), kC := all_at c 6 rfl, exC := of_decide_eq_true (all_at c 7 rfl), tyC := of_decide_eq_true (all_at c 8 rfl), sVE := of_decide_eq_true (all_at c 9 rfl), sC := of_decide_eq_true (all_at c 10 rfl), isC := all_at c 11 rfl,
         sup := He.eqO_ok (all_at c 12 rfl), exI := all_at c 13 rfl, anyS := He.eqO_ok (all_at c 14 rfl), fn := PySem.TRX.fnE_of e (all_at c 15 rfl) }
  xf := xfB_ok (all_at c 16 rfl)
  xc := ⟨(xfB_ok (all_at c 16 rfl)).ga, (xfB_ok (all_at c 16 rfl)).gg, (xfB_ok (all_at c 16 rfl)).exC, (xfB_ok (all_at c 16 rfl)).hdC, He.eqO_ok (all_at c 17 rfl), He.eqO_ok (all_at c 18 rfl), of_decide_eq_true (all_at c 19 rfl), of_decide_eq_true (all_at c 20 rfl)⟩
  em := of_decide_eq_true (all_at c 21 rfl)
  nf := He.eqO_ok (all_at c 3 rfl)
def conB (K : PySem.W.Frag) (C : Addr) (f : Str) (i : Int) : Bool := match PySem.W.findIn K (.ref C) f with
  | some (some u) => He.relB (.int i) u && (He.eqO (PySem.W.specialIn K u "__get__") (some none) && !PySem.W.copiedNames.contains f)
  | _ => false
theorem con_of {C : Addr} {i : Int} (h : conB K C f i = true) : ∃ u, Con K C f (.int i) u := by
  unfold conB at h
  split at h
  · rename_i u hu
    obtain ⟨h1, h⟩ := Bool.and_eq_true_iff.mp h
    obtain ⟨h2, h3⟩ := Bool.and_eq_true_iff.mp h
    exact ⟨u, hu, He.relB_ok h1, He.eqO_ok h2, by simpa using h3⟩
  · cases h
def cvB (K : PySem.W.Frag) (C : Addr) (f : Str) (i : Int) : Bool := match PySem.W.findCls K (.ref C) (.type "type") f with
  | some (.val u) => He.relB (.int i) u
  | _ => false
theorem cv_of {C : Addr} {i : Int} (h : cvB K C f i = true) : ∃ u, ClX.CVal K C (.type "type") f (.int i) u := by
  unfold cvB at h
  split at h
  · rename_i u hu
    exact ⟨u, hu, He.relB_ok h⟩
  · cases h
def crdB (K : PySem.W.Frag) (C : Addr) : Bool := PySem.W.readsIn K C (.type "type") && He.eqO (PySem.W.specialIn K (.ref C) "__getattribute__") (some (some (.builtin "type.__getattribute__")))
theorem crd_of {C : Addr} (h : crdB K C = true) : ClX.CRead K C (.type "type") := ⟨(Bool.and_eq_true_iff.mp h).1, He.eqO_ok (Bool.and_eq_true_iff.mp h).2⟩
theorem fun_of {x q : Str} {st : Stmt} {f : Addr} {fd : FuncData} (F : FunD K x q (defArgs st) (defBody st) (defScope st) [] [] f fd) : Fun K x q st f fd := by
  obtain ⟨oc, od, dV, kV, doc, pm, an, cdv, ct, osl, e, lk, hcd, hD, _⟩ := F.ex
  rcases hD with ⟨_, h⟩ | ⟨h, _⟩
  · subst h
    exact ⟨⟨oc, od, kV, doc, pm, an, cdv, ct, osl, e, lk, hcd⟩, F.kp⟩
  · exact absurd rfl h
noncomputable def mkDn {x : Str} {st : Stmt} {ps : List Str} {f : Addr} (F : ∃ fd, FunD K x x (defArgs st) (defBody st) (defScope st) [] [] f fd)
    (hb : ∀ (kV doc pm : Value) (an : Option Addr) (cdv ct : Value) (us : List Value), us.length = ps.length → bindArgs (PySem.W.fnOf x x (defArgs st) (defBody st) (defScope st) .none kV doc pm an cdv ct) ⟨us, []⟩ = pure (ps.zip us)) (g : mg x = some (.ref f)) : Dn K mg x st ps :=
  ⟨f, F.choose, fun_of F.choose_spec, (fun_of F.choose_spec).binds hb, g⟩
noncomputable def mkMe {C : Addr} {x q : Str} {st : Stmt} {ps : List Str} {f : Addr} (F : ∃ fd, FunD K x q (defArgs st) (defBody st) (defScope st) [] [] f fd)
    (hb : ∀ (kV doc pm : Value) (an : Option Addr) (cdv ct : Value) (us : List Value), us.length = ps.length → bindArgs (PySem.W.fnOf x q (defArgs st) (defBody st) (defScope st) .none kV doc pm an cdv ct) ⟨us, []⟩ = pure (ps.zip us)) (m : Meth K C x f) : Me K C x q st ps :=
  ⟨f, F.choose, fun_of F.choose_spec, (fun_of F.choose_spec).binds hb, m⟩
end
abbrev AlX : Type := Bool × List He.FnW × List FnE
def obsX (fa : List He.Fa) (fn : List He.DefD) (er : List Str) (ck : PySem.W.Frag → List Bool) (K : PySem.W.Frag) : AlX := ((fa.all fun f => f.ok K) && ((fn.all fun d => d.ok K) && (ck K).all id), fn.map fun d => He.fnW K d.at_, er.map fun x => errE K x)
def valX (fn : List He.DefD) (er : List FnE) : AlX := (true, fn.map He.DefD.val, er)
/-- what an object names, as far as the facts go -/
def refsX (o : Obj) : List Addr := match o.data with
  | .dict es _ => es.toList.flatMap fun e => He.refV e.val
  | .func fd => He.refV fd.code ++ (He.refV fd.kwdefaults ++ fd.closure.map fun p => p.2)
  | .cls cd => cd.ns :: cd.mro.flatMap He.refV
  | .cell (some v) => He.refV v
  | _ => []
def refsAt (g : Addr → Option Obj) (a : Addr) : List Addr := match g a with
  | some o => refsX o
  | none => []
def walkX (g : Addr → Option Obj) : Nat → List Addr → List Addr → List Addr
  | 0, old, new => old ++ new
  | n + 1, old, new => walkX g n (old ++ new) (((new.flatMap (refsAt g)).filter fun a => !(old ++ new).contains a).eraseDups)
def obsXG (n : Nat) (fa : List He.Fa) (fn : List He.DefD) (er : List Str) (ck : PySem.W.Frag → List Bool) (g : Addr → Option Obj) : AlX := obsX fa fn er ck (He.frG g (walkX g n [cStatics] [mainGlobals]))
def hookX (n : Nat) (fa : List He.Fa) (fn : List He.DefD) (er : List Str) (ev : List FnE) (ck : PySem.W.Frag → List Bool) : PySem.W.Hook where
  α := AlX
  obs := fun s => obsXG n fa fn er ck s.heap.get?
  val := fun _ => valX fn ev
  says := fun _ h => ∃ K : PySem.W.Frag, K.In h ∧ obsX fa fn er ck K = valX fn ev
  of := fun _ _ e => ⟨_, He.frG_in, e⟩
  keeps := fun _ _ _ ⟨K, hK, c⟩ k => ⟨K, PySem.W.Frag.In.keeps hK k, c⟩
theorem obsXG_eq {n : Nat} {fa : List He.Fa} {fn : List He.DefD} {er : List Str} {ev : List FnE} {ck : PySem.W.Frag → List Bool} {g : Addr → Option Obj} {s : Shared} (h : ∀ a, g a = s.heap.get? a) : obsXG n fa fn er ck g = (hookX n fa fn er ev ck).obs s := by
  have e : g = s.heap.get? := funext h
  rw [e] <;> rfl
section
variable {fa : List He.Fa} {fn : List He.DefD} {er : List Str} {ev : List FnE} {ck : PySem.W.Frag → List Bool} {K : PySem.W.Frag}
theorem sx_fact (c : obsX fa fn er ck K = valX fn ev) (i : Nat) {f : He.Fa} (h : fa[i]? = some f) : f.ok K = true := by
  have c1 := (Bool.and_eq_true_iff.mp (show ((fa.all fun f => f.ok K) && ((fn.all fun d => d.ok K) && (ck K).all id)) = true from congrArg (fun z : AlX => z.1) c)).1
  exact List.all_eq_true.mp c1 f (List.mem_of_getElem? h)
theorem sx_ck (c : obsX fa fn er ck K = valX fn ev) (i : Nat) {b : Bool} (h : (ck K)[i]? = some b) : b = true := by
  have c1 := (Bool.and_eq_true_iff.mp (Bool.and_eq_true_iff.mp (show ((fa.all fun f => f.ok K) && ((fn.all fun d => d.ok K) && (ck K).all id)) = true from congrArg (fun z : AlX => z.1) c)).2).2
  exact all_at c1 i h
theorem sx_def (c : obsX fa fn er ck K = valX fn ev) (i : Nat) {d : He.DefD} (h : fn[i]? = some d) : ∃ fd, FunD K d.name d.qual d.params d.body d.scope (d.dvs K) (d.kws K) (He.fAd K d.at_) fd := by
  have c2 := (Bool.and_eq_true_iff.mp (Bool.and_eq_true_iff.mp (show ((fa.all fun f => f.ok K) && ((fn.all fun d => d.ok K) && (ck K).all id)) = true from congrArg (fun z : AlX => z.1) c)).2).1
  have e : fn.map (fun d => He.fnW K d.at_) = fn.map He.DefD.val := congrArg (fun z : AlX => z.2.1) c
  have e2 : (fn.map fun d => He.fnW K d.at_)[i]? = (fn.map He.DefD.val)[i]? := by rw [e]
  rw [List.getElem?_map, List.getElem?_map, h] at e2
  exact He.DefD.funD (Option.some.inj e2) (List.all_eq_true.mp c2 d (List.mem_of_getElem? h))
theorem sx_err (c : obsX fa fn er ck K = valX fn ev) (i : Nat) {x : Str} {v : FnE} (h : er[i]? = some x) (hv : ev[i]? = some v) : errE K x = v := by
  have e : er.map (fun x => errE K x) = ev := congrArg (fun z : AlX => z.2.2) c
  have e2 : (er.map fun x => errE K x)[i]? = ev[i]? := by rw [e]
  rw [List.getElem?_map, h, hv] at e2
  exact Option.some.inj e2
end
end TR
namespace TR
open PySem PySem.Spec PyProof.Rows L2
open PySem.TRX (errBs errE FnE fnEv all_at eqV eqB)
def dd_check_station : He.DefD := ⟨("check_station", none), "check_station", "check_station", defArgs s_check_station, defBody s_check_station, defScope s_check_station, [], []⟩
def dd_check_rope : He.DefD := ⟨("check_rope", none), "check_rope", "check_rope", defArgs s_check_rope, defBody s_check_rope, defScope s_check_rope, [], []⟩
def dd_check_colour : He.DefD := ⟨("check_colour", none), "check_colour", "check_colour", defArgs s_check_colour, defBody s_check_colour, defScope s_check_colour, [], []⟩
def dd_check_rides : He.DefD := ⟨("check_rides", none), "check_rides", "check_rides", defArgs s_check_rides, defBody s_check_rides, defScope s_check_rides, [], []⟩
def dd_check_cars : He.DefD := ⟨("check_cars", none), "check_cars", "check_cars", defArgs s_check_cars, defBody s_check_cars, defScope s_check_cars, [], []⟩
def dd_check_guests : He.DefD := ⟨("_check_guests", none), "_check_guests", "_check_guests", defArgs s_check_guests, defBody s_check_guests, defScope s_check_guests, [], []⟩
def dd_Standing_init : He.DefD := ⟨("Standing", some "__init__"), "__init__", "Standing.__init__", defArgs s_Standing_init, defBody s_Standing_init, defScope s_Standing_init, [], []⟩
def dd_Standing_red_car : He.DefD := ⟨("Standing", some "red_car"), "red_car", "Standing.red_car", defArgs s_Standing_red_car, defBody s_Standing_red_car, defScope s_Standing_red_car, [], []⟩
def dd_Standing_blue_car : He.DefD := ⟨("Standing", some "blue_car"), "blue_car", "Standing.blue_car", defArgs s_Standing_blue_car, defBody s_Standing_blue_car, defScope s_Standing_blue_car, [], []⟩
def dd_far_end : He.DefD := ⟨("far_end", none), "far_end", "far_end", defArgs s_far_end, defBody s_far_end, defScope s_far_end, [], []⟩
def dd_car_station : He.DefD := ⟨("car_station", none), "car_station", "car_station", defArgs s_car_station, defBody s_car_station, defScope s_car_station, [], []⟩
def dd_guests_of : He.DefD := ⟨("guests_of", none), "guests_of", "guests_of", defArgs s_guests_of, defBody s_guests_of, defScope s_guests_of, [], []⟩
def dd_moved : He.DefD := ⟨("moved", none), "moved", "moved", defArgs s_moved, defBody s_moved, defScope s_moved, [], []⟩
def dd_is_possible : He.DefD := ⟨("_is_possible", none), "_is_possible", "_is_possible", defArgs s_is_possible, defBody s_is_possible, defScope s_is_possible, [], []⟩
def dd_walk : He.DefD := ⟨("walk", none), "walk", "walk", defArgs s_walk, defBody s_walk, defScope s_walk, [], []⟩
def dd_end_of : He.DefD := ⟨("end_of", none), "end_of", "end_of", defArgs s_end_of, defBody s_end_of, defScope s_end_of, [], [("back", .bl false)]⟩
def dd_arrows_of : He.DefD := ⟨("arrows_of", none), "arrows_of", "arrows_of", defArgs s_arrows_of, defBody s_arrows_of, defScope s_arrows_of, [], []⟩
def dd_reached_from : He.DefD := ⟨("reached_from", none), "reached_from", "reached_from", defArgs s_reached_from, defBody s_reached_from, defScope s_reached_from, [], []⟩
def dd_red_reach : He.DefD := ⟨("red_reach", none), "red_reach", "red_reach", defArgs s_red_reach, defBody s_red_reach, defScope s_red_reach, [], []⟩
def dd_blue_reach : He.DefD := ⟨("blue_reach", none), "blue_reach", "blue_reach", defArgs s_blue_reach, defBody s_blue_reach, defScope s_blue_reach, [], []⟩
def dd_can_meet : He.DefD := ⟨("can_meet", none), "can_meet", "can_meet", defArgs s_can_meet, defBody s_can_meet, defScope s_can_meet, [], []⟩
def dd_lengths_to_blue : He.DefD := ⟨("_lengths_to_blue", none), "_lengths_to_blue", "_lengths_to_blue", defArgs s_lengths_to_blue, defBody s_lengths_to_blue, defScope s_lengths_to_blue, [], []⟩
def dd_least_ropes : He.DefD := ⟨("_least_ropes", none), "_least_ropes", "_least_ropes", defArgs s_least_ropes, defBody s_least_ropes, defScope s_least_ropes, [], []⟩
def dd_meeting_way : He.DefD := ⟨("meeting_way", none), "meeting_way", "meeting_way", defArgs s_meeting_way, defBody s_meeting_way, defScope s_meeting_way, [], []⟩
def dd_dead_stations : He.DefD := ⟨("dead_stations", none), "dead_stations", "dead_stations", defArgs s_dead_stations, defBody s_dead_stations, defScope s_dead_stations, [], []⟩
def dd_ropes_back : He.DefD := ⟨("_ropes_back", none), "_ropes_back", "_ropes_back", defArgs s_ropes_back, defBody s_ropes_back, defScope s_ropes_back, [], []⟩
def dd_shortest_way : He.DefD := ⟨("_shortest_way", none), "_shortest_way", "_shortest_way", defArgs s_shortest_way, defBody s_shortest_way, defScope s_shortest_way, [], []⟩
def dd_lone_row : He.DefD := ⟨("_lone_row", none), "_lone_row", "_lone_row", defArgs s_lone_row, defBody s_lone_row, defScope s_lone_row, [], []⟩
def dd_pair_row : He.DefD := ⟨("_pair_row", none), "_pair_row", "_pair_row", defArgs s_pair_row, defBody s_pair_row, defScope s_pair_row, [], []⟩
def dd_visit_row : He.DefD := ⟨("visit_row", none), "visit_row", "visit_row", defArgs s_visit_row, defBody s_visit_row, defScope s_visit_row, [], []⟩
def dd_run_rope : He.DefD := ⟨("run_rope", none), "run_rope", "run_rope", defArgs s_run_rope, defBody s_run_rope, defScope s_run_rope, [], []⟩
def dd_cut_off : He.DefD := ⟨("_cut_off", none), "_cut_off", "_cut_off", defArgs s_cut_off, defBody s_cut_off, defScope s_cut_off, [], []⟩
def dd_check_size : He.DefD := ⟨("_check_size", none), "_check_size", "_check_size", defArgs s_check_size, defBody s_check_size, defScope s_check_size, [], []⟩
def dd_Net_init : He.DefD := ⟨("Net", some "__init__"), "__init__", "Net.__init__", defArgs s_Net_init, defBody s_Net_init, defScope s_Net_init, [], []⟩
def dd_l_integer : He.DefD := ⟨("_law_integer", none), "_law_integer", "_law_integer", defArgs s_l_integer, defBody s_l_integer, defScope s_l_integer, [], []⟩
def dd_l_bag : He.DefD := ⟨("_law_bag", none), "_law_bag", "_law_bag", defArgs s_l_bag, defBody s_l_bag, defScope s_l_bag, [], []⟩
def dd_l_take : He.DefD := ⟨("_law_take", none), "_law_take", "_law_take", defArgs s_l_take, defBody s_l_take, defScope s_l_take, [], []⟩
def dd_l_order : He.DefD := ⟨("_law_order", none), "_law_order", "_law_order", defArgs s_l_order, defBody s_l_order, defScope s_l_order, [], []⟩
def dd_l_add_rope : He.DefD := ⟨("_law_add_rope", none), "_law_add_rope", "_law_add_rope", defArgs s_l_add_rope, defBody s_l_add_rope, defScope s_l_add_rope, [], []⟩
def dd_l_net : He.DefD := ⟨("_law_net", none), "_law_net", "_law_net", defArgs s_l_net, defBody s_l_net, defScope s_l_net, [], []⟩
def dd_l_guests : He.DefD := ⟨("_law_guests", none), "_law_guests", "_law_guests", defArgs s_l_guests, defBody s_l_guests, defScope s_l_guests, [], []⟩
def dd_l_cars : He.DefD := ⟨("_law_cars", none), "_law_cars", "_law_cars", defArgs s_l_cars, defBody s_l_cars, defScope s_l_cars, [], []⟩
def dd_l_world : He.DefD := ⟨("_law_world", none), "_law_world", "_law_world", defArgs s_l_world, defBody s_l_world, defScope s_l_world, [], []⟩
def dd_l_standing : He.DefD := ⟨("_law_standing", none), "_law_standing", "_law_standing", defArgs s_l_standing, defBody s_l_standing, defScope s_l_standing, [], []⟩
def dd_l_shows : He.DefD := ⟨("_law_shows", none), "_law_shows", "_law_shows", defArgs s_l_shows, defBody s_l_shows, defScope s_l_shows, [], []⟩
def dd_l_arrows : He.DefD := ⟨("_law_arrows", none), "_law_arrows", "_law_arrows", defArgs s_l_arrows, defBody s_l_arrows, defScope s_l_arrows, [], []⟩
def dd_l_rides : He.DefD := ⟨("_law_rides", none), "_law_rides", "_law_rides", defArgs s_l_rides, defBody s_l_rides, defScope s_l_rides, [], []⟩
def dd_l_ride : He.DefD := ⟨("_law_ride", none), "_law_ride", "_law_ride", defArgs s_l_ride, defBody s_l_ride, defScope s_l_ride, [], []⟩
def dd_l_search : He.DefD := ⟨("_law_search", none), "_law_search", "_law_search", defArgs s_l_search, defBody s_l_search, defScope s_l_search, [], []⟩
def dd_l_reach : He.DefD := ⟨("_law_reach", none), "_law_reach", "_law_reach", defArgs s_l_reach, defBody s_l_reach, defScope s_l_reach, [], []⟩
def dd_l_reaches : He.DefD := ⟨("_law_reaches", none), "_law_reaches", "_law_reaches", defArgs s_l_reaches, defBody s_l_reaches, defScope s_l_reaches, [], []⟩
def dd_l_alive : He.DefD := ⟨("_law_alive", none), "_law_alive", "_law_alive", defArgs s_l_alive, defBody s_l_alive, defScope s_l_alive, [], []⟩
def dd_l_is_list : He.DefD := ⟨("_law_is_list", none), "_law_is_list", "_law_is_list", defArgs s_l_is_list, defBody s_l_is_list, defScope s_l_is_list, [], []⟩
def dd_l_are_rides : He.DefD := ⟨("_law_are_rides", none), "_law_are_rides", "_law_are_rides", defArgs s_l_are_rides, defBody s_l_are_rides, defScope s_l_are_rides, [], []⟩
def dd_l_end : He.DefD := ⟨("_law_end", none), "_law_end", "_law_end", defArgs s_l_end, defBody s_l_end, defScope s_l_end, [], []⟩
def dd_l_visit : He.DefD := ⟨("_law_visit", none), "_law_visit", "_law_visit", defArgs s_l_visit, defBody s_l_visit, defScope s_l_visit, [], []⟩
def dd_l_run : He.DefD := ⟨("_law_run", none), "_law_run", "_law_run", defArgs s_l_run, defBody s_l_run, defScope s_l_run, [], []⟩
def dd_l_no_station : He.DefD := ⟨("_law_no_station", none), "_law_no_station", "_law_no_station", defArgs s_l_no_station, defBody s_l_no_station, defScope s_l_no_station, [], []⟩
def dd_l_no_rope : He.DefD := ⟨("_law_no_rope", none), "_law_no_rope", "_law_no_rope", defArgs s_l_no_rope, defBody s_l_no_rope, defScope s_l_no_rope, [], []⟩
def dd_law : He.DefD := ⟨("law", none), "law", "law", defArgs s_law, defBody s_law, defScope s_law, [], []⟩
def fa_0 : List He.Fa := [.cls "Net", .glo "Net", .meth "Net" "__init__", .mkr "Net", .noat "Net" "stations", .noat "Net" "ropes", .cls "Standing", .glo "Standing", .meth "Standing" "__init__", .mkr "Standing", .noat "Standing" "net", .noat "Standing" "reds", .noat "Standing" "blues", .noat "Standing" "cars", .meth "Standing" "red_car", .meth "Standing" "blue_car", .glo "RopeError", .free "super", .free "len", .free "isinstance", .free "any", .free "min", .free "sum", .free "list", .free "tuple", .free "int", .free "range", .free "enumerate", .free "bool", .free "str"]
def fa_1 : List He.Fa := [.free "ValueError", .glo "check_station", .glo "check_rope", .glo "check_colour", .glo "check_rides", .glo "check_cars", .glo "_check_guests", .glo "far_end", .glo "car_station", .glo "guests_of", .glo "moved", .glo "_is_possible", .glo "walk", .glo "arrows_of", .glo "reached_from", .glo "red_reach", .glo "blue_reach", .glo "can_meet", .glo "_lengths_to_blue", .glo "_least_ropes", .glo "meeting_way", .glo "dead_stations", .glo "_ropes_back", .glo "_shortest_way", .glo "_lone_row", .glo "_pair_row", .glo "visit_row", .glo "run_rope", .glo "_cut_off", .glo "_check_size"]
def fa_2 : List He.Fa := [.glo "_law_integer", .glo "_law_bag", .glo "_law_take", .glo "_law_order", .glo "_law_add_rope", .glo "_law_net", .glo "_law_guests", .glo "_law_cars", .glo "_law_world", .glo "_law_standing", .glo "_law_shows", .glo "_law_arrows", .glo "_law_rides", .glo "_law_ride", .glo "_law_search", .glo "_law_reach", .glo "_law_reaches", .glo "_law_alive", .glo "_law_is_list", .glo "_law_are_rides", .glo "_law_end", .glo "_law_visit", .glo "_law_run", .glo "_law_no_station", .glo "_law_no_rope", .glo "law", .glo "end_of", .keep "end_of"]
def fa_ : List He.Fa := fa_0 ++ (fa_1 ++ (fa_2))
def fn_0 : List He.DefD := [dd_check_station, dd_check_rope, dd_check_colour, dd_check_rides, dd_check_cars, dd_check_guests, dd_Standing_init, dd_Standing_red_car, dd_Standing_blue_car, dd_far_end, dd_car_station, dd_guests_of, dd_moved, dd_is_possible, dd_walk, dd_end_of, dd_arrows_of, dd_reached_from, dd_red_reach, dd_blue_reach, dd_can_meet, dd_lengths_to_blue, dd_least_ropes, dd_meeting_way, dd_dead_stations, dd_ropes_back, dd_shortest_way, dd_lone_row, dd_pair_row, dd_visit_row]
def fn_1 : List He.DefD := [dd_run_rope, dd_cut_off, dd_check_size, dd_Net_init, dd_l_integer, dd_l_bag, dd_l_take, dd_l_order, dd_l_add_rope, dd_l_net, dd_l_guests, dd_l_cars, dd_l_world, dd_l_standing, dd_l_shows, dd_l_arrows, dd_l_rides, dd_l_ride, dd_l_search, dd_l_reach, dd_l_reaches, dd_l_alive, dd_l_is_list, dd_l_are_rides, dd_l_end, dd_l_visit, dd_l_run, dd_l_no_station, dd_l_no_rope, dd_law]
def fn_ : List He.DefD := fn_0 ++ (fn_1)
def nm_0 : List PySem.Str := ["_wall", "RopeError", "BadNet", "TooMany", "NotConnected", "NoStation", "NoRope", "NoColour", "BadStanding", "BrokenRow", "Dead", "Still", "arrows_of", "reached_from", "red_reach", "blue_reach", "can_meet", "_lengths_to_blue", "_least_ropes", "meeting_way", "dead_stations", "check_station", "check_rope", "check_colour", "check_rides", "check_cars", "_check_guests", "Standing", "far_end", "car_station"]
def nm_1 : List PySem.Str := ["guests_of", "moved", "_is_possible", "walk", "end_of", "_ropes_back", "_shortest_way", "_lone_row", "_pair_row", "visit_row", "run_rope", "_cut_off", "_check_size", "Net", "_law_integer", "_law_bag", "_law_take", "_law_order", "_law_add_rope", "_law_net", "_law_guests", "_law_cars", "_law_world", "_law_standing", "_law_shows", "_law_arrows", "_law_rides", "_law_ride", "_law_search", "_law_reach"]
def nm_2 : List PySem.Str := ["_law_reaches", "_law_alive", "_law_is_list", "_law_are_rides", "_law_end", "_law_visit", "_law_run", "_law_no_station", "_law_no_rope"]
def nm_ : List PySem.Str := nm_0 ++ (nm_1 ++ (nm_2))
def er_ : List Str := ["NoStation", "NoRope", "Dead", "Still"]
def ev_ : List FnE := [fnEv "NoStation.__init__" (errDef 6),
  fnEv "NoRope.__init__" (errDef 7),
  fnEv "Dead.__init__" (errDef 11),
  fnEv "Still.__init__" (errDef 12)]
def ck_ (K : PySem.W.Frag) : List Bool := [conB K (He.ga K "Net") "MOST_ROPES" 40,
  crdB K (He.ga K "Net"),
  cvB K (He.ga K "Net") "MOST_STATIONS" 24,
  conB K (He.ga K "Standing") "MOST_GUESTS" 30,
  He.eqO (PySem.W.findIn K (.ref (He.ga K "Standing")) "__class__") (some (some (.builtin "object.__class__"))),
  He.eqO (PySem.W.specialIn K (.builtin "object.__class__") "__get__") (some (some (.builtin "getset_descriptor.__get__"))),
  eqB (PySem.W.takesIn K (.builtin "object.__class__")) (some true),
  eqB (PySem.W.mroIn K (He.ga K "Standing") (.type "object")) (some true),
  eqB (PySem.W.kitOne K (.ref (He.ga K "Standing")) (.ref (He.ga K "Standing"))) (some true),
  (errBs K "NoStation" "number" "NoStation.__init__" PW.main.file).all id,
  (errBs K "NoRope" "number" "NoRope.__init__" PW.main.file).all id,
  (errBs K "Dead" "station" "Dead.__init__" PW.main.file).all id,
  (errBs K "Still" "rope" "Still.__init__" PW.main.file).all id,
  eqB (PySem.W.kitOne K (.ref (He.ga K "NoStation")) (.ref (He.ga K "RopeError"))) (some true),
  eqB (PySem.W.kitOne K (.ref (He.ga K "NoStation")) (.ref (He.ga K "Dead"))) (some false),
  eqB (PySem.W.kitOne K (.ref (He.ga K "NoRope")) (.ref (He.ga K "RopeError"))) (some true),
  eqB (PySem.W.kitOne K (.ref (He.ga K "NoRope")) (.ref (He.ga K "Still"))) (some false),
  eqB (PySem.W.kitOne K (.ref (He.ga K "Dead")) (.ref (He.ga K "RopeError"))) (some true),
  eqB (PySem.W.kitOne K (.ref (He.ga K "Dead")) (.ref (He.ga K "Still"))) (some false),
  eqB (PySem.W.kitOne K (.ref (He.ga K "Still")) (.ref (He.ga K "RopeError"))) (some true),
  eqB (PySem.W.kitOne K (.ref (He.ga K "Still")) (.ref (He.ga K "Dead"))) (some false),
  eqB (PySem.W.kitOne K (.ref (He.ga K "Dead")) (.type "ValueError")) (some true),
  eqB (PySem.W.kitOne K (.ref (He.ga K "Still")) (.type "ValueError")) (some true)]
abbrev R : PySem.W.OpenRow := PySem.W.OpenLaw.row PySem.Challenge.rw_twinrope_k14_whole_dead_stations_and_vis
abbrev hk : PySem.W.Hook := hookX 4 fa_ fn_ er_ ev_ ck_
def ob (s : PySem.W.SharedT) : AlX := obsXG 4 fa_ fn_ er_ ck_ (HandSHeadRun.getT s)
theorem ob_eq (s : PySem.W.SharedT) : ob s = hk.obs s.abs := obsXG_eq (HandSHeadRun.getT_eq s)
end TR
namespace TR
open PySem PySem.Spec PyProof.Rows L2
theorem run (w : World) : HandSHeadRun.RunEq R (PySem.W.view R.prog [77]) hk ob 8000 nm_ w := by
  intro os
  kernel_rfl
end TR
namespace TR
open PySem PySem.W PySem.Calls PyProof.Rows HandSHeadRun
theorem a1 : opening R.prog = plainProg R.prog.main.scope.names := by kernel_rfl
theorem a2 : ∀ s, fenceModules? R.prog s = some s := fun s => by kernel_rfl
theorem a3 : defOf (view R.prog [77]) R.name = some (topDef R.prog 77, []) := by kernel_rfl
theorem a4 : R.prog.theDef R.name = some ((topDef R.prog 77).params, (topDef R.prog 77).body, (topDef R.prog 77).scope) := by kernel_rfl
theorem a5 : kwWritten? (topDef R.prog 77).params.kwonlyargs (topDef R.prog 77).params.kw_defaults = some [] := by kernel_rfl
theorem a6 : (!R.writes || R.records.isEmpty) = true := by kernel_rfl
theorem a8 : (chainsOk (view R.prog [77]) && opensWell R.prog && (frees R.toRowW && R.within.isEmpty)) = true := by decide +kernel
theorem a9 : R.prog.bare := ⟨by kernel_rfl, by kernel_rfl, by kernel_rfl, by kernel_rfl, by kernel_rfl, by decide +kernel⟩
theorem a10 : (topDef R.prog 77).name = ("law" : PySem.Str) := by kernel_rfl
theorem a11 : (topDef R.prog 77).params.defaults = [] := by kernel_rfl
end TR
namespace TR
open PySem L2 PyProof.Rows
open Evl (Ex EvT fresh_back)

abbrev kAdd : R2 := rI0 fun i j => .int (i + j)
abbrev kSub : R2 := rI0 fun i j => .int (i - j)
abbrev kMul : R2 := rI CMul fun i j => .int (i * j)
abbrev kDiv : R2 := rI CDiv fun i j => .int (i / j)
abbrev kMod : R2 := rI (fun _ j => 0 < j) fun i j => .int (i % j)
abbrev kPow : R2 := rI CPow fun i j => .int (i ^ j.toNat)
abbrev kLt : R2 := rI0 fun i j => .bl (decide (i < j))
abbrev kLe : R2 := rI0 fun i j => .bl (decide (i ≤ j))
abbrev kGt : R2 := rI0 fun i j => .bl (decide (j < i))
abbrev kGe : R2 := rI0 fun i j => .bl (decide (j ≤ i))
abbrev kNeg : V → Hp → VK → Prop := rU fun i => .int (-i)
abbrev kIsN : R2 := fun x y H Q => y = .non ∧ Q (.bl (decide (x = .non))) H
abbrev kNotN : R2 := fun x y H Q => y = .non ∧ Q (.bl (!decide (x = .non))) H
def tTru (K : PySem.W.Frag) (ta : TE) : TT := fun σ H Q => ta σ H fun x H' => ∃ k, TruV K x H' k ∧ Q k H'
def rTupOf (K : PySem.W.Frag) : List V → Hp → VK → Prop := fun xs H Q => ∃ p ys, xs = [.ref p] ∧ ((SqL K H p ys ∧ ∀ l, H l = none → Q (.ref l) (upd H l (.tup ys))) ∨ (SqT K H p ys ∧ Q (.ref p) H))
def rInt1 : List V → Hp → VK → Prop := fun xs H Q => (∃ i, xs = [.int i] ∧ Q (.int i) H) ∨ ∃ k, xs = [.bl k] ∧ Q (.int (if k then 1 else 0)) H
def rInsert : V → List V → Hp → VK → Prop := fun x vs H Q => ∃ (l : Addr) (xs : List V) (i : Int) (y : V), x = .ref l ∧ vs = [.int i, y] ∧ H l = some (.lst xs) ∧ xs.length < sizeLine ∧ 0 ≤ i ∧ i < 2 ^ 63 ∧
  Q .non (upd H l (.lst (xs.take i.toNat ++ [y] ++ xs.drop i.toNat)))
theorem room65 {k : Nat} {A : Around} (r : Room k A) : A.units + 65 < cLine := by have := r.un; omega
/-- a call with a star -/
def tCallR (sp : Sp) (E : XK) (t : TA) : TE := fun σ H Q => t σ H fun vs H1 => sp vs H1 Q E
/-- a list or a tuple walked -/
def iSeq (K : PySem.W.Frag) (tl : TE) : TI := fun σ H R => tl σ H fun x H1 => ∃ a, x = .ref a ∧ (((∃ xs, SqL K H1 a xs) ∧ R (Itl K a) H1) ∨ ((∃ xs, SqT K H1 a xs) ∧ R (Itt K a) H1))
theorem pi_seq {X : Cx} {tg l : Expr} {tl : TE} (hl : PE X l tl) : PI X tg l (iSeq X.K tl) := by
  refine ⟨fun pins s σ H R I h => ?_⟩
  refine thn (hl.run pins s σ H _ I h) fun v s1 ⟨x, H1, I1, r1, q1⟩ => ?_
  obtain ⟨a, e, q⟩ := q1
  subst e
  cases r1
  have fp : ∀ b ∈ [s1.heap.objs.size], FpOk X pins H1 b := fun b hb => by
    have e : b = s1.heap.objs.size := by simpa using hb
    subst e
    exact I1.fpOk (Nat.le_refl _) (I1.hok.fresh (Nat.le_refl _))
  rcases q with ⟨⟨xs, hq⟩, q⟩ | ⟨⟨xs, hq⟩, q⟩
  · obtain ⟨its, rv, p, hz⟩ := I1.list hq
    refine wpAny_pyIter_list p.isList ?_
    exact ⟨s1.heap.objs.size, [s1.heap.objs.size], _, _, H1, rfl, I1.kept (t' := s1.toks) fun b o e => Heap.get?_push_of_some _ e, turn_list a _, ⟨_, Heap.get?_push_size _ rfl, rfl, rfl⟩, fp, q⟩
  · obtain ⟨its, rv, p, hz⟩ := I1.tuple hq
    refine wpAny_pyIter_tuple (show s1.heap.IsTuple a its.toArray from p) ?_
    exact ⟨s1.heap.objs.size, [s1.heap.objs.size], _, _, H1, rfl, I1.kept (t' := s1.toks) fun b o e => Heap.get?_push_of_some _ e, turn_tuple a _, ⟨_, Heap.get?_push_size _ rfl, rfl, rfl⟩, fp, q⟩

/-- an object that never changes -/
def Stab : HO → Bool
  | .tup _ => true
  | .ins _ _ _ => true
  | _ => false
/-- all that never changes is kept -/
def Kp (H H' : Hp) : Prop := ∀ a o, H a = some o → Stab o = true → H' a = some o
theorem Kp.refl (H : Hp) : Kp H H := fun _ _ h _ => h
theorem Kp.trans {H H1 H2 : Hp} (a : Kp H H1) (b : Kp H1 H2) : Kp H H2 := fun x o h s => b x o (a x o h s) s
theorem Kp.ex {H H' : Hp} (e : Ex H H') : Kp H H' := fun a o h _ => e a o h
theorem Kp.at {H H' : Hp} {a : Addr} {o : HO} (k : Kp H H') (h : H a = some o) (s : Stab o = true := by rfl) : H' a = some o := k a o h s
theorem Kp.set {H : Hp} {p : Addr} {xs : List V} {o : HO} (h : H p = some (.lst xs)) : Kp H (upd H p o) := fun a u e s => by
  rw [upd_ne (ne_of e h (by intro z; subst z; cases s))]; exact e
theorem Kp.setK {H : Hp} {p : Addr} {xs : List (Key × V)} {o : HO} (h : H p = some (.dK xs)) : Kp H (upd H p o) := fun a u e s => by
  rw [upd_ne (ne_of e h (by intro z; subst z; cases s))]; exact e
theorem Kp.step {H H1 : Hp} {p : Addr} {xs : List V} {o : HO} (k : Kp H H1) (h : H1 p = some (.lst xs)) : Kp H (upd H1 p o) := k.trans (Kp.set h)
theorem Ex.at {H H' : Hp} {a : Addr} {o : HO} (e : Ex H H') (h : H a = some o) : H' a = some o := e a o h
theorem Ex.set {H H' : Hp} {p : Addr} {o : HO} (e : Ex H H') (h : H p = none) : Ex H (upd H' p o) := Evl.Ex.mut e h
theorem Ex.new {H : Hp} {p : Addr} {o : HO} (h : H p = none) : Ex H (upd H p o) := Evl.Ex.new h
theorem Ex.step {H H1 : Hp} {p : Addr} {o : HO} (e : Ex H H1) (h : H1 p = none) : Ex H (upd H1 p o) := e.trans (Evl.Ex.new h)

inductive D where
  | non | bl (b : Bool) | int (i : Int) | str (s : Str) | adr (a : Addr) | tup (ds : List D)
/-- flat data: the values themselves -/
def D.v : D → V
  | .non => .non
  | .bl b => .bl b
  | .int i => .int i
  | .str s => .str s
  | .adr a => .ref a
  | .tup _ => .non
def D.flat : D → Bool
  | .tup _ => false
  | _ => true
mutual
inductive Fz (H : Hp) : V → D → Prop
  | non : Fz H .non .non
  | bl (b : Bool) : Fz H (.bl b) (.bl b)
  | int (i : Int) : Fz H (.int i) (.int i)
  | str (x : Str) : Fz H (.str x) (.str x)
  | adr (a : Addr) : Fz H (.ref a) (.adr a)
  | tup {a : Addr} {xs : List V} {ds : List D} : H a = some (.tup xs) → FzL H xs ds → Fz H (.ref a) (.tup ds)
inductive FzL (H : Hp) : List V → List D → Prop
  | nil : FzL H [] []
  | cons {v : V} {vs : List V} {d : D} {ds : List D} : Fz H v d → FzL H vs ds → FzL H (v :: vs) (d :: ds)
end
/-- tuples are kept -/
def Tk (H H' : Hp) : Prop := ∀ a xs, H a = some (.tup xs) → H' a = some (.tup xs)
theorem Kp.tk {H H' : Hp} (k : Kp H H') : Tk H H' := fun a xs h => k a _ h rfl
mutual
theorem Fz.monoT {H H' : Hp} (k : Tk H H') : ∀ {d : D} {v : V}, Fz H v d → Fz H' v d
  | .non, _, h => by cases h; exact .non
  | .bl _, _, h => by cases h; exact .bl _
  | .int _, _, h => by cases h; exact .int _
  | .str _, _, h => by cases h; exact .str _
  | .adr _, _, h => by cases h; exact .adr _
  | .tup _, _, h => by
    cases h with
    | tup h1 h2 => exact .tup (k _ _ h1) (FzL.monoT k h2)
theorem FzL.monoT {H H' : Hp} (k : Tk H H') : ∀ {ds : List D} {vs : List V}, FzL H vs ds → FzL H' vs ds
  | [], _, h => by cases h; exact .nil
  | _ :: _, _, h => by
    cases h with
    | cons h1 h2 => exact .cons (Fz.monoT k h1) (FzL.monoT k h2)
end
theorem Fz.mono {H H' : Hp} (k : Kp H H') {d : D} {v : V} (h : Fz H v d) : Fz H' v d := h.monoT k.tk
theorem FzL.mono {H H' : Hp} (k : Kp H H') {ds : List D} {vs : List V} (h : FzL H vs ds) : FzL H' vs ds := h.monoT k.tk
section
variable {H : Hp} {v : V} {vs : List V} {ds : List D} {d : D}
theorem Fz.int_of {i : Int} (h : Fz H v (.int i)) : v = .int i := by cases h; rfl
theorem Fz.bl_of {b : Bool} (h : Fz H v (.bl b)) : v = .bl b := by cases h; rfl
theorem Fz.str_of {x : Str} (h : Fz H v (.str x)) : v = .str x := by cases h; rfl
theorem Fz.non_of (h : Fz H v .non) : v = .non := by cases h; rfl
theorem Fz.adr_of {a : Addr} (h : Fz H v (.adr a)) : v = .ref a := by cases h; rfl
theorem Fz.tup_of (h : Fz H v (.tup ds)) : ∃ a xs, v = .ref a ∧ H a = some (.tup xs) ∧ FzL H xs ds := by
  cases h with
  | tup h1 h2 => exact ⟨_, _, rfl, h1, h2⟩
theorem FzL.len (h : FzL H vs ds) : vs.length = ds.length := by
  induction ds generalizing vs with
  | nil => cases h; rfl
  | cons d ds ih =>
    cases h with
    | cons h1 h2 => simp [ih h2]
theorem FzL.get (h : FzL H vs ds) {i : Nat} (e : ds[i]? = some d) : ∃ v, vs[i]? = some v ∧ Fz H v d := by
  induction ds generalizing vs i with
  | nil => simp at e
  | cons d' ds ih =>
    cases h with
    | cons h1 h2 =>
      cases i with
      | zero =>
        simp only [List.getElem?_cons_zero, Option.some.injEq] at e ⊢
        subst e
        exact ⟨_, rfl, h1⟩
      | succ j =>
        simp only [List.getElem?_cons_succ] at e ⊢
        exact ih h2 e
theorem FzL.getV (h : FzL H vs ds) {i : Nat} (e : vs[i]? = some v) : ∃ d, ds[i]? = some d ∧ Fz H v d := by
  have hl := h.len
  have hi := (List.getElem?_eq_some_iff.mp e).1
  obtain ⟨v', e1, f⟩ := h.get (i := i) (d := ds[i]'(by omega)) (List.getElem?_eq_getElem (by omega))
  rw [e] at e1; cases e1
  exact ⟨_, List.getElem?_eq_getElem (by omega), f⟩
theorem FzL.app {us : List V} {es : List D} (h : FzL H vs ds) (g : FzL H us es) : FzL H (vs ++ us) (ds ++ es) := by
  induction ds generalizing vs with
  | nil => cases h; exact g
  | cons d ds ih =>
    cases h with
    | cons h1 h2 => exact .cons h1 (ih h2)
theorem FzL.snoc (h : FzL H vs ds) (g : Fz H v d) : FzL H (vs ++ [v]) (ds ++ [d]) := h.app (.cons g .nil)
theorem FzL.rev (h : FzL H vs ds) : FzL H vs.reverse ds.reverse := by
  induction ds generalizing vs with
  | nil => cases h; exact .nil
  | cons d ds ih =>
    cases h with
    | cons h1 h2 =>
      rw [List.reverse_cons, List.reverse_cons]
      exact (ih h2).snoc h1
theorem FzL.take (h : FzL H vs ds) (n : Nat) : FzL H (vs.take n) (ds.take n) := by
  induction ds generalizing vs n with
  | nil => cases h; rw [List.take_nil, List.take_nil]; exact .nil
  | cons d ds ih =>
    cases h with
    | cons h1 h2 =>
      cases n with
      | zero => exact .nil
      | succ n => exact .cons h1 (ih h2 n)
theorem FzL.drop (h : FzL H vs ds) (n : Nat) : FzL H (vs.drop n) (ds.drop n) := by
  induction ds generalizing vs n with
  | nil => cases h; rw [List.drop_nil, List.drop_nil]; exact .nil
  | cons d ds ih =>
    cases h with
    | cons h1 h2 =>
      cases n with
      | zero => exact .cons h1 h2
      | succ n => exact ih h2 n
theorem Fz.flat (f : d.flat = true) : Fz H d.v d := by
  cases d with
  | non => exact .non
  | bl b => exact .bl b
  | int i => exact .int i
  | str s => exact .str s
  | adr a => exact .adr a
  | tup ds => cases f
theorem Fz.flat_of (f : d.flat = true) (h : Fz H v d) : v = d.v := by
  cases h with
  | tup _ _ => cases f
  | _ => rfl
theorem FzL.flat_of (f : ds.all D.flat = true) (h : FzL H vs ds) : vs = ds.map D.v := by
  induction ds generalizing vs with
  | nil => cases h; rfl
  | cons d ds ih =>
    rw [List.all_cons, Bool.and_eq_true] at f
    cases h with
    | cons h1 h2 => rw [h1.flat_of f.1, ih f.2 h2]; rfl
theorem FzL.flat (f : ds.all D.flat = true) : FzL H (ds.map D.v) ds := by
  induction ds with
  | nil => exact .nil
  | cons d ds ih =>
    rw [List.all_cons, Bool.and_eq_true] at f
    exact .cons (Fz.flat f.1) (ih f.2)
end
/-- natural numbers as data, as values -/
abbrev dn (n : Nat) : D := .int (n : Int)
abbrev vn (n : Nat) : V := .int (n : Int)
abbrev nats (l : List Nat) : List V := l.map vn
theorem FzL.nats {H : Hp} (l : List Nat) : FzL H (nats l) (l.map dn) := by
  induction l with
  | nil => exact .nil
  | cons a l ih => exact .cons (.int _) ih
theorem FzL.nats_of {H : Hp} {vs : List V} {l : List Nat} (h : FzL H vs (l.map dn)) : vs = TR.nats l := by
  induction l generalizing vs with
  | nil => cases h; rfl
  | cons a l ih =>
    cases h with
    | cons h1 h2 => rw [h1.int_of, ih h2]; rfl

def EvD (te : TE) (σ : L2.St) (H : Hp) (d : D) : Prop := ∀ H1, Ex H H1 → ∀ Q : VK, (∀ v H2, Ex H1 H2 → Fz H2 v d → Q v H2) → te σ H1 Q
def EvDs (ta : TA) (σ : L2.St) (H : Hp) (ds : List D) : Prop := ∀ H1, Ex H H1 → ∀ Q : List V → Hp → Prop, (∀ vs H2, Ex H1 H2 → FzL H2 vs ds → Q vs H2) → ta σ H1 Q
/-- a new list of data -/
def EvN (te : TE) (σ : L2.St) (H : Hp) (ds : List D) : Prop := ∀ H1, Ex H H1 → ∀ Q : VK, (∀ p vs H2, H1 p = none → Ex H1 H2 → H2 p = some (.lst vs) → FzL H2 vs ds → Q (.ref p) H2) → te σ H1 Q
section
variable {K : PySem.W.Frag} {σ : L2.St} {H H' : Hp} {ta tb te tx : TE} {t u : TT} {x y z v : V} {r : R2} {d e : D} {ds es : List D}
theorem EvD.mono (e : Ex H H') (h : EvD te σ H d) : EvD te σ H' d := fun H1 a Q q => h H1 (e.trans a) Q q
theorem EvD.eq (h : EvD te σ H d) (he : d = e) : EvD te σ H e := he ▸ h
theorem evd_var {i : Nat} (h : σ[i]? = some (some v)) (f : Fz H v d) : EvD (tVar i) σ H d := fun H1 e Q q => ⟨v, h, q v H1 (Ex.refl H1) (f.mono (Kp.ex e))⟩
theorem evd_int {i : Int} : EvD (tC (.int i)) σ H (.int i) := fun H1 _ Q q => q _ H1 (Ex.refl H1) (.int i)
theorem evd_str {s : Str} : EvD (tC (.str s)) σ H (.str s) := fun H1 _ Q q => q _ H1 (Ex.refl H1) (.str s)
theorem evd_bl {b : Bool} : EvD (tC (.bl b)) σ H (.bl b) := fun H1 _ Q q => q _ H1 (Ex.refl H1) (.bl b)
theorem evd_non : EvD (tC .non) σ H .non := fun H1 _ Q q => q _ H1 (Ex.refl H1) .non
theorem evd_fld {a C dx : Addr} {fs : List (Str × V)} {f : Str} (ha : EvD ta σ H (.adr a)) (ho : H a = some (.ins C dx fs)) (hc : Cls K C) (hn : NoAttr K C f) (hl : fs.lookup f = some v) (hf : Fz H v d) : EvD (tFld K ta f) σ H d := fun H1 e Q q =>
  ha H1 e _ fun w H2 e2 fw => by
    rw [fw.adr_of]
    exact ⟨a, C, dx, fs, v, rfl, (e.trans e2) a _ ho, hc, hn, hl, q v H2 e2 (hf.mono (Kp.ex (e.trans e2)))⟩
/-- two ints -/
theorem evd_i0 {g : Int → Int → V} {i j : Int} (ha : EvD ta σ H (.int i)) (hb : EvD tb σ H (.int j)) (hf : Fz H (g i j) d) : EvD (tOp (rI0 g) ta tb) σ H d := fun H1 e Q q =>
  ha H1 e _ fun v H2 e2 fv => hb H2 (e.trans e2) _ fun w H3 e3 fw => ⟨i, j, fv.int_of, fw.int_of, q _ H3 (e2.trans e3) (hf.mono (Kp.ex ((e.trans e2).trans e3)))⟩
theorem evd_ic {C : Int → Int → Prop} {g : Int → Int → V} {i j : Int} (ha : EvD ta σ H (.int i)) (hb : EvD tb σ H (.int j)) (hc : C i j) (hf : Fz H (g i j) d) : EvD (tOp (rI C g) ta tb) σ H d := fun H1 e Q q =>
  ha H1 e _ fun v H2 e2 fv => hb H2 (e.trans e2) _ fun w H3 e3 fw => ⟨i, j, fv.int_of, fw.int_of, hc, q _ H3 (e2.trans e3) (hf.mono (Kp.ex ((e.trans e2).trans e3)))⟩
theorem evd_add {i j : Int} (ha : EvD ta σ H (.int i)) (hb : EvD tb σ H (.int j)) : EvD (tOp kAdd ta tb) σ H (.int (i + j)) := evd_i0 ha hb (.int _)
theorem evd_sub {i j : Int} (ha : EvD ta σ H (.int i)) (hb : EvD tb σ H (.int j)) : EvD (tOp kSub ta tb) σ H (.int (i - j)) := evd_i0 ha hb (.int _)
theorem evd_mul {i j : Int} (ha : EvD ta σ H (.int i)) (hb : EvD tb σ H (.int j)) (hc : CMul i j) : EvD (tOp kMul ta tb) σ H (.int (i * j)) := evd_ic ha hb hc (.int _)
theorem evd_div {i j : Int} (ha : EvD ta σ H (.int i)) (hb : EvD tb σ H (.int j)) (hc : CDiv i j) : EvD (tOp kDiv ta tb) σ H (.int (i / j)) := evd_ic ha hb hc (.int _)
theorem evd_mod {i j : Int} (ha : EvD ta σ H (.int i)) (hb : EvD tb σ H (.int j)) (hc : 0 < j) : EvD (tOp kMod ta tb) σ H (.int (i % j)) := evd_ic (C := fun _ j => 0 < j) ha hb hc (.int _)
theorem evd_pow {i j : Int} (ha : EvD ta σ H (.int i)) (hb : EvD tb σ H (.int j)) (hc : CPow i j) : EvD (tOp kPow ta tb) σ H (.int (i ^ j.toNat)) := evd_ic ha hb hc (.int _)
theorem evd_lt {i j : Int} (ha : EvD ta σ H (.int i)) (hb : EvD tb σ H (.int j)) : EvD (tOp kLt ta tb) σ H (.bl (decide (i < j))) := evd_i0 ha hb (.bl _)
theorem evd_le {i j : Int} (ha : EvD ta σ H (.int i)) (hb : EvD tb σ H (.int j)) : EvD (tOp kLe ta tb) σ H (.bl (decide (i ≤ j))) := evd_i0 ha hb (.bl _)
theorem evd_gt {i j : Int} (ha : EvD ta σ H (.int i)) (hb : EvD tb σ H (.int j)) : EvD (tOp kGt ta tb) σ H (.bl (decide (j < i))) := evd_i0 ha hb (.bl _)
theorem evd_ge {i j : Int} (ha : EvD ta σ H (.int i)) (hb : EvD tb σ H (.int j)) : EvD (tOp kGe ta tb) σ H (.bl (decide (j ≤ i))) := evd_i0 ha hb (.bl _)
theorem evd_neg {i : Int} (ha : EvD ta σ H (.int i)) : EvD (tUn kNeg ta) σ H (.int (-i)) := fun H1 e Q q => ha H1 e _ fun v H2 e2 fv => ⟨i, fv.int_of, q _ H2 e2 (.int _)⟩
theorem evd_eqI {i j : Int} (ha : EvD ta σ H (.int i)) (hb : EvD tb σ H (.int j)) : EvD (tOp rEq ta tb) σ H (.bl (decide (i = j))) := fun H1 e Q q =>
  ha H1 e _ fun v H2 e2 fv => hb H2 (e.trans e2) _ fun w H3 e3 fw => by
    rw [fv.int_of, fw.int_of]
    refine ⟨rfl, q _ H3 (e2.trans e3) ?_⟩
    have : decide (V.int i = V.int j) = decide (i = j) := decide_eq_decide.mpr ⟨fun h => by cases h; rfl, fun h => by rw [h]⟩
    rw [this]; exact .bl _
theorem evd_neI {i j : Int} (ha : EvD ta σ H (.int i)) (hb : EvD tb σ H (.int j)) : EvD (tOp rNe ta tb) σ H (.bl (!decide (i = j))) := fun H1 e Q q =>
  ha H1 e _ fun v H2 e2 fv => hb H2 (e.trans e2) _ fun w H3 e3 fw => by
    rw [fv.int_of, fw.int_of]
    refine ⟨rfl, q _ H3 (e2.trans e3) ?_⟩
    have : decide (V.int i = V.int j) = decide (i = j) := decide_eq_decide.mpr ⟨fun h => by cases h; rfl, fun h => by rw [h]⟩
    rw [this]; exact .bl _
theorem evd_eqS {i j : Str} (ha : EvD ta σ H (.str i)) (hb : EvD tb σ H (.str j)) : EvD (tOp rEq ta tb) σ H (.bl (decide (i = j))) := fun H1 e Q q =>
  ha H1 e _ fun v H2 e2 fv => hb H2 (e.trans e2) _ fun w H3 e3 fw => by
    rw [fv.str_of, fw.str_of]
    refine ⟨rfl, q _ H3 (e2.trans e3) ?_⟩
    have : decide (V.str i = V.str j) = decide (i = j) := decide_eq_decide.mpr ⟨fun h => by cases h; rfl, fun h => by rw [h]⟩
    rw [this]; exact .bl _
theorem evd_eqB {i j : Bool} (ha : EvD ta σ H (.bl i)) (hb : EvD tb σ H (.bl j)) : EvD (tOp rEq ta tb) σ H (.bl (decide (i = j))) := fun H1 e Q q =>
  ha H1 e _ fun v H2 e2 fv => hb H2 (e.trans e2) _ fun w H3 e3 fw => by
    rw [fv.bl_of, fw.bl_of]
    refine ⟨rfl, q _ H3 (e2.trans e3) ?_⟩
    have : decide (V.bl i = V.bl j) = decide (i = j) := decide_eq_decide.mpr ⟨fun h => by cases h; rfl, fun h => by rw [h]⟩
    rw [this]; exact .bl _
theorem evd_neB {i j : Bool} (ha : EvD ta σ H (.bl i)) (hb : EvD tb σ H (.bl j)) : EvD (tOp rNe ta tb) σ H (.bl (!decide (i = j))) := fun H1 e Q q =>
  ha H1 e _ fun v H2 e2 fv => hb H2 (e.trans e2) _ fun w H3 e3 fw => by
    rw [fv.bl_of, fw.bl_of]
    refine ⟨rfl, q _ H3 (e2.trans e3) ?_⟩
    have : decide (V.bl i = V.bl j) = decide (i = j) := decide_eq_decide.mpr ⟨fun h => by cases h; rfl, fun h => by rw [h]⟩
    rw [this]; exact .bl _
theorem evd_isN (ha : EvD ta σ H d) (hd : d.flat = true) : EvD (tOp kIsN ta (tC .non)) σ H (.bl (decide (d.v = .non))) := fun H1 e Q q =>
  ha H1 e _ fun v H2 e2 fv => by
    rw [fv.flat_of hd]
    exact ⟨rfl, q _ H2 e2 (.bl _)⟩
theorem evd_notN (ha : EvD ta σ H d) (hd : d.flat = true) : EvD (tOp kNotN ta (tC .non)) σ H (.bl (!decide (d.v = .non))) := fun H1 e Q q =>
  ha H1 e _ fun v H2 e2 fv => by
    rw [fv.flat_of hd]
    exact ⟨rfl, q _ H2 e2 (.bl _)⟩
/-- subscripts: of a tuple that is data, of a list, of a tuple at an address -/
theorem atI_D {ds : List D} {i : Int} {vs : List V} (f : FzL H vs ds) (h : atI ds i = some d) : ∃ v, atI vs i = some v ∧ Fz H v d := by
  unfold atI at h ⊢
  rw [f.len]
  cases e : ixN ds.length i with
  | none => rw [e] at h; cases h
  | some j =>
    rw [e] at h
    exact f.get h
theorem evd_ixT {i : Int} (ha : EvD ta σ H (.tup ds)) (hb : EvD tb σ H (.int i)) (h : atI ds i = some d) : EvD (tOp (rIx K) ta tb) σ H d := fun H1 e Q q =>
  ha H1 e _ fun v H2 e2 fv => hb H2 (e.trans e2) _ fun w H3 e3 fw => by
    obtain ⟨a, xs, rfl, h1, f⟩ := (fv.mono (Kp.ex e3)).tup_of
    obtain ⟨v, hv, g⟩ := atI_D f h
    exact .inr (.inl ⟨a, xs, i, v, rfl, fw.int_of, SqT.of h1, hv, q v H3 (e2.trans e3) g⟩)
theorem evd_ixL {i : Int} {p : Addr} {vs : List V} (ha : EvD ta σ H (.adr p)) (hp : H p = some (.lst vs)) (f : FzL H vs ds) (hb : EvD tb σ H (.int i)) (h : atI ds i = some d) : EvD (tOp (rIx K) ta tb) σ H d := fun H1 e Q q =>
  ha H1 e _ fun v H2 e2 fv => hb H2 (e.trans e2) _ fun w H3 e3 fw => by
    obtain ⟨v, hv, g⟩ := atI_D (f.mono (Kp.ex ((e.trans e2).trans e3))) h
    exact .inl ⟨p, vs, i, v, fv.adr_of, fw.int_of, SqL.of (((e.trans e2).trans e3) p _ hp), hv, q v H3 (e2.trans e3) g⟩
theorem evd_ixA {i : Int} {p : Addr} {vs : List V} (ha : EvD ta σ H (.adr p)) (hp : H p = some (.tup vs)) (f : FzL H vs ds) (hb : EvD tb σ H (.int i)) (h : atI ds i = some d) : EvD (tOp (rIx K) ta tb) σ H d := fun H1 e Q q =>
  ha H1 e _ fun v H2 e2 fv => hb H2 (e.trans e2) _ fun w H3 e3 fw => by
    obtain ⟨v, hv, g⟩ := atI_D (f.mono (Kp.ex ((e.trans e2).trans e3))) h
    exact .inr (.inl ⟨p, vs, i, v, fv.adr_of, fw.int_of, SqT.of (((e.trans e2).trans e3) p _ hp), hv, q v H3 (e2.trans e3) g⟩)
/-- a call of a built-in that leaves the heap -/
theorem evd_cb {r : List V → Hp → VK → Prop} {tr : TA} (h : EvDs tr σ H ds) (hr : ∀ vs H1, Ex H H1 → FzL H1 vs ds → ∀ Q : VK, (∀ v H2, Ex H1 H2 → Fz H2 v d → Q v H2) → r vs H1 Q) : EvD (tCB r tr) σ H d := fun H1 e Q q =>
  h H1 e _ fun vs H2 e2 f => hr vs H2 (e.trans e2) f _ fun v H3 e3 g => q v H3 (e2.trans e3) g
theorem evds_nil : EvDs tNil σ H [] := fun H1 _ _ q => q [] H1 (Ex.refl H1) .nil
theorem evds_cons {tr : TA} (h : EvD ta σ H d) (hr : EvDs tr σ H ds) : EvDs (tCons ta tr) σ H (d :: ds) := fun H1 e _ q =>
  h H1 e _ fun v H2 e2 fv => hr H2 (e.trans e2) _ fun vs H3 e3 f => q _ H3 (e2.trans e3) (.cons (fv.mono (Kp.ex e3)) f)
theorem evd_tup {tr : TA} (h : EvDs tr σ H ds) (hl : ds.length ≤ 100000) : EvD (tTup tr) σ H (.tup ds) := fun H1 e _ q =>
  h H1 e _ fun vs H2 e2 f => ⟨by rw [f.len]; exact Evl.sz_of hl, fun p hp => q _ _ (e2.trans (Ex.new hp)) (.tup upd_same (f.mono (Kp.ex (Ex.new hp))))⟩
theorem evn_lst {tr : TA} (h : EvDs tr σ H ds) (hl : ds.length ≤ 100000) : EvN (tLst tr) σ H ds := fun H1 e _ q =>
  h H1 e _ fun vs H2 e2 f => ⟨by rw [f.len]; exact Evl.sz_of hl, fun p hp => q p vs _ (fresh_back e2 hp) (e2.trans (Ex.new hp)) upd_same (f.mono (Kp.ex (Ex.new hp)))⟩
theorem evd_lenL {p : Addr} {xs : List V} (ha : EvD ta σ H (.adr p)) (h : H p = some (.lst xs)) : EvD (tCB (Evl.rLenS K) (tCons ta tNil)) σ H (.int (xs.length : Int)) := fun H1 e Q q =>
  ha H1 e _ fun v H2 e2 fv => ⟨p, xs, by rw [fv.adr_of], Or.inl (SqL.of ((e.trans e2) p _ h)), q _ H2 e2 (.int _)⟩
theorem evd_lenT {p : Addr} {xs : List V} (ha : EvD ta σ H (.adr p)) (h : H p = some (.tup xs)) : EvD (tCB (Evl.rLenS K) (tCons ta tNil)) σ H (.int (xs.length : Int)) := fun H1 e Q q =>
  ha H1 e _ fun v H2 e2 fv => ⟨p, xs, by rw [fv.adr_of], Or.inr (SqT.of ((e.trans e2) p _ h)), q _ H2 e2 (.int _)⟩
theorem evd_lenD (ha : EvD ta σ H (.tup ds)) : EvD (tCB (Evl.rLenS K) (tCons ta tNil)) σ H (.int (ds.length : Int)) := fun H1 e Q q =>
  ha H1 e _ fun v H2 e2 fv => by
    obtain ⟨a, xs, rfl, h1, f⟩ := fv.tup_of
    exact ⟨a, xs, rfl, Or.inr (SqT.of h1), by rw [f.len]; exact q _ H2 e2 (.int _)⟩
theorem evd_intI {i : Int} (ha : EvD ta σ H (.int i)) : EvD (tCB rInt1 (tCons ta tNil)) σ H (.int i) := fun H1 e Q q =>
  ha H1 e _ fun v H2 e2 fv => .inl ⟨i, by rw [fv.int_of], q _ H2 e2 (.int _)⟩
theorem evd_intB {b : Bool} (ha : EvD ta σ H (.bl b)) : EvD (tCB rInt1 (tCons ta tNil)) σ H (.int (if b then 1 else 0)) := fun H1 e Q q =>
  ha H1 e _ fun v H2 e2 fv => .inr ⟨b, by rw [fv.bl_of], q _ H2 e2 (.int _)⟩
/-- list(xs) -/
theorem evn_listL {p : Addr} {xs : List V} (ha : EvD ta σ H (.adr p)) (h : H p = some (.lst xs)) (f : FzL H xs ds) : EvN (tCB (Evl.rListS K) (tCons ta tNil)) σ H ds := fun H1 e Q q =>
  ha H1 e _ fun v H2 e2 fv => ⟨p, xs, by rw [fv.adr_of], Or.inl (SqL.of ((e.trans e2) p _ h)), fun l hl => q l xs _ (fresh_back e2 hl) (e2.trans (Ex.new hl)) upd_same (f.mono (Kp.ex ((e.trans e2).trans (Ex.new hl))))⟩
theorem evn_listT {p : Addr} {xs : List V} (ha : EvD ta σ H (.adr p)) (h : H p = some (.tup xs)) (f : FzL H xs ds) : EvN (tCB (Evl.rListS K) (tCons ta tNil)) σ H ds := fun H1 e Q q =>
  ha H1 e _ fun v H2 e2 fv => ⟨p, xs, by rw [fv.adr_of], Or.inr (SqT.of ((e.trans e2) p _ h)), fun l hl => q l xs _ (fresh_back e2 hl) (e2.trans (Ex.new hl)) upd_same (f.mono (Kp.ex ((e.trans e2).trans (Ex.new hl))))⟩
theorem evn_listD (ha : EvD ta σ H (.tup ds)) : EvN (tCB (Evl.rListS K) (tCons ta tNil)) σ H ds := fun H1 e Q q =>
  ha H1 e _ fun v H2 e2 fv => by
    obtain ⟨a, xs, rfl, h1, f⟩ := fv.tup_of
    exact ⟨a, xs, rfl, Or.inr (SqT.of h1), fun l hl => q l xs _ (fresh_back e2 hl) (e2.trans (Ex.new hl)) upd_same (f.mono (Kp.ex (Ex.new hl)))⟩
/-- tuple(xs) of a list -/
theorem evd_tupL {p : Addr} {xs : List V} (ha : EvD ta σ H (.adr p)) (h : H p = some (.lst xs)) (f : FzL H xs ds) : EvD (tCB (rTupOf K) (tCons ta tNil)) σ H (.tup ds) := fun H1 e Q q =>
  ha H1 e _ fun v H2 e2 fv => ⟨p, xs, by rw [fv.adr_of], Or.inl ⟨SqL.of ((e.trans e2) p _ h), fun l hl => q _ _ (e2.trans (Ex.new hl)) (.tup upd_same (f.mono (Kp.ex ((e.trans e2).trans (Ex.new hl)))))⟩⟩
theorem evd_tupT {p : Addr} {xs : List V} (ha : EvD ta σ H (.adr p)) (h : H p = some (.tup xs)) (f : FzL H xs ds) : EvD (tCB (rTupOf K) (tCons ta tNil)) σ H (.tup ds) := fun H1 e Q q =>
  ha H1 e _ fun v H2 e2 fv => ⟨p, xs, by rw [fv.adr_of], Or.inr ⟨SqT.of ((e.trans e2) p _ h), q _ _ e2 (.tup ((e.trans e2) p _ h) (f.mono (Kp.ex (e.trans e2))))⟩⟩
theorem rep_flat {G : Hp} (hd : d.flat = true) : ∀ k : Nat, FzL G (List.replicate k [d.v]).flatten (List.replicate k d)
  | 0 => .nil
  | k + 1 => by
    rw [List.replicate_succ, List.replicate_succ, List.flatten_cons]
    exact .cons (Fz.flat hd) (rep_flat hd k)
/-- a list times a number, of one flat item -/
theorem evn_rep1 {k : Nat} (ha : EvD ta σ H d) (hd : d.flat = true) (hb : EvD tb σ H (.int (k : Int))) (hk : k ≤ 100000) : EvN (tOp rRep (tLst (tCons ta tNil)) tb) σ H (List.replicate k d) := fun H1 e Q q =>
  ha H1 e _ fun v H2 e2 fv => ⟨by show 1 ≤ sizeLine; decide, fun p hp => hb _ ((e.trans e2).trans (Ex.new hp)) _ fun w H3 e3 fw => by
    refine ⟨p, (k : Int), [v], rfl, fw.int_of, e3 p _ upd_same, by omega, by omega, by rw [List.length_singleton]; have := Evl.sz_of (n := k) hk; omega, fun l hl => ?_⟩
    refine q l _ _ (fresh_back ((e2.trans (Ex.new hp)).trans e3) hl) (((e2.trans (Ex.new hp)).trans e3).trans (Ex.new hl)) upd_same ?_
    rw [fv.flat_of hd, Int.toNat_natCast]
    exact rep_flat hd k⟩
/-- tests -/
theorem et_test {b : Bool} (h : EvD te σ H (.bl b)) : EvT (tTest te) σ H b := fun H1 e _ q => h H1 e _ fun v H2 e2 fv => ⟨b, fv.bl_of, q H2 e2⟩
theorem et_B {b : Bool} (h : EvD te σ H (.bl b)) : EvT (tB te) σ H b := fun H1 e _ q => h H1 e _ fun v H2 e2 fv => ⟨b, fv.bl_of, q H2 e2⟩
theorem et_tru {p : Addr} {xs : List V} (h : EvD te σ H (.adr p)) (hp : H p = some (.lst xs)) : EvT (tTru K te) σ H (!xs.isEmpty) := fun H1 e _ q => h H1 e _ fun v H2 e2 fv => by
  rw [fv.adr_of]
  exact ⟨_, .inl ⟨xs, SqL.of ((e.trans e2) p _ hp), rfl⟩, q H2 e2⟩
theorem evd_chain {r r' : R2} {tc : TE} {i j k : Int} {p p' : Int → Int → Bool} (hr : r = rI0 fun i j => .bl (p i j)) (hr' : r' = rI0 fun i j => .bl (p' i j)) (ha : EvD ta σ H (.int i)) (hb : EvD tb σ H (.int j)) (hc : EvD tc σ H (.int k)) :
    EvD (tChain r r' ta tb tc) σ H (.bl (p i j && p' j k)) := fun H1 e Q q => by
  subst hr hr'
  refine ha H1 e _ fun v H2 e2 fv => hb H2 (e.trans e2) _ fun w H3 e3 fw => ⟨i, j, fv.int_of, fw.int_of, p i j, rfl, ?_⟩
  cases h : p i j with
  | false =>
    show Q (.bl false) H3
    rw [h] at q
    exact q _ H3 (e2.trans e3) (.bl _)
  | true =>
    show tc σ H3 _
    rw [h] at q
    exact hc H3 ((e.trans e2).trans e3) _ fun u H4 e4 fu => ⟨j, k, fw.int_of, fu.int_of, q _ H4 ((e2.trans e3).trans e4) (.bl _)⟩
theorem evd_andV {a b : Bool} (h1 : EvD ta σ H (.bl a)) (h2 : a = true → EvD tb σ H (.bl b)) : EvD (tAndV ta tb) σ H (.bl (a && b)) := fun H1 e Q q => h1 H1 e _ fun v H2 e2 fv => ⟨a, fv.bl_of, by
  cases a with
  | true =>
    show tb σ H2 Q
    exact h2 rfl H2 (e.trans e2) Q fun v H3 e3 => q v H3 (e2.trans e3)
  | false =>
    show Q (.bl false) H2
    exact q _ H2 e2 (.bl _)⟩
theorem evd_orV {a b : Bool} (h1 : EvD ta σ H (.bl a)) (h2 : a = false → EvD tb σ H (.bl b)) : EvD (tOrV ta tb) σ H (.bl (a || b)) := fun H1 e Q q => h1 H1 e _ fun v H2 e2 fv => ⟨a, fv.bl_of, by
  cases a with
  | true =>
    show Q (.bl true) H2
    exact q _ H2 e2 (.bl _)
  | false =>
    show tb σ H2 Q
    exact h2 rfl H2 (e.trans e2) Q fun v H3 e3 => q v H3 (e2.trans e3)⟩
theorem evd_notV {a : Bool} (h1 : EvD ta σ H (.bl a)) : EvD (tNotV ta) σ H (.bl (!a)) := fun H1 e Q q => h1 H1 e _ fun v H2 e2 fv => ⟨a, fv.bl_of, q _ H2 e2 (.bl _)⟩
theorem evd_if {b : Bool} (h : EvT t σ H b) (h1 : b = true → EvD ta σ H d) (h2 : b = false → EvD tb σ H d) : EvD (tIf t ta tb) σ H d := fun H1 e Q q => h H1 e _ fun H2 e2 => by
  cases b with
  | true =>
    show ta σ H2 Q
    exact h1 rfl H2 (e.trans e2) Q fun v H3 e3 => q v H3 (e2.trans e3)
  | false =>
    show tb σ H2 Q
    exact h2 rfl H2 (e.trans e2) Q fun v H3 e3 => q v H3 (e2.trans e3)
/-- x in xs, flat -/
theorem evd_inL {neg : Bool} {p : Addr} {xs : List V} (ha : EvD ta σ H d) (hd : d.flat = true) (hdf : flatV d.v = true) (hb : EvD tb σ H (.adr p)) (hp : H p = some (.lst xs)) (hx : xs.all flatV = true) :
    EvD (tOp (rIn K neg) ta tb) σ H (.bl (if neg then !inV d.v xs else inV d.v xs)) := fun H1 e Q q =>
  ha H1 e _ fun v H2 e2 fv => hb H2 (e.trans e2) _ fun w H3 e3 fw => by
    rw [fv.flat_of hd]
    exact ⟨p, xs, fw.adr_of, .inl (SqL.of (((e.trans e2).trans e3) p _ hp)), hdf, hx, q _ H3 (e2.trans e3) (.bl _)⟩
theorem evd_inT {neg : Bool} (ha : EvD ta σ H d) (hd : d.flat = true) (hdf : flatV d.v = true) (hb : EvD tb σ H (.tup ds)) (hf : ds.all D.flat = true) (hx : (ds.map D.v).all flatV = true) :
    EvD (tOp (rIn K neg) ta tb) σ H (.bl (if neg then !inV d.v (ds.map D.v) else inV d.v (ds.map D.v))) := fun H1 e Q q =>
  ha H1 e _ fun v H2 e2 fv => hb H2 (e.trans e2) _ fun w H3 e3 fw => by
    obtain ⟨a, xs, rfl, h1, f⟩ := fw.tup_of
    rw [fv.flat_of hd]
    have ex := f.flat_of hf
    subst ex
    exact ⟨a, _, rfl, .inr (SqT.of h1), hdf, hx, q _ H3 (e2.trans e3) (.bl _)⟩
theorem evd_inN {neg : Bool} (ha : EvD ta σ H d) (hd : d.flat = true) (hdf : flatV d.v = true) (hb : EvN tb σ H ds) (hf : ds.all D.flat = true) (hx : (ds.map D.v).all flatV = true) :
    EvD (tOp (rIn K neg) ta tb) σ H (.bl (if neg then !inV d.v (ds.map D.v) else inV d.v (ds.map D.v))) := fun H1 e Q q =>
  ha H1 e _ fun v H2 e2 fv => hb H2 (e.trans e2) _ fun p xs H3 _ e3 h1 f => by
    rw [fv.flat_of hd]
    have ex := f.flat_of hf
    subst ex
    exact ⟨p, _, rfl, .inl (SqL.of h1), hdf, hx, q _ H3 (e2.trans e3) (.bl _)⟩
theorem inV_nats {x : Nat} {l : List Nat} : inV (vn x) (nats l) = decide (x ∈ l) := by
  unfold inV nats
  rw [List.any_map]
  induction l with
  | nil => rfl
  | cons a l ih =>
    rw [List.any_cons, ih]
    show ((a : Int) == (x : Int) || decide (x ∈ l)) = _
    by_cases h : x = a
    · subst h; simp
    · have : ((a : Int) == (x : Int)) = false := by simp; omega
      rw [this, Bool.false_or]
      simp [h]
theorem nats_flat (l : List Nat) : (nats l).all flatV = true := by
  unfold nats
  rw [List.all_map]
  exact List.all_eq_true.mpr fun x _ => rfl
end

section
variable {K : PySem.W.Frag} {σ : L2.St} {H H' : Hp} {ta tb te tx : TE} {t : TT} {v : V} {d : D} {ds es : List D} {E : Ends} {tu tw tz : TS} {g : TG}
theorem s_asg {i : Nat} (h : EvD te σ H d) (k : ∀ v H1, Ex H H1 → Fz H1 v d → E.nx (σ.set i (some v)) H1) : tAsg te (gName i) E σ H := h H (Ex.refl H) _ k
theorem s_asgN {i : Nat} (h : EvN te σ H ds) (k : ∀ p vs H1, H p = none → Ex H H1 → H1 p = some (.lst vs) → FzL H1 vs ds → E.nx (σ.set i (some (.ref p))) H1) : tAsg te (gName i) E σ H := h H (Ex.refl H) _ k
theorem s_ret (h : EvD te σ H d) (k : ∀ v H1, Ex H H1 → Fz H1 v d → E.rt v H1) : tRet te E σ H := h H (Ex.refl H) _ k
theorem s_retN (h : EvN te σ H ds) (k : ∀ p vs H1, H p = none → Ex H H1 → H1 p = some (.lst vs) → FzL H1 vs ds → E.rt (.ref p) H1) : tRet te E σ H := h H (Ex.refl H) _ k
theorem s_if {b : Bool} (h : EvT t σ H b) (h1 : b = true → ∀ H1, Ex H H1 → tu E σ H1) (h2 : b = false → ∀ H1, Ex H H1 → tw E σ H1) : tIfS t tu tw E σ H := Evl.s_if h h1 h2
theorem s_app {l : Addr} {xs : List V} (hl : H l = some (.lst xs)) (ha : EvD ta σ H (.adr l)) (h : EvD te σ H d) (hz : xs.length < 100000) (k : ∀ v H1, Ex H H1 → Fz H1 v d → E.nx σ (upd H1 l (.lst (xs ++ [v])))) :
    tDrop (tBM K "list" rAppend ta (tCons te tNil)) E σ H := ha H (Ex.refl H) _ fun v H1 e1 fv => by
  rw [fv.adr_of]
  exact ⟨Or.inl ⟨rfl, xs, SqL.of (e1 l _ hl)⟩, h H1 e1 _ fun v H2 e2 f => ⟨l, xs, v, rfl, rfl, e2 l _ (e1 l _ hl), Evl.sz_lt hz, k v H2 (e1.trans e2) f⟩⟩
theorem s_appN {l : Addr} {xs : List V} (hl : H l = some (.lst xs)) (ha : EvD ta σ H (.adr l)) (h : EvN te σ H ds) (hz : xs.length < 100000) (k : ∀ p vs H1, H p = none → Ex H H1 → H1 p = some (.lst vs) → FzL H1 vs ds → E.nx σ (upd H1 l (.lst (xs ++ [.ref p])))) :
    tDrop (tBM K "list" rAppend ta (tCons te tNil)) E σ H := ha H (Ex.refl H) _ fun v H1 e1 fv => by
  rw [fv.adr_of]
  exact ⟨Or.inl ⟨rfl, xs, SqL.of (e1 l _ hl)⟩, h H1 e1 _ fun p vs H2 hp e2 h1 f => ⟨l, xs, _, rfl, rfl, e2 l _ (e1 l _ hl), Evl.sz_lt hz, k p vs H2 (fresh_back e1 hp) (e1.trans e2) h1 f⟩⟩
theorem s_setL {l : Addr} {xs : List V} {j : Nat} (hl : H l = some (.lst xs)) (h : EvD te σ H d) (ho : EvD ta σ H (.adr l)) (hi : EvD tb σ H (.int (j : Int))) (hj : j < xs.length) (k : ∀ v H1, Ex H H1 → Fz H1 v d → E.nx σ (upd H1 l (.lst (xs.set j v)))) :
    tAsg te (gSub ta tb rSetL) E σ H := h H (Ex.refl H) _ fun v H1 e1 f => ho H1 e1 _ fun w H2 e2 fw => hi H2 (e1.trans e2) _ fun u H3 e3 fu =>
  ⟨l, xs, (j : Int), j, fw.adr_of, fu.int_of, ((e1.trans e2).trans e3) l _ hl, Evl.ixN_nat hj, k v H3 ((e1.trans e2).trans e3) (f.mono (Kp.ex (e2.trans e3)))⟩
/-- the same ahead of a rest -/
theorem q_asg {i : Nat} (h : EvD te σ H d) (k : ∀ v H1, Ex H H1 → Fz H1 v d → tz E (σ.set i (some v)) H1) : tSeq (tAsg te (gName i)) tz E σ H := s_asg (E := { E with nx := tz E }) h k
theorem q_asgN {i : Nat} (h : EvN te σ H ds) (k : ∀ p vs H1, H p = none → Ex H H1 → H1 p = some (.lst vs) → FzL H1 vs ds → tz E (σ.set i (some (.ref p))) H1) : tSeq (tAsg te (gName i)) tz E σ H := s_asgN (E := { E with nx := tz E }) h k
theorem q_if {b : Bool} (h : EvT t σ H b) (h1 : b = true → ∀ H1, Ex H H1 → tu { E with nx := tz E } σ H1) (h2 : b = false → ∀ H1, Ex H H1 → tw { E with nx := tz E } σ H1) : tSeq (tIfS t tu tw) tz E σ H := s_if (E := { E with nx := tz E }) h h1 h2
theorem q_app {l : Addr} {xs : List V} (hl : H l = some (.lst xs)) (ha : EvD ta σ H (.adr l)) (h : EvD te σ H d) (hz : xs.length < 100000) (k : ∀ v H1, Ex H H1 → Fz H1 v d → tz E σ (upd H1 l (.lst (xs ++ [v])))) :
    tSeq (tDrop (tBM K "list" rAppend ta (tCons te tNil))) tz E σ H := s_app (E := { E with nx := tz E }) hl ha h hz k
theorem q_setL {l : Addr} {xs : List V} {j : Nat} (hl : H l = some (.lst xs)) (h : EvD te σ H d) (ho : EvD ta σ H (.adr l)) (hi : EvD tb σ H (.int (j : Int))) (hj : j < xs.length) (k : ∀ v H1, Ex H H1 → Fz H1 v d → tz E σ (upd H1 l (.lst (xs.set j v)))) :
    tSeq (tAsg te (gSub ta tb rSetL)) tz E σ H := s_setL (E := { E with nx := tz E }) hl h ho hi hj k
end
end TR
namespace TR
/-- a world: how many stations, the ropes -/
structure Wd where
  n : Nat
  rs : List (Nat × Nat)
/-- a standing's guests and cars -/
structure Sd where
  reds : List Nat
  blues : List Nat
  cars : List Nat
  deriving DecidableEq
def pick (p : Nat × Nat) (c : Nat) : Nat := if c = 0 then p.1 else p.2
def rope (w : Wd) (k : Nat) : Nat × Nat := w.rs.getD k (0, 0)
def car (s : Sd) (k : Nat) : Nat := s.cars.getD k 0
def redSt (w : Wd) (s : Sd) (k : Nat) : Nat := pick (rope w k) (car s k)
def bluSt (w : Wd) (s : Sd) (k : Nat) : Nat := pick (rope w k) (1 - car s k)
def arrows (w : Wd) (s : Sd) : List (Nat × Nat) := (List.range w.rs.length).map fun k => (redSt w s k, bluSt w s k)
/-- a colour: true is red -/
def gs (s : Sd) (c : Bool) : List Nat := if c then s.reds else s.blues
def gAt (s : Sd) (c : Bool) (x : Nat) : Nat := (gs s c).getD x 0
def carSt (w : Wd) (s : Sd) (k : Nat) (c : Bool) : Nat := if c then redSt w s k else bluSt w s k
def far (p : Nat × Nat) (x : Nat) : Nat := if x = p.1 then p.2 else p.1
abbrev Ride := Nat × Bool
def can (w : Wd) (s : Sd) (r : Ride) : Bool := decide (0 < gAt s r.2 (carSt w s r.1 r.2))
def shift (l : List Nat) (a b : Nat) : List Nat := (l.set a (l.getD a 0 - 1)).set b ((l.set a (l.getD a 0 - 1)).getD b 0 + 1)
def ride (w : Wd) (s : Sd) (r : Ride) : Sd :=
  if r.2 then ⟨shift s.reds (redSt w s r.1) (far (rope w r.1) (redSt w s r.1)), s.blues, s.cars.set r.1 (1 - car s r.1)⟩
  else ⟨s.reds, shift s.blues (bluSt w s r.1) (far (rope w r.1) (bluSt w s r.1)), s.cars.set r.1 (1 - car s r.1)⟩
def rideAll (w : Wd) (s : Sd) (l : List Ride) : Sd := l.foldl (ride w) s
/-- the rides are possible one after another -/
def Ok (w : Wd) : Sd → List Ride → Prop
  | _, [] => True
  | s, r :: t => r.1 < w.rs.length ∧ can w s r = true ∧ Ok w (ride w s r) t
/-- a way along pairs from a start -/
inductive PathTo (ps : List (Nat × Nat)) (st : Nat → Prop) : Nat → Prop
  | base {x : Nat} : st x → PathTo ps st x
  | step {x y : Nat} : PathTo ps st x → (x, y) ∈ ps → PathTo ps st y
def swapP (p : Nat × Nat) : Nat × Nat := (p.2, p.1)
structure WOk (w : Wd) : Prop where
  n1 : 1 ≤ w.n
  n24 : w.n ≤ 24
  m40 : w.rs.length ≤ 40
  ends : ∀ p ∈ w.rs, p.1 < w.n ∧ p.2 < w.n ∧ p.1 ≠ p.2
  conn : ∀ x, x < w.n → PathTo (w.rs ++ w.rs.map swapP) (fun y => y = 0) x
structure SOk (w : Wd) (s : Sd) : Prop where
  lr : s.reds.length = w.n
  lb : s.blues.length = w.n
  lc : s.cars.length = w.rs.length
  c01 : ∀ c ∈ s.cars, c ≤ 1
  g30 : s.reds.sum + s.blues.sum ≤ 30
open Classical in
/-- the ascending list of the stations below n to which ways lead -/
noncomputable def reachL (n : Nat) (ps : List (Nat × Nat)) (st : Nat → Prop) : List Nat := (List.range n).filter fun x => decide (PathTo ps st x)
def RedTo (w : Wd) (s : Sd) : Nat → Prop := PathTo (arrows w s) fun x => 0 < s.reds.getD x 0
def BluTo (w : Wd) (s : Sd) : Nat → Prop := PathTo ((arrows w s).map swapP) fun x => 0 < s.blues.getD x 0
noncomputable def redL (w : Wd) (s : Sd) : List Nat := reachL w.n (arrows w s) fun x => 0 < s.reds.getD x 0
noncomputable def bluL (w : Wd) (s : Sd) : List Nat := reachL w.n ((arrows w s).map swapP) fun x => 0 < s.blues.getD x 0
noncomputable def meets (w : Wd) (s : Sd) : Bool := (redL w s).any fun x => decide (0 < s.blues.getD x 0)
open Classical in
noncomputable def aliveS (w : Wd) (s : Sd) (x : Nat) : Bool := meets w s || decide (RedTo w s x) || decide (BluTo w s x)
open Classical in
noncomputable def aliveR (w : Wd) (s : Sd) (k : Nat) : Bool := meets w s || decide (RedTo w s (redSt w s k)) || decide (BluTo w s (bluSt w s k))
noncomputable def deadL (w : Wd) (s : Sd) : List Nat := (List.range w.n).filter fun x => !aliveS w s x
def Near (ps : List (Nat × Nat)) (st : Nat → Prop) : Nat → Nat → Prop
  | 0, x => st x
  | k + 1, x => ∃ y, (x, y) ∈ ps ∧ Near ps st k y
open Classical in
noncomputable def dist (ps : List (Nat × Nat)) (st : Nat → Prop) (x : Nat) : Option Nat :=
  if h : ∃ d, Near ps st d x ∧ ∀ e, e < d → ¬ Near ps st e x then some h.choose else none
noncomputable def distB (w : Wd) (s : Sd) (x : Nat) : Option Nat := dist (arrows w s) (fun x => 0 < s.blues.getD x 0) x
def firstRope (ps : List (Nat × Nat)) (ok : Nat × Nat → Bool) : Option Nat := (List.range ps.length).find? fun k => ok (ps.getD k (0, 0))
/-- the least ropes: remaining, places -/
def lropes (ps : List (Nat × Nat)) (ds : Nat → Option Nat) : Nat → List Nat → List Nat
  | 0, _ => []
  | r + 1, pl => match firstRope ps fun p => decide (p.1 ∈ pl) && (ds p.2 == some r) with
    | some k => k :: lropes ps ds r [(ps.getD k (0, 0)).2]
    | none => lropes ps ds r pl
def minL : List Nat → Nat
  | [] => 0
  | [a] => a
  | a :: l => min a (minL l)
noncomputable def mstarts (w : Wd) (s : Sd) : List Nat := (List.range w.n).filter fun x => decide (0 < s.reds.getD x 0) && (distB w s x).isSome
noncomputable def mshort (w : Wd) (s : Sd) : Nat := minL ((mstarts w s).map fun x => (distB w s x).getD 0)
noncomputable def mnear (w : Wd) (s : Sd) : List Nat := (mstarts w s).filter fun x => decide ((distB w s x).getD 0 = mshort w s)
noncomputable def mropes (w : Wd) (s : Sd) : List Nat := lropes (arrows w s) (distB w s) (mshort w s) (mnear w s)
noncomputable def mstart (w : Wd) (s : Sd) : Nat := if mshort w s = 0 then (mnear w s).getD 0 0 else ((arrows w s).getD ((mropes w s).getD 0 0) (0, 0)).1
/-- what the search has found: a station, the step that found it (rope, from), the ropes of the way -/
structure En where
  st : Nat
  pr : Option (Nat × Nat)
  path : List Nat
abbrev Stp := Nat × Nat × Nat
def bstep (e : En) (es : List En) (t : Stp) : List En :=
  if t.2.1 = e.st ∧ t.2.2 ∉ es.map En.st then es ++ [⟨t.2.2, some (t.1, e.st), e.path ++ [t.1]⟩] else es
def bfs (steps : List Stp) (goals : List Nat) : Nat → List En → Nat → Option (List Nat)
  | 0, _, _ => none
  | f + 1, es, i => match es[i]? with
    | none => none
    | some e => if e.st ∈ goals then some e.path else bfs steps goals f (steps.foldl (bstep e) es) (i + 1)
def sway (n : Nat) (steps : List Stp) (starts goals : List Nat) : Option (List Nat) := bfs steps goals (n + 1) (starts.map fun x => ⟨x, none, []⟩) 0
def lsteps (w : Wd) (s : Sd) (c : Bool) : List Stp := (List.range w.rs.length).map fun k => (k, carSt w s k c, carSt w s k (!c))
def lstarts (w : Wd) (s : Sd) (c : Bool) : List Nat := (List.range w.n).filter fun x => decide (0 < gAt s c x)
def lone (w : Wd) (s : Sd) (c : Bool) (x : Nat) : Option (List Ride) := (sway w.n (lsteps w s c) (lstarts w s c) [x]).map fun l => l.map fun k => (k, c)
def psteps (w : Wd) : List Stp := (List.range w.rs.length).flatMap fun k => [(k, (rope w k).1, (rope w k).2), (k, (rope w k).2, (rope w k).1)]
def pstep (w : Wd) (met : Sd) (a : List Ride × Nat) (k : Nat) : List Ride × Nat :=
  (a.1 ++ (if redSt w met k = a.2 then [(k, true), (k, false)] else [(k, false), (k, true)]), far (rope w k) a.2)
noncomputable def mrow (w : Wd) (s : Sd) : List Ride := (mropes w s).map fun k => (k, true)
noncomputable def mplace (w : Wd) (s : Sd) : Nat := (mropes w s).foldl (fun x k => far (rope w k) x) (mstart w s)
noncomputable def pway (w : Wd) (s : Sd) (goals : List Nat) : List Nat := (sway w.n (psteps w) [mplace w s] goals).getD []
noncomputable def pairRow (w : Wd) (s : Sd) (goals : List Nat) : List Ride × Nat := (pway w s goals).foldl (pstep w (rideAll w s (mrow w s))) (mrow w s, mplace w s)
noncomputable def visitF (w : Wd) (s : Sd) (x : Nat) : Option (List Ride) :=
  if 0 < s.reds.getD x 0 + s.blues.getD x 0 then some []
  else match lone w s true x with
    | some r => some r
    | none => match lone w s false x with
      | some r => some r
      | none => if meets w s then some (pairRow w s [x]).1 else none
noncomputable def runF (w : Wd) (s : Sd) (k : Nat) : Option (List Ride) :=
  match lone w s true (redSt w s k) with
  | some r => some (r ++ [(k, true)])
  | none => match lone w s false (bluSt w s k) with
    | some r => some (r ++ [(k, false)])
    | none => if meets w s then
        some ((pairRow w s [redSt w s k, bluSt w s k]).1 ++ [(k, decide ((pairRow w s [redSt w s k, bluSt w s k]).2 = redSt w s k))])
      else none
def dPair (p : Nat × Nat) : D := .tup [dn p.1, dn p.2]
def colS (c : Bool) : PySem.Str := if c then "red" else "blue"
def dRide (r : Ride) : D := .tup [dn r.1, .str (colS r.2)]
def dStp (t : Stp) : D := .tup [dn t.1, dn t.2.1, dn t.2.2]
def dOpt : Option Nat → D
  | none => .non
  | some k => dn k
/-- a state of the law's: a tuple of three tuples -/
def dSt (s : Sd) : D := .tup [.tup (s.reds.map dn), .tup (s.blues.map dn), .tup (s.cars.map dn)]
end TR
namespace TR
open PySem L2 PyProof.Rows
open Evl (Ex EvT fresh_back)
section
variable {K : PySem.W.Frag} {mg : Str → Option Value}
def netF (n : Nat) (t : Addr) : List (Str × V) := putF "ropes" (.ref t) (putF "stations" (vn n) [])
def staF (an tr tb tc : Addr) : List (Str × V) := putF "cars" (.ref tc) (putF "blues" (.ref tb) (putF "reds" (.ref tr) (putF "net" (.ref an) [])))
def NetAt (T : Txt K mg) (H : Hp) (a : Addr) (w : Wd) : Prop := WOk w ∧ ∃ dx t, H a = some (.ins T.Net.C dx (netF w.n t)) ∧ Fz H (.ref t) (.tup (w.rs.map dPair))
def StaA (T : Txt K mg) (H : Hp) (a an : Addr) (w : Wd) (s : Sd) : Prop := SOk w s ∧ NetAt T H an w ∧ ∃ dx tr tb tc, H a = some (.ins T.Standing.C dx (staF an tr tb tc)) ∧
  Fz H (.ref tr) (.tup (s.reds.map dn)) ∧ Fz H (.ref tb) (.tup (s.blues.map dn)) ∧ Fz H (.ref tc) (.tup (s.cars.map dn))
def Sta (T : Txt K mg) (H : Hp) (a : Addr) (w : Wd) (s : Sd) : Prop := ∃ an, StaA T H a an w s
/-- a list or a tuple of data -/
def Seq (H : Hp) (p : Addr) (ds : List D) : Prop := ∃ vs, (H p = some (.lst vs) ∨ H p = some (.tup vs)) ∧ FzL H vs ds
/-- a list of data -/
def Lst (H : Hp) (p : Addr) (ds : List D) : Prop := ∃ vs, H p = some (.lst vs) ∧ FzL H vs ds
/-- all but p is kept -/
def ExB (p : Addr) (H H' : Hp) : Prop := ∀ a o, a ≠ p → H a = some o → H' a = some o
def RetD (d : D) (H : Hp) (Q : VK) : Prop := ∀ v H', Ex H H' → Fz H' v d → Q v H'
def RetN (ds : List D) (H : Hp) (Q : VK) : Prop := ∀ p vs H', H p = none → Ex H H' → H' p = some (.lst vs) → FzL H' vs ds → Q (.ref p) H'
def sp_check_station (T : Txt K mg) : Sp := fun vs H Q _ => ∃ (a : Addr) (w : Wd) (x : Nat), vs = [.ref a, vn x] ∧ NetAt T H a w ∧ x < w.n ∧ RetD .non H Q
def sp_check_rope (T : Txt K mg) : Sp := fun vs H Q _ => ∃ (a : Addr) (w : Wd) (k : Nat), vs = [.ref a, vn k] ∧ NetAt T H a w ∧ k < w.rs.length ∧ RetD .non H Q
def sp_check_colour (_ : Txt K mg) : Sp := fun vs H Q _ => ∃ (c : Bool), vs = [.str (colS c)] ∧ RetD .non H Q
def sp_check_rides (T : Txt K mg) : Sp := fun vs H Q _ => ∃ (a : Addr) (w : Wd) (p : Addr) (rs : List Ride), vs = [.ref a, .ref p] ∧ NetAt T H a w ∧ Seq H p (rs.map dRide) ∧ (∀ r ∈ rs, r.1 < w.rs.length) ∧ RetD .non H Q
def sp_check_cars (T : Txt K mg) : Sp := fun vs H Q _ => ∃ (a : Addr) (w : Wd) (p : Addr) (cs : List Nat), vs = [.ref a, .ref p] ∧ NetAt T H a w ∧ Seq H p (cs.map dn) ∧ cs.length = w.rs.length ∧ (∀ c ∈ cs, c ≤ 1) ∧ RetD .non H Q
def sp_check_guests (T : Txt K mg) : Sp := fun vs H Q _ => ∃ (a : Addr) (w : Wd) (x : Str) (p : Addr) (g : List Nat), vs = [.ref a, .str x, .ref p] ∧ NetAt T H a w ∧ Seq H p (g.map dn) ∧ g.length = w.n ∧ RetD .non H Q
def sp_Standing_init (T : Txt K mg) : Sp := fun vs H Q _ => ∃ (a : Addr) (an : Addr) (pr : Addr) (pb : Addr) (pc : Addr) (dx : Addr) (w : Wd) (s : Sd), vs = [.ref a, .ref an, .ref pr, .ref pb, .ref pc] ∧ H a = some (.ins T.Standing.C dx []) ∧ NetAt T H an w ∧
  Seq H pr (s.reds.map dn) ∧ Seq H pb (s.blues.map dn) ∧ Seq H pc (s.cars.map dn) ∧ SOk w s ∧ ∀ H', ExB a H H' → StaA T H' a an w s → Q .non H'
def sp_Net_init (T : Txt K mg) : Sp := fun vs H Q _ => ∃ (a : Addr) (p : Addr) (dx : Addr) (w : Wd), vs = [.ref a, vn w.n, .ref p] ∧ H a = some (.ins T.Net.C dx []) ∧ Lst H p (w.rs.map dPair) ∧ WOk w ∧ ∀ H', ExB a H H' → NetAt T H' a w → Q .non H'
def sp_Standing_red_car (T : Txt K mg) : Sp := fun vs H Q _ => ∃ (a : Addr) (w : Wd) (s : Sd) (k : Nat), vs = [.ref a, vn k] ∧ Sta T H a w s ∧ k < w.rs.length ∧ RetD (dn (redSt w s k)) H Q
def sp_Standing_blue_car (T : Txt K mg) : Sp := fun vs H Q _ => ∃ (a : Addr) (w : Wd) (s : Sd) (k : Nat), vs = [.ref a, vn k] ∧ Sta T H a w s ∧ k < w.rs.length ∧ RetD (dn (bluSt w s k)) H Q
def sp_far_end (T : Txt K mg) : Sp := fun vs H Q _ => ∃ (a : Addr) (w : Wd) (k : Nat) (x : Nat), vs = [.ref a, vn k, vn x] ∧ NetAt T H a w ∧ k < w.rs.length ∧ RetD (dn (far (rope w k) x)) H Q
def sp_car_station (T : Txt K mg) : Sp := fun vs H Q _ => ∃ (a : Addr) (w : Wd) (s : Sd) (k : Nat) (c : Bool), vs = [.ref a, vn k, .str (colS c)] ∧ Sta T H a w s ∧ k < w.rs.length ∧ RetD (dn (carSt w s k c)) H Q
def sp_guests_of (T : Txt K mg) : Sp := fun vs H Q _ => ∃ (a : Addr) (w : Wd) (s : Sd) (c : Bool), vs = [.ref a, .str (colS c)] ∧ Sta T H a w s ∧ RetD (.tup ((gs s c).map dn)) H Q
def sp_moved (T : Txt K mg) : Sp := fun vs H Q _ => ∃ (a : Addr) (w : Wd) (s : Sd) (k : Nat) (c : Bool), vs = [.ref a, vn k, .str (colS c)] ∧ Sta T H a w s ∧ k < w.rs.length ∧ can w s (k, c) = true ∧ ∀ p H', Ex H H' → Sta T H' p w (ride w s (k, c)) → Q (.ref p) H'
def sp_is_possible (T : Txt K mg) : Sp := fun vs H Q _ => ∃ (a : Addr) (w : Wd) (s : Sd) (k : Nat) (c : Bool), vs = [.ref a, vn k, .str (colS c)] ∧ Sta T H a w s ∧ k < w.rs.length ∧ RetD (.bl (can w s (k, c))) H Q
def sp_walk (T : Txt K mg) : Sp := fun vs H Q _ => ∃ (a : Addr) (w : Wd) (s : Sd) (p : Addr) (rs : List Ride), vs = [.ref a, .ref p] ∧ Sta T H a w s ∧ Lst H p (rs.map dRide) ∧ Ok w s rs ∧ rs.length ≤ 1000 ∧
  ∀ q us b H', H q = none → Ex H H' → H' q = some (.lst (us ++ [.ref b])) → Sta T H' b w (rideAll w s rs) → Q (.ref q) H'
/-- positional arguments alone: the standing, then the rides -/
def sp_end_of (T : Txt K mg) : Sp := fun vs H Q _ => ∃ (a : Addr) (w : Wd) (s : Sd) (us : List V) (rs : List Ride), vs = .ref a :: us ∧ Sta T H a w s ∧ FzL H us (rs.map dRide) ∧ Ok w s rs ∧ rs.length ≤ 1000 ∧
  ∀ b H', Ex H H' → Sta T H' b w (rideAll w s rs) → Q (.ref b) H'
def sp_arrows_of (T : Txt K mg) : Sp := fun vs H Q _ => ∃ (a : Addr) (w : Wd) (s : Sd), vs = [.ref a] ∧ Sta T H a w s ∧ RetN ((arrows w s).map dPair) H Q
def sp_reached_from (_ : Txt K mg) : Sp := fun vs H Q _ => ∃ (p : Addr) (q : Addr) (n : Nat) (ps : List (Nat × Nat)) (st : List Nat), vs = [.ref p, vn n, .ref q] ∧ Lst H p (ps.map dPair) ∧ Lst H q (st.map dn) ∧ (∀ x ∈ ps, x.1 < n ∧ x.2 < n) ∧ (∀ x ∈ st, x < n) ∧ n ≤ 24 ∧ ps.length ≤ 40 ∧ st.length ≤ 24 ∧
  RetN ((reachL n ps fun x => x ∈ st).map dn) H Q
def sp_red_reach (T : Txt K mg) : Sp := fun vs H Q _ => ∃ (a : Addr) (w : Wd) (s : Sd), vs = [.ref a] ∧ Sta T H a w s ∧ RetN ((redL w s).map dn) H Q
def sp_blue_reach (T : Txt K mg) : Sp := fun vs H Q _ => ∃ (a : Addr) (w : Wd) (s : Sd), vs = [.ref a] ∧ Sta T H a w s ∧ RetN ((bluL w s).map dn) H Q
def sp_can_meet (T : Txt K mg) : Sp := fun vs H Q _ => ∃ (a : Addr) (w : Wd) (s : Sd), vs = [.ref a] ∧ Sta T H a w s ∧ RetD (.bl (meets w s)) H Q
def sp_lengths_to_blue (T : Txt K mg) : Sp := fun vs H Q _ => ∃ (a : Addr) (w : Wd) (s : Sd) (p : Addr), vs = [.ref a, .ref p] ∧ Sta T H a w s ∧ Lst H p ((arrows w s).map dPair) ∧ RetN ((List.range w.n).map fun x => dOpt (distB w s x)) H Q
def sp_least_ropes (_ : Txt K mg) : Sp := fun vs H Q _ => ∃ (p : Addr) (l : Addr) (q : Addr) (n : Nat) (ps : List (Nat × Nat)) (ds : Nat → Option Nat) (st : List Nat) (d : Nat), vs = [.ref p, .ref l, .ref q] ∧ Lst H p (ps.map dPair) ∧ Lst H l ((List.range n).map fun x => dOpt (ds x)) ∧ Lst H q (st.map dn) ∧
  (∀ x ∈ ps, x.1 < n ∧ x.2 < n) ∧ (∀ x ∈ st, x < n) ∧ n ≤ 24 ∧ ps.length ≤ 40 ∧ st[0]? = some d ∧ (∃ e, ds d = some e ∧ e ≤ 24 ∧ RetN ((lropes ps ds e st).map dn) H Q)
def sp_meeting_way (T : Txt K mg) : Sp := fun vs H Q _ => ∃ (a : Addr) (w : Wd) (s : Sd), vs = [.ref a] ∧ Sta T H a w s ∧ (mstarts w s = [] → RetD .non H Q) ∧
  (mstarts w s ≠ [] → ∀ t q H', H q = none → Ex H H' → H' t = some (.tup [vn (mstart w s), .ref q]) → H' q = some (.lst (nats (mropes w s))) → Q (.ref t) H')
def sp_dead_stations (T : Txt K mg) : Sp := fun vs H Q _ => ∃ (a : Addr) (w : Wd) (s : Sd), vs = [.ref a] ∧ Sta T H a w s ∧ RetN ((deadL w s).map dn) H Q
/-- the dict of the search: station ↦ None | (rope, from) -/
inductive Back (H : Hp) (kvs : List (Key × V)) : Nat → List Nat → Prop
  | base {x : Nat} : valV kvs (Sum.inl (x : Int)) = some .non → Back H kvs x []
  | step {x k y : Nat} {l : List Nat} {t : Addr} : valV kvs (Sum.inl (x : Int)) = some (.ref t) → H t = some (.tup [vn k, vn y]) → Back H kvs y l → Back H kvs x (l ++ [k])
def sp_ropes_back (_ : Txt K mg) : Sp := fun vs H Q _ => ∃ (d : Addr) (x : Nat) (kvs : List (Key × V)) (l : List Nat), vs = [.ref d, vn x] ∧ H d = some (.dK kvs) ∧ Back H kvs x l ∧ l.length ≤ 1000 ∧ RetN (l.map dn) H Q
def sp_shortest_way (_ : Txt K mg) : Sp := fun vs H Q _ => ∃ (p : Addr) (q : Addr) (g : Addr) (n : Nat) (steps : List Stp) (st : List Nat) (gl : List Nat), vs = [.ref p, .ref q, .ref g] ∧ Lst H p (steps.map dStp) ∧ Lst H q (st.map dn) ∧ Lst H g (gl.map dn) ∧
  st.Nodup ∧ (∀ x ∈ st, x < n) ∧ (∀ t ∈ steps, t.2.2 < n) ∧ n ≤ 24 ∧ steps.length ≤ 100 ∧
  (sway n steps st gl = none → RetD .non H Q) ∧ ∀ l, sway n steps st gl = some l → RetN (l.map dn) H Q
def sp_lone_row (T : Txt K mg) : Sp := fun vs H Q _ => ∃ (a : Addr) (w : Wd) (s : Sd) (c : Bool) (x : Nat), vs = [.ref a, .str (colS c), vn x] ∧ Sta T H a w s ∧ (lone w s c x = none → RetD .non H Q) ∧ ∀ l, lone w s c x = some l → RetN (l.map dRide) H Q
def sp_pair_row (T : Txt K mg) : Sp := fun vs H Q _ => ∃ (a : Addr) (w : Wd) (s : Sd) (g : Addr) (gl : List Nat), vs = [.ref a, .ref g] ∧ Sta T H a w s ∧ Lst H g (gl.map dn) ∧ gl ≠ [] ∧ (∀ x ∈ gl, x < w.n) ∧ meets w s = true ∧
  ∀ t q vs' H', H q = none → Ex H H' → H' t = some (.tup [.ref q, vn (pairRow w s gl).2]) → H' q = some (.lst vs') → FzL H' vs' ((pairRow w s gl).1.map dRide) → Q (.ref t) H'
def sp_cut_off (_ : Txt K mg) : Sp := fun vs H Q _ => ∃ (p : Addr) (w : Wd), vs = [vn w.n, .ref p] ∧ Lst H p (w.rs.map dPair) ∧ WOk w ∧ RetN [] H Q
def sp_check_size (T : Txt K mg) : Sp := fun vs H Q _ => ∃ (n : Nat) (l : Nat), vs = [vn n, vn l] ∧ l ≤ n ∧ n ≤ 24 ∧ RetD .non H Q
def RaiseD (C : Addr) (f : Str) (i : Int) (H : Hp) (E : XK) : Prop := ∀ (d : Addr) (H1 : Hp), Ex H H1 → H1 d = none → E (.ref C) (some d) (upd H1 d (.xd [(f, .int i)]))
def sp_check_stationX (T : Txt K mg) : Sp := fun vs H Q E => ∃ (a : Addr) (w : Wd) (i : Int), vs = [.ref a, .int i] ∧ NetAt T H a w ∧ i.natAbs.log2 < 1920 ∧ ((0 ≤ i ∧ i < w.n) → RetD .non H Q) ∧ (¬ (0 ≤ i ∧ i < w.n) → RaiseD T.NoStation.C "number" i H E)
def sp_check_ropeX (T : Txt K mg) : Sp := fun vs H Q E => ∃ (a : Addr) (w : Wd) (i : Int), vs = [.ref a, .int i] ∧ NetAt T H a w ∧ i.natAbs.log2 < 1920 ∧ ((0 ≤ i ∧ i < w.rs.length) → RetD .non H Q) ∧ (¬ (0 ≤ i ∧ i < w.rs.length) → RaiseD T.NoRope.C "number" i H E)
def sp_visit_row (T : Txt K mg) : Sp := fun vs H Q E => ∃ (a : Addr) (w : Wd) (s : Sd) (i : Int), vs = [.ref a, .int i] ∧ Sta T H a w s ∧ i.natAbs.log2 < 1920 ∧ (¬ (0 ≤ i ∧ i < w.n) → RaiseD T.NoStation.C "number" i H E) ∧
  ∀ x : Nat, x < w.n → i = x → (visitF w s x = none → RaiseD T.Dead.C "station" i H E) ∧ ∀ rs, visitF w s x = some rs → RetN (rs.map dRide) H Q
def sp_run_rope (T : Txt K mg) : Sp := fun vs H Q E => ∃ (a : Addr) (w : Wd) (s : Sd) (i : Int), vs = [.ref a, .int i] ∧ Sta T H a w s ∧ i.natAbs.log2 < 1920 ∧ (¬ (0 ≤ i ∧ i < w.rs.length) → RaiseD T.NoRope.C "number" i H E) ∧
  ∀ k : Nat, k < w.rs.length → i = k → (runF w s k = none → RaiseD T.Still.C "rope" i H E) ∧ ∀ rs, runF w s k = some rs → RetN (rs.map dRide) H Q
end
end TR
namespace TR
open PySem L2 PyProof.Rows

section
variable {K : PySem.W.Frag} {mg : Str → Option Value}
def t_check_station (T : Txt K mg) : TS := (tIfS (tNot (tTest (tChain kLe kLt (tC (.int 0)) (tVar 1) (tFld K (tVar 0) "stations")))) tNever
    tNext)
def t_check_rope (T : Txt K mg) : TS := (tIfS (tNot (tTest (tChain kLe kLt (tC (.int 0)) (tVar 1) (tCB (Evl.rLenS K) (tCons (tFld K (tVar 0) "ropes") tNil))))) tNever
    tNext)
def t_check_colour (T : Txt K mg) : TS := (tIfS (tTest (tOp (rIn K true) (tVar 0) (tTup (tCons (tC (.str "red")) (tCons (tC (.str "blue")) tNil))))) tNever
    tNext)
def t_check_rides (T : Txt K mg) : TS := (tFor (iSeq K (tVar 1)) (gTup K 2 (gCons (gName 2) (gCons (gName 3) gNil)))
    (tSeq (tDrop (tCall (sp_check_rope T) [] E0 (tCons (tVar 0) (tCons (tVar 2) tNil))))
    (tDrop (tCall (sp_check_colour T) [] E0 (tCons (tVar 3) tNil)))))
def t_check_cars (T : Txt K mg) : TS := (tSeq (tIfS (tTest (tOp rNe (tCB (Evl.rLenS K) (tCons (tVar 1) tNil)) (tCB (Evl.rLenS K) (tCons (tFld K (tVar 0) "ropes") tNil)))) tNever
    tNext)
    (tFor (iEnumS K (tCons (tVar 1) tNil)) (gTup K 2 (gCons (gName 2) (gCons (gName 3) gNil)))
    (tIfS (tTest (tOp (rIn K true) (tVar 3) (tTup (tCons (tC (.int 0)) (tCons (tC (.int 1)) tNil))))) tNever
    tNext)))
def t_check_guests (T : Txt K mg) : TS := (tSeq (tIfS (tTest (tOp rNe (tCB (Evl.rLenS K) (tCons (tVar 2) tNil)) (tFld K (tVar 0) "stations"))) tNever
    tNext)
    (tFor (iEnumS K (tCons (tVar 2) tNil)) (gTup K 2 (gCons (gName 3) (gCons (gName 4) gNil)))
    (tIfS (tTest (tOp kLt (tVar 4) (tC (.int 0)))) tNever
    tNext)))
def t_Standing_init (T : Txt K mg) : TS := (tSeq (tDrop (tCall (sp_check_guests T) [] E0 (tCons (tVar 1) (tCons (tC (.str "reds")) (tCons (tVar 2) tNil)))))
    (tSeq (tDrop (tCall (sp_check_guests T) [] E0 (tCons (tVar 1) (tCons (tC (.str "blues")) (tCons (tVar 3) tNil)))))
    (tSeq (tIfS (tTest (tOp kGt (tOp kAdd (tCB (rSumS K) (tCons (tVar 2) tNil)) (tCB (rSumS K) (tCons (tVar 3) tNil))) (tCon K (tVar 0) "MOST_GUESTS"))) tNever
    tNext)
    (tSeq (tDrop (tCall (sp_check_cars T) [] E0 (tCons (tVar 1) (tCons (tVar 4) tNil))))
    (tSeq (sFld K (tVar 0) (tVar 1) "net")
    (tSeq (sFld K (tVar 0) (tCB (rTupOf K) (tCons (tVar 2) tNil)) "reds")
    (tSeq (sFld K (tVar 0) (tCB (rTupOf K) (tCons (tVar 3) tNil)) "blues")
    (sFld K (tVar 0) (tCB (rTupOf K) (tCons (tVar 4) tNil)) "cars"))))))))
def t_Standing_red_car (T : Txt K mg) : TS := (tSeq (tDrop (tCall (sp_check_rope T) [] E0 (tCons (tFld K (tVar 0) "net") (tCons (tVar 1) tNil))))
    (tRet (tOp (rIx K) (tOp (rIx K) (tFld K (tFld K (tVar 0) "net") "ropes") (tVar 1)) (tOp (rIx K) (tFld K (tVar 0) "cars") (tVar 1)))))
def t_Standing_blue_car (T : Txt K mg) : TS := (tSeq (tDrop (tCall (sp_check_rope T) [] E0 (tCons (tFld K (tVar 0) "net") (tCons (tVar 1) tNil))))
    (tRet (tOp (rIx K) (tOp (rIx K) (tFld K (tFld K (tVar 0) "net") "ropes") (tVar 1)) (tOp kSub (tC (.int 1)) (tOp (rIx K) (tFld K (tVar 0) "cars") (tVar 1))))))
def t_far_end (T : Txt K mg) : TS := (tSeq (tAsg (tOp (rIx K) (tFld K (tVar 0) "ropes") (tVar 1)) (gTup K 2 (gCons (gName 3) (gCons (gName 4) gNil))))
    (tRet (tIf (tTest (tOp rEq (tVar 2) (tVar 3))) (tVar 4) (tVar 3))))
def t_car_station (T : Txt K mg) : TS := (tSeq (tAsg (tOp (rIx K) (tFld K (tVar 0) "cars") (tVar 1)) (gName 3))
    (tSeq (tIfS (tTest (tOp rEq (tVar 2) (tC (.str "blue")))) (tAsg (tOp kSub (tC (.int 1)) (tVar 3)) (gName 3))
    tNext)
    (tRet (tOp (rIx K) (tOp (rIx K) (tFld K (tFld K (tVar 0) "net") "ropes") (tVar 1)) (tVar 3)))))
def t_guests_of (T : Txt K mg) : TS := (tRet (tIf (tTest (tOp rEq (tVar 1) (tC (.str "red")))) (tFld K (tVar 0) "reds") (tFld K (tVar 0) "blues")))
def t_moved (T : Txt K mg) : TS := (tSeq (tAsg (tCall (sp_car_station T) [] E0 (tCons (tVar 0) (tCons (tVar 1) (tCons (tVar 2) tNil)))) (gName 3))
    (tSeq (tAsg (tCall (sp_far_end T) [] E0 (tCons (tFld K (tVar 0) "net") (tCons (tVar 1) (tCons (tVar 3) tNil)))) (gName 4))
    (tSeq (tAsg (tCB (Evl.rListS K) (tCons (tCall (sp_guests_of T) [] E0 (tCons (tVar 0) (tCons (tVar 2) tNil))) tNil)) (gName 5))
    (tSeq (tAsg (tOp kSub (tOp (rIx K) (tVar 5) (tVar 3)) (tC (.int 1))) (gSub (tVar 5) (tVar 3) rSetL))
    (tSeq (tAsg (tOp kAdd (tOp (rIx K) (tVar 5) (tVar 4)) (tC (.int 1))) (gSub (tVar 5) (tVar 4) rSetL))
    (tSeq (tAsg (tCB (Evl.rListS K) (tCons (tFld K (tVar 0) "cars") tNil)) (gName 6))
    (tSeq (tAsg (tOp kSub (tC (.int 1)) (tOp (rIx K) (tVar 6) (tVar 1))) (gSub (tVar 6) (tVar 1) rSetL))
    (tSeq (tIfS (tTest (tOp rEq (tVar 2) (tC (.str "red")))) (tRet (tMake T.Standing.C (sp_Standing_init T) [] E0 (tCons (tFld K (tVar 0) "net") (tCons (tVar 5) (tCons (tFld K (tVar 0) "blues") (tCons (tVar 6) tNil))))))
    tNext)
    (tRet (tMake T.Standing.C (sp_Standing_init T) [] E0 (tCons (tFld K (tVar 0) "net") (tCons (tFld K (tVar 0) "reds") (tCons (tVar 5) (tCons (tVar 6) tNil))))))))))))))
def t_is_possible (T : Txt K mg) : TS := (tRet (tOp kGt (tOp (rIx K) (tCall (sp_guests_of T) [] E0 (tCons (tVar 0) (tCons (tVar 2) tNil))) (tCall (sp_car_station T) [] E0 (tCons (tVar 0) (tCons (tVar 1) (tCons (tVar 2) tNil))))) (tC (.int 0))))
def t_walk (T : Txt K mg) : TS := (tSeq (tDrop (tCall (sp_check_rides T) [] E0 (tCons (tFld K (tVar 0) "net") (tCons (tVar 1) tNil))))
    (tSeq (tAsg (tVar 0) (gName 2))
    (tSeq (tAsg (tLst (tCons (tVar 2) tNil)) (gName 3))
    (tSeq (tFor (iEnumS K (tCons (tVar 1) tNil)) (gTup K 2 (gCons (gName 4) (gCons (gTup K 2 (gCons (gName 5) (gCons (gName 6) gNil))) gNil)))
    (tSeq (tIfS (tNot (tB (tCall (sp_is_possible T) [] E0 (tCons (tVar 2) (tCons (tVar 5) (tCons (tVar 6) tNil)))))) tNever
    tNext)
    (tSeq (tAsg (tCall (sp_moved T) [] E0 (tCons (tVar 2) (tCons (tVar 5) (tCons (tVar 6) tNil)))) (gName 2))
    (tDrop (tBM K "list" rAppend (tVar 3) (tCons (tVar 2) tNil))))))
    (tRet (tVar 3))))))
def t_end_of (T : Txt K mg) : TS := (tSeq (tDrop (tCall (sp_check_rides T) [] E0 (tCons (tFld K (tVar 0) "net") (tCons (tVar 2) tNil))))
    (tSeq (tAsg (tCB (Evl.rListS K) (tCons (tVar 2) tNil)) (gName 3))
    (tSeq (tIfS (tB (tVar 1)) (tAsg (tRevL K (tVar 3)) (gName 3))
    tNext)
    (tRet (tOp (rIx K) (tCall (sp_walk T) [] E0 (tCons (tVar 0) (tCons (tVar 3) tNil))) (tUn kNeg (tC (.int 1))))))))
def t_arrows_of (T : Txt K mg) : TS := (tRet (tLc (iRng1 (tCons (tCB (Evl.rLenS K) (tCons (tFld K (tFld K (tVar 0) "net") "ropes") tNil)) tNil)) (gName 1) tYes (tTup (tCons (tMeth T.Standing.C "red_car" (sp_Standing_red_car T) [] E0 (tVar 0) (tCons (tVar 1) tNil)) (tCons (tMeth T.Standing.C "blue_car" (sp_Standing_blue_car T) [] E0 (tVar 0) (tCons (tVar 1) tNil)) tNil))) [1]))
def t_reached_from (T : Txt K mg) : TS := (tSeq (tAsg (tLc (iRng1 (tCons (tVar 1) tNil)) (gName 9) tYes (tLst tNil) [9]) (gName 3))
    (tSeq (tFor (iSeq K (tVar 0)) (gTup K 2 (gCons (gName 4) (gCons (gName 5) gNil)))
    (tDrop (tBM K "list" rAppend (tOp (rIx K) (tVar 3) (tVar 4)) (tCons (tVar 5) tNil))))
    (tSeq (tAsg (tOp rRep (tLst (tCons (tC (.bl false)) tNil)) (tVar 1)) (gName 6))
    (tSeq (tAsg (tLst tNil) (gName 7))
    (tSeq (tFor (iSeq K (tVar 2)) (gName 8)
    (tSeq (tAsg (tC (.bl true)) (gSub (tVar 6) (tVar 8) rSetL))
    (tDrop (tBM K "list" rAppend (tVar 7) (tCons (tVar 8) tNil)))))
    (tSeq (tWhile (tTru K (tVar 7))
    (tSeq (tAsg (tBM0 K "list" rPop (tVar 7)) (gName 4))
    (tFor (iSeq K (tOp (rIx K) (tVar 3) (tVar 4))) (gName 5)
    (tIfS (tNot (tB (tOp (rIx K) (tVar 6) (tVar 5)))) (tSeq (tAsg (tC (.bl true)) (gSub (tVar 6) (tVar 5) rSetL))
    (tDrop (tBM K "list" rAppend (tVar 7) (tCons (tVar 5) tNil))))
    tNext))))
    (tRet (tLc (iRng1 (tCons (tVar 1) tNil)) (gName 10) (tB (tOp (rIx K) (tVar 6) (tVar 10))) (tVar 10) [10]))))))))
def t_red_reach (T : Txt K mg) : TS := (tSeq (tAsg (tLc (iEnumS K (tCons (tFld K (tVar 0) "reds") tNil)) (gTup K 2 (gCons (gName 2) (gCons (gName 3) gNil))) (tTest (tOp kGt (tVar 3) (tC (.int 0)))) (tVar 2) [2, 3]) (gName 1))
    (tRet (tCall (sp_reached_from T) [] E0 (tCons (tCall (sp_arrows_of T) [] E0 (tCons (tVar 0) tNil)) (tCons (tFld K (tFld K (tVar 0) "net") "stations") (tCons (tVar 1) tNil))))))
def t_blue_reach (T : Txt K mg) : TS := (tSeq (tAsg (tLc (iEnumS K (tCons (tFld K (tVar 0) "blues") tNil)) (gTup K 2 (gCons (gName 3) (gCons (gName 4) gNil))) (tTest (tOp kGt (tVar 4) (tC (.int 0)))) (tVar 3) [3, 4]) (gName 1))
    (tSeq (tAsg (tLc (iSeq K (tCall (sp_arrows_of T) [] E0 (tCons (tVar 0) tNil))) (gTup K 2 (gCons (gName 5) (gCons (gName 6) gNil))) tYes (tTup (tCons (tVar 6) (tCons (tVar 5) tNil))) [5, 6]) (gName 2))
    (tRet (tCall (sp_reached_from T) [] E0 (tCons (tVar 2) (tCons (tFld K (tFld K (tVar 0) "net") "stations") (tCons (tVar 1) tNil)))))))
def t_can_meet (T : Txt K mg) : TS := (tRet (tCB (rAny K) (tCons (tLc (iSeq K (tCall (sp_red_reach T) [] E0 (tCons (tVar 0) tNil))) (gName 1) tYes (tOp kGt (tOp (rIx K) (tFld K (tVar 0) "blues") (tVar 1)) (tC (.int 0))) [1]) tNil)))
def t_lengths_to_blue (T : Txt K mg) : TS := (tSeq (tAsg (tLc (iSeq K (tFld K (tVar 0) "blues")) (gName 6) tYes (tIf (tTest (tOp kGt (tVar 6) (tC (.int 0)))) (tC (.int 0)) (tC .non)) [6]) (gName 2))
    (tSeq (tAsg (tC (.int 0)) (gName 3))
    (tSeq (tWhile (tTest (tOp (rIn K false) (tVar 3) (tVar 2)))
    (tSeq (tFor (iSeq K (tVar 1)) (gTup K 2 (gCons (gName 4) (gCons (gName 5) gNil)))
    (tIfS (tAnd (tTest (tOp rEq (tOp (rIx K) (tVar 2) (tVar 5)) (tVar 3))) (tTest (tOp kIsN (tOp (rIx K) (tVar 2) (tVar 4)) (tC .non)))) (tAsg (tOp kAdd (tVar 3) (tC (.int 1))) (gSub (tVar 2) (tVar 4) rSetL))
    tNext))
    (tAug 3 (tC (.int 1)) (ipI fun i j => i + j))))
    (tRet (tVar 2)))))
def t_least_ropes (T : Txt K mg) : TS := (tSeq (tAsg (tLst tNil) (gName 3))
    (tSeq (tAsg (tVar 2) (gName 4))
    (tSeq (tAsg (tOp (rIx K) (tVar 1) (tOp (rIx K) (tVar 2) (tC (.int 0)))) (gName 5))
    (tSeq (tWhile (tTest (tOp kGt (tVar 5) (tC (.int 0))))
    (tSeq (tAug 5 (tC (.int 1)) (ipI fun i j => i - j))
    (tFor (iEnumS K (tCons (tVar 0) tNil)) (gTup K 2 (gCons (gName 6) (gCons (gTup K 2 (gCons (gName 7) (gCons (gName 8) gNil))) gNil)))
    (tIfS (tAnd (tTest (tOp (rIn K false) (tVar 7) (tVar 4))) (tTest (tOp rEq (tOp (rIx K) (tVar 1) (tVar 8)) (tVar 5)))) (tSeq (tDrop (tBM K "list" rAppend (tVar 3) (tCons (tVar 6) tNil)))
    (tSeq (tAsg (tLst (tCons (tVar 8) tNil)) (gName 4))
    tBreak))
    tNext))))
    (tRet (tVar 3))))))
def t_meeting_way (T : Txt K mg) : TS := (tSeq (tAsg (tCall (sp_arrows_of T) [] E0 (tCons (tVar 0) tNil)) (gName 1))
    (tSeq (tAsg (tCall (sp_lengths_to_blue T) [] E0 (tCons (tVar 0) (tCons (tVar 1) tNil))) (gName 2))
    (tSeq (tAsg (tLst tNil) (gName 3))
    (tSeq (tFor (iEnumS K (tCons (tFld K (tVar 0) "reds") tNil)) (gTup K 2 (gCons (gName 4) (gCons (gName 5) gNil)))
    (tIfS (tAnd (tTest (tOp kGt (tVar 5) (tC (.int 0)))) (tTest (tOp kNotN (tOp (rIx K) (tVar 2) (tVar 4)) (tC .non)))) (tDrop (tBM K "list" rAppend (tVar 3) (tCons (tVar 4) tNil)))
    tNext))
    (tSeq (tIfS (tTest (tOp rEq (tCB (Evl.rLenS K) (tCons (tVar 3) tNil)) (tC (.int 0)))) (tRet (tC .non))
    tNext)
    (tSeq (tAsg (tCB (rMin K) (tCons (tLc (iSeq K (tVar 3)) (gName 4) tYes (tOp (rIx K) (tVar 2) (tVar 4)) [4]) tNil)) (gName 6))
    (tSeq (tAsg (tLc (iSeq K (tVar 3)) (gName 4) (tTest (tOp rEq (tOp (rIx K) (tVar 2) (tVar 4)) (tVar 6))) (tVar 4) [4]) (gName 7))
    (tSeq (tAsg (tCall (sp_least_ropes T) [] E0 (tCons (tVar 1) (tCons (tVar 2) (tCons (tVar 7) tNil)))) (gName 8))
    (tSeq (tIfS (tTest (tOp rEq (tVar 6) (tC (.int 0)))) (tRet (tTup (tCons (tOp (rIx K) (tVar 7) (tC (.int 0))) (tCons (tVar 8) tNil))))
    tNext)
    (tRet (tTup (tCons (tOp (rIx K) (tOp (rIx K) (tVar 1) (tOp (rIx K) (tVar 8) (tC (.int 0)))) (tC (.int 0))) (tCons (tVar 8) tNil)))))))))))))
def t_dead_stations (T : Txt K mg) : TS := (tSeq (tIfS (tB (tCall (sp_can_meet T) [] E0 (tCons (tVar 0) tNil))) (tRet (tLst tNil))
    tNext)
    (tSeq (tAsg (tCall (sp_red_reach T) [] E0 (tCons (tVar 0) tNil)) (gName 1))
    (tSeq (tAsg (tCall (sp_blue_reach T) [] E0 (tCons (tVar 0) tNil)) (gName 2))
    (tSeq (tAsg (tOp rCat (tVar 1) (tVar 2)) (gName 3))
    (tRet (tLc (iRng1 (tCons (tFld K (tFld K (tVar 0) "net") "stations") tNil)) (gName 4) (tTest (tOp (rIn K true) (tVar 4) (tVar 3))) (tVar 4) [4]))))))
def t_ropes_back (T : Txt K mg) : TS := (tSeq (tAsg (tLst tNil) (gName 2))
    (tSeq (tWhile (tTest (tOp kNotN (tDGet (tVar 0) (tVar 1)) (tC .non)))
    (tSeq (tAsg (tDGet (tVar 0) (tVar 1)) (gTup K 2 (gCons (gName 3) (gCons (gName 1) gNil))))
    (tDrop (tBM K "list" rAppend (tVar 2) (tCons (tVar 3) tNil)))))
    (tRet (tRevL K (tVar 2)))))
def t_shortest_way (T : Txt K mg) : TS := (tSeq (tAsg tDNewK (gName 3))
    (tSeq (tAsg (tLst tNil) (gName 4))
    (tSeq (tFor (iSeq K (tVar 1)) (gName 5)
    (tSeq (sDPut (tVar 3) (tVar 5) (tC .non))
    (tDrop (tBM K "list" rAppend (tVar 4) (tCons (tVar 5) tNil)))))
    (tSeq (tAsg (tC (.int 0)) (gName 6))
    (tSeq (tWhile (tTest (tOp kLt (tVar 6) (tCB (Evl.rLenS K) (tCons (tVar 4) tNil))))
    (tSeq (tAsg (tOp (rIx K) (tVar 4) (tVar 6)) (gName 7))
    (tSeq (tIfS (tTest (tOp (rIn K false) (tVar 7) (tVar 2))) (tRet (tCall (sp_ropes_back T) [] E0 (tCons (tVar 3) (tCons (tVar 7) tNil))))
    tNext)
    (tSeq (tFor (iSeq K (tVar 0)) (gTup K 3 (gCons (gName 8) (gCons (gName 9) (gCons (gName 10) gNil))))
    (tIfS (tAnd (tTest (tOp rEq (tVar 9) (tVar 7))) (tB (tDNotIn (tVar 10) (tVar 3)))) (tSeq (sDPut (tVar 3) (tVar 10) (tTup (tCons (tVar 8) (tCons (tVar 9) tNil))))
    (tDrop (tBM K "list" rAppend (tVar 4) (tCons (tVar 10) tNil))))
    tNext))
    (tAug 6 (tC (.int 1)) (ipI fun i j => i + j))))))
    (tRet (tC .non)))))))
def t_lone_row (T : Txt K mg) : TS := (tSeq (tAsg (tLst tNil) (gName 3))
    (tSeq (tFor (iEnumS K (tCons (tCall (sp_arrows_of T) [] E0 (tCons (tVar 0) tNil)) tNil)) (gTup K 2 (gCons (gName 4) (gCons (gTup K 2 (gCons (gName 5) (gCons (gName 6) gNil))) gNil)))
    (tIfS (tTest (tOp rEq (tVar 1) (tC (.str "red")))) (tDrop (tBM K "list" rAppend (tVar 3) (tCons (tTup (tCons (tVar 4) (tCons (tVar 5) (tCons (tVar 6) tNil)))) tNil)))
    (tDrop (tBM K "list" rAppend (tVar 3) (tCons (tTup (tCons (tVar 4) (tCons (tVar 6) (tCons (tVar 5) tNil)))) tNil)))))
    (tSeq (tAsg (tLc (iEnumS K (tCons (tCall (sp_guests_of T) [] E0 (tCons (tVar 0) (tCons (tVar 1) tNil))) tNil)) (gTup K 2 (gCons (gName 9) (gCons (gName 10) gNil))) (tTest (tOp kGt (tVar 10) (tC (.int 0)))) (tVar 9) [9, 10]) (gName 7))
    (tSeq (tAsg (tCall (sp_shortest_way T) [] E0 (tCons (tVar 3) (tCons (tVar 7) (tCons (tLst (tCons (tVar 2) tNil)) tNil)))) (gName 8))
    (tSeq (tIfS (tTest (tOp kIsN (tVar 8) (tC .non))) (tRet (tC .non))
    tNext)
    (tRet (tLc (iSeq K (tVar 8)) (gName 4) tYes (tTup (tCons (tVar 4) (tCons (tVar 1) tNil))) [4])))))))
def t_pair_row (T : Txt K mg) : TS := (tSeq (tAsg (tFld K (tVar 0) "net") (gName 2))
    (tSeq (tAsg (tCall (sp_meeting_way T) [] E0 (tCons (tVar 0) tNil)) (gTup K 2 (gCons (gName 3) (gCons (gName 4) gNil))))
    (tSeq (tAsg (tLc (iSeq K (tVar 4)) (gName 7) tYes (tTup (tCons (tVar 7) (tCons (tC (.str "red")) tNil))) [7]) (gName 5))
    (tSeq (tAsg (tCallR (sp_end_of T) E0 (tCons (tVar 0) (StX.tStar K (tVar 5) tNil))) (gName 6))
    (tSeq (tFor (iSeq K (tVar 4)) (gName 7)
    (tAsg (tCall (sp_far_end T) [] E0 (tCons (tVar 2) (tCons (tVar 7) (tCons (tVar 3) tNil)))) (gName 3)))
    (tSeq (tAsg (tLst tNil) (gName 8))
    (tSeq (tFor (iEnumS K (tCons (tFld K (tVar 2) "ropes") tNil)) (gTup K 2 (gCons (gName 7) (gCons (gTup K 2 (gCons (gName 9) (gCons (gName 10) gNil))) gNil)))
    (tSeq (tDrop (tBM K "list" rAppend (tVar 8) (tCons (tTup (tCons (tVar 7) (tCons (tVar 9) (tCons (tVar 10) tNil)))) tNil)))
    (tDrop (tBM K "list" rAppend (tVar 8) (tCons (tTup (tCons (tVar 7) (tCons (tVar 10) (tCons (tVar 9) tNil)))) tNil)))))
    (tSeq (tFor (iSeq K (tCall (sp_shortest_way T) [] E0 (tCons (tVar 8) (tCons (tLst (tCons (tVar 3) tNil)) (tCons (tVar 1) tNil))))) (gName 7)
    (tSeq (tIfS (tTest (tOp rEq (tMeth T.Standing.C "red_car" (sp_Standing_red_car T) [] E0 (tVar 6) (tCons (tVar 7) tNil)) (tVar 3))) (tDrop (tBM K "list" rExtend (tVar 5) (tCons (tLst (tCons (tTup (tCons (tVar 7) (tCons (tC (.str "red")) tNil))) (tCons (tTup (tCons (tVar 7) (tCons (tC (.str "blue")) tNil))) tNil))) tNil)))
    (tDrop (tBM K "list" rExtend (tVar 5) (tCons (tLst (tCons (tTup (tCons (tVar 7) (tCons (tC (.str "blue")) tNil))) (tCons (tTup (tCons (tVar 7) (tCons (tC (.str "red")) tNil))) tNil))) tNil))))
    (tAsg (tCall (sp_far_end T) [] E0 (tCons (tVar 2) (tCons (tVar 7) (tCons (tVar 3) tNil)))) (gName 3))))
    (tRet (tTup (tCons (tVar 5) (tCons (tVar 3) tNil))))))))))))
def t_cut_off (T : Txt K mg) : TS := (tSeq (tAsg (tLc (iRng1 (tCons (tVar 0) tNil)) (gName 6) tYes (tOp rEq (tVar 6) (tC (.int 0))) [6]) (gName 2))
    (tSeq (tAsg (tC (.bl true)) (gName 3))
    (tSeq (tWhile (tB (tVar 3))
    (tSeq (tAsg (tC (.bl false)) (gName 3))
    (tFor (iSeq K (tVar 1)) (gTup K 2 (gCons (gName 4) (gCons (gName 5) gNil)))
    (tIfS (tTest (tOp rNe (tOp (rIx K) (tVar 2) (tVar 4)) (tOp (rIx K) (tVar 2) (tVar 5)))) (tSeq (tAsg (tC (.bl true)) (gSub (tVar 2) (tVar 4) rSetL))
    (tSeq (tAsg (tC (.bl true)) (gSub (tVar 2) (tVar 5) rSetL))
    (tAsg (tC (.bl true)) (gName 3))))
    tNext))))
    (tRet (tLc (iRng1 (tCons (tVar 0) tNil)) (gName 6) (tNot (tB (tOp (rIx K) (tVar 2) (tVar 6)))) (tVar 6) [6])))))
def t_check_size (T : Txt K mg) : TS := (tIfS (tNot (tTest (tChain kLe kLe (tVar 1) (tVar 0) (ClX.tCVal K (tC (.ref T.Net.C)) "MOST_STATIONS")))) tNever
    tNext)
def t_Net_init (T : Txt K mg) : TS := (tSeq (tDrop (tCall (sp_check_size T) [] E0 (tCons (tVar 1) (tCons (tC (.int 1)) tNil))))
    (tSeq (tIfS (tTest (tOp kGt (tCB (Evl.rLenS K) (tCons (tVar 2) tNil)) (tCon K (tVar 0) "MOST_ROPES"))) tNever
    tNext)
    (tSeq (tFor (iEnumS K (tCons (tVar 2) tNil)) (gTup K 2 (gCons (gName 3) (gCons (gTup K 2 (gCons (gName 4) (gCons (gName 5) gNil))) gNil)))
    (tIfS (tOr (tNot (tTest (tChain kLe kLt (tC (.int 0)) (tVar 4) (tVar 1)))) (tOr (tNot (tTest (tChain kLe kLt (tC (.int 0)) (tVar 5) (tVar 1)))) (tTest (tOp rEq (tVar 4) (tVar 5))))) tNever
    tNext))
    (tSeq (tAsg (tCall (sp_cut_off T) [] E0 (tCons (tVar 1) (tCons (tVar 2) tNil))) (gName 6))
    (tSeq (tIfS (tTru K (tVar 6)) tNever
    tNext)
    (tSeq (sFld K (tVar 0) (tVar 1) "stations")
    (sFld K (tVar 0) (tCB (rTupOf K) (tCons (tLc (iSeq K (tVar 2)) (gTup K 2 (gCons (gName 4) (gCons (gName 5) gNil))) tYes (tTup (tCons (tVar 4) (tCons (tVar 5) tNil))) [4, 5]) tNil)) "ropes")))))))
end
end TR
namespace TR
open PySem L2 PyProof.Rows

section
variable {P : Program} {w : World} {K : PySem.W.Frag} {mg : Str → Option Value} {base : Heap}
theorem d_check_station (T : Txt K mg)
    {cdv : Value} {A : Around} {outer : List Env} {s : Shared} {H : Hp} {E : XK} (hr : Room 0 (A.deeper (envOfC "check_station" (defScope s_check_station) s.heap.objs.size T.check_station.f cdv))) :
    PSs (cxOf CX0 P w K mg base N_check_station "check_station" (defScope s_check_station) T.check_station.f cdv A outer s H E).nox (defBody s_check_station) (t_check_station T) := by
  have sc := sc_check_station
  exact (pss_one (ps_if (pt_not (pt_chain op_le op_lt pe_int (pv 1) (pe_fld (pv 0) rfl))) (pss_one ps_never)
    pss_nil))
theorem d_check_rope (T : Txt K mg)
    {cdv : Value} {A : Around} {outer : List Env} {s : Shared} {H : Hp} {E : XK} (hr : Room 0 (A.deeper (envOfC "check_rope" (defScope s_check_rope) s.heap.objs.size T.check_rope.f cdv))) :
    PSs (cxOf CX0 P w K mg base N_check_rope "check_rope" (defScope s_check_rope) T.check_rope.f cdv A outer s H E).nox (defBody s_check_rope) (t_check_rope T) := by
  have sc := sc_check_rope
  exact (pss_one (ps_if (pt_not (pt_chain op_le op_lt pe_int (pv 1) (pe_callB call_len_seq (by rfl) T.b_len PySem.boot_len (pa_cons (pe_fld (pv 0) rfl) pa_nil)))) (pss_one ps_never)
    pss_nil))
theorem d_check_colour (T : Txt K mg)
    {cdv : Value} {A : Around} {outer : List Env} {s : Shared} {H : Hp} {E : XK} (hr : Room 0 (A.deeper (envOfC "check_colour" (defScope s_check_colour) s.heap.objs.size T.check_colour.f cdv))) :
    PSs (cxOf CX0 P w K mg base N_check_colour "check_colour" (defScope s_check_colour) T.check_colour.f cdv A outer s H E).nox (defBody s_check_colour) (t_check_colour T) := by
  have sc := sc_check_colour
  exact (pss_one (ps_if (pt_cmpR op_notIn_seq (pv 0) (pe_tup (pa_cons pe_str (pa_cons pe_str pa_nil))) (by rfl)) (pss_one ps_never)
    pss_nil))
theorem d_check_rides (T : Txt K mg)
    (G_check_colour : FnOk P w K mg base CX0 1 T.check_colour.f T.check_colour.fd P_check_colour (sp_check_colour T))
    (G_check_rope : FnOk P w K mg base CX0 1 T.check_rope.f T.check_rope.fd P_check_rope (sp_check_rope T))
    {cdv : Value} {A : Around} {outer : List Env} {s : Shared} {H : Hp} {E : XK} (hr : Room 1 (A.deeper (envOfC "check_rides" (defScope s_check_rides) s.heap.objs.size T.check_rides.f cdv))) :
    PSs (cxOf CX0 P w K mg base N_check_rides "check_rides" (defScope s_check_rides) T.check_rides.f cdv A outer s H E).nox (defBody s_check_rides) (t_check_rides T) := by
  have sc := sc_check_rides
  exact (pss_one (ps_for PassesOwn.never rfl (pi_seq (pv 1)) (pg_tup rfl (pgs_cons (pg_name (i := 2) sc.nd rfl (Or.inl rfl)) (pgs_cons (pg_name (i := 3) sc.nd rfl (Or.inl rfl)) pgs_nil)))
    (pss_cons (ps_expr (pe_call G_check_rope (hr.mono (by decide)) (by rfl) T.check_rope.g T.check_rope.F.kp T.check_rope.b .nil pass0 (pa_cons (pv 0) (pa_cons (pv 2) pa_nil))))
    (pss_one (ps_expr (pe_call G_check_colour (hr.mono (by decide)) (by rfl) T.check_colour.g T.check_colour.F.kp T.check_colour.b .nil pass0 (pa_cons (pv 3) pa_nil)))))))
theorem d_check_cars (T : Txt K mg)
    {cdv : Value} {A : Around} {outer : List Env} {s : Shared} {H : Hp} {E : XK} (hr : Room 0 (A.deeper (envOfC "check_cars" (defScope s_check_cars) s.heap.objs.size T.check_cars.f cdv))) :
    PSs (cxOf CX0 P w K mg base N_check_cars "check_cars" (defScope s_check_cars) T.check_cars.f cdv A outer s H E).nox (defBody s_check_cars) (t_check_cars T) := by
  have sc := sc_check_cars
  exact (pss_cons (ps_if (pt_cmpR op_ne (pe_callB call_len_seq (by rfl) T.b_len PySem.boot_len (pa_cons (pv 1) pa_nil)) (pe_callB call_len_seq (by rfl) T.b_len PySem.boot_len (pa_cons (pe_fld (pv 0) rfl) pa_nil)) (nomark _)) (pss_one ps_never)
    pss_nil)
    (pss_one (ps_for PassesOwn.never rfl (pi_enumS (by rfl) T.b_enumerate (pa_cons (pv 1) pa_nil)) (pg_tup rfl (pgs_cons (pg_name (i := 2) sc.nd rfl (Or.inl rfl)) (pgs_cons (pg_name (i := 3) sc.nd rfl (Or.inl rfl)) pgs_nil)))
    (pss_one (ps_if (pt_cmpR op_notIn_seq (pv 3) (pe_tup (pa_cons pe_int (pa_cons pe_int pa_nil))) (by rfl)) (pss_one ps_never)
    pss_nil)))))
theorem d_check_guests (T : Txt K mg)
    {cdv : Value} {A : Around} {outer : List Env} {s : Shared} {H : Hp} {E : XK} (hr : Room 0 (A.deeper (envOfC "_check_guests" (defScope s_check_guests) s.heap.objs.size T.check_guests.f cdv))) :
    PSs (cxOf CX0 P w K mg base N_check_guests "_check_guests" (defScope s_check_guests) T.check_guests.f cdv A outer s H E).nox (defBody s_check_guests) (t_check_guests T) := by
  have sc := sc_check_guests
  exact (pss_cons (ps_if (pt_cmpR op_ne (pe_callB call_len_seq (by rfl) T.b_len PySem.boot_len (pa_cons (pv 2) pa_nil)) (pe_fld (pv 0) rfl) (nomark _)) (pss_one ps_never)
    pss_nil)
    (pss_one (ps_for PassesOwn.never rfl (pi_enumS (by rfl) T.b_enumerate (pa_cons (pv 2) pa_nil)) (pg_tup rfl (pgs_cons (pg_name (i := 3) sc.nd rfl (Or.inl rfl)) (pgs_cons (pg_name (i := 4) sc.nd rfl (Or.inl rfl)) pgs_nil)))
    (pss_one (ps_if (pt_cmpR op_lt (pv 4) pe_int (nomark _)) (pss_one ps_never)
    pss_nil)))))
theorem d_Standing_init (T : Txt K mg)
    (G_check_guests : FnOk P w K mg base CX0 1 T.check_guests.f T.check_guests.fd P_check_guests (sp_check_guests T))
    (G_check_cars : FnOk P w K mg base CX0 1 T.check_cars.f T.check_cars.fd P_check_cars (sp_check_cars T))
    {cdv : Value} {A : Around} {outer : List Env} {s : Shared} {H : Hp} {E : XK} (hr : Room 1 (A.deeper (envOfC "Standing.__init__" (defScope s_Standing_init) s.heap.objs.size T.Standing.init.f cdv))) :
    PSs (cxOf CX0 P w K mg base N_Standing_init "Standing.__init__" (defScope s_Standing_init) T.Standing.init.f cdv A outer s H E).nox (defBody s_Standing_init) (t_Standing_init T) := by
  have sc := sc_Standing_init
  exact (pss_cons (ps_expr (pe_call G_check_guests (hr.mono (by decide)) (by rfl) T.check_guests.g T.check_guests.F.kp T.check_guests.b .nil pass0 (pa_cons (pv 1) (pa_cons pe_str (pa_cons (pv 2) pa_nil)))))
    (pss_cons (ps_expr (pe_call G_check_guests (hr.mono (by decide)) (by rfl) T.check_guests.g T.check_guests.F.kp T.check_guests.b .nil pass0 (pa_cons (pv 1) (pa_cons pe_str (pa_cons (pv 3) pa_nil)))))
    (pss_cons (ps_if (pt_cmpR op_gt (pe_op op_add (pe_callB (cr_sumS rfl) (by rfl) T.b_sum PyProof.Rows.boot_sum (pa_cons (pv 2) pa_nil)) (pe_callB (cr_sumS rfl) (by rfl) T.b_sum PyProof.Rows.boot_sum (pa_cons (pv 3) pa_nil))) (pe_con (pv 0) rfl) (nomark _)) (pss_one ps_never)
    pss_nil)
    (pss_cons (ps_expr (pe_call G_check_cars (hr.mono (by decide)) (by rfl) T.check_cars.g T.check_cars.F.kp T.check_cars.b .nil pass0 (pa_cons (pv 1) (pa_cons (pv 4) pa_nil))))
    (pss_cons (ps_fld (pv 0) (pv 1) rfl)
    (pss_cons (ps_fld (pv 0) (pe_callTy call_tuple_of (by rfl) T.b_tuple PyProof.Rows.boot_tuple (pa_cons (pv 2) pa_nil)) rfl)
    (pss_cons (ps_fld (pv 0) (pe_callTy call_tuple_of (by rfl) T.b_tuple PyProof.Rows.boot_tuple (pa_cons (pv 3) pa_nil)) rfl)
    (pss_one (ps_fld (pv 0) (pe_callTy call_tuple_of (by rfl) T.b_tuple PyProof.Rows.boot_tuple (pa_cons (pv 4) pa_nil)) rfl)))))))))
theorem d_Standing_red_car (T : Txt K mg)
    (G_check_rope : FnOk P w K mg base CX0 1 T.check_rope.f T.check_rope.fd P_check_rope (sp_check_rope T))
    {cdv : Value} {A : Around} {outer : List Env} {s : Shared} {H : Hp} {E : XK} (hr : Room 1 (A.deeper (envOfC "Standing.red_car" (defScope s_Standing_red_car) s.heap.objs.size T.Standing.red_car.f cdv))) :
    PSs (cxOf CX0 P w K mg base N_Standing_red_car "Standing.red_car" (defScope s_Standing_red_car) T.Standing.red_car.f cdv A outer s H E).nox (defBody s_Standing_red_car) (t_Standing_red_car T) := by
  have sc := sc_Standing_red_car
  exact (pss_cons (ps_expr (pe_call G_check_rope (hr.mono (by decide)) (by rfl) T.check_rope.g T.check_rope.F.kp T.check_rope.b .nil pass0 (pa_cons (pe_fld (pv 0) rfl) (pa_cons (pv 1) pa_nil))))
    (pss_one (ps_ret (pe_ix ix_seq (pe_ix ix_seq (pe_fld (pe_fld (pv 0) rfl) rfl) (pv 1) (fun _ _ => rfl)) (pe_ix ix_seq (pe_fld (pv 0) rfl) (pv 1) (fun _ _ => rfl)) (fun _ _ => rfl)))))
theorem d_Standing_blue_car (T : Txt K mg)
    (G_check_rope : FnOk P w K mg base CX0 1 T.check_rope.f T.check_rope.fd P_check_rope (sp_check_rope T))
    {cdv : Value} {A : Around} {outer : List Env} {s : Shared} {H : Hp} {E : XK} (hr : Room 1 (A.deeper (envOfC "Standing.blue_car" (defScope s_Standing_blue_car) s.heap.objs.size T.Standing.blue_car.f cdv))) :
    PSs (cxOf CX0 P w K mg base N_Standing_blue_car "Standing.blue_car" (defScope s_Standing_blue_car) T.Standing.blue_car.f cdv A outer s H E).nox (defBody s_Standing_blue_car) (t_Standing_blue_car T) := by
  have sc := sc_Standing_blue_car
  exact (pss_cons (ps_expr (pe_call G_check_rope (hr.mono (by decide)) (by rfl) T.check_rope.g T.check_rope.F.kp T.check_rope.b .nil pass0 (pa_cons (pe_fld (pv 0) rfl) (pa_cons (pv 1) pa_nil))))
    (pss_one (ps_ret (pe_ix ix_seq (pe_ix ix_seq (pe_fld (pe_fld (pv 0) rfl) rfl) (pv 1) (fun _ _ => rfl)) (pe_op op_sub pe_int (pe_ix ix_seq (pe_fld (pv 0) rfl) (pv 1) (fun _ _ => rfl))) (fun _ _ => rfl)))))
theorem d_far_end (T : Txt K mg)
    {cdv : Value} {A : Around} {outer : List Env} {s : Shared} {H : Hp} {E : XK} (hr : Room 0 (A.deeper (envOfC "far_end" (defScope s_far_end) s.heap.objs.size T.far_end.f cdv))) :
    PSs (cxOf CX0 P w K mg base N_far_end "far_end" (defScope s_far_end) T.far_end.f cdv A outer s H E).nox (defBody s_far_end) (t_far_end T) := by
  have sc := sc_far_end
  exact (pss_cons (ps_asg (pe_ix ix_seq (pe_fld (pv 0) rfl) (pv 1) (fun _ _ => rfl)) (pg_tup rfl (pgs_cons (pg_name (i := 3) sc.nd rfl (Or.inl rfl)) (pgs_cons (pg_name (i := 4) sc.nd rfl (Or.inl rfl)) pgs_nil))))
    (pss_one (ps_ret (pe_ifExp (pt_cmpR op_eq (pv 2) (pv 3) (nomark _)) (pv 4) (pv 3)))))
theorem d_car_station (T : Txt K mg)
    {cdv : Value} {A : Around} {outer : List Env} {s : Shared} {H : Hp} {E : XK} (hr : Room 0 (A.deeper (envOfC "car_station" (defScope s_car_station) s.heap.objs.size T.car_station.f cdv))) :
    PSs (cxOf CX0 P w K mg base N_car_station "car_station" (defScope s_car_station) T.car_station.f cdv A outer s H E).nox (defBody s_car_station) (t_car_station T) := by
  have sc := sc_car_station
  exact (pss_cons (ps_set (i := 3) sc.nd rfl (Or.inl rfl) (pe_ix ix_seq (pe_fld (pv 0) rfl) (pv 1) (fun _ _ => rfl)))
    (pss_cons (ps_if (pt_cmpR op_eq (pv 2) pe_str (nomark _)) (pss_one (ps_set (i := 3) sc.nd rfl (Or.inl rfl) (pe_op op_sub pe_int (pv 3))))
    pss_nil)
    (pss_one (ps_ret (pe_ix ix_seq (pe_ix ix_seq (pe_fld (pe_fld (pv 0) rfl) rfl) (pv 1) (fun _ _ => rfl)) (pv 3) (fun _ _ => rfl))))))
theorem d_guests_of (T : Txt K mg)
    {cdv : Value} {A : Around} {outer : List Env} {s : Shared} {H : Hp} {E : XK} (hr : Room 0 (A.deeper (envOfC "guests_of" (defScope s_guests_of) s.heap.objs.size T.guests_of.f cdv))) :
    PSs (cxOf CX0 P w K mg base N_guests_of "guests_of" (defScope s_guests_of) T.guests_of.f cdv A outer s H E).nox (defBody s_guests_of) (t_guests_of T) := by
  have sc := sc_guests_of
  exact (pss_one (ps_ret (pe_ifExp (pt_cmpR op_eq (pv 1) pe_str (nomark _)) (pe_fld (pv 0) rfl) (pe_fld (pv 0) rfl))))
theorem d_moved (T : Txt K mg)
    (G_Standing_init : FnOk P w K mg base CX0 2 T.Standing.init.f T.Standing.init.fd P_Standing_init (sp_Standing_init T))
    (G_car_station : FnOk P w K mg base CX0 1 T.car_station.f T.car_station.fd P_car_station (sp_car_station T))
    (G_far_end : FnOk P w K mg base CX0 1 T.far_end.f T.far_end.fd P_far_end (sp_far_end T))
    (G_guests_of : FnOk P w K mg base CX0 1 T.guests_of.f T.guests_of.fd P_guests_of (sp_guests_of T))
    {cdv : Value} {A : Around} {outer : List Env} {s : Shared} {H : Hp} {E : XK} (hr : Room 3 (A.deeper (envOfC "moved" (defScope s_moved) s.heap.objs.size T.moved.f cdv))) :
    PSs (cxOf CX0 P w K mg base N_moved "moved" (defScope s_moved) T.moved.f cdv A outer s H E).nox (defBody s_moved) (t_moved T) := by
  have sc := sc_moved
  exact (pss_cons (ps_set (i := 3) sc.nd rfl (Or.inl rfl) (pe_call G_car_station (hr.mono (by decide)) (by rfl) T.car_station.g T.car_station.F.kp T.car_station.b .nil pass0 (pa_cons (pv 0) (pa_cons (pv 1) (pa_cons (pv 2) pa_nil)))))
    (pss_cons (ps_set (i := 4) sc.nd rfl (Or.inl rfl) (pe_call G_far_end (hr.mono (by decide)) (by rfl) T.far_end.g T.far_end.F.kp T.far_end.b .nil pass0 (pa_cons (pe_fld (pv 0) rfl) (pa_cons (pv 1) (pa_cons (pv 3) pa_nil)))))
    (pss_cons (ps_set (i := 5) sc.nd rfl (Or.inl rfl) (pe_callTy call_list_of (by rfl) T.b_list PyProof.Rows.boot_list (pa_cons (pe_call G_guests_of (hr.mono (by decide)) (by rfl) T.guests_of.g T.guests_of.F.kp T.guests_of.b .nil pass0 (pa_cons (pv 0) (pa_cons (pv 2) pa_nil))) pa_nil)))
    (pss_cons (ps_asg (pe_op op_sub (pe_ix ix_seq (pv 5) (pv 3) (fun _ _ => rfl)) pe_int) (pg_sub (pv 5) (pv 3) set_list))
    (pss_cons (ps_asg (pe_op op_add (pe_ix ix_seq (pv 5) (pv 4) (fun _ _ => rfl)) pe_int) (pg_sub (pv 5) (pv 4) set_list))
    (pss_cons (ps_set (i := 6) sc.nd rfl (Or.inl rfl) (pe_callTy call_list_of (by rfl) T.b_list PyProof.Rows.boot_list (pa_cons (pe_fld (pv 0) rfl) pa_nil)))
    (pss_cons (ps_asg (pe_op op_sub pe_int (pe_ix ix_seq (pv 6) (pv 1) (fun _ _ => rfl))) (pg_sub (pv 6) (pv 1) set_list))
    (pss_cons (ps_if (pt_cmpR op_eq (pv 2) pe_str (nomark _)) (pss_one (ps_ret (pe_make T.Standing.mkc G_Standing_init (hr.mono (by decide)) (by rfl) T.Standing.g T.Standing.init.b .nil pass0 (pa_cons (pe_fld (pv 0) rfl) (pa_cons (pv 5) (pa_cons (pe_fld (pv 0) rfl) (pa_cons (pv 6) pa_nil)))))))
    pss_nil)
    (pss_one (ps_ret (pe_make T.Standing.mkc G_Standing_init (hr.mono (by decide)) (by rfl) T.Standing.g T.Standing.init.b .nil pass0 (pa_cons (pe_fld (pv 0) rfl) (pa_cons (pe_fld (pv 0) rfl) (pa_cons (pv 5) (pa_cons (pv 6) pa_nil)))))))))))))))
theorem d_is_possible (T : Txt K mg)
    (G_car_station : FnOk P w K mg base CX0 1 T.car_station.f T.car_station.fd P_car_station (sp_car_station T))
    (G_guests_of : FnOk P w K mg base CX0 1 T.guests_of.f T.guests_of.fd P_guests_of (sp_guests_of T))
    {cdv : Value} {A : Around} {outer : List Env} {s : Shared} {H : Hp} {E : XK} (hr : Room 1 (A.deeper (envOfC "_is_possible" (defScope s_is_possible) s.heap.objs.size T.is_possible.f cdv))) :
    PSs (cxOf CX0 P w K mg base N_is_possible "_is_possible" (defScope s_is_possible) T.is_possible.f cdv A outer s H E).nox (defBody s_is_possible) (t_is_possible T) := by
  have sc := sc_is_possible
  exact (pss_one (ps_ret (pe_cmpR op_gt (pe_ix ix_seq (pe_call G_guests_of (hr.mono (by decide)) (by rfl) T.guests_of.g T.guests_of.F.kp T.guests_of.b .nil pass0 (pa_cons (pv 0) (pa_cons (pv 2) pa_nil))) (pe_call G_car_station (hr.mono (by decide)) (by rfl) T.car_station.g T.car_station.F.kp T.car_station.b .nil pass0 (pa_cons (pv 0) (pa_cons (pv 1) (pa_cons (pv 2) pa_nil)))) (fun _ _ => rfl)) pe_int (nomark _))))
theorem d_walk (T : Txt K mg)
    (G_is_possible : FnOk P w K mg base CX0 2 T.is_possible.f T.is_possible.fd P_is_possible (sp_is_possible T))
    (G_check_rides : FnOk P w K mg base CX0 2 T.check_rides.f T.check_rides.fd P_check_rides (sp_check_rides T))
    (G_moved : FnOk P w K mg base CX0 4 T.moved.f T.moved.fd P_moved (sp_moved T))
    {cdv : Value} {A : Around} {outer : List Env} {s : Shared} {H : Hp} {E : XK} (hr : Room 4 (A.deeper (envOfC "walk" (defScope s_walk) s.heap.objs.size T.walk.f cdv))) :
    PSs (cxOf CX0 P w K mg base N_walk "walk" (defScope s_walk) T.walk.f cdv A outer s H E).nox (defBody s_walk) (t_walk T) := by
  have sc := sc_walk
  exact (pss_cons (ps_expr (pe_call G_check_rides (hr.mono (by decide)) (by rfl) T.check_rides.g T.check_rides.F.kp T.check_rides.b .nil pass0 (pa_cons (pe_fld (pv 0) rfl) (pa_cons (pv 1) pa_nil))))
    (pss_cons (ps_set (i := 2) sc.nd rfl (Or.inl rfl) (pv 0))
    (pss_cons (ps_set (i := 3) sc.nd rfl (Or.inl rfl) (pe_lst (pa_cons (pv 2) pa_nil)))
    (pss_cons (ps_for PassesOwn.never rfl (pi_enumS (by rfl) T.b_enumerate (pa_cons (pv 1) pa_nil)) (pg_tup rfl (pgs_cons (pg_name (i := 4) sc.nd rfl (Or.inl rfl)) (pgs_cons (pg_tup rfl (pgs_cons (pg_name (i := 5) sc.nd rfl (Or.inl rfl)) (pgs_cons (pg_name (i := 6) sc.nd rfl (Or.inl rfl)) pgs_nil))) pgs_nil)))
    (pss_cons (ps_if (pt_not (pt_val (pe_call G_is_possible (hr.mono (by decide)) (by rfl) T.is_possible.g T.is_possible.F.kp T.is_possible.b .nil pass0 (pa_cons (pv 2) (pa_cons (pv 5) (pa_cons (pv 6) pa_nil)))))) (pss_one ps_never)
    pss_nil)
    (pss_cons (ps_set (i := 2) sc.nd rfl (Or.inl rfl) (pe_call G_moved (hr.mono (by decide)) (by rfl) T.moved.g T.moved.F.kp T.moved.b .nil pass0 (pa_cons (pv 2) (pa_cons (pv 5) (pa_cons (pv 6) pa_nil)))))
    (pss_one (ps_expr (pe_bm PySem.F.plainAttrs_list PySem.F.slot_list_append PySem.F.type_list_append mt_append (pv 3) (pa_cons (pv 2) pa_nil)))))))
    (pss_one (ps_ret (pv 3)))))))
theorem d_end_of (T : Txt K mg)
    (G_check_rides : FnOk P w K mg base CX0 2 T.check_rides.f T.check_rides.fd P_check_rides (sp_check_rides T))
    (G_walk : FnOk P w K mg base CX0 5 T.walk.f T.walk.fd P_walk (sp_walk T))
    {cdv : Value} {A : Around} {outer : List Env} {s : Shared} {H : Hp} {E : XK} (hr : Room 5 (A.deeper (envOfC "end_of" (defScope s_end_of) s.heap.objs.size T.end_of_f cdv))) :
    PSs (cxOf CX0 P w K mg base N_end_of "end_of" (defScope s_end_of) T.end_of_f cdv A outer s H E).nox (defBody s_end_of) (t_end_of T) := by
  have sc := sc_end_of
  exact (pss_cons (ps_expr (pe_call G_check_rides (hr.mono (by decide)) (by rfl) T.check_rides.g T.check_rides.F.kp T.check_rides.b .nil pass0 (pa_cons (pe_fld (pv 0) rfl) (pa_cons (pv 2) pa_nil))))
    (pss_cons (ps_set (i := 3) sc.nd rfl (Or.inl rfl) (pe_callTy call_list_of (by rfl) T.b_list PyProof.Rows.boot_list (pa_cons (pv 2) pa_nil)))
    (pss_cons (ps_if (pt_val (pv 1)) (pss_one (ps_set (i := 3) sc.nd rfl (Or.inl rfl) (pe_revL (pv 3))))
    pss_nil)
    (pss_one (ps_ret (pe_ix ix_seq (pe_call G_walk (hr.mono (by decide)) (by rfl) T.walk.g T.walk.F.kp T.walk.b .nil pass0 (pa_cons (pv 0) (pa_cons (pv 3) pa_nil))) (pe_un un_neg pe_int) (fun _ _ => rfl)))))))
theorem d_arrows_of (T : Txt K mg)
    (G_Standing_blue_car : FnOk P w K mg base CX0 2 T.Standing.blue_car.f T.Standing.blue_car.fd P_Standing_blue_car (sp_Standing_blue_car T))
    (G_Standing_red_car : FnOk P w K mg base CX0 2 T.Standing.red_car.f T.Standing.red_car.fd P_Standing_red_car (sp_Standing_red_car T))
    {cdv : Value} {A : Around} {outer : List Env} {s : Shared} {H : Hp} {E : XK} (hr : Room 2 (A.deeper (envOfC "arrows_of" (defScope s_arrows_of) s.heap.objs.size T.arrows_of.f cdv))) :
    PSs (cxOf CX0 P w K mg base N_arrows_of "arrows_of" (defScope s_arrows_of) T.arrows_of.f cdv A outer s H E).nox (defBody s_arrows_of) (t_arrows_of T) := by
  have sc := sc_arrows_of
  exact (pss_one (ps_ret (pe_lc (own := [("rope", 1)]) (g := (gName 1)) (tt := tYes) rfl sc.nd  (pi_range1 (by rfl) T.b_range (pa_cons (pe_callB call_len_seq (by rfl) T.b_len PySem.boot_len (pa_cons (pe_fld (pe_fld (pv 0) rfl) rfl) pa_nil)) pa_nil)) (blkOk_by (N := N_arrows_of) (sc := defScope s_arrows_of) (by decide +kernel)) (fun _ _ _ _ _ => (pg_name (i := 1) sc.nd rfl (Or.inl rfl))) (fun _ _ _ _ _ => pts_nil) (fun _ _ _ _ _ => (pe_tup (pa_cons (pe_meth (pv 0) T.Standing.cl T.Standing.red_car.m G_Standing_red_car (hr.mono (by decide)) T.Standing.red_car.b .nil pass0 (pa_cons (pv 1) pa_nil)) (pa_cons (pe_meth (pv 0) T.Standing.cl T.Standing.blue_car.m G_Standing_blue_car (hr.mono (by decide)) T.Standing.blue_car.b .nil pass0 (pa_cons (pv 1) pa_nil)) pa_nil)))))))
theorem d_reached_from (T : Txt K mg)
    {cdv : Value} {A : Around} {outer : List Env} {s : Shared} {H : Hp} {E : XK} (hr : Room 0 (A.deeper (envOfC "reached_from" (defScope s_reached_from) s.heap.objs.size T.reached_from.f cdv))) :
    PSs (cxOf CX0 P w K mg base N_reached_from "reached_from" (defScope s_reached_from) T.reached_from.f cdv A outer s H E).nox (defBody s_reached_from) (t_reached_from T) := by
  have sc := sc_reached_from
  exact (pss_cons (ps_setLc (i := 3) (own := [("_", 9)]) (g := (gName 9)) (tt := tYes) rfl sc.nd rfl rfl (sw_true rfl rfl rfl (by decide +kernel)) (pi_range1 (by rfl) T.b_range (pa_cons (pv 1) pa_nil)) (blkOk_by (N := N_reached_from) (sc := defScope s_reached_from) (by decide +kernel)) (fun _ _ _ _ _ => (pg_name (i := 9) sc.nd rfl (Or.inl rfl))) (fun _ _ _ _ _ => pts_nil) (fun _ _ _ _ _ => (pe_lst pa_nil)))
    (pss_cons (ps_for PassesOwn.never rfl (pi_seq (pv 0)) (pg_tup rfl (pgs_cons (pg_name (i := 4) sc.nd rfl (Or.inl rfl)) (pgs_cons (pg_name (i := 5) sc.nd rfl (Or.inl rfl)) pgs_nil)))
    (pss_one (ps_expr (pe_bm PySem.F.plainAttrs_list PySem.F.slot_list_append PySem.F.type_list_append mt_append (pe_ix ix_seq (pv 3) (pv 4) (fun _ _ => rfl)) (pa_cons (pv 5) pa_nil)))))
    (pss_cons (ps_set (i := 6) sc.nd rfl (Or.inr rfl) (pe_op op_rep (pe_lst (pa_cons pe_bl pa_nil)) (pv 1)))
    (pss_cons (ps_set (i := 7) sc.nd rfl (Or.inl rfl) (pe_lst pa_nil))
    (pss_cons (ps_for PassesOwn.never rfl (pi_seq (pv 2)) (pg_name (i := 8) sc.nd rfl (Or.inl rfl))
    (pss_cons (ps_asg pe_bl (pg_sub (pv 6) (pv 8) set_list))
    (pss_one (ps_expr (pe_bm PySem.F.plainAttrs_list PySem.F.slot_list_append PySem.F.type_list_append mt_append (pv 7) (pa_cons (pv 8) pa_nil))))))
    (pss_cons (ps_while PassesOwn.never (pt_truth (pv 7) (by intro _; rfl))
    (pss_cons (ps_set (i := 4) sc.nd rfl (Or.inl rfl) (pe_bm0 PySem.F.plainAttrs_list PySem.F.slot_list_pop PySem.F.type_list_pop mt_pop (pv 7)))
    (pss_one (ps_for PassesOwn.never rfl (pi_seq (pe_ix ix_seq (pv 3) (pv 4) (fun _ _ => rfl))) (pg_name (i := 5) sc.nd rfl (Or.inl rfl))
    (pss_one (ps_if (pt_not (pt_val (pe_ix ix_seq (pv 6) (pv 5) (fun _ _ => rfl)))) (pss_cons (ps_asg pe_bl (pg_sub (pv 6) (pv 5) set_list))
    (pss_one (ps_expr (pe_bm PySem.F.plainAttrs_list PySem.F.slot_list_append PySem.F.type_list_append mt_append (pv 7) (pa_cons (pv 5) pa_nil)))))
    pss_nil))))))
    (pss_one (ps_ret (pe_lc (own := [("station", 10)]) (g := (gName 10)) (tt := (tB (tOp (rIx K) (tVar 6) (tVar 10)))) rfl sc.nd  (pi_range1 (by rfl) T.b_range (pa_cons (pv 1) pa_nil)) (blkOk_by (N := N_reached_from) (sc := defScope s_reached_from) (by decide +kernel)) (fun _ _ _ _ _ => (pg_name (i := 10) sc.nd rfl (Or.inl rfl))) (fun _ _ _ _ _ => (pts_one (pt_val (pe_ix ix_seq (pv 6) (pv 10) (fun _ _ => rfl))))) (fun _ _ _ _ _ => (pv 10)))))))))))
theorem d_red_reach (T : Txt K mg)
    (G_arrows_of : FnOk P w K mg base CX0 3 T.arrows_of.f T.arrows_of.fd P_arrows_of (sp_arrows_of T))
    (G_reached_from : FnOk P w K mg base CX0 1 T.reached_from.f T.reached_from.fd P_reached_from (sp_reached_from T))
    {cdv : Value} {A : Around} {outer : List Env} {s : Shared} {H : Hp} {E : XK} (hr : Room 3 (A.deeper (envOfC "red_reach" (defScope s_red_reach) s.heap.objs.size T.red_reach.f cdv))) :
    PSs (cxOf CX0 P w K mg base N_red_reach "red_reach" (defScope s_red_reach) T.red_reach.f cdv A outer s H E).nox (defBody s_red_reach) (t_red_reach T) := by
  have sc := sc_red_reach
  exact (pss_cons (ps_setLc (i := 1) (own := [("station", 2), ("many", 3)]) (g := (gTup K 2 (gCons (gName 2) (gCons (gName 3) gNil)))) (tt := (tTest (tOp kGt (tVar 3) (tC (.int 0))))) rfl sc.nd rfl rfl (sw_true rfl rfl rfl (by decide +kernel)) (pi_enumS (by rfl) T.b_enumerate (pa_cons (pe_fld (pv 0) rfl) pa_nil)) (blkOk_by (N := N_red_reach) (sc := defScope s_red_reach) (by decide +kernel)) (fun _ _ _ _ _ => (pg_tup rfl (pgs_cons (pg_name (i := 2) sc.nd rfl (Or.inl rfl)) (pgs_cons (pg_name (i := 3) sc.nd rfl (Or.inl rfl)) pgs_nil)))) (fun _ _ _ _ _ => (pts_one (pt_cmpR op_gt (pv 3) pe_int (nomark _)))) (fun _ _ _ _ _ => (pv 2)))
    (pss_one (ps_ret (pe_call G_reached_from (hr.mono (by decide)) (by rfl) T.reached_from.g T.reached_from.F.kp T.reached_from.b .nil pass0 (pa_cons (pe_call G_arrows_of (hr.mono (by decide)) (by rfl) T.arrows_of.g T.arrows_of.F.kp T.arrows_of.b .nil pass0 (pa_cons (pv 0) pa_nil)) (pa_cons (pe_fld (pe_fld (pv 0) rfl) rfl) (pa_cons (pv 1) pa_nil)))))))
theorem d_blue_reach (T : Txt K mg)
    (G_arrows_of : FnOk P w K mg base CX0 3 T.arrows_of.f T.arrows_of.fd P_arrows_of (sp_arrows_of T))
    (G_reached_from : FnOk P w K mg base CX0 1 T.reached_from.f T.reached_from.fd P_reached_from (sp_reached_from T))
    {cdv : Value} {A : Around} {outer : List Env} {s : Shared} {H : Hp} {E : XK} (hr : Room 3 (A.deeper (envOfC "blue_reach" (defScope s_blue_reach) s.heap.objs.size T.blue_reach.f cdv))) :
    PSs (cxOf CX0 P w K mg base N_blue_reach "blue_reach" (defScope s_blue_reach) T.blue_reach.f cdv A outer s H E).nox (defBody s_blue_reach) (t_blue_reach T) := by
  have sc := sc_blue_reach
  exact (pss_cons (ps_setLc (i := 1) (own := [("station", 3), ("many", 4)]) (g := (gTup K 2 (gCons (gName 3) (gCons (gName 4) gNil)))) (tt := (tTest (tOp kGt (tVar 4) (tC (.int 0))))) rfl sc.nd rfl rfl (sw_true rfl rfl rfl (by decide +kernel)) (pi_enumS (by rfl) T.b_enumerate (pa_cons (pe_fld (pv 0) rfl) pa_nil)) (blkOk_by (N := N_blue_reach) (sc := defScope s_blue_reach) (by decide +kernel)) (fun _ _ _ _ _ => (pg_tup rfl (pgs_cons (pg_name (i := 3) sc.nd rfl (Or.inl rfl)) (pgs_cons (pg_name (i := 4) sc.nd rfl (Or.inl rfl)) pgs_nil)))) (fun _ _ _ _ _ => (pts_one (pt_cmpR op_gt (pv 4) pe_int (nomark _)))) (fun _ _ _ _ _ => (pv 3)))
    (pss_cons (ps_setLc (i := 2) (own := [("tail", 5), ("head", 6)]) (g := (gTup K 2 (gCons (gName 5) (gCons (gName 6) gNil)))) (tt := tYes) rfl sc.nd rfl rfl (sw_true rfl rfl rfl (by decide +kernel)) (pi_seq (pe_call G_arrows_of (hr.mono (by decide)) (by rfl) T.arrows_of.g T.arrows_of.F.kp T.arrows_of.b .nil pass0 (pa_cons (pv 0) pa_nil))) (blkOk_by (N := N_blue_reach) (sc := defScope s_blue_reach) (by decide +kernel)) (fun _ _ _ _ _ => (pg_tup rfl (pgs_cons (pg_name (i := 5) sc.nd rfl (Or.inl rfl)) (pgs_cons (pg_name (i := 6) sc.nd rfl (Or.inl rfl)) pgs_nil)))) (fun _ _ _ _ _ => pts_nil) (fun _ _ _ _ _ => (pe_tup (pa_cons (pv 6) (pa_cons (pv 5) pa_nil)))))
    (pss_one (ps_ret (pe_call G_reached_from (hr.mono (by decide)) (by rfl) T.reached_from.g T.reached_from.F.kp T.reached_from.b .nil pass0 (pa_cons (pv 2) (pa_cons (pe_fld (pe_fld (pv 0) rfl) rfl) (pa_cons (pv 1) pa_nil))))))))
theorem d_can_meet (T : Txt K mg)
    (G_red_reach : FnOk P w K mg base CX0 4 T.red_reach.f T.red_reach.fd P_red_reach (sp_red_reach T))
    {cdv : Value} {A : Around} {outer : List Env} {s : Shared} {H : Hp} {E : XK} (hr : Room 4 (A.deeper (envOfC "can_meet" (defScope s_can_meet) s.heap.objs.size T.can_meet.f cdv))) :
    PSs (cxOf CX0 P w K mg base N_can_meet "can_meet" (defScope s_can_meet) T.can_meet.f cdv A outer s H E).nox (defBody s_can_meet) (t_can_meet T) := by
  have sc := sc_can_meet
  exact (pss_one (ps_ret (pe_callB (cr_any rfl) (by rfl) T.b_any PyProof.Rows.boot_any (pa_cons (pe_lc (own := [("station", 1)]) (g := (gName 1)) (tt := tYes) rfl sc.nd  (pi_seq (pe_call G_red_reach (hr.mono (by decide)) (by rfl) T.red_reach.g T.red_reach.F.kp T.red_reach.b .nil pass0 (pa_cons (pv 0) pa_nil))) (blkOk_by (N := N_can_meet) (sc := defScope s_can_meet) (by decide +kernel)) (fun _ _ _ _ _ => (pg_name (i := 1) sc.nd rfl (Or.inl rfl))) (fun _ _ _ _ _ => pts_nil) (fun _ _ _ _ _ => (pe_cmpR op_gt (pe_ix ix_seq (pe_fld (pv 0) rfl) (pv 1) (fun _ _ => rfl)) pe_int (nomark _)))) pa_nil))))
theorem d_lengths_to_blue (T : Txt K mg)
    {cdv : Value} {A : Around} {outer : List Env} {s : Shared} {H : Hp} {E : XK} (hr : Room 0 (A.deeper (envOfC "_lengths_to_blue" (defScope s_lengths_to_blue) s.heap.objs.size T.lengths_to_blue.f cdv))) :
    PSs (cxOf CX0 P w K mg base N_lengths_to_blue "_lengths_to_blue" (defScope s_lengths_to_blue) T.lengths_to_blue.f cdv A outer s H E).nox (defBody s_lengths_to_blue) (t_lengths_to_blue T) := by
  have sc := sc_lengths_to_blue
  exact (pss_cons (ps_setLc (i := 2) (own := [("many", 6)]) (g := (gName 6)) (tt := tYes) rfl sc.nd rfl rfl (sw_true rfl rfl rfl (by decide +kernel)) (pi_seq (pe_fld (pv 0) rfl)) (blkOk_by (N := N_lengths_to_blue) (sc := defScope s_lengths_to_blue) (by decide +kernel)) (fun _ _ _ _ _ => (pg_name (i := 6) sc.nd rfl (Or.inl rfl))) (fun _ _ _ _ _ => pts_nil) (fun _ _ _ _ _ => (pe_ifExp (pt_cmpR op_gt (pv 6) pe_int (nomark _)) pe_int pe_non)))
    (pss_cons (ps_set (i := 3) sc.nd rfl (Or.inl rfl) pe_int)
    (pss_cons (ps_while PassesOwn.never (pt_cmpR op_in_seq (pv 3) (pv 2) (by rfl))
    (pss_cons (ps_for PassesOwn.never rfl (pi_seq (pv 1)) (pg_tup rfl (pgs_cons (pg_name (i := 4) sc.nd rfl (Or.inl rfl)) (pgs_cons (pg_name (i := 5) sc.nd rfl (Or.inl rfl)) pgs_nil)))
    (pss_one (ps_if (PW.pt (pw_and (pt_cmpR op_eq (pe_ix ix_seq (pv 2) (pv 5) (fun _ _ => rfl)) (pv 3) (nomark _)) (pw_and1 (pt_cmpR op_isN (pe_ix ix_seq (pv 2) (pv 4) (fun _ _ => rfl)) pe_non (nomark _))))) (pss_one (ps_asg (pe_op op_add (pv 3) pe_int) (pg_sub (pv 2) (pv 4) set_list)))
    pss_nil)))
    (pss_one (ps_aug (i := 3) sc.nd rfl (Or.inl rfl) pe_int ip_add))))
    (pss_one (ps_ret (pv 2))))))
theorem d_least_ropes (T : Txt K mg)
    {cdv : Value} {A : Around} {outer : List Env} {s : Shared} {H : Hp} {E : XK} (hr : Room 0 (A.deeper (envOfC "_least_ropes" (defScope s_least_ropes) s.heap.objs.size T.least_ropes.f cdv))) :
    PSs (cxOf CX0 P w K mg base N_least_ropes "_least_ropes" (defScope s_least_ropes) T.least_ropes.f cdv A outer s H E).nox (defBody s_least_ropes) (t_least_ropes T) := by
  have sc := sc_least_ropes
  exact (pss_cons (ps_set (i := 3) sc.nd rfl (Or.inl rfl) (pe_lst pa_nil))
    (pss_cons (ps_set (i := 4) sc.nd rfl (Or.inl rfl) (pv 2))
    (pss_cons (ps_set (i := 5) sc.nd rfl (Or.inl rfl) (pe_ix ix_seq (pv 1) (pe_ix ix_seq (pv 2) pe_int (fun _ _ => rfl)) (fun _ _ => rfl)))
    (pss_cons (ps_while PassesOwn.never (pt_cmpR op_gt (pv 5) pe_int (nomark _))
    (pss_cons (ps_aug (i := 5) sc.nd rfl (Or.inl rfl) pe_int ip_sub)
    (pss_one (ps_for PassesOwn.never rfl (pi_enumS (by rfl) T.b_enumerate (pa_cons (pv 0) pa_nil)) (pg_tup rfl (pgs_cons (pg_name (i := 6) sc.nd rfl (Or.inl rfl)) (pgs_cons (pg_tup rfl (pgs_cons (pg_name (i := 7) sc.nd rfl (Or.inl rfl)) (pgs_cons (pg_name (i := 8) sc.nd rfl (Or.inl rfl)) pgs_nil))) pgs_nil)))
    (pss_one (ps_if (PW.pt (pw_and (pt_cmpR op_in_seq (pv 7) (pv 4) (by rfl)) (pw_and1 (pt_cmpR op_eq (pe_ix ix_seq (pv 1) (pv 8) (fun _ _ => rfl)) (pv 5) (nomark _))))) (pss_cons (ps_expr (pe_bm PySem.F.plainAttrs_list PySem.F.slot_list_append PySem.F.type_list_append mt_append (pv 3) (pa_cons (pv 6) pa_nil)))
    (pss_cons (ps_set (i := 4) sc.nd rfl (Or.inl rfl) (pe_lst (pa_cons (pv 8) pa_nil)))
    (pss_one ps_break)))
    pss_nil))))))
    (pss_one (ps_ret (pv 3)))))))
theorem d_meeting_way (T : Txt K mg)
    (G_least_ropes : FnOk P w K mg base CX0 1 T.least_ropes.f T.least_ropes.fd P_least_ropes (sp_least_ropes T))
    (G_lengths_to_blue : FnOk P w K mg base CX0 1 T.lengths_to_blue.f T.lengths_to_blue.fd P_lengths_to_blue (sp_lengths_to_blue T))
    (G_arrows_of : FnOk P w K mg base CX0 3 T.arrows_of.f T.arrows_of.fd P_arrows_of (sp_arrows_of T))
    {cdv : Value} {A : Around} {outer : List Env} {s : Shared} {H : Hp} {E : XK} (hr : Room 3 (A.deeper (envOfC "meeting_way" (defScope s_meeting_way) s.heap.objs.size T.meeting_way.f cdv))) :
    PSs (cxOf CX0 P w K mg base N_meeting_way "meeting_way" (defScope s_meeting_way) T.meeting_way.f cdv A outer s H E).nox (defBody s_meeting_way) (t_meeting_way T) := by
  have sc := sc_meeting_way
  exact (pss_cons (ps_set (i := 1) sc.nd rfl (Or.inl rfl) (pe_call G_arrows_of (hr.mono (by decide)) (by rfl) T.arrows_of.g T.arrows_of.F.kp T.arrows_of.b .nil pass0 (pa_cons (pv 0) pa_nil)))
    (pss_cons (ps_set (i := 2) sc.nd rfl (Or.inr rfl) (pe_call G_lengths_to_blue (hr.mono (by decide)) (by rfl) T.lengths_to_blue.g T.lengths_to_blue.F.kp T.lengths_to_blue.b .nil pass0 (pa_cons (pv 0) (pa_cons (pv 1) pa_nil))))
    (pss_cons (ps_set (i := 3) sc.nd rfl (Or.inl rfl) (pe_lst pa_nil))
    (pss_cons (ps_for PassesOwn.never rfl (pi_enumS (by rfl) T.b_enumerate (pa_cons (pe_fld (pv 0) rfl) pa_nil)) (pg_tup rfl (pgs_cons (pg_name (i := 4) sc.nd rfl (Or.inl rfl)) (pgs_cons (pg_name (i := 5) sc.nd rfl (Or.inl rfl)) pgs_nil)))
    (pss_one (ps_if (PW.pt (pw_and (pt_cmpR op_gt (pv 5) pe_int (nomark _)) (pw_and1 (pt_cmpR op_notN (pe_ix ix_seq (pv 2) (pv 4) (fun _ _ => rfl)) pe_non (nomark _))))) (pss_one (ps_expr (pe_bm PySem.F.plainAttrs_list PySem.F.slot_list_append PySem.F.type_list_append mt_append (pv 3) (pa_cons (pv 4) pa_nil))))
    pss_nil)))
    (pss_cons (ps_if (pt_cmpR op_eq (pe_callB call_len_seq (by rfl) T.b_len PySem.boot_len (pa_cons (pv 3) pa_nil)) pe_int (nomark _)) (pss_one (ps_ret pe_non))
    pss_nil)
    (pss_cons (ps_set (i := 6) sc.nd rfl (Or.inr rfl) (pe_callB (cr_min rfl) (by rfl) T.b_min PyProof.Rows.boot_min (pa_cons (pe_lc (own := [("station", 4)]) (g := (gName 4)) (tt := tYes) rfl sc.nd  (pi_seq (pv 3)) (blkOk_by (N := N_meeting_way) (sc := defScope s_meeting_way) (by decide +kernel)) (fun _ _ _ _ _ => (pg_name (i := 4) sc.nd rfl (Or.inl rfl))) (fun _ _ _ _ _ => pts_nil) (fun _ _ _ _ _ => (pe_ix ix_seq (pv 2) (pv 4) (fun _ _ => rfl)))) pa_nil)))
    (pss_cons (ps_setLc (i := 7) (own := [("station", 4)]) (g := (gName 4)) (tt := (tTest (tOp rEq (tOp (rIx K) (tVar 2) (tVar 4)) (tVar 6)))) rfl sc.nd rfl rfl (sw_true rfl rfl rfl (by decide +kernel)) (pi_seq (pv 3)) (blkOk_by (N := N_meeting_way) (sc := defScope s_meeting_way) (by decide +kernel)) (fun _ _ _ _ _ => (pg_name (i := 4) sc.nd rfl (Or.inl rfl))) (fun _ _ _ _ _ => (pts_one (pt_cmpR op_eq (pe_ix ix_seq (pv 2) (pv 4) (fun _ _ => rfl)) (pv 6) (nomark _)))) (fun _ _ _ _ _ => (pv 4)))
    (pss_cons (ps_set (i := 8) sc.nd rfl (Or.inl rfl) (pe_call G_least_ropes (hr.mono (by decide)) (by rfl) T.least_ropes.g T.least_ropes.F.kp T.least_ropes.b .nil pass0 (pa_cons (pv 1) (pa_cons (pv 2) (pa_cons (pv 7) pa_nil)))))
    (pss_cons (ps_if (pt_cmpR op_eq (pv 6) pe_int (nomark _)) (pss_one (ps_ret (pe_tup (pa_cons (pe_ix ix_seq (pv 7) pe_int (fun _ _ => rfl)) (pa_cons (pv 8) pa_nil)))))
    pss_nil)
    (pss_one (ps_ret (pe_tup (pa_cons (pe_ix ix_seq (pe_ix ix_seq (pv 1) (pe_ix ix_seq (pv 8) pe_int (fun _ _ => rfl)) (fun _ _ => rfl)) pe_int (fun _ _ => rfl)) (pa_cons (pv 8) pa_nil))))))))))))))
theorem d_dead_stations (T : Txt K mg)
    (G_blue_reach : FnOk P w K mg base CX0 4 T.blue_reach.f T.blue_reach.fd P_blue_reach (sp_blue_reach T))
    (G_can_meet : FnOk P w K mg base CX0 5 T.can_meet.f T.can_meet.fd P_can_meet (sp_can_meet T))
    (G_red_reach : FnOk P w K mg base CX0 4 T.red_reach.f T.red_reach.fd P_red_reach (sp_red_reach T))
    {cdv : Value} {A : Around} {outer : List Env} {s : Shared} {H : Hp} {E : XK} (hr : Room 5 (A.deeper (envOfC "dead_stations" (defScope s_dead_stations) s.heap.objs.size T.dead_stations.f cdv))) :
    PSs (cxOf CX0 P w K mg base N_dead_stations "dead_stations" (defScope s_dead_stations) T.dead_stations.f cdv A outer s H E).nox (defBody s_dead_stations) (t_dead_stations T) := by
  have sc := sc_dead_stations
  exact (pss_cons (ps_if (pt_val (pe_call G_can_meet (hr.mono (by decide)) (by rfl) T.can_meet.g T.can_meet.F.kp T.can_meet.b .nil pass0 (pa_cons (pv 0) pa_nil))) (pss_one (ps_ret (pe_lst pa_nil)))
    pss_nil)
    (pss_cons (ps_set (i := 1) sc.nd rfl (Or.inl rfl) (pe_call G_red_reach (hr.mono (by decide)) (by rfl) T.red_reach.g T.red_reach.F.kp T.red_reach.b .nil pass0 (pa_cons (pv 0) pa_nil)))
    (pss_cons (ps_set (i := 2) sc.nd rfl (Or.inl rfl) (pe_call G_blue_reach (hr.mono (by decide)) (by rfl) T.blue_reach.g T.blue_reach.F.kp T.blue_reach.b .nil pass0 (pa_cons (pv 0) pa_nil)))
    (pss_cons (ps_set (i := 3) sc.nd rfl (Or.inr rfl) (pe_op op_cat (pv 1) (pv 2)))
    (pss_one (ps_ret (pe_lc (own := [("station", 4)]) (g := (gName 4)) (tt := (tTest (tOp (rIn K true) (tVar 4) (tVar 3)))) rfl sc.nd  (pi_range1 (by rfl) T.b_range (pa_cons (pe_fld (pe_fld (pv 0) rfl) rfl) pa_nil)) (blkOk_by (N := N_dead_stations) (sc := defScope s_dead_stations) (by decide +kernel)) (fun _ _ _ _ _ => (pg_name (i := 4) sc.nd rfl (Or.inl rfl))) (fun _ _ _ _ _ => (pts_one (pt_cmpR op_notIn_seq (pv 4) (pv 3) (by rfl)))) (fun _ _ _ _ _ => (pv 4)))))))))
theorem d_ropes_back (T : Txt K mg)
    {cdv : Value} {A : Around} {outer : List Env} {s : Shared} {H : Hp} {E : XK} (hr : Room 0 (A.deeper (envOfC "_ropes_back" (defScope s_ropes_back) s.heap.objs.size T.ropes_back.f cdv))) :
    PSs (cxOf CX0 P w K mg base N_ropes_back "_ropes_back" (defScope s_ropes_back) T.ropes_back.f cdv A outer s H E).nox (defBody s_ropes_back) (t_ropes_back T) := by
  have sc := sc_ropes_back
  exact (pss_cons (ps_set (i := 2) sc.nd rfl (Or.inl rfl) (pe_lst pa_nil))
    (pss_cons (ps_while PassesOwn.never (pt_cmpR op_notN (pe_dget (hu_of hr) (pv 0) (pv 1) (fun _ _ => rfl)) pe_non (nomark _))
    (pss_cons (ps_asg (pe_dget (hu_of hr) (pv 0) (pv 1) (fun _ _ => rfl)) (pg_tup rfl (pgs_cons (pg_name (i := 3) sc.nd rfl (Or.inl rfl)) (pgs_cons (pg_name (i := 1) sc.nd rfl (Or.inl rfl)) pgs_nil))))
    (pss_one (ps_expr (pe_bm PySem.F.plainAttrs_list PySem.F.slot_list_append PySem.F.type_list_append mt_append (pv 2) (pa_cons (pv 3) pa_nil))))))
    (pss_one (ps_ret (pe_revL (pv 2))))))
theorem d_shortest_way (T : Txt K mg)
    (G_ropes_back : FnOk P w K mg base CX0 1 T.ropes_back.f T.ropes_back.fd P_ropes_back (sp_ropes_back T))
    {cdv : Value} {A : Around} {outer : List Env} {s : Shared} {H : Hp} {E : XK} (hr : Room 1 (A.deeper (envOfC "_shortest_way" (defScope s_shortest_way) s.heap.objs.size T.shortest_way.f cdv))) :
    PSs (cxOf CX0 P w K mg base N_shortest_way "_shortest_way" (defScope s_shortest_way) T.shortest_way.f cdv A outer s H E).nox (defBody s_shortest_way) (t_shortest_way T) := by
  have sc := sc_shortest_way
  exact (pss_cons (ps_set (i := 3) sc.nd rfl (Or.inl rfl) pe_dnewK)
    (pss_cons (ps_set (i := 4) sc.nd rfl (Or.inl rfl) (pe_lst pa_nil))
    (pss_cons (ps_for PassesOwn.never rfl (pi_seq (pv 1)) (pg_name (i := 5) sc.nd rfl (Or.inl rfl))
    (pss_cons (ps_dput (hu_of hr) (pv 3) (pv 5) pe_non rfl)
    (pss_one (ps_expr (pe_bm PySem.F.plainAttrs_list PySem.F.slot_list_append PySem.F.type_list_append mt_append (pv 4) (pa_cons (pv 5) pa_nil))))))
    (pss_cons (ps_set (i := 6) sc.nd rfl (Or.inl rfl) pe_int)
    (pss_cons (ps_while PassesOwn.never (pt_cmpR op_lt (pv 6) (pe_callB call_len_seq (by rfl) T.b_len PySem.boot_len (pa_cons (pv 4) pa_nil)) (nomark _))
    (pss_cons (ps_set (i := 7) sc.nd rfl (Or.inl rfl) (pe_ix ix_seq (pv 4) (pv 6) (fun _ _ => rfl)))
    (pss_cons (ps_if (pt_cmpR op_in_seq (pv 7) (pv 2) (by rfl)) (pss_one (ps_ret (pe_call G_ropes_back (hr.mono (by decide)) (by rfl) T.ropes_back.g T.ropes_back.F.kp T.ropes_back.b .nil pass0 (pa_cons (pv 3) (pa_cons (pv 7) pa_nil)))))
    pss_nil)
    (pss_cons (ps_for PassesOwn.never rfl (pi_seq (pv 0)) (pg_tup rfl (pgs_cons (pg_name (i := 8) sc.nd rfl (Or.inl rfl)) (pgs_cons (pg_name (i := 9) sc.nd rfl (Or.inl rfl)) (pgs_cons (pg_name (i := 10) sc.nd rfl (Or.inl rfl)) pgs_nil))))
    (pss_one (ps_if (PW.pt (pw_and (pt_cmpR op_eq (pv 9) (pv 7) (nomark _)) (pw_and1 (pt_cmp (pc_dnotin (hu_of hr) (pv 10) (pv 3)))))) (pss_cons (ps_dput (hu_of hr) (pv 3) (pv 10) (pe_tup (pa_cons (pv 8) (pa_cons (pv 9) pa_nil))) rfl)
    (pss_one (ps_expr (pe_bm PySem.F.plainAttrs_list PySem.F.slot_list_append PySem.F.type_list_append mt_append (pv 4) (pa_cons (pv 10) pa_nil)))))
    pss_nil)))
    (pss_one (ps_aug (i := 6) sc.nd rfl (Or.inl rfl) pe_int ip_add))))))
    (pss_one (ps_ret pe_non)))))))
theorem d_lone_row (T : Txt K mg)
    (G_shortest_way : FnOk P w K mg base CX0 2 T.shortest_way.f T.shortest_way.fd P_shortest_way (sp_shortest_way T))
    (G_arrows_of : FnOk P w K mg base CX0 3 T.arrows_of.f T.arrows_of.fd P_arrows_of (sp_arrows_of T))
    (G_guests_of : FnOk P w K mg base CX0 1 T.guests_of.f T.guests_of.fd P_guests_of (sp_guests_of T))
    {cdv : Value} {A : Around} {outer : List Env} {s : Shared} {H : Hp} {E : XK} (hr : Room 3 (A.deeper (envOfC "_lone_row" (defScope s_lone_row) s.heap.objs.size T.lone_row.f cdv))) :
    PSs (cxOf CX0 P w K mg base N_lone_row "_lone_row" (defScope s_lone_row) T.lone_row.f cdv A outer s H E).nox (defBody s_lone_row) (t_lone_row T) := by
  have sc := sc_lone_row
  exact (pss_cons (ps_set (i := 3) sc.nd rfl (Or.inl rfl) (pe_lst pa_nil))
    (pss_cons (ps_for PassesOwn.never rfl (pi_enumS (by rfl) T.b_enumerate (pa_cons (pe_call G_arrows_of (hr.mono (by decide)) (by rfl) T.arrows_of.g T.arrows_of.F.kp T.arrows_of.b .nil pass0 (pa_cons (pv 0) pa_nil)) pa_nil)) (pg_tup rfl (pgs_cons (pg_name (i := 4) sc.nd rfl (Or.inl rfl)) (pgs_cons (pg_tup rfl (pgs_cons (pg_name (i := 5) sc.nd rfl (Or.inl rfl)) (pgs_cons (pg_name (i := 6) sc.nd rfl (Or.inl rfl)) pgs_nil))) pgs_nil)))
    (pss_one (ps_if (pt_cmpR op_eq (pv 1) pe_str (nomark _)) (pss_one (ps_expr (pe_bm PySem.F.plainAttrs_list PySem.F.slot_list_append PySem.F.type_list_append mt_append (pv 3) (pa_cons (pe_tup (pa_cons (pv 4) (pa_cons (pv 5) (pa_cons (pv 6) pa_nil)))) pa_nil))))
    (pss_one (ps_expr (pe_bm PySem.F.plainAttrs_list PySem.F.slot_list_append PySem.F.type_list_append mt_append (pv 3) (pa_cons (pe_tup (pa_cons (pv 4) (pa_cons (pv 6) (pa_cons (pv 5) pa_nil)))) pa_nil)))))))
    (pss_cons (ps_setLc (i := 7) (own := [("place", 9), ("many", 10)]) (g := (gTup K 2 (gCons (gName 9) (gCons (gName 10) gNil)))) (tt := (tTest (tOp kGt (tVar 10) (tC (.int 0))))) rfl sc.nd rfl rfl (sw_true rfl rfl rfl (by decide +kernel)) (pi_enumS (by rfl) T.b_enumerate (pa_cons (pe_call G_guests_of (hr.mono (by decide)) (by rfl) T.guests_of.g T.guests_of.F.kp T.guests_of.b .nil pass0 (pa_cons (pv 0) (pa_cons (pv 1) pa_nil))) pa_nil)) (blkOk_by (N := N_lone_row) (sc := defScope s_lone_row) (by decide +kernel)) (fun _ _ _ _ _ => (pg_tup rfl (pgs_cons (pg_name (i := 9) sc.nd rfl (Or.inl rfl)) (pgs_cons (pg_name (i := 10) sc.nd rfl (Or.inl rfl)) pgs_nil)))) (fun _ _ _ _ _ => (pts_one (pt_cmpR op_gt (pv 10) pe_int (nomark _)))) (fun _ _ _ _ _ => (pv 9)))
    (pss_cons (ps_set (i := 8) sc.nd rfl (Or.inl rfl) (pe_call G_shortest_way (hr.mono (by decide)) (by rfl) T.shortest_way.g T.shortest_way.F.kp T.shortest_way.b .nil pass0 (pa_cons (pv 3) (pa_cons (pv 7) (pa_cons (pe_lst (pa_cons (pv 2) pa_nil)) pa_nil)))))
    (pss_cons (ps_if (pt_cmpR op_isN (pv 8) pe_non (nomark _)) (pss_one (ps_ret pe_non))
    pss_nil)
    (pss_one (ps_ret (pe_lc (own := [("rope", 4)]) (g := (gName 4)) (tt := tYes) rfl sc.nd  (pi_seq (pv 8)) (blkOk_by (N := N_lone_row) (sc := defScope s_lone_row) (by decide +kernel)) (fun _ _ _ _ _ => (pg_name (i := 4) sc.nd rfl (Or.inl rfl))) (fun _ _ _ _ _ => pts_nil) (fun _ _ _ _ _ => (pe_tup (pa_cons (pv 4) (pa_cons (pv 1) pa_nil))))))))))))
theorem d_pair_row (T : Txt K mg)
    (G_Standing_red_car : FnOk P w K mg base CX0 2 T.Standing.red_car.f T.Standing.red_car.fd P_Standing_red_car (sp_Standing_red_car T))
    (G_shortest_way : FnOk P w K mg base CX0 2 T.shortest_way.f T.shortest_way.fd P_shortest_way (sp_shortest_way T))
    (G_end_of : FnR P w K mg base CX0 6 T.end_of_f (sp_end_of T))
    (G_far_end : FnOk P w K mg base CX0 1 T.far_end.f T.far_end.fd P_far_end (sp_far_end T))
    (G_meeting_way : FnOk P w K mg base CX0 4 T.meeting_way.f T.meeting_way.fd P_meeting_way (sp_meeting_way T))
    {cdv : Value} {A : Around} {outer : List Env} {s : Shared} {H : Hp} {E : XK} (hr : Room 6 (A.deeper (envOfC "_pair_row" (defScope s_pair_row) s.heap.objs.size T.pair_row.f cdv))) :
    PSs (cxOf CX0 P w K mg base N_pair_row "_pair_row" (defScope s_pair_row) T.pair_row.f cdv A outer s H E).nox (defBody s_pair_row) (t_pair_row T) := by
  have sc := sc_pair_row
  exact (pss_cons (ps_set (i := 2) sc.nd rfl (Or.inl rfl) (pe_fld (pv 0) rfl))
    (pss_cons (ps_asg (pe_call G_meeting_way (hr.mono (by decide)) (by rfl) T.meeting_way.g T.meeting_way.F.kp T.meeting_way.b .nil pass0 (pa_cons (pv 0) pa_nil)) (pg_tup rfl (pgs_cons (pg_name (i := 3) sc.nd rfl (Or.inl rfl)) (pgs_cons (pg_name (i := 4) sc.nd rfl (Or.inl rfl)) pgs_nil))))
    (pss_cons (ps_setLc (i := 5) (own := [("rope", 7)]) (g := (gName 7)) (tt := tYes) rfl sc.nd rfl rfl (sw_true rfl rfl rfl (by decide +kernel)) (pi_seq (pv 4)) (blkOk_by (N := N_pair_row) (sc := defScope s_pair_row) (by decide +kernel)) (fun _ _ _ _ _ => (pg_name (i := 7) sc.nd rfl (Or.inl rfl))) (fun _ _ _ _ _ => pts_nil) (fun _ _ _ _ _ => (pe_tup (pa_cons (pv 7) (pa_cons pe_str pa_nil)))))
    (pss_cons (ps_set (i := 6) sc.nd rfl (Or.inl rfl) (StX.pe_callS2 G_end_of (hr.mono (by decide)) T.end_of_kp (by rfl) T.end_of_g pass0 (pa_cons (pv 0) (StX.pa_star (pv 5) pa_nil))))
    (pss_cons (ps_for PassesOwn.never rfl (pi_seq (pv 4)) (pg_name (i := 7) sc.nd rfl (Or.inl rfl))
    (pss_one (ps_set (i := 3) sc.nd rfl (Or.inl rfl) (pe_call G_far_end (hr.mono (by decide)) (by rfl) T.far_end.g T.far_end.F.kp T.far_end.b .nil pass0 (pa_cons (pv 2) (pa_cons (pv 7) (pa_cons (pv 3) pa_nil)))))))
    (pss_cons (ps_set (i := 8) sc.nd rfl (Or.inl rfl) (pe_lst pa_nil))
    (pss_cons (ps_for PassesOwn.never rfl (pi_enumS (by rfl) T.b_enumerate (pa_cons (pe_fld (pv 2) rfl) pa_nil)) (pg_tup rfl (pgs_cons (pg_name (i := 7) sc.nd rfl (Or.inl rfl)) (pgs_cons (pg_tup rfl (pgs_cons (pg_name (i := 9) sc.nd rfl (Or.inl rfl)) (pgs_cons (pg_name (i := 10) sc.nd rfl (Or.inl rfl)) pgs_nil))) pgs_nil)))
    (pss_cons (ps_expr (pe_bm PySem.F.plainAttrs_list PySem.F.slot_list_append PySem.F.type_list_append mt_append (pv 8) (pa_cons (pe_tup (pa_cons (pv 7) (pa_cons (pv 9) (pa_cons (pv 10) pa_nil)))) pa_nil)))
    (pss_one (ps_expr (pe_bm PySem.F.plainAttrs_list PySem.F.slot_list_append PySem.F.type_list_append mt_append (pv 8) (pa_cons (pe_tup (pa_cons (pv 7) (pa_cons (pv 10) (pa_cons (pv 9) pa_nil)))) pa_nil))))))
    (pss_cons (ps_for PassesOwn.never rfl (pi_seq (pe_call G_shortest_way (hr.mono (by decide)) (by rfl) T.shortest_way.g T.shortest_way.F.kp T.shortest_way.b .nil pass0 (pa_cons (pv 8) (pa_cons (pe_lst (pa_cons (pv 3) pa_nil)) (pa_cons (pv 1) pa_nil))))) (pg_name (i := 7) sc.nd rfl (Or.inl rfl))
    (pss_cons (ps_if (pt_cmpR op_eq (pe_meth (pv 6) T.Standing.cl T.Standing.red_car.m G_Standing_red_car (hr.mono (by decide)) T.Standing.red_car.b .nil pass0 (pa_cons (pv 7) pa_nil)) (pv 3) (nomark _)) (pss_one (ps_expr (pe_bm PySem.F.plainAttrs_list PySem.F.slot_list_extend PySem.F.type_list_extend mt_extend (pv 5) (pa_cons (pe_lst (pa_cons (pe_tup (pa_cons (pv 7) (pa_cons pe_str pa_nil))) (pa_cons (pe_tup (pa_cons (pv 7) (pa_cons pe_str pa_nil))) pa_nil))) pa_nil))))
    (pss_one (ps_expr (pe_bm PySem.F.plainAttrs_list PySem.F.slot_list_extend PySem.F.type_list_extend mt_extend (pv 5) (pa_cons (pe_lst (pa_cons (pe_tup (pa_cons (pv 7) (pa_cons pe_str pa_nil))) (pa_cons (pe_tup (pa_cons (pv 7) (pa_cons pe_str pa_nil))) pa_nil))) pa_nil)))))
    (pss_one (ps_set (i := 3) sc.nd rfl (Or.inl rfl) (pe_call G_far_end (hr.mono (by decide)) (by rfl) T.far_end.g T.far_end.F.kp T.far_end.b .nil pass0 (pa_cons (pv 2) (pa_cons (pv 7) (pa_cons (pv 3) pa_nil))))))))
    (pss_one (ps_ret (pe_tup (pa_cons (pv 5) (pa_cons (pv 3) pa_nil)))))))))))))
theorem d_cut_off (T : Txt K mg)
    {cdv : Value} {A : Around} {outer : List Env} {s : Shared} {H : Hp} {E : XK} (hr : Room 0 (A.deeper (envOfC "_cut_off" (defScope s_cut_off) s.heap.objs.size T.cut_off.f cdv))) :
    PSs (cxOf CX0 P w K mg base N_cut_off "_cut_off" (defScope s_cut_off) T.cut_off.f cdv A outer s H E).nox (defBody s_cut_off) (t_cut_off T) := by
  have sc := sc_cut_off
  exact (pss_cons (ps_set (i := 2) sc.nd rfl (Or.inr rfl) (pe_lc (own := [("station", 6)]) (g := (gName 6)) (tt := tYes) rfl sc.nd  (pi_range1 (by rfl) T.b_range (pa_cons (pv 0) pa_nil)) (blkOk_by (N := N_cut_off) (sc := defScope s_cut_off) (by decide +kernel)) (fun _ _ _ _ _ => (pg_name (i := 6) sc.nd rfl (Or.inl rfl))) (fun _ _ _ _ _ => pts_nil) (fun _ _ _ _ _ => (pe_cmpR op_eq (pv 6) pe_int (nomark _)))))
    (pss_cons (ps_set (i := 3) sc.nd rfl (Or.inl rfl) pe_bl)
    (pss_cons (ps_while PassesOwn.never (pt_val (pv 3))
    (pss_cons (ps_set (i := 3) sc.nd rfl (Or.inl rfl) pe_bl)
    (pss_one (ps_for PassesOwn.never rfl (pi_seq (pv 1)) (pg_tup rfl (pgs_cons (pg_name (i := 4) sc.nd rfl (Or.inl rfl)) (pgs_cons (pg_name (i := 5) sc.nd rfl (Or.inl rfl)) pgs_nil)))
    (pss_one (ps_if (pt_cmpR op_ne (pe_ix ix_seq (pv 2) (pv 4) (fun _ _ => rfl)) (pe_ix ix_seq (pv 2) (pv 5) (fun _ _ => rfl)) (nomark _)) (pss_cons (ps_asg pe_bl (pg_sub (pv 2) (pv 4) set_list))
    (pss_cons (ps_asg pe_bl (pg_sub (pv 2) (pv 5) set_list))
    (pss_one (ps_set (i := 3) sc.nd rfl (Or.inl rfl) pe_bl))))
    pss_nil))))))
    (pss_one (ps_ret (pe_lc (own := [("station", 6)]) (g := (gName 6)) (tt := (tNot (tB (tOp (rIx K) (tVar 2) (tVar 6))))) rfl sc.nd  (pi_range1 (by rfl) T.b_range (pa_cons (pv 0) pa_nil)) (blkOk_by (N := N_cut_off) (sc := defScope s_cut_off) (by decide +kernel)) (fun _ _ _ _ _ => (pg_name (i := 6) sc.nd rfl (Or.inl rfl))) (fun _ _ _ _ _ => (pts_one (pt_not (pt_val (pe_ix ix_seq (pv 2) (pv 6) (fun _ _ => rfl)))))) (fun _ _ _ _ _ => (pv 6))))))))
theorem d_check_size (T : Txt K mg)
    {cdv : Value} {A : Around} {outer : List Env} {s : Shared} {H : Hp} {E : XK} (hr : Room 0 (A.deeper (envOfC "_check_size" (defScope s_check_size) s.heap.objs.size T.check_size.f cdv))) :
    PSs (cxOf CX0 P w K mg base N_check_size "_check_size" (defScope s_check_size) T.check_size.f cdv A outer s H E).nox (defBody s_check_size) (t_check_size T) := by
  have sc := sc_check_size
  exact (pss_one (ps_if (pt_not (pt_chain op_le op_le (pv 1) (pv 0) (ClX.pe_cval (pe_glob (v := .ref T.Net.C) (by rfl) T.Net.g rfl)))) (pss_one ps_never)
    pss_nil))
theorem d_Net_init (T : Txt K mg)
    (G_check_size : FnOk P w K mg base CX0 1 T.check_size.f T.check_size.fd P_check_size (sp_check_size T))
    (G_cut_off : FnOk P w K mg base CX0 1 T.cut_off.f T.cut_off.fd P_cut_off (sp_cut_off T))
    {cdv : Value} {A : Around} {outer : List Env} {s : Shared} {H : Hp} {E : XK} (hr : Room 1 (A.deeper (envOfC "Net.__init__" (defScope s_Net_init) s.heap.objs.size T.Net.init.f cdv))) :
    PSs (cxOf CX0 P w K mg base N_Net_init "Net.__init__" (defScope s_Net_init) T.Net.init.f cdv A outer s H E).nox (defBody s_Net_init) (t_Net_init T) := by
  have sc := sc_Net_init
  exact (pss_cons (ps_expr (pe_call G_check_size (hr.mono (by decide)) (by rfl) T.check_size.g T.check_size.F.kp T.check_size.b .nil pass0 (pa_cons (pv 1) (pa_cons pe_int pa_nil))))
    (pss_cons (ps_if (pt_cmpR op_gt (pe_callB call_len_seq (by rfl) T.b_len PySem.boot_len (pa_cons (pv 2) pa_nil)) (pe_con (pv 0) rfl) (nomark _)) (pss_one ps_never)
    pss_nil)
    (pss_cons (ps_for PassesOwn.never rfl (pi_enumS (by rfl) T.b_enumerate (pa_cons (pv 2) pa_nil)) (pg_tup rfl (pgs_cons (pg_name (i := 3) sc.nd rfl (Or.inl rfl)) (pgs_cons (pg_tup rfl (pgs_cons (pg_name (i := 4) sc.nd rfl (Or.inl rfl)) (pgs_cons (pg_name (i := 5) sc.nd rfl (Or.inl rfl)) pgs_nil))) pgs_nil)))
    (pss_one (ps_if (PW.pt (pw_or (pt_not (pt_chain op_le op_lt pe_int (pv 4) (pv 1))) (pw_or (pt_not (pt_chain op_le op_lt pe_int (pv 5) (pv 1))) (pw_or1 (pt_cmpR op_eq (pv 4) (pv 5) (nomark _)))))) (pss_one ps_never)
    pss_nil)))
    (pss_cons (ps_set (i := 6) sc.nd rfl (Or.inl rfl) (pe_call G_cut_off (hr.mono (by decide)) (by rfl) T.cut_off.g T.cut_off.F.kp T.cut_off.b .nil pass0 (pa_cons (pv 1) (pa_cons (pv 2) pa_nil))))
    (pss_cons (ps_if (pt_truth (pv 6) (by intro _; rfl)) (pss_one ps_never)
    pss_nil)
    (pss_cons (ps_fld (pv 0) (pv 1) rfl)
    (pss_one (ps_fld (pv 0) (pe_callTy call_tuple_of (by rfl) T.b_tuple PyProof.Rows.boot_tuple (pa_cons (pe_lc (own := [("first", 4), ("second", 5)]) (g := (gTup K 2 (gCons (gName 4) (gCons (gName 5) gNil)))) (tt := tYes) rfl sc.nd  (pi_seq (pv 2)) (blkOk_by (N := N_Net_init) (sc := defScope s_Net_init) (by decide +kernel)) (fun _ _ _ _ _ => (pg_tup rfl (pgs_cons (pg_name (i := 4) sc.nd rfl (Or.inl rfl)) (pgs_cons (pg_name (i := 5) sc.nd rfl (Or.inl rfl)) pgs_nil)))) (fun _ _ _ _ _ => pts_nil) (fun _ _ _ _ _ => (pe_tup (pa_cons (pv 4) (pa_cons (pv 5) pa_nil))))) pa_nil)) rfl))))))))
end
end TR
namespace TR
open PySem L2 PyProof.Rows

section
variable {w : World} {K : PySem.W.Frag} {mg : Str → Option Value} {base : Heap}
def t_check_stationX (T : Txt K mg) (E : XK) : TS := (tIfS (tNot (tTest (tChain kLe kLt (tC (.int 0)) (tVar 1) (tFld K (tVar 0) "stations")))) (tRaiseE T.NoStation.C "number" E (tCons (tVar 1) tNil))
    tNext)
def t_check_ropeX (T : Txt K mg) (E : XK) : TS := (tIfS (tNot (tTest (tChain kLe kLt (tC (.int 0)) (tVar 1) (tCB (Evl.rLenS K) (tCons (tFld K (tVar 0) "ropes") tNil))))) (tRaiseE T.NoRope.C "number" E (tCons (tVar 1) tNil))
    tNext)
def t_visit_row (T : Txt K mg) (E : XK) : TS := (tSeq (tDrop (tCall (sp_check_stationX T) [] E (tCons (tFld K (tVar 0) "net") (tCons (tVar 1) tNil))))
    (tSeq (tIfS (tTest (tOp kGt (tOp kAdd (tOp (rIx K) (tFld K (tVar 0) "reds") (tVar 1)) (tOp (rIx K) (tFld K (tVar 0) "blues") (tVar 1))) (tC (.int 0)))) (tRet (tLst tNil))
    tNext)
    (tSeq (tFor (iSeq K (tTup (tCons (tC (.str "red")) (tCons (tC (.str "blue")) tNil)))) (gName 2)
    (tSeq (tAsg (tCall (sp_lone_row T) [] E0 (tCons (tVar 0) (tCons (tVar 2) (tCons (tVar 1) tNil)))) (gName 3))
    (tIfS (tTest (tOp kNotN (tVar 3) (tC .non))) (tRet (tVar 3))
    tNext)))
    (tSeq (tIfS (tNot (tB (tCall (sp_can_meet T) [] E0 (tCons (tVar 0) tNil)))) (tRaiseE T.Dead.C "station" E (tCons (tVar 1) tNil))
    tNext)
    (tSeq (tAsg (tCall (sp_pair_row T) [] E0 (tCons (tVar 0) (tCons (tLst (tCons (tVar 1) tNil)) tNil))) (gTup K 2 (gCons (gName 4) (gCons (gName 5) gNil))))
    (tRet (tVar 4)))))))
def t_run_rope (T : Txt K mg) (E : XK) : TS := (tSeq (tDrop (tCall (sp_check_ropeX T) [] E (tCons (tFld K (tVar 0) "net") (tCons (tVar 1) tNil))))
    (tSeq (tAsg (tMeth T.Standing.C "red_car" (sp_Standing_red_car T) [] E0 (tVar 0) (tCons (tVar 1) tNil)) (gName 2))
    (tSeq (tAsg (tMeth T.Standing.C "blue_car" (sp_Standing_blue_car T) [] E0 (tVar 0) (tCons (tVar 1) tNil)) (gName 3))
    (tSeq (tFor (iSeq K (tTup (tCons (tTup (tCons (tC (.str "red")) (tCons (tVar 2) tNil))) (tCons (tTup (tCons (tC (.str "blue")) (tCons (tVar 3) tNil))) tNil)))) (gTup K 2 (gCons (gName 4) (gCons (gName 5) gNil)))
    (tSeq (tAsg (tCall (sp_lone_row T) [] E0 (tCons (tVar 0) (tCons (tVar 4) (tCons (tVar 5) tNil)))) (gName 6))
    (tIfS (tTest (tOp kNotN (tVar 6) (tC .non))) (tRet (tOp rCat (tVar 6) (tLst (tCons (tTup (tCons (tVar 1) (tCons (tVar 4) tNil))) tNil))))
    tNext)))
    (tSeq (tIfS (tNot (tB (tCall (sp_can_meet T) [] E0 (tCons (tVar 0) tNil)))) (tRaiseE T.Still.C "rope" E (tCons (tVar 1) tNil))
    tNext)
    (tSeq (tAsg (tCall (sp_pair_row T) [] E0 (tCons (tVar 0) (tCons (tLst (tCons (tVar 2) (tCons (tVar 3) tNil))) tNil))) (gTup K 2 (gCons (gName 7) (gCons (gName 5) gNil))))
    (tSeq (tIfS (tTest (tOp rEq (tVar 5) (tVar 2))) (tRet (tOp rCat (tVar 7) (tLst (tCons (tTup (tCons (tVar 1) (tCons (tC (.str "red")) tNil))) tNil))))
    tNext)
    (tRet (tOp rCat (tVar 7) (tLst (tCons (tTup (tCons (tVar 1) (tCons (tC (.str "blue")) tNil))) tNil)))))))))))
theorem d_check_stationX (T : Txt K mg)
    {cdv : Value} {A : Around} {outer : List Env} {s : Shared} {H : Hp} {E : XK} (hr : Room 1 (A.deeper (envOfC "check_station" (defScope s_check_station) s.heap.objs.size T.check_station.f cdv))) :
    PSs (cxOf (L2.CX PW w) PW w K mg base N_check_station "check_station" (defScope s_check_station) T.check_station.f cdv A outer s H E) (defBody s_check_station) (t_check_stationX T E) := by
  have sc := sc_check_station
  exact (pss_one (ps_if (pt_not (pt_chain op_le op_lt pe_int (pv 1) (pe_fld (pv 0) rfl))) (pss_one (ps_raise rfl (takes_of rfl rfl rfl rfl) (pmk_err T.NoStation.t er_NoStation top_super T.b_super hr (pa_cons (pv 1) pa_nil) (by rfl))))
    pss_nil))
theorem d_check_ropeX (T : Txt K mg)
    {cdv : Value} {A : Around} {outer : List Env} {s : Shared} {H : Hp} {E : XK} (hr : Room 1 (A.deeper (envOfC "check_rope" (defScope s_check_rope) s.heap.objs.size T.check_rope.f cdv))) :
    PSs (cxOf (L2.CX PW w) PW w K mg base N_check_rope "check_rope" (defScope s_check_rope) T.check_rope.f cdv A outer s H E) (defBody s_check_rope) (t_check_ropeX T E) := by
  have sc := sc_check_rope
  exact (pss_one (ps_if (pt_not (pt_chain op_le op_lt pe_int (pv 1) (pe_callB call_len_seq (by rfl) T.b_len PySem.boot_len (pa_cons (pe_fld (pv 0) rfl) pa_nil)))) (pss_one (ps_raise rfl (takes_of rfl rfl rfl rfl) (pmk_err T.NoRope.t er_NoRope top_super T.b_super hr (pa_cons (pv 1) pa_nil) (by rfl))))
    pss_nil))
theorem d_visit_row (T : Txt K mg)
    (G_lone_row : FnOk PW w K mg base CX0 4 T.lone_row.f T.lone_row.fd P_lone_row (sp_lone_row T))
    (G_pair_row : FnOk PW w K mg base CX0 7 T.pair_row.f T.pair_row.fd P_pair_row (sp_pair_row T))
    (G_can_meet : FnOk PW w K mg base CX0 5 T.can_meet.f T.can_meet.fd P_can_meet (sp_can_meet T))
    (G_check_stationX : FnOk PW w K mg base (L2.CX PW w) 2 T.check_station.f T.check_station.fd P_check_station (sp_check_stationX T))
    {cdv : Value} {A : Around} {outer : List Env} {s : Shared} {H : Hp} {E : XK} (hr : Room 29 (A.deeper (envOfC "visit_row" (defScope s_visit_row) s.heap.objs.size T.visit_row.f cdv))) :
    PSs (cxOf (L2.CX PW w) PW w K mg base N_visit_row "visit_row" (defScope s_visit_row) T.visit_row.f cdv A outer s H E) (defBody s_visit_row) (t_visit_row T E) := by
  have sc := sc_visit_row
  exact (pss_cons (ps_expr (pe_call G_check_stationX (hr.mono (by decide)) (by rfl) T.check_station.g T.check_station.F.kp T.check_station.b .nil (passes_call (takes_of rfl rfl rfl rfl) (fun _ _ _ _ h => h)) (pa_cons (pe_fld (pv 0) rfl) (pa_cons (pv 1) pa_nil))))
    (pss_cons (ps_if (pt_cmpR op_gt (pe_op op_add (pe_ix ix_seq (pe_fld (pv 0) rfl) (pv 1) (fun _ _ => rfl)) (pe_ix ix_seq (pe_fld (pv 0) rfl) (pv 1) (fun _ _ => rfl))) pe_int (nomark _)) (pss_one (ps_ret (pe_lst pa_nil)))
    pss_nil)
    (pss_cons (ps_for (passes_of rfl) rfl (pi_seq (pe_tup (pa_cons pe_str (pa_cons pe_str pa_nil)))) (pg_name (i := 2) sc.nd rfl (Or.inl rfl))
    (pss_cons (ps_set (i := 3) sc.nd rfl (Or.inl rfl) (pe_call G_lone_row (hr.mono (by decide)) (by rfl) T.lone_row.g T.lone_row.F.kp T.lone_row.b .nil pass0 (pa_cons (pv 0) (pa_cons (pv 2) (pa_cons (pv 1) pa_nil)))))
    (pss_one (ps_if (pt_cmpR op_notN (pv 3) pe_non (nomark _)) (pss_one (ps_ret (pv 3)))
    pss_nil))))
    (pss_cons (ps_if (pt_not (pt_val (pe_call G_can_meet (hr.mono (by decide)) (by rfl) T.can_meet.g T.can_meet.F.kp T.can_meet.b .nil pass0 (pa_cons (pv 0) pa_nil)))) (pss_one (ps_raise rfl (takes_of rfl rfl rfl rfl) (pmk_err T.Dead.t er_Dead top_super T.b_super hr (pa_cons (pv 1) pa_nil) (by rfl))))
    pss_nil)
    (pss_cons (ps_asg (pe_call G_pair_row (hr.mono (by decide)) (by rfl) T.pair_row.g T.pair_row.F.kp T.pair_row.b .nil pass0 (pa_cons (pv 0) (pa_cons (pe_lst (pa_cons (pv 1) pa_nil)) pa_nil))) (pg_tup rfl (pgs_cons (pg_name (i := 4) sc.nd rfl (Or.inl rfl)) (pgs_cons (pg_name (i := 5) sc.nd rfl (Or.inl rfl)) pgs_nil))))
    (pss_one (ps_ret (pv 4))))))))
theorem d_run_rope (T : Txt K mg)
    (G_Standing_blue_car : FnOk PW w K mg base CX0 2 T.Standing.blue_car.f T.Standing.blue_car.fd P_Standing_blue_car (sp_Standing_blue_car T))
    (G_Standing_red_car : FnOk PW w K mg base CX0 2 T.Standing.red_car.f T.Standing.red_car.fd P_Standing_red_car (sp_Standing_red_car T))
    (G_lone_row : FnOk PW w K mg base CX0 4 T.lone_row.f T.lone_row.fd P_lone_row (sp_lone_row T))
    (G_pair_row : FnOk PW w K mg base CX0 7 T.pair_row.f T.pair_row.fd P_pair_row (sp_pair_row T))
    (G_can_meet : FnOk PW w K mg base CX0 5 T.can_meet.f T.can_meet.fd P_can_meet (sp_can_meet T))
    (G_check_ropeX : FnOk PW w K mg base (L2.CX PW w) 2 T.check_rope.f T.check_rope.fd P_check_rope (sp_check_ropeX T))
    {cdv : Value} {A : Around} {outer : List Env} {s : Shared} {H : Hp} {E : XK} (hr : Room 29 (A.deeper (envOfC "run_rope" (defScope s_run_rope) s.heap.objs.size T.run_rope.f cdv))) :
    PSs (cxOf (L2.CX PW w) PW w K mg base N_run_rope "run_rope" (defScope s_run_rope) T.run_rope.f cdv A outer s H E) (defBody s_run_rope) (t_run_rope T E) := by
  have sc := sc_run_rope
  exact (pss_cons (ps_expr (pe_call G_check_ropeX (hr.mono (by decide)) (by rfl) T.check_rope.g T.check_rope.F.kp T.check_rope.b .nil (passes_call (takes_of rfl rfl rfl rfl) (fun _ _ _ _ h => h)) (pa_cons (pe_fld (pv 0) rfl) (pa_cons (pv 1) pa_nil))))
    (pss_cons (ps_set (i := 2) sc.nd rfl (Or.inl rfl) (pe_meth (pv 0) T.Standing.cl T.Standing.red_car.m G_Standing_red_car (hr.mono (by decide)) T.Standing.red_car.b .nil pass0 (pa_cons (pv 1) pa_nil)))
    (pss_cons (ps_set (i := 3) sc.nd rfl (Or.inl rfl) (pe_meth (pv 0) T.Standing.cl T.Standing.blue_car.m G_Standing_blue_car (hr.mono (by decide)) T.Standing.blue_car.b .nil pass0 (pa_cons (pv 1) pa_nil)))
    (pss_cons (ps_for (passes_of rfl) rfl (pi_seq (pe_tup (pa_cons (pe_tup (pa_cons pe_str (pa_cons (pv 2) pa_nil))) (pa_cons (pe_tup (pa_cons pe_str (pa_cons (pv 3) pa_nil))) pa_nil)))) (pg_tup rfl (pgs_cons (pg_name (i := 4) sc.nd rfl (Or.inl rfl)) (pgs_cons (pg_name (i := 5) sc.nd rfl (Or.inl rfl)) pgs_nil)))
    (pss_cons (ps_set (i := 6) sc.nd rfl (Or.inl rfl) (pe_call G_lone_row (hr.mono (by decide)) (by rfl) T.lone_row.g T.lone_row.F.kp T.lone_row.b .nil pass0 (pa_cons (pv 0) (pa_cons (pv 4) (pa_cons (pv 5) pa_nil)))))
    (pss_one (ps_if (pt_cmpR op_notN (pv 6) pe_non (nomark _)) (pss_one (ps_ret (pe_op op_cat (pv 6) (pe_lst (pa_cons (pe_tup (pa_cons (pv 1) (pa_cons (pv 4) pa_nil))) pa_nil)))))
    pss_nil))))
    (pss_cons (ps_if (pt_not (pt_val (pe_call G_can_meet (hr.mono (by decide)) (by rfl) T.can_meet.g T.can_meet.F.kp T.can_meet.b .nil pass0 (pa_cons (pv 0) pa_nil)))) (pss_one (ps_raise rfl (takes_of rfl rfl rfl rfl) (pmk_err T.Still.t er_Still top_super T.b_super hr (pa_cons (pv 1) pa_nil) (by rfl))))
    pss_nil)
    (pss_cons (ps_asg (pe_call G_pair_row (hr.mono (by decide)) (by rfl) T.pair_row.g T.pair_row.F.kp T.pair_row.b .nil pass0 (pa_cons (pv 0) (pa_cons (pe_lst (pa_cons (pv 2) (pa_cons (pv 3) pa_nil))) pa_nil))) (pg_tup rfl (pgs_cons (pg_name (i := 7) sc.nd rfl (Or.inl rfl)) (pgs_cons (pg_name (i := 5) sc.nd rfl (Or.inl rfl)) pgs_nil))))
    (pss_cons (ps_if (pt_cmpR op_eq (pv 5) (pv 2) (nomark _)) (pss_one (ps_ret (pe_op op_cat (pv 7) (pe_lst (pa_cons (pe_tup (pa_cons (pv 1) (pa_cons pe_str pa_nil))) pa_nil)))))
    pss_nil)
    (pss_one (ps_ret (pe_op op_cat (pv 7) (pe_lst (pa_cons (pe_tup (pa_cons (pv 1) (pa_cons pe_str pa_nil))) pa_nil))))))))))))
end
end TR
namespace TR
open PySem L2 PyProof.Rows
open Evl (Ex EvT fresh_back)
/-- all but the addresses of S is kept -/
def ExS (S : List Addr) (H H' : Hp) : Prop := ∀ a o, a ∉ S → H a = some o → H' a = some o
def Bag (H : Hp) (b : Addr) : Prop := ∃ x y z : Int, H b = some (.lst [.int x, .int y, .int z])
/-- a net that is being drawn: two lists, of ropes and of turns -/
def Draw (H : Hp) (np r0 r1 : Addr) (rs : List (Nat × Nat)) (ts : List Nat) : Prop :=
  H np = some (.lst [.ref r0, .ref r1]) ∧ (∃ us, H r0 = some (.lst us) ∧ FzL H us (rs.map dPair)) ∧ H r1 = some (.lst (nats ts)) ∧ ts.length = rs.length ∧ ∀ t ∈ ts, t ≤ 1
/-- a world of the law's: a list of the number of stations, the list of the ropes, the state -/
def WorldAt (H : Hp) (a : Addr) (w : Wd) (s : Sd) : Prop := ∃ pr us ps, H a = some (.lst [vn w.n, .ref pr, ps]) ∧ H pr = some (.lst us) ∧ FzL H us (w.rs.map dPair) ∧ Fz H ps (dSt s) ∧ WOk w ∧ SOk w s
/-- the rides that are possible -/
def lrides (w : Wd) (s : Sd) : List Ride := (List.range w.rs.length).flatMap fun k => (if can w s (k, true) then [(k, true)] else []) ++ (if can w s (k, false) then [(k, false)] else [])
/-- a closed list of states reached -/
structure Found (w : Wd) (s : Sd) (fs : List Sd) : Prop where
  here : s ∈ fs
  way : ∀ t ∈ fs, ∃ rs, Ok w s rs ∧ rideAll w s rs = t
  next : ∀ t ∈ fs, ∀ k c, k < w.rs.length → can w t (k, c) = true → ride w t (k, c) ∈ fs
section
variable {K : PySem.W.Frag} {mg : Str → Option Value}
def sp_l_integer (_ : Txt K mg) : Sp := fun vs H Q _ => ∃ i : Int, vs = [.int i] ∧ RetD (.bl true) H Q
def sp_l_bag (_ : Txt K mg) : Sp := fun vs H Q _ => ∃ (p : Addr) (k : Nat) (zs : List Int), vs = [.ref p, vn k] ∧ SqL K H p (zs.map V.int) ∧ k ≤ 1 ∧ zs.length ≤ 100000 ∧ ∀ b H', H b = none → Ex H H' → Bag H' b → Q (.ref b) H'
def sp_l_take (_ : Txt K mg) : Sp := fun vs H Q _ => ∃ (b : Addr) (m : Nat), vs = [.ref b, vn m] ∧ Bag H b ∧ 0 < m ∧ m < 1073741824 ∧ ∀ (r : Nat) H', r < m → ExB b H H' → Bag H' b → Q (vn r) H'
def sp_l_order (_ : Txt K mg) : Sp := fun vs H Q _ => ∃ (b : Addr) (m : Nat), vs = [.ref b, vn m] ∧ Bag H b ∧ m ≤ 24 ∧ ∀ p l H', H p = none → ExB b H H' → Bag H' b → H' p = some (.lst (nats l)) → l.length = m → l.Nodup → (∀ x, x ∈ l ↔ x < m) → Q (.ref p) H'
def sp_l_add_rope (_ : Txt K mg) : Sp := fun vs H Q _ => ∃ (b np r0 r1 : Addr) (x y : Nat) (rs : List (Nat × Nat)) (ts : List Nat), vs = [.ref b, .ref np, vn x, vn y] ∧ Bag H b ∧ Draw H np r0 r1 rs ts ∧ rs.length ≤ 1000 ∧ b ≠ np ∧ b ≠ r0 ∧ b ≠ r1 ∧ np ≠ r0 ∧ np ≠ r1 ∧ r0 ≠ r1 ∧
  ∀ H' rs' ts' p, ExS [b, r0, r1] H H' → Bag H' b → Draw H' np r0 r1 rs' ts' → rs'.length = rs.length + 1 → (∀ q, q ∈ rs' ↔ q ∈ rs ∨ q = p) → (p = (x, y) ∨ p = (y, x)) → Q .non H'
def sp_l_net (_ : Txt K mg) : Sp := fun vs H Q _ => ∃ (b : Addr) (n m : Nat), vs = [.ref b, vn n, vn m] ∧ Bag H b ∧ 1 ≤ n ∧ n ≤ 24 ∧ m ≤ 17 ∧
  ∀ q po p0 p1 l rs ts us H', ExB b H H' → Bag H' b → b ≠ q → b ≠ po → b ≠ p0 → b ≠ p1 → H' q = some (.lst [.ref po, .ref p0, .ref p1]) → H' po = some (.lst (nats l)) → l.length = n → (∀ x ∈ l, x < n) → H' p0 = some (.lst us) → FzL H' us (rs.map dPair) → H' p1 = some (.lst (nats ts)) → ts.length = rs.length → (∀ t ∈ ts, t ≤ 1) → WOk ⟨n, rs⟩ → Q (.ref q) H'
def sp_l_guests (_ : Txt K mg) : Sp := fun vs H Q _ => ∃ (b po : Addr) (l : List Nat) (n m : Nat), vs = [.ref b, .ref po, vn m] ∧ Bag H b ∧ b ≠ po ∧ H po = some (.lst (nats l)) ∧ l.length = n ∧ (∀ x ∈ l, x < n) ∧ 1 ≤ n ∧ n ≤ 24 ∧ 1 ≤ m ∧ m ≤ 30 ∧
  ∀ q g0 g1 l0 l1 H', H q = none → ExB b H H' → Bag H' b → b ≠ q → b ≠ g0 → b ≠ g1 → H' q = some (.lst [.ref g0, .ref g1]) → H' g0 = some (.lst (nats l0)) → H' g1 = some (.lst (nats l1)) → l0.length = n → l1.length = n → l0.sum + l1.sum ≤ 30 → Q (.ref q) H'
def sp_l_cars (_ : Txt K mg) : Sp := fun vs H Q _ => ∃ (b p0 p1 q g0 g1 : Addr) (n : Nat) (rs : List (Nat × Nat)) (ts l0 l1 : List Nat) (us : List V), vs = [.ref b, .ref p0, .ref p1, .ref q] ∧ Bag H b ∧ b ≠ p0 ∧ b ≠ p1 ∧ b ≠ q ∧ b ≠ g0 ∧ b ≠ g1 ∧
  H p0 = some (.lst us) ∧ FzL H us (rs.map dPair) ∧ H p1 = some (.lst (nats ts)) ∧ ts.length = rs.length ∧ (∀ t ∈ ts, t ≤ 1) ∧ H q = some (.lst [.ref g0, .ref g1]) ∧ H g0 = some (.lst (nats l0)) ∧ H g1 = some (.lst (nats l1)) ∧ l0.length = n ∧ l1.length = n ∧ (∀ p ∈ rs, p.1 < n ∧ p.2 < n) ∧ rs.length ≤ 1000 ∧
  ∀ p cs H', H p = none → ExB b H H' → Bag H' b → H' p = some (.lst (nats cs)) → cs.length = rs.length → (∀ c ∈ cs, c ≤ 1) → Q (.ref p) H'
def sp_l_world (_ : Txt K mg) : Sp := fun vs H Q _ => ∃ (b : Addr), vs = [.ref b] ∧ Bag H b ∧ ∀ p w s H', ExB b H H' → WorldAt H' p w s → Q (.ref p) H'
def sp_l_standing (T : Txt K mg) : Sp := fun vs H Q _ => ∃ (p : Addr) (v : V) (w : Wd) (s : Sd), vs = [.ref p, v] ∧ WorldAt H p w s ∧ Fz H v (dSt s) ∧ ∀ a H', Ex H H' → Sta T H' a w s → Q (.ref a) H'
def sp_l_shows (T : Txt K mg) : Sp := fun vs H Q _ => ∃ (a : Addr) (v : V) (w : Wd) (s : Sd), vs = [.ref a, v] ∧ Sta T H a w s ∧ Fz H v (dSt s) ∧ RetD (.bl true) H Q
def sp_l_arrows (_ : Txt K mg) : Sp := fun vs H Q _ => ∃ (p : Addr) (v : V) (w : Wd) (s : Sd), vs = [.ref p, v] ∧ Lst H p (w.rs.map dPair) ∧ Fz H v (.tup (s.cars.map dn)) ∧ WOk w ∧ SOk w s ∧ RetN ((arrows w s).map dPair) H Q
def sp_l_rides (_ : Txt K mg) : Sp := fun vs H Q _ => ∃ (p : Addr) (v : V) (w : Wd) (s : Sd), vs = [.ref p, v] ∧ Lst H p (w.rs.map dPair) ∧ Fz H v (dSt s) ∧ WOk w ∧ SOk w s ∧ RetN ((lrides w s).map dRide) H Q
def sp_l_ride (_ : Txt K mg) : Sp := fun vs H Q _ => ∃ (p : Addr) (v u : V) (w : Wd) (s : Sd) (r : Ride), vs = [.ref p, v, u] ∧ Lst H p (w.rs.map dPair) ∧ Fz H v (dSt s) ∧ Fz H u (dRide r) ∧ WOk w ∧ SOk w s ∧ r.1 < w.rs.length ∧ can w s r = true ∧ RetD (dSt (ride w s r)) H Q
def sp_l_search (_ : Txt K mg) : Sp := fun vs H Q _ => ∃ (p : Addr) (v : V) (w : Wd) (s : Sd), vs = [.ref p, v, vn 300] ∧ WorldAt H p w s ∧ Fz H v (dSt s) ∧ RetD .non H Q ∧ ∀ fs, Found w s fs → fs.length ≤ 300 → (∀ t ∈ fs, SOk w t) → RetN (fs.map dSt) H Q
def sp_l_reach (_ : Txt K mg) : Sp := fun vs H Q _ => ∃ (p : Addr) (v : V) (n : Nat) (ps : List (Nat × Nat)) (l : List Nat), vs = [vn n, .ref p, v] ∧ Lst H p (ps.map dPair) ∧ Fz H v (.tup (l.map dn)) ∧ l.length = n ∧ n ≤ 24 ∧ (∀ q ∈ ps, q.1 < n ∧ q.2 < n) ∧ RetN ((reachL n ps fun x => 0 < l.getD x 0).map dn) H Q
def sp_l_reaches (_ : Txt K mg) : Sp := fun vs H Q _ => ∃ (p : Addr) (v : V) (w : Wd) (s : Sd), vs = [.ref p, v] ∧ WorldAt H p w s ∧ Fz H v (dSt s) ∧ ∀ q a b H', H q = none → H a = none → H b = none → Ex H H' → H' q = some (.lst [.ref a, .ref b]) → H' a = some (.lst (nats (redL w s))) → H' b = some (.lst (nats (bluL w s))) → Q (.ref q) H'
def sp_l_alive (_ : Txt K mg) : Sp := fun vs H Q _ => ∃ (p : Addr) (v f : V) (w : Wd) (s : Sd), vs = [.ref p, v, f] ∧ WorldAt H p w s ∧ Fz H v (dSt s) ∧ (f = .non ∨ ∃ pf fs, f = .ref pf ∧ Lst H pf (fs.map dSt) ∧ Found w s fs ∧ fs.length ≤ 300 ∧ ∀ t ∈ fs, SOk w t) ∧
  ∀ q a b H', H q = none → Ex H H' → H' q = some (.lst [.ref a, .ref b]) → H' a = some (.lst (((List.range w.n).map (aliveS w s)).map V.bl)) → H' b = some (.lst (((List.range w.rs.length).map (aliveR w s)).map V.bl)) → Q (.ref q) H'
def sp_l_is_list (_ : Txt K mg) : Sp := fun vs H Q _ => ∃ (p q : Addr) (l : List Nat), vs = [.ref p, .ref q] ∧ H p = some (.lst (nats l)) ∧ H q = some (.lst (nats l)) ∧ l.length ≤ 100000 ∧ RetD (.bl true) H Q
def sp_l_are_rides (_ : Txt K mg) : Sp := fun vs H Q _ => ∃ (p q : Addr) (w : Wd) (rs : List Ride), vs = [.ref p, .ref q] ∧ Lst H p (rs.map dRide) ∧ Lst H q (w.rs.map dPair) ∧ (∀ r ∈ rs, r.1 < w.rs.length) ∧ RetD (.bl true) H Q
def sp_l_end (_ : Txt K mg) : Sp := fun vs H Q _ => ∃ (p q : Addr) (v : V) (w : Wd) (s : Sd) (rs : List Ride), vs = [.ref p, v, .ref q] ∧ Lst H p (w.rs.map dPair) ∧ Fz H v (dSt s) ∧ Lst H q (rs.map dRide) ∧ WOk w ∧ SOk w s ∧ Ok w s rs ∧ RetD (dSt (rideAll w s rs)) H Q
def sp_l_visit (T : Txt K mg) : Sp := fun vs H Q _ => ∃ (p a : Addr) (x : Nat) (w : Wd) (s : Sd), vs = [.ref p, .ref a, vn x, .bl (aliveS w s x)] ∧ WorldAt H p w s ∧ Sta T H a w s ∧ x < w.n ∧ RetD (.bl true) H Q
def sp_l_run (T : Txt K mg) : Sp := fun vs H Q _ => ∃ (p a : Addr) (x : Nat) (w : Wd) (s : Sd), vs = [.ref p, .ref a, vn x, .bl (aliveR w s x)] ∧ WorldAt H p w s ∧ Sta T H a w s ∧ x < w.rs.length ∧ RetD (.bl true) H Q
def sp_l_no_station (T : Txt K mg) : Sp := fun vs H Q _ => ∃ (a : Addr) (i : Int) (w : Wd) (s : Sd), vs = [.ref a, .int i] ∧ Sta T H a w s ∧ i.natAbs.log2 < 1920 ∧ ¬ (0 ≤ i ∧ i < w.n) ∧ RetD (.bl true) H Q
def sp_l_no_rope (T : Txt K mg) : Sp := fun vs H Q _ => ∃ (a : Addr) (i : Int) (w : Wd) (s : Sd), vs = [.ref a, .int i] ∧ Sta T H a w s ∧ i.natAbs.log2 < 1920 ∧ ¬ (0 ≤ i ∧ i < w.rs.length) ∧ RetD (.bl true) H Q
def sp_law (_ : Txt K mg) : Sp := fun vs H Q _ => ∃ (p : Addr) (zs : List Int), vs = [.ref p] ∧ SqL K H p (zs.map V.int) ∧ zs.length ≤ 100000 ∧ ∀ H', Q (.bl true) H'
end
end TR
namespace TR
open PySem L2 PyProof.Rows

section
variable {K : PySem.W.Frag} {mg : Str → Option Value}
def t_l_integer (T : Txt K mg) : TS := (tRet (tAndV (tCB (rIsi K) (tCons (tVar 0) (tCons (tC (.ty "int")) tNil))) (tNotV (tCB (rIsi K) (tCons (tVar 0) (tCons (tC (.ty "bool")) tNil))))))
def t_l_bag (T : Txt K mg) : TS := (tSeq (tAsg (tOp kAdd (tC (.int 7)) (tOp kMul (tC (.int 101)) (tVar 1))) (gName 2))
    (tSeq (tFor (iSeq K (tSl (rSlL K) (tVar 0) tNoPart (tPart (tC (.int 63))))) (gName 3)
    (tAsg (tOp kMod (tCB rInt1 (tCons (tOp kAdd (tOp kMul (tVar 2) (tC (.int 31))) (tVar 3)) tNil)) (tC (.int 2147483629))) (gName 2)))
    (tSeq (tIfS (tAnd (tTest (tOp kLt (tVar 1) (tCB (Evl.rLenS K) (tCons (tVar 0) tNil)))) (tTest (tOp kGe (tOp (rIx K) (tVar 0) (tVar 1)) (tOp kPow (tC (.int 10)) (tC (.int 18)))))) (tRet (tLst (tCons (tOp (rIx K) (tVar 0) (tVar 1)) (tCons (tVar 2) (tCons (tC (.int 0)) tNil)))))
    tNext)
    (tRet (tLst (tCons (tC (.int 1)) (tCons (tVar 2) (tCons (tC (.int 0)) tNil))))))))
def t_l_take (T : Txt K mg) : TS := (tSeq (tIfS (tTest (tOp kGt (tOp (rIx K) (tVar 0) (tC (.int 0))) (tC (.int 1)))) (tSeq (tAsg (tOp kMod (tCB rInt1 (tCons (tOp (rIx K) (tVar 0) (tC (.int 0))) tNil)) (tVar 1)) (gName 2))
    (tSeq (tAsg (tOp kDiv (tOp (rIx K) (tVar 0) (tC (.int 0))) (tVar 1)) (gSub (tVar 0) (tC (.int 0)) rSetL))
    (tRet (tVar 2))))
    tNext)
    (tSeq (tAsg (tOp kAdd (tOp (rIx K) (tVar 0) (tC (.int 2))) (tC (.int 1))) (gSub (tVar 0) (tC (.int 2)) rSetL))
    (tSeq (tAsg (tOp kMod (tCB rInt1 (tCons (tOp kAdd (tOp kMul (tOp (rIx K) (tVar 0) (tC (.int 1))) (tC (.int 48271))) (tOp kMul (tOp (rIx K) (tVar 0) (tC (.int 2))) (tC (.int 69621)))) tNil)) (tC (.int 2147483647))) (gName 3))
    (tSeq (tAsg (tOp kMod (tCB rInt1 (tCons (tOp kMul (tOp kAdd (tOp kDiv (tVar 3) (tC (.int 64))) (tOp (rIx K) (tVar 0) (tC (.int 2)))) (tOp kAdd (tOp kMod (tVar 3) (tC (.int 65521))) (tC (.int 16807)))) tNil)) (tC (.int 1000000007))) (gName 4))
    (tRet (tOp kMod (tOp kDiv (tVar 4) (tC (.int 16))) (tVar 1)))))))
def t_l_order (T : Txt K mg) : TS := (tSeq (tAsg (tLst tNil) (gName 2))
    (tSeq (tFor (iRng1 (tCons (tVar 1) tNil)) (gName 3)
    (tSeq (tAsg (tCall (sp_l_take T) [] E0 (tCons (tVar 0) (tCons (tOp kAdd (tVar 3) (tC (.int 1))) tNil))) (gName 4))
    (tDrop (tBM K "list" rInsert (tVar 2) (tCons (tVar 4) (tCons (tVar 3) tNil))))))
    (tRet (tVar 2))))
def t_l_add_rope (T : Txt K mg) : TS := (tSeq (tAsg (tCall (sp_l_take T) [] E0 (tCons (tVar 0) (tCons (tOp kAdd (tCB (Evl.rLenS K) (tCons (tOp (rIx K) (tVar 1) (tC (.int 0))) tNil)) (tC (.int 1))) tNil))) (gName 4))
    (tSeq (tAsg (tCall (sp_l_take T) [] E0 (tCons (tVar 0) (tCons (tC (.int 2)) tNil))) (gName 5))
    (tSeq (tDrop (tBM K "list" rInsert (tOp (rIx K) (tVar 1) (tC (.int 0))) (tCons (tVar 4) (tCons (tOp (rIx K) (tLst (tCons (tTup (tCons (tVar 2) (tCons (tVar 3) tNil))) (tCons (tTup (tCons (tVar 3) (tCons (tVar 2) tNil))) tNil))) (tVar 5)) tNil))))
    (tDrop (tBM K "list" rInsert (tOp (rIx K) (tVar 1) (tC (.int 1))) (tCons (tVar 4) (tCons (tVar 5) tNil)))))))
def t_l_net (T : Txt K mg) : TS := (tSeq (tAsg (tCall (sp_l_order T) [] E0 (tCons (tVar 0) (tCons (tVar 1) tNil))) (gName 3))
    (tSeq (tAsg (tCall (sp_l_take T) [] E0 (tCons (tVar 0) (tCons (tC (.int 5)) tNil))) (gName 4))
    (tSeq (tAsg (tOp (rIx K) (tLst (tCons (tC (.int 1)) (tCons (tVar 1) (tCons (tC (.int 1)) (tCons (tC (.int 1)) (tCons (tVar 1) tNil)))))) (tVar 4)) (gName 5))
    (tSeq (tIfS (tAnd (tTest (tOp kGt (tVar 1) (tC (.int 1)))) (tTest (tOp rEq (tVar 4) (tC (.int 3))))) (tAsg (tOp kAdd (tC (.int 2)) (tCall (sp_l_take T) [] E0 (tCons (tVar 0) (tCons (tOp kSub (tVar 1) (tC (.int 1))) tNil)))) (gName 5))
    tNext)
    (tSeq (tAsg (tLst (tCons (tLst tNil) (tCons (tLst tNil) tNil))) (gName 6))
    (tSeq (tFor (iRng2 (tCons (tC (.int 1)) (tCons (tVar 1) tNil))) (gName 7)
    (tSeq (tAsg (tOp kSub (tVar 7) (tC (.int 1))) (gName 8))
    (tSeq (tIfS (tTest (tOp kGe (tVar 7) (tVar 5))) (tAsg (tCall (sp_l_take T) [] E0 (tCons (tVar 0) (tCons (tVar 7) tNil))) (gName 8))
    tNext)
    (tDrop (tCall (sp_l_add_rope T) [] E0 (tCons (tVar 0) (tCons (tVar 6) (tCons (tOp (rIx K) (tVar 3) (tVar 8)) (tCons (tOp (rIx K) (tVar 3) (tVar 7)) tNil)))))))))
    (tSeq (tIfS (tAnd (tTest (tOp kGt (tVar 1) (tC (.int 1)))) (tOr (tTest (tOp rEq (tVar 4) (tC (.int 1)))) (tTest (tOp rEq (tVar 4) (tC (.int 3)))))) (tDrop (tCall (sp_l_add_rope T) [] E0 (tCons (tVar 0) (tCons (tVar 6) (tCons (tOp (rIx K) (tVar 3) (tOp kSub (tVar 5) (tC (.int 1)))) (tCons (tOp (rIx K) (tVar 3) (tC (.int 0))) tNil))))))
    tNext)
    (tSeq (tIfS (tAnd (tTest (tOp kGt (tVar 1) (tC (.int 1)))) (tTest (tOp rEq (tVar 4) (tC (.int 2))))) (tFor (iRng1 (tCons (tCall (sp_l_take T) [] E0 (tCons (tVar 0) (tCons (tOp kAdd (tVar 2) (tC (.int 1))) tNil))) tNil)) (gName 7)
    (tSeq (tAsg (tCall (sp_l_take T) [] E0 (tCons (tVar 0) (tCons (tVar 1) tNil))) (gName 9))
    (tSeq (tAsg (tOp kAdd (tC (.int 1)) (tCall (sp_l_take T) [] E0 (tCons (tVar 0) (tCons (tOp kSub (tVar 1) (tC (.int 1))) tNil)))) (gName 10))
    (tDrop (tCall (sp_l_add_rope T) [] E0 (tCons (tVar 0) (tCons (tVar 6) (tCons (tVar 9) (tCons (tOp kMod (tCB rInt1 (tCons (tOp kAdd (tVar 9) (tVar 10)) tNil)) (tVar 1)) tNil)))))))))
    tNext)
    (tRet (tLst (tCons (tVar 3) (tCons (tOp (rIx K) (tVar 6) (tC (.int 0))) (tCons (tOp (rIx K) (tVar 6) (tC (.int 1))) tNil)))))))))))))
def t_l_guests (T : Txt K mg) : TS := (tSeq (tAsg (tLst (tCons (tOp rRep (tLst (tCons (tC (.int 0)) tNil)) (tCB (Evl.rLenS K) (tCons (tVar 1) tNil))) (tCons (tOp rRep (tLst (tCons (tC (.int 0)) tNil)) (tCB (Evl.rLenS K) (tCons (tVar 1) tNil))) tNil))) (gName 3))
    (tSeq (tAsg (tCall (sp_l_take T) [] E0 (tCons (tVar 0) (tCons (tC (.int 8)) tNil))) (gName 4))
    (tSeq (tAsg (tOp kAdd (tC (.int 1)) (tCall (sp_l_take T) [] E0 (tCons (tVar 0) (tCons (tVar 2) tNil)))) (gName 5))
    (tSeq (tIfS (tTest (tOp rEq (tVar 4) (tC (.int 0)))) (tAsg (tC (.int 0)) (gName 5))
    tNext)
    (tSeq (tFor (iRng1 (tCons (tVar 5) tNil)) (gName 6)
    (tSeq (tAsg (tCall (sp_l_take T) [] E0 (tCons (tVar 0) (tCons (tCB (Evl.rLenS K) (tCons (tVar 1) tNil)) tNil))) (gName 7))
    (tSeq (tAsg (tCall (sp_l_take T) [] E0 (tCons (tVar 0) (tCons (tC (.int 2)) tNil))) (gName 8))
    (tSeq (tIfS (tOr (tTest (tOp rEq (tVar 4) (tC (.int 1)))) (tTest (tOp rEq (tVar 4) (tC (.int 2))))) (tAsg (tOp kSub (tVar 4) (tC (.int 1))) (gName 8))
    tNext)
    (tSeq (tIfS (tOr (tTest (tOp rEq (tVar 4) (tC (.int 3)))) (tTest (tOp rEq (tVar 4) (tC (.int 4))))) (tAsg (tOp (rIx K) (tVar 1) (tOp (rIx K) (tLst (tCons (tC (.int 0)) (tCons (tOp kSub (tCB (Evl.rLenS K) (tCons (tVar 1) tNil)) (tC (.int 1))) tNil))) (tOp kMod (tCB rInt1 (tCons (tOp kAdd (tVar 4) (tVar 8)) tNil)) (tC (.int 2))))) (gName 7))
    tNext)
    (tSeq (tAsg (tOp (rIx K) (tVar 3) (tVar 8)) (gName 9))
    (tAsg (tOp kAdd (tOp (rIx K) (tVar 9) (tVar 7)) (tC (.int 1))) (gSub (tVar 9) (tVar 7) rSetL))))))))
    (tRet (tVar 3)))))))
def t_l_cars (T : Txt K mg) : TS := (tSeq (tAsg (tCall (sp_l_take T) [] E0 (tCons (tVar 0) (tCons (tC (.int 6)) tNil))) (gName 4))
    (tSeq (tAsg (tLst tNil) (gName 5))
    (tSeq (tFor (iRng1 (tCons (tCB (Evl.rLenS K) (tCons (tVar 1) tNil)) tNil)) (gName 6)
    (tSeq (tAsg (tOp (rIx K) (tVar 1) (tVar 6)) (gName 7))
    (tSeq (tAsg (tCall (sp_l_take T) [] E0 (tCons (tVar 0) (tCons (tC (.int 2)) tNil))) (gName 8))
    (tSeq (tIfS (tTest (tOp kLt (tVar 4) (tC (.int 2)))) (tAsg (tOp (rIx K) (tLst (tCons (tOp (rIx K) (tVar 2) (tVar 6)) (tCons (tOp kSub (tC (.int 1)) (tOp (rIx K) (tVar 2) (tVar 6))) tNil))) (tVar 4)) (gName 8))
    tNext)
    (tSeq (tIfS (tAnd (tTest (tOp rEq (tVar 4) (tC (.int 2)))) (tTest (tOp rNe (tOp kGt (tOp (rIx K) (tOp (rIx K) (tVar 3) (tC (.int 1))) (tOp (rIx K) (tVar 7) (tC (.int 0)))) (tC (.int 0))) (tOp kGt (tOp (rIx K) (tOp (rIx K) (tVar 3) (tC (.int 1))) (tOp (rIx K) (tVar 7) (tC (.int 1)))) (tC (.int 0)))))) (tAsg (tCB rInt1 (tCons (tOp kGt (tOp (rIx K) (tOp (rIx K) (tVar 3) (tC (.int 1))) (tOp (rIx K) (tVar 7) (tC (.int 1)))) (tC (.int 0))) tNil)) (gName 8))
    tNext)
    (tSeq (tIfS (tAnd (tTest (tOp rEq (tVar 4) (tC (.int 2)))) (tTest (tOp rNe (tOp kGt (tOp (rIx K) (tOp (rIx K) (tVar 3) (tC (.int 0))) (tOp (rIx K) (tVar 7) (tC (.int 0)))) (tC (.int 0))) (tOp kGt (tOp (rIx K) (tOp (rIx K) (tVar 3) (tC (.int 0))) (tOp (rIx K) (tVar 7) (tC (.int 1)))) (tC (.int 0)))))) (tAsg (tCB rInt1 (tCons (tOp kGt (tOp (rIx K) (tOp (rIx K) (tVar 3) (tC (.int 0))) (tOp (rIx K) (tVar 7) (tC (.int 0)))) (tC (.int 0))) tNil)) (gName 8))
    tNext)
    (tDrop (tBM K "list" rAppend (tVar 5) (tCons (tVar 8) tNil)))))))))
    (tRet (tVar 5)))))
def t_l_world (T : Txt K mg) : TS := (tSeq (tAsg (tOp (rIx K) (tLst (tCons (tC (.int 1)) (tCons (tC (.int 2)) (tCons (tC (.int 3)) (tCons (tC (.int 4)) (tCons (tC (.int 4)) (tCons (tC (.int 5)) (tCons (tC (.int 5)) (tCons (tC (.int 6)) tNil))))))))) (tCall (sp_l_take T) [] E0 (tCons (tVar 0) (tCons (tC (.int 8)) tNil)))) (gName 1))
    (tSeq (tAsg (tLst (tCons (tC (.int 2)) (tCons (tC (.int 6)) tNil))) (gName 2))
    (tSeq (tIfS (tTest (tOp rEq (tCall (sp_l_take T) [] E0 (tCons (tVar 0) (tCons (tC (.int 8)) tNil))) (tC (.int 0)))) (tSeq (tAsg (tOp kAdd (tC (.int 1)) (tCall (sp_l_take T) [] E0 (tCons (tVar 0) (tCons (tC (.int 24)) tNil)))) (gName 1))
    (tAsg (tLst (tCons (tC (.int 17)) (tCons (tC (.int 30)) tNil))) (gName 2)))
    tNext)
    (tSeq (tAsg (tCall (sp_l_net T) [] E0 (tCons (tVar 0) (tCons (tVar 1) (tCons (tOp (rIx K) (tVar 2) (tC (.int 0))) tNil)))) (gName 3))
    (tSeq (tAsg (tCall (sp_l_guests T) [] E0 (tCons (tVar 0) (tCons (tOp (rIx K) (tVar 3) (tC (.int 0))) (tCons (tOp (rIx K) (tVar 2) (tC (.int 1))) tNil)))) (gName 4))
    (tSeq (tAsg (tCall (sp_l_cars T) [] E0 (tCons (tVar 0) (tCons (tOp (rIx K) (tVar 3) (tC (.int 1))) (tCons (tOp (rIx K) (tVar 3) (tC (.int 2))) (tCons (tVar 4) tNil))))) (gName 5))
    (tRet (tLst (tCons (tVar 1) (tCons (tOp (rIx K) (tVar 3) (tC (.int 1))) (tCons (tTup (tCons (tCB (rTupOf K) (tCons (tOp (rIx K) (tVar 4) (tC (.int 0))) tNil)) (tCons (tCB (rTupOf K) (tCons (tOp (rIx K) (tVar 4) (tC (.int 1))) tNil)) (tCons (tCB (rTupOf K) (tCons (tVar 5) tNil)) tNil)))) tNil)))))))))))
def t_l_standing (T : Txt K mg) : TS := (tSeq (tAsg (tMake T.Net.C (sp_Net_init T) [] E0 (tCons (tOp (rIx K) (tVar 0) (tC (.int 0))) (tCons (tCB (Evl.rListS K) (tCons (tOp (rIx K) (tVar 0) (tC (.int 1))) tNil)) tNil))) (gName 2))
    (tRet (tMake T.Standing.C (sp_Standing_init T) [] E0 (tCons (tVar 2) (tCons (tCB (Evl.rListS K) (tCons (tOp (rIx K) (tVar 1) (tC (.int 0))) tNil)) (tCons (tCB (Evl.rListS K) (tCons (tOp (rIx K) (tVar 1) (tC (.int 1))) tNil)) (tCons (tCB (Evl.rListS K) (tCons (tOp (rIx K) (tVar 1) (tC (.int 2))) tNil)) tNil)))))))
def t_l_shows (T : Txt K mg) : TS := (tSeq (tIfS (tNot (tB (tCB (rIsi K) (tCons (tVar 0) (tCons (tC (.ref T.Standing.C)) tNil))))) (tRet (tC (.bl false)))
    tNext)
    (tSeq (tAsg (tLst (tCons (tFld K (tVar 0) "reds") (tCons (tFld K (tVar 0) "blues") (tCons (tFld K (tVar 0) "cars") tNil)))) (gName 2))
    (tSeq (tFor (iRng1 (tCons (tC (.int 3)) tNil)) (gName 3)
    (tSeq (tIfS (tOr (tNot (tB (tCB (rIsi K) (tCons (tOp (rIx K) (tVar 2) (tVar 3)) (tCons (tC (.ty "tuple")) tNil))))) (tTest (tOp rNe (tCB (Evl.rLenS K) (tCons (tOp (rIx K) (tVar 2) (tVar 3)) tNil)) (tCB (Evl.rLenS K) (tCons (tOp (rIx K) (tVar 1) (tVar 3)) tNil))))) (tRet (tC (.bl false)))
    tNext)
    (tFor (iRng1 (tCons (tCB (Evl.rLenS K) (tCons (tOp (rIx K) (tVar 1) (tVar 3)) tNil)) tNil)) (gName 4)
    (tIfS (tOr (tNot (tB (tCall (sp_l_integer T) [] E0 (tCons (tOp (rIx K) (tOp (rIx K) (tVar 2) (tVar 3)) (tVar 4)) tNil)))) (tTest (tOp rNe (tOp (rIx K) (tOp (rIx K) (tVar 2) (tVar 3)) (tVar 4)) (tOp (rIx K) (tOp (rIx K) (tVar 1) (tVar 3)) (tVar 4))))) (tRet (tC (.bl false)))
    tNext))))
    (tRet (tC (.bl true))))))
def t_l_arrows (T : Txt K mg) : TS := (tRet (tLc (iRng1 (tCons (tCB (Evl.rLenS K) (tCons (tVar 0) tNil)) tNil)) (gName 2) tYes (tTup (tCons (tOp (rIx K) (tOp (rIx K) (tVar 0) (tVar 2)) (tOp (rIx K) (tVar 1) (tVar 2))) (tCons (tOp (rIx K) (tOp (rIx K) (tVar 0) (tVar 2)) (tOp kSub (tC (.int 1)) (tOp (rIx K) (tVar 1) (tVar 2)))) tNil))) [2]))
def t_l_rides (T : Txt K mg) : TS := (tSeq (tAsg (tCall (sp_l_arrows T) [] E0 (tCons (tVar 0) (tCons (tOp (rIx K) (tVar 1) (tC (.int 2))) tNil))) (gName 2))
    (tSeq (tAsg (tLst tNil) (gName 3))
    (tSeq (tFor (iRng1 (tCons (tCB (Evl.rLenS K) (tCons (tVar 0) tNil)) tNil)) (gName 4)
    (tSeq (tIfS (tTest (tOp kGt (tOp (rIx K) (tOp (rIx K) (tVar 1) (tC (.int 0))) (tOp (rIx K) (tOp (rIx K) (tVar 2) (tVar 4)) (tC (.int 0)))) (tC (.int 0)))) (tDrop (tBM K "list" rAppend (tVar 3) (tCons (tTup (tCons (tVar 4) (tCons (tC (.str "red")) tNil))) tNil)))
    tNext)
    (tIfS (tTest (tOp kGt (tOp (rIx K) (tOp (rIx K) (tVar 1) (tC (.int 1))) (tOp (rIx K) (tOp (rIx K) (tVar 2) (tVar 4)) (tC (.int 1)))) (tC (.int 0)))) (tDrop (tBM K "list" rAppend (tVar 3) (tCons (tTup (tCons (tVar 4) (tCons (tC (.str "blue")) tNil))) tNil)))
    tNext)))
    (tRet (tVar 3)))))
def t_l_ride (T : Txt K mg) : TS := (tSeq (tAsg (tOp (rIx K) (tVar 0) (tOp (rIx K) (tVar 2) (tC (.int 0)))) (gName 3))
    (tSeq (tAsg (tOp (rIx K) (tOp (rIx K) (tVar 1) (tC (.int 2))) (tOp (rIx K) (tVar 2) (tC (.int 0)))) (gName 4))
    (tSeq (tIfS (tTest (tOp rEq (tOp (rIx K) (tVar 2) (tC (.int 1))) (tC (.str "blue")))) (tAsg (tOp kSub (tC (.int 1)) (tVar 4)) (gName 4))
    tNext)
    (tSeq (tAsg (tLst (tCons (tCB (Evl.rListS K) (tCons (tOp (rIx K) (tVar 1) (tC (.int 0))) tNil)) (tCons (tCB (Evl.rListS K) (tCons (tOp (rIx K) (tVar 1) (tC (.int 1))) tNil)) tNil))) (gName 5))
    (tSeq (tAsg (tOp (rIx K) (tVar 5) (tCB rInt1 (tCons (tOp rEq (tOp (rIx K) (tVar 2) (tC (.int 1))) (tC (.str "blue"))) tNil))) (gName 6))
    (tSeq (tAsg (tOp kSub (tOp (rIx K) (tVar 6) (tOp (rIx K) (tVar 3) (tVar 4))) (tC (.int 1))) (gSub (tVar 6) (tOp (rIx K) (tVar 3) (tVar 4)) rSetL))
    (tSeq (tAsg (tOp kAdd (tOp (rIx K) (tVar 6) (tOp (rIx K) (tVar 3) (tOp kSub (tC (.int 1)) (tVar 4)))) (tC (.int 1))) (gSub (tVar 6) (tOp (rIx K) (tVar 3) (tOp kSub (tC (.int 1)) (tVar 4))) rSetL))
    (tSeq (tAsg (tCB (Evl.rListS K) (tCons (tOp (rIx K) (tVar 1) (tC (.int 2))) tNil)) (gName 7))
    (tSeq (tAsg (tOp kSub (tC (.int 1)) (tOp (rIx K) (tVar 7) (tOp (rIx K) (tVar 2) (tC (.int 0))))) (gSub (tVar 7) (tOp (rIx K) (tVar 2) (tC (.int 0))) rSetL))
    (tRet (tTup (tCons (tCB (rTupOf K) (tCons (tOp (rIx K) (tVar 5) (tC (.int 0))) tNil)) (tCons (tCB (rTupOf K) (tCons (tOp (rIx K) (tVar 5) (tC (.int 1))) tNil)) (tCons (tCB (rTupOf K) (tCons (tVar 7) tNil)) tNil))))))))))))))
def t_l_reach (T : Txt K mg) : TS := (tSeq (tAsg (tLc (iSeq K (tVar 2)) (gName 7) tYes (tOp kGt (tVar 7) (tC (.int 0))) [7]) (gName 3))
    (tSeq (tFor (iRng1 (tCons (tVar 0) tNil)) (gName 4)
    (tSeq (tAsg (tC (.bl false)) (gName 5))
    (tSeq (tFor (iSeq K (tVar 1)) (gName 6)
    (tIfS (tAnd (tB (tOp (rIx K) (tVar 3) (tOp (rIx K) (tVar 6) (tC (.int 0))))) (tNot (tB (tOp (rIx K) (tVar 3) (tOp (rIx K) (tVar 6) (tC (.int 1))))))) (tSeq (tAsg (tC (.bl true)) (gSub (tVar 3) (tOp (rIx K) (tVar 6) (tC (.int 1))) rSetL))
    (tAsg (tC (.bl true)) (gName 5)))
    tNext))
    (tIfS (tNot (tB (tVar 5))) tBreak
    tNext))))
    (tRet (tLc (iRng1 (tCons (tVar 0) tNil)) (gName 8) (tB (tOp (rIx K) (tVar 3) (tVar 8))) (tVar 8) [8]))))
def t_l_reaches (T : Txt K mg) : TS := (tSeq (tAsg (tCall (sp_l_arrows T) [] E0 (tCons (tOp (rIx K) (tVar 0) (tC (.int 1))) (tCons (tOp (rIx K) (tVar 1) (tC (.int 2))) tNil))) (gName 2))
    (tSeq (tAsg (tLc (iSeq K (tVar 2)) (gName 4) tYes (tTup (tCons (tOp (rIx K) (tVar 4) (tC (.int 1))) (tCons (tOp (rIx K) (tVar 4) (tC (.int 0))) tNil))) [4]) (gName 3))
    (tRet (tLst (tCons (tCall (sp_l_reach T) [] E0 (tCons (tOp (rIx K) (tVar 0) (tC (.int 0))) (tCons (tVar 2) (tCons (tOp (rIx K) (tVar 1) (tC (.int 0))) tNil)))) (tCons (tCall (sp_l_reach T) [] E0 (tCons (tOp (rIx K) (tVar 0) (tC (.int 0))) (tCons (tVar 3) (tCons (tOp (rIx K) (tVar 1) (tC (.int 1))) tNil)))) tNil))))))
def t_l_alive (T : Txt K mg) : TS := (tSeq (tAsg (tOp rRep (tLst (tCons (tC (.bl false)) tNil)) (tOp (rIx K) (tVar 0) (tC (.int 0)))) (gName 3))
    (tSeq (tAsg (tOp rRep (tLst (tCons (tC (.bl false)) tNil)) (tCB (Evl.rLenS K) (tCons (tOp (rIx K) (tVar 0) (tC (.int 1))) tNil))) (gName 4))
    (tSeq (tIfS (tTest (tOp kNotN (tVar 2) (tC .non))) (tSeq (tFor (iSeq K (tVar 2)) (gName 5)
    (tSeq (tFor (iRng1 (tCons (tOp (rIx K) (tVar 0) (tC (.int 0))) tNil)) (gName 6)
    (tIfS (tTest (tOp kGt (tOp kAdd (tOp (rIx K) (tOp (rIx K) (tVar 5) (tC (.int 0))) (tVar 6)) (tOp (rIx K) (tOp (rIx K) (tVar 5) (tC (.int 1))) (tVar 6))) (tC (.int 0)))) (tAsg (tC (.bl true)) (gSub (tVar 3) (tVar 6) rSetL))
    tNext))
    (tFor (iSeq K (tCall (sp_l_rides T) [] E0 (tCons (tOp (rIx K) (tVar 0) (tC (.int 1))) (tCons (tVar 5) tNil)))) (gName 7)
    (tAsg (tC (.bl true)) (gSub (tVar 4) (tOp (rIx K) (tVar 7) (tC (.int 0))) rSetL)))))
    (tRet (tLst (tCons (tVar 3) (tCons (tVar 4) tNil)))))
    tNext)
    (tSeq (tAsg (tCall (sp_l_reaches T) [] E0 (tCons (tVar 0) (tCons (tVar 1) tNil))) (gName 8))
    (tSeq (tAsg (tOp kGt (tCB (Evl.rLenS K) (tCons (tLc (iSeq K (tOp (rIx K) (tVar 8) (tC (.int 0)))) (gName 6) (tTest (tOp (rIn K false) (tVar 6) (tOp (rIx K) (tVar 8) (tC (.int 1))))) (tVar 6) [6]) tNil)) (tC (.int 0))) (gName 9))
    (tSeq (tFor (iRng1 (tCons (tOp (rIx K) (tVar 0) (tC (.int 0))) tNil)) (gName 6)
    (tAsg (tOrV (tVar 9) (tOrV (tOp (rIn K false) (tVar 6) (tOp (rIx K) (tVar 8) (tC (.int 0)))) (tOp (rIn K false) (tVar 6) (tOp (rIx K) (tVar 8) (tC (.int 1)))))) (gSub (tVar 3) (tVar 6) rSetL)))
    (tSeq (tAsg (tCall (sp_l_arrows T) [] E0 (tCons (tOp (rIx K) (tVar 0) (tC (.int 1))) (tCons (tOp (rIx K) (tVar 1) (tC (.int 2))) tNil))) (gName 10))
    (tSeq (tFor (iRng1 (tCons (tCB (Evl.rLenS K) (tCons (tVar 10) tNil)) tNil)) (gName 11)
    (tAsg (tOrV (tVar 9) (tOrV (tOp (rIn K false) (tOp (rIx K) (tOp (rIx K) (tVar 10) (tVar 11)) (tC (.int 0))) (tOp (rIx K) (tVar 8) (tC (.int 0)))) (tOp (rIn K false) (tOp (rIx K) (tOp (rIx K) (tVar 10) (tVar 11)) (tC (.int 1))) (tOp (rIx K) (tVar 8) (tC (.int 1)))))) (gSub (tVar 4) (tVar 11) rSetL)))
    (tRet (tLst (tCons (tVar 3) (tCons (tVar 4) tNil))))))))))))
def t_l_is_list (T : Txt K mg) : TS := (tSeq (tIfS (tOr (tNot (tB (tCB (rIsi K) (tCons (tVar 0) (tCons (tC (.ty "list")) tNil))))) (tTest (tOp rNe (tCB (Evl.rLenS K) (tCons (tVar 0) tNil)) (tCB (Evl.rLenS K) (tCons (tVar 1) tNil))))) (tRet (tC (.bl false)))
    tNext)
    (tSeq (tFor (iRng1 (tCons (tCB (Evl.rLenS K) (tCons (tVar 1) tNil)) tNil)) (gName 2)
    (tIfS (tOr (tNot (tB (tCall (sp_l_integer T) [] E0 (tCons (tOp (rIx K) (tVar 0) (tVar 2)) tNil)))) (tTest (tOp rNe (tOp (rIx K) (tVar 0) (tVar 2)) (tOp (rIx K) (tVar 1) (tVar 2))))) (tRet (tC (.bl false)))
    tNext))
    (tRet (tC (.bl true)))))
def t_l_are_rides (T : Txt K mg) : TS := (tSeq (tIfS (tNot (tB (tCB (rIsi K) (tCons (tVar 0) (tCons (tC (.ty "list")) tNil))))) (tRet (tC (.bl false)))
    tNext)
    (tSeq (tFor (iSeq K (tVar 0)) (gName 2)
    (tSeq (tIfS (tOr (tNot (tB (tCB (rIsi K) (tCons (tVar 2) (tCons (tC (.ty "tuple")) tNil))))) (tOr (tTest (tOp rNe (tCB (Evl.rLenS K) (tCons (tVar 2) tNil)) (tC (.int 2)))) (tNot (tB (tCall (sp_l_integer T) [] E0 (tCons (tOp (rIx K) (tVar 2) (tC (.int 0))) tNil)))))) (tRet (tC (.bl false)))
    tNext)
    (tSeq (tIfS (tOr (tNot (tB (tCB (rIsi K) (tCons (tOp (rIx K) (tVar 2) (tC (.int 1))) (tCons (tC (.ty "str")) tNil))))) (tTest (tOp (rIn K true) (tOp (rIx K) (tVar 2) (tC (.int 1))) (tLst (tCons (tC (.str "red")) (tCons (tC (.str "blue")) tNil)))))) (tRet (tC (.bl false)))
    tNext)
    (tIfS (tOr (tTest (tOp kLt (tOp (rIx K) (tVar 2) (tC (.int 0))) (tC (.int 0)))) (tTest (tOp kGe (tOp (rIx K) (tVar 2) (tC (.int 0))) (tCB (Evl.rLenS K) (tCons (tVar 1) tNil))))) (tRet (tC (.bl false)))
    tNext))))
    (tRet (tC (.bl true)))))
def t_l_end (T : Txt K mg) : TS := (tSeq (tFor (iSeq K (tVar 2)) (gName 3)
    (tSeq (tIfS (tTest (tOp (rNotInD K) (tVar 3) (tCall (sp_l_rides T) [] E0 (tCons (tVar 0) (tCons (tVar 1) tNil))))) (tRet (tC .non))
    tNext)
    (tAsg (tCall (sp_l_ride T) [] E0 (tCons (tVar 0) (tCons (tVar 1) (tCons (tVar 3) tNil)))) (gName 1))))
    (tRet (tVar 1)))
end
end TR
namespace TR
open PySem L2 PyProof.Rows

section
variable {P : Program} {w : World} {K : PySem.W.Frag} {mg : Str → Option Value} {base : Heap}
theorem d_l_integer (T : Txt K mg)
    {cdv : Value} {A : Around} {outer : List Env} {s : Shared} {H : Hp} {E : XK} (hr : Room 0 (A.deeper (envOfC "_law_integer" (defScope s_l_integer) s.heap.objs.size T.l_integer.f cdv))) :
    PSs (cxOf CX0 P w K mg base N_l_integer "_law_integer" (defScope s_l_integer) T.l_integer.f cdv A outer s H E).nox (defBody s_l_integer) (t_l_integer T) := by
  have sc := sc_l_integer
  exact (pss_one (ps_ret (pe_and (pe_callB call_isi (by rfl) T.b_isinstance PyProof.Rows.boot_isinstance (pa_cons (pv 0) (pa_cons (pe_bltn (v := .ty "int") (by rfl) T.b_int (by decide +kernel) rfl) pa_nil))) (pe_one (pe_not (pe_callB call_isi (by rfl) T.b_isinstance PyProof.Rows.boot_isinstance (pa_cons (pv 0) (pa_cons (pe_bltn (v := .ty "bool") (by rfl) T.b_bool (by decide +kernel) rfl) pa_nil))))))))
theorem d_l_bag (T : Txt K mg)
    {cdv : Value} {A : Around} {outer : List Env} {s : Shared} {H : Hp} {E : XK} (hr : Room 0 (A.deeper (envOfC "_law_bag" (defScope s_l_bag) s.heap.objs.size T.l_bag.f cdv))) :
    PSs (cxOf CX0 P w K mg base N_l_bag "_law_bag" (defScope s_l_bag) T.l_bag.f cdv A outer s H E).nox (defBody s_l_bag) (t_l_bag T) := by
  have sc := sc_l_bag
  exact (pss_cons (ps_set (i := 2) sc.nd rfl (Or.inl rfl) (pe_op op_add pe_int (pe_op op_mul pe_int (pv 1))))
    (pss_cons (ps_for PassesOwn.never rfl (pi_seq (pe_slice sl_list (pv 0) po_none (po_some pe_int))) (pg_name (i := 3) sc.nd rfl (Or.inl rfl))
    (pss_one (ps_set (i := 2) sc.nd rfl (Or.inl rfl) (pe_op op_mod (pe_callTy call_int1 (by rfl) T.b_int PyProof.Rows.boot_int (pa_cons (pe_op op_add (pe_op op_mul (pv 2) pe_int) (pv 3)) pa_nil)) pe_int))))
    (pss_cons (ps_if (PW.pt (pw_and (pt_cmpR op_lt (pv 1) (pe_callB call_len_seq (by rfl) T.b_len PySem.boot_len (pa_cons (pv 0) pa_nil)) (nomark _)) (pw_and1 (pt_cmpR op_ge (pe_ix ix_seq (pv 0) (pv 1) (fun _ _ => rfl)) (pe_op op_pow pe_int pe_int) (nomark _))))) (pss_one (ps_ret (pe_lst (pa_cons (pe_ix ix_seq (pv 0) (pv 1) (fun _ _ => rfl)) (pa_cons (pv 2) (pa_cons pe_int pa_nil))))))
    pss_nil)
    (pss_one (ps_ret (pe_lst (pa_cons pe_int (pa_cons (pv 2) (pa_cons pe_int pa_nil)))))))))
theorem d_l_take (T : Txt K mg)
    {cdv : Value} {A : Around} {outer : List Env} {s : Shared} {H : Hp} {E : XK} (hr : Room 0 (A.deeper (envOfC "_law_take" (defScope s_l_take) s.heap.objs.size T.l_take.f cdv))) :
    PSs (cxOf CX0 P w K mg base N_l_take "_law_take" (defScope s_l_take) T.l_take.f cdv A outer s H E).nox (defBody s_l_take) (t_l_take T) := by
  have sc := sc_l_take
  exact (pss_cons (ps_if (pt_cmpR op_gt (pe_ix ix_seq (pv 0) pe_int (fun _ _ => rfl)) pe_int (nomark _)) (pss_cons (ps_set (i := 2) sc.nd rfl (Or.inl rfl) (pe_op op_mod (pe_callTy call_int1 (by rfl) T.b_int PyProof.Rows.boot_int (pa_cons (pe_ix ix_seq (pv 0) pe_int (fun _ _ => rfl)) pa_nil)) (pv 1)))
    (pss_cons (ps_asg (pe_op op_fdiv (pe_ix ix_seq (pv 0) pe_int (fun _ _ => rfl)) (pv 1)) (pg_sub (pv 0) pe_int set_list))
    (pss_one (ps_ret (pv 2)))))
    pss_nil)
    (pss_cons (ps_asg (pe_op op_add (pe_ix ix_seq (pv 0) pe_int (fun _ _ => rfl)) pe_int) (pg_sub (pv 0) pe_int set_list))
    (pss_cons (ps_set (i := 3) sc.nd rfl (Or.inl rfl) (pe_op op_mod (pe_callTy call_int1 (by rfl) T.b_int PyProof.Rows.boot_int (pa_cons (pe_op op_add (pe_op op_mul (pe_ix ix_seq (pv 0) pe_int (fun _ _ => rfl)) pe_int) (pe_op op_mul (pe_ix ix_seq (pv 0) pe_int (fun _ _ => rfl)) pe_int)) pa_nil)) pe_int))
    (pss_cons (ps_set (i := 4) sc.nd rfl (Or.inl rfl) (pe_op op_mod (pe_callTy call_int1 (by rfl) T.b_int PyProof.Rows.boot_int (pa_cons (pe_op op_mul (pe_op op_add (pe_op op_fdiv (pv 3) pe_int) (pe_ix ix_seq (pv 0) pe_int (fun _ _ => rfl))) (pe_op op_add (pe_op op_mod (pv 3) pe_int) pe_int)) pa_nil)) pe_int))
    (pss_one (ps_ret (pe_op op_mod (pe_op op_fdiv (pv 4) pe_int) (pv 1))))))))
theorem d_l_order (T : Txt K mg)
    (G_l_take : FnOk P w K mg base CX0 1 T.l_take.f T.l_take.fd P_l_take (sp_l_take T))
    {cdv : Value} {A : Around} {outer : List Env} {s : Shared} {H : Hp} {E : XK} (hr : Room 1 (A.deeper (envOfC "_law_order" (defScope s_l_order) s.heap.objs.size T.l_order.f cdv))) :
    PSs (cxOf CX0 P w K mg base N_l_order "_law_order" (defScope s_l_order) T.l_order.f cdv A outer s H E).nox (defBody s_l_order) (t_l_order T) := by
  have sc := sc_l_order
  exact (pss_cons (ps_set (i := 2) sc.nd rfl (Or.inl rfl) (pe_lst pa_nil))
    (pss_cons (ps_for PassesOwn.never rfl (pi_range1 (by rfl) T.b_range (pa_cons (pv 1) pa_nil)) (pg_name (i := 3) sc.nd rfl (Or.inl rfl))
    (pss_cons (ps_set (i := 4) sc.nd rfl (Or.inl rfl) (pe_call G_l_take (hr.mono (by decide)) (by rfl) T.l_take.g T.l_take.F.kp T.l_take.b .nil pass0 (pa_cons (pv 0) (pa_cons (pe_op op_add (pv 3) pe_int) pa_nil))))
    (pss_one (ps_expr (pe_bm PySem.F.plainAttrs_list PySem.F.slot_list_insert PySem.F.type_list_insert mt_insert (pv 2) (pa_cons (pv 4) (pa_cons (pv 3) pa_nil)))))))
    (pss_one (ps_ret (pv 2)))))
theorem d_l_add_rope (T : Txt K mg)
    (G_l_take : FnOk P w K mg base CX0 1 T.l_take.f T.l_take.fd P_l_take (sp_l_take T))
    {cdv : Value} {A : Around} {outer : List Env} {s : Shared} {H : Hp} {E : XK} (hr : Room 1 (A.deeper (envOfC "_law_add_rope" (defScope s_l_add_rope) s.heap.objs.size T.l_add_rope.f cdv))) :
    PSs (cxOf CX0 P w K mg base N_l_add_rope "_law_add_rope" (defScope s_l_add_rope) T.l_add_rope.f cdv A outer s H E).nox (defBody s_l_add_rope) (t_l_add_rope T) := by
  have sc := sc_l_add_rope
  exact (pss_cons (ps_set (i := 4) sc.nd rfl (Or.inl rfl) (pe_call G_l_take (hr.mono (by decide)) (by rfl) T.l_take.g T.l_take.F.kp T.l_take.b .nil pass0 (pa_cons (pv 0) (pa_cons (pe_op op_add (pe_callB call_len_seq (by rfl) T.b_len PySem.boot_len (pa_cons (pe_ix ix_seq (pv 1) pe_int (fun _ _ => rfl)) pa_nil)) pe_int) pa_nil))))
    (pss_cons (ps_set (i := 5) sc.nd rfl (Or.inl rfl) (pe_call G_l_take (hr.mono (by decide)) (by rfl) T.l_take.g T.l_take.F.kp T.l_take.b .nil pass0 (pa_cons (pv 0) (pa_cons pe_int pa_nil))))
    (pss_cons (ps_expr (pe_bm PySem.F.plainAttrs_list PySem.F.slot_list_insert PySem.F.type_list_insert mt_insert (pe_ix ix_seq (pv 1) pe_int (fun _ _ => rfl)) (pa_cons (pv 4) (pa_cons (pe_ix ix_seq (pe_lst (pa_cons (pe_tup (pa_cons (pv 2) (pa_cons (pv 3) pa_nil))) (pa_cons (pe_tup (pa_cons (pv 3) (pa_cons (pv 2) pa_nil))) pa_nil))) (pv 5) (fun _ _ => rfl)) pa_nil))))
    (pss_one (ps_expr (pe_bm PySem.F.plainAttrs_list PySem.F.slot_list_insert PySem.F.type_list_insert mt_insert (pe_ix ix_seq (pv 1) pe_int (fun _ _ => rfl)) (pa_cons (pv 4) (pa_cons (pv 5) pa_nil))))))))
theorem d_l_net (T : Txt K mg)
    (G_l_add_rope : FnOk P w K mg base CX0 2 T.l_add_rope.f T.l_add_rope.fd P_l_add_rope (sp_l_add_rope T))
    (G_l_order : FnOk P w K mg base CX0 2 T.l_order.f T.l_order.fd P_l_order (sp_l_order T))
    (G_l_take : FnOk P w K mg base CX0 1 T.l_take.f T.l_take.fd P_l_take (sp_l_take T))
    {cdv : Value} {A : Around} {outer : List Env} {s : Shared} {H : Hp} {E : XK} (hr : Room 2 (A.deeper (envOfC "_law_net" (defScope s_l_net) s.heap.objs.size T.l_net.f cdv))) :
    PSs (cxOf CX0 P w K mg base N_l_net "_law_net" (defScope s_l_net) T.l_net.f cdv A outer s H E).nox (defBody s_l_net) (t_l_net T) := by
  have sc := sc_l_net
  exact (pss_cons (ps_set (i := 3) sc.nd rfl (Or.inl rfl) (pe_call G_l_order (hr.mono (by decide)) (by rfl) T.l_order.g T.l_order.F.kp T.l_order.b .nil pass0 (pa_cons (pv 0) (pa_cons (pv 1) pa_nil))))
    (pss_cons (ps_set (i := 4) sc.nd rfl (Or.inl rfl) (pe_call G_l_take (hr.mono (by decide)) (by rfl) T.l_take.g T.l_take.F.kp T.l_take.b .nil pass0 (pa_cons (pv 0) (pa_cons pe_int pa_nil))))
    (pss_cons (ps_set (i := 5) sc.nd rfl (Or.inl rfl) (pe_ix ix_seq (pe_lst (pa_cons pe_int (pa_cons (pv 1) (pa_cons pe_int (pa_cons pe_int (pa_cons (pv 1) pa_nil)))))) (pv 4) (fun _ _ => rfl)))
    (pss_cons (ps_if (PW.pt (pw_and (pt_cmpR op_gt (pv 1) pe_int (nomark _)) (pw_and1 (pt_cmpR op_eq (pv 4) pe_int (nomark _))))) (pss_one (ps_set (i := 5) sc.nd rfl (Or.inl rfl) (pe_op op_add pe_int (pe_call G_l_take (hr.mono (by decide)) (by rfl) T.l_take.g T.l_take.F.kp T.l_take.b .nil pass0 (pa_cons (pv 0) (pa_cons (pe_op op_sub (pv 1) pe_int) pa_nil))))))
    pss_nil)
    (pss_cons (ps_set (i := 6) sc.nd rfl (Or.inl rfl) (pe_lst (pa_cons (pe_lst pa_nil) (pa_cons (pe_lst pa_nil) pa_nil))))
    (pss_cons (ps_for PassesOwn.never rfl (pi_range2 (by rfl) T.b_range (pa_cons pe_int (pa_cons (pv 1) pa_nil))) (pg_name (i := 7) sc.nd rfl (Or.inl rfl))
    (pss_cons (ps_set (i := 8) sc.nd rfl (Or.inl rfl) (pe_op op_sub (pv 7) pe_int))
    (pss_cons (ps_if (pt_cmpR op_ge (pv 7) (pv 5) (nomark _)) (pss_one (ps_set (i := 8) sc.nd rfl (Or.inl rfl) (pe_call G_l_take (hr.mono (by decide)) (by rfl) T.l_take.g T.l_take.F.kp T.l_take.b .nil pass0 (pa_cons (pv 0) (pa_cons (pv 7) pa_nil)))))
    pss_nil)
    (pss_one (ps_expr (pe_call G_l_add_rope (hr.mono (by decide)) (by rfl) T.l_add_rope.g T.l_add_rope.F.kp T.l_add_rope.b .nil pass0 (pa_cons (pv 0) (pa_cons (pv 6) (pa_cons (pe_ix ix_seq (pv 3) (pv 8) (fun _ _ => rfl)) (pa_cons (pe_ix ix_seq (pv 3) (pv 7) (fun _ _ => rfl)) pa_nil))))))))))
    (pss_cons (ps_if (PW.pt (pw_and (pt_cmpR op_gt (pv 1) pe_int (nomark _)) (pw_and1 (PW.pt (pw_or (pt_cmpR op_eq (pv 4) pe_int (nomark _)) (pw_or1 (pt_cmpR op_eq (pv 4) pe_int (nomark _)))))))) (pss_one (ps_expr (pe_call G_l_add_rope (hr.mono (by decide)) (by rfl) T.l_add_rope.g T.l_add_rope.F.kp T.l_add_rope.b .nil pass0 (pa_cons (pv 0) (pa_cons (pv 6) (pa_cons (pe_ix ix_seq (pv 3) (pe_op op_sub (pv 5) pe_int) (fun _ _ => rfl)) (pa_cons (pe_ix ix_seq (pv 3) pe_int (fun _ _ => rfl)) pa_nil)))))))
    pss_nil)
    (pss_cons (ps_if (PW.pt (pw_and (pt_cmpR op_gt (pv 1) pe_int (nomark _)) (pw_and1 (pt_cmpR op_eq (pv 4) pe_int (nomark _))))) (pss_one (ps_for PassesOwn.never rfl (pi_range1 (by rfl) T.b_range (pa_cons (pe_call G_l_take (hr.mono (by decide)) (by rfl) T.l_take.g T.l_take.F.kp T.l_take.b .nil pass0 (pa_cons (pv 0) (pa_cons (pe_op op_add (pv 2) pe_int) pa_nil))) pa_nil)) (pg_name (i := 7) sc.nd rfl (Or.inl rfl))
    (pss_cons (ps_set (i := 9) sc.nd rfl (Or.inl rfl) (pe_call G_l_take (hr.mono (by decide)) (by rfl) T.l_take.g T.l_take.F.kp T.l_take.b .nil pass0 (pa_cons (pv 0) (pa_cons (pv 1) pa_nil))))
    (pss_cons (ps_set (i := 10) sc.nd rfl (Or.inl rfl) (pe_op op_add pe_int (pe_call G_l_take (hr.mono (by decide)) (by rfl) T.l_take.g T.l_take.F.kp T.l_take.b .nil pass0 (pa_cons (pv 0) (pa_cons (pe_op op_sub (pv 1) pe_int) pa_nil)))))
    (pss_one (ps_expr (pe_call G_l_add_rope (hr.mono (by decide)) (by rfl) T.l_add_rope.g T.l_add_rope.F.kp T.l_add_rope.b .nil pass0 (pa_cons (pv 0) (pa_cons (pv 6) (pa_cons (pv 9) (pa_cons (pe_op op_mod (pe_callTy call_int1 (by rfl) T.b_int PyProof.Rows.boot_int (pa_cons (pe_op op_add (pv 9) (pv 10)) pa_nil)) (pv 1)) pa_nil)))))))))))
    pss_nil)
    (pss_one (ps_ret (pe_lst (pa_cons (pv 3) (pa_cons (pe_ix ix_seq (pv 6) pe_int (fun _ _ => rfl)) (pa_cons (pe_ix ix_seq (pv 6) pe_int (fun _ _ => rfl)) pa_nil))))))))))))))
theorem d_l_guests (T : Txt K mg)
    (G_l_take : FnOk P w K mg base CX0 1 T.l_take.f T.l_take.fd P_l_take (sp_l_take T))
    {cdv : Value} {A : Around} {outer : List Env} {s : Shared} {H : Hp} {E : XK} (hr : Room 1 (A.deeper (envOfC "_law_guests" (defScope s_l_guests) s.heap.objs.size T.l_guests.f cdv))) :
    PSs (cxOf CX0 P w K mg base N_l_guests "_law_guests" (defScope s_l_guests) T.l_guests.f cdv A outer s H E).nox (defBody s_l_guests) (t_l_guests T) := by
  have sc := sc_l_guests
  exact (pss_cons (ps_set (i := 3) sc.nd rfl (Or.inl rfl) (pe_lst (pa_cons (pe_op op_rep (pe_lst (pa_cons pe_int pa_nil)) (pe_callB call_len_seq (by rfl) T.b_len PySem.boot_len (pa_cons (pv 1) pa_nil))) (pa_cons (pe_op op_rep (pe_lst (pa_cons pe_int pa_nil)) (pe_callB call_len_seq (by rfl) T.b_len PySem.boot_len (pa_cons (pv 1) pa_nil))) pa_nil))))
    (pss_cons (ps_set (i := 4) sc.nd rfl (Or.inl rfl) (pe_call G_l_take (hr.mono (by decide)) (by rfl) T.l_take.g T.l_take.F.kp T.l_take.b .nil pass0 (pa_cons (pv 0) (pa_cons pe_int pa_nil))))
    (pss_cons (ps_set (i := 5) sc.nd rfl (Or.inl rfl) (pe_op op_add pe_int (pe_call G_l_take (hr.mono (by decide)) (by rfl) T.l_take.g T.l_take.F.kp T.l_take.b .nil pass0 (pa_cons (pv 0) (pa_cons (pv 2) pa_nil)))))
    (pss_cons (ps_if (pt_cmpR op_eq (pv 4) pe_int (nomark _)) (pss_one (ps_set (i := 5) sc.nd rfl (Or.inl rfl) pe_int))
    pss_nil)
    (pss_cons (ps_for PassesOwn.never rfl (pi_range1 (by rfl) T.b_range (pa_cons (pv 5) pa_nil)) (pg_name (i := 6) sc.nd rfl (Or.inl rfl))
    (pss_cons (ps_set (i := 7) sc.nd rfl (Or.inl rfl) (pe_call G_l_take (hr.mono (by decide)) (by rfl) T.l_take.g T.l_take.F.kp T.l_take.b .nil pass0 (pa_cons (pv 0) (pa_cons (pe_callB call_len_seq (by rfl) T.b_len PySem.boot_len (pa_cons (pv 1) pa_nil)) pa_nil))))
    (pss_cons (ps_set (i := 8) sc.nd rfl (Or.inl rfl) (pe_call G_l_take (hr.mono (by decide)) (by rfl) T.l_take.g T.l_take.F.kp T.l_take.b .nil pass0 (pa_cons (pv 0) (pa_cons pe_int pa_nil))))
    (pss_cons (ps_if (PW.pt (pw_or (pt_cmpR op_eq (pv 4) pe_int (nomark _)) (pw_or1 (pt_cmpR op_eq (pv 4) pe_int (nomark _))))) (pss_one (ps_set (i := 8) sc.nd rfl (Or.inl rfl) (pe_op op_sub (pv 4) pe_int)))
    pss_nil)
    (pss_cons (ps_if (PW.pt (pw_or (pt_cmpR op_eq (pv 4) pe_int (nomark _)) (pw_or1 (pt_cmpR op_eq (pv 4) pe_int (nomark _))))) (pss_one (ps_set (i := 7) sc.nd rfl (Or.inl rfl) (pe_ix ix_seq (pv 1) (pe_ix ix_seq (pe_lst (pa_cons pe_int (pa_cons (pe_op op_sub (pe_callB call_len_seq (by rfl) T.b_len PySem.boot_len (pa_cons (pv 1) pa_nil)) pe_int) pa_nil))) (pe_op op_mod (pe_callTy call_int1 (by rfl) T.b_int PyProof.Rows.boot_int (pa_cons (pe_op op_add (pv 4) (pv 8)) pa_nil)) pe_int) (fun _ _ => rfl)) (fun _ _ => rfl))))
    pss_nil)
    (pss_cons (ps_set (i := 9) sc.nd rfl (Or.inl rfl) (pe_ix ix_seq (pv 3) (pv 8) (fun _ _ => rfl)))
    (pss_one (ps_asg (pe_op op_add (pe_ix ix_seq (pv 9) (pv 7) (fun _ _ => rfl)) pe_int) (pg_sub (pv 9) (pv 7) set_list)))))))))
    (pss_one (ps_ret (pv 3))))))))
theorem d_l_cars (T : Txt K mg)
    (G_l_take : FnOk P w K mg base CX0 1 T.l_take.f T.l_take.fd P_l_take (sp_l_take T))
    {cdv : Value} {A : Around} {outer : List Env} {s : Shared} {H : Hp} {E : XK} (hr : Room 1 (A.deeper (envOfC "_law_cars" (defScope s_l_cars) s.heap.objs.size T.l_cars.f cdv))) :
    PSs (cxOf CX0 P w K mg base N_l_cars "_law_cars" (defScope s_l_cars) T.l_cars.f cdv A outer s H E).nox (defBody s_l_cars) (t_l_cars T) := by
  have sc := sc_l_cars
  exact (pss_cons (ps_set (i := 4) sc.nd rfl (Or.inl rfl) (pe_call G_l_take (hr.mono (by decide)) (by rfl) T.l_take.g T.l_take.F.kp T.l_take.b .nil pass0 (pa_cons (pv 0) (pa_cons pe_int pa_nil))))
    (pss_cons (ps_set (i := 5) sc.nd rfl (Or.inl rfl) (pe_lst pa_nil))
    (pss_cons (ps_for PassesOwn.never rfl (pi_range1 (by rfl) T.b_range (pa_cons (pe_callB call_len_seq (by rfl) T.b_len PySem.boot_len (pa_cons (pv 1) pa_nil)) pa_nil)) (pg_name (i := 6) sc.nd rfl (Or.inl rfl))
    (pss_cons (ps_set (i := 7) sc.nd rfl (Or.inl rfl) (pe_ix ix_seq (pv 1) (pv 6) (fun _ _ => rfl)))
    (pss_cons (ps_set (i := 8) sc.nd rfl (Or.inl rfl) (pe_call G_l_take (hr.mono (by decide)) (by rfl) T.l_take.g T.l_take.F.kp T.l_take.b .nil pass0 (pa_cons (pv 0) (pa_cons pe_int pa_nil))))
    (pss_cons (ps_if (pt_cmpR op_lt (pv 4) pe_int (nomark _)) (pss_one (ps_set (i := 8) sc.nd rfl (Or.inl rfl) (pe_ix ix_seq (pe_lst (pa_cons (pe_ix ix_seq (pv 2) (pv 6) (fun _ _ => rfl)) (pa_cons (pe_op op_sub pe_int (pe_ix ix_seq (pv 2) (pv 6) (fun _ _ => rfl))) pa_nil))) (pv 4) (fun _ _ => rfl))))
    pss_nil)
    (pss_cons (ps_if (PW.pt (pw_and (pt_cmpR op_eq (pv 4) pe_int (nomark _)) (pw_and1 (pt_cmpR op_ne (pe_cmpR op_gt (pe_ix ix_seq (pe_ix ix_seq (pv 3) pe_int (fun _ _ => rfl)) (pe_ix ix_seq (pv 7) pe_int (fun _ _ => rfl)) (fun _ _ => rfl)) pe_int (nomark _)) (pe_cmpR op_gt (pe_ix ix_seq (pe_ix ix_seq (pv 3) pe_int (fun _ _ => rfl)) (pe_ix ix_seq (pv 7) pe_int (fun _ _ => rfl)) (fun _ _ => rfl)) pe_int (nomark _)) (nomark _))))) (pss_one (ps_set (i := 8) sc.nd rfl (Or.inl rfl) (pe_callTy call_int1 (by rfl) T.b_int PyProof.Rows.boot_int (pa_cons (pe_cmpR op_gt (pe_ix ix_seq (pe_ix ix_seq (pv 3) pe_int (fun _ _ => rfl)) (pe_ix ix_seq (pv 7) pe_int (fun _ _ => rfl)) (fun _ _ => rfl)) pe_int (nomark _)) pa_nil))))
    pss_nil)
    (pss_cons (ps_if (PW.pt (pw_and (pt_cmpR op_eq (pv 4) pe_int (nomark _)) (pw_and1 (pt_cmpR op_ne (pe_cmpR op_gt (pe_ix ix_seq (pe_ix ix_seq (pv 3) pe_int (fun _ _ => rfl)) (pe_ix ix_seq (pv 7) pe_int (fun _ _ => rfl)) (fun _ _ => rfl)) pe_int (nomark _)) (pe_cmpR op_gt (pe_ix ix_seq (pe_ix ix_seq (pv 3) pe_int (fun _ _ => rfl)) (pe_ix ix_seq (pv 7) pe_int (fun _ _ => rfl)) (fun _ _ => rfl)) pe_int (nomark _)) (nomark _))))) (pss_one (ps_set (i := 8) sc.nd rfl (Or.inl rfl) (pe_callTy call_int1 (by rfl) T.b_int PyProof.Rows.boot_int (pa_cons (pe_cmpR op_gt (pe_ix ix_seq (pe_ix ix_seq (pv 3) pe_int (fun _ _ => rfl)) (pe_ix ix_seq (pv 7) pe_int (fun _ _ => rfl)) (fun _ _ => rfl)) pe_int (nomark _)) pa_nil))))
    pss_nil)
    (pss_one (ps_expr (pe_bm PySem.F.plainAttrs_list PySem.F.slot_list_append PySem.F.type_list_append mt_append (pv 5) (pa_cons (pv 8) pa_nil))))))))))
    (pss_one (ps_ret (pv 5))))))
theorem d_l_world (T : Txt K mg)
    (G_l_cars : FnOk P w K mg base CX0 2 T.l_cars.f T.l_cars.fd P_l_cars (sp_l_cars T))
    (G_l_guests : FnOk P w K mg base CX0 2 T.l_guests.f T.l_guests.fd P_l_guests (sp_l_guests T))
    (G_l_net : FnOk P w K mg base CX0 3 T.l_net.f T.l_net.fd P_l_net (sp_l_net T))
    (G_l_take : FnOk P w K mg base CX0 1 T.l_take.f T.l_take.fd P_l_take (sp_l_take T))
    {cdv : Value} {A : Around} {outer : List Env} {s : Shared} {H : Hp} {E : XK} (hr : Room 3 (A.deeper (envOfC "_law_world" (defScope s_l_world) s.heap.objs.size T.l_world.f cdv))) :
    PSs (cxOf CX0 P w K mg base N_l_world "_law_world" (defScope s_l_world) T.l_world.f cdv A outer s H E).nox (defBody s_l_world) (t_l_world T) := by
  have sc := sc_l_world
  exact (pss_cons (ps_set (i := 1) sc.nd rfl (Or.inl rfl) (pe_ix ix_seq (pe_lst (pa_cons pe_int (pa_cons pe_int (pa_cons pe_int (pa_cons pe_int (pa_cons pe_int (pa_cons pe_int (pa_cons pe_int (pa_cons pe_int pa_nil))))))))) (pe_call G_l_take (hr.mono (by decide)) (by rfl) T.l_take.g T.l_take.F.kp T.l_take.b .nil pass0 (pa_cons (pv 0) (pa_cons pe_int pa_nil))) (fun _ _ => rfl)))
    (pss_cons (ps_set (i := 2) sc.nd rfl (Or.inl rfl) (pe_lst (pa_cons pe_int (pa_cons pe_int pa_nil))))
    (pss_cons (ps_if (pt_cmpR op_eq (pe_call G_l_take (hr.mono (by decide)) (by rfl) T.l_take.g T.l_take.F.kp T.l_take.b .nil pass0 (pa_cons (pv 0) (pa_cons pe_int pa_nil))) pe_int (nomark _)) (pss_cons (ps_set (i := 1) sc.nd rfl (Or.inl rfl) (pe_op op_add pe_int (pe_call G_l_take (hr.mono (by decide)) (by rfl) T.l_take.g T.l_take.F.kp T.l_take.b .nil pass0 (pa_cons (pv 0) (pa_cons pe_int pa_nil)))))
    (pss_one (ps_set (i := 2) sc.nd rfl (Or.inl rfl) (pe_lst (pa_cons pe_int (pa_cons pe_int pa_nil))))))
    pss_nil)
    (pss_cons (ps_set (i := 3) sc.nd rfl (Or.inl rfl) (pe_call G_l_net (hr.mono (by decide)) (by rfl) T.l_net.g T.l_net.F.kp T.l_net.b .nil pass0 (pa_cons (pv 0) (pa_cons (pv 1) (pa_cons (pe_ix ix_seq (pv 2) pe_int (fun _ _ => rfl)) pa_nil)))))
    (pss_cons (ps_set (i := 4) sc.nd rfl (Or.inl rfl) (pe_call G_l_guests (hr.mono (by decide)) (by rfl) T.l_guests.g T.l_guests.F.kp T.l_guests.b .nil pass0 (pa_cons (pv 0) (pa_cons (pe_ix ix_seq (pv 3) pe_int (fun _ _ => rfl)) (pa_cons (pe_ix ix_seq (pv 2) pe_int (fun _ _ => rfl)) pa_nil)))))
    (pss_cons (ps_set (i := 5) sc.nd rfl (Or.inl rfl) (pe_call G_l_cars (hr.mono (by decide)) (by rfl) T.l_cars.g T.l_cars.F.kp T.l_cars.b .nil pass0 (pa_cons (pv 0) (pa_cons (pe_ix ix_seq (pv 3) pe_int (fun _ _ => rfl)) (pa_cons (pe_ix ix_seq (pv 3) pe_int (fun _ _ => rfl)) (pa_cons (pv 4) pa_nil))))))
    (pss_one (ps_ret (pe_lst (pa_cons (pv 1) (pa_cons (pe_ix ix_seq (pv 3) pe_int (fun _ _ => rfl)) (pa_cons (pe_tup (pa_cons (pe_callTy call_tuple_of (by rfl) T.b_tuple PyProof.Rows.boot_tuple (pa_cons (pe_ix ix_seq (pv 4) pe_int (fun _ _ => rfl)) pa_nil)) (pa_cons (pe_callTy call_tuple_of (by rfl) T.b_tuple PyProof.Rows.boot_tuple (pa_cons (pe_ix ix_seq (pv 4) pe_int (fun _ _ => rfl)) pa_nil)) (pa_cons (pe_callTy call_tuple_of (by rfl) T.b_tuple PyProof.Rows.boot_tuple (pa_cons (pv 5) pa_nil)) pa_nil)))) pa_nil))))))))))))
theorem d_l_standing (T : Txt K mg)
    (G_Net_init : FnOk P w K mg base CX0 2 T.Net.init.f T.Net.init.fd P_Net_init (sp_Net_init T))
    (G_Standing_init : FnOk P w K mg base CX0 2 T.Standing.init.f T.Standing.init.fd P_Standing_init (sp_Standing_init T))
    {cdv : Value} {A : Around} {outer : List Env} {s : Shared} {H : Hp} {E : XK} (hr : Room 3 (A.deeper (envOfC "_law_standing" (defScope s_l_standing) s.heap.objs.size T.l_standing.f cdv))) :
    PSs (cxOf CX0 P w K mg base N_l_standing "_law_standing" (defScope s_l_standing) T.l_standing.f cdv A outer s H E).nox (defBody s_l_standing) (t_l_standing T) := by
  have sc := sc_l_standing
  exact (pss_cons (ps_set (i := 2) sc.nd rfl (Or.inl rfl) (pe_make T.Net.mkc G_Net_init (hr.mono (by decide)) (by rfl) T.Net.g T.Net.init.b .nil pass0 (pa_cons (pe_ix ix_seq (pv 0) pe_int (fun _ _ => rfl)) (pa_cons (pe_callTy call_list_of (by rfl) T.b_list PyProof.Rows.boot_list (pa_cons (pe_ix ix_seq (pv 0) pe_int (fun _ _ => rfl)) pa_nil)) pa_nil))))
    (pss_one (ps_ret (pe_make T.Standing.mkc G_Standing_init (hr.mono (by decide)) (by rfl) T.Standing.g T.Standing.init.b .nil pass0 (pa_cons (pv 2) (pa_cons (pe_callTy call_list_of (by rfl) T.b_list PyProof.Rows.boot_list (pa_cons (pe_ix ix_seq (pv 1) pe_int (fun _ _ => rfl)) pa_nil)) (pa_cons (pe_callTy call_list_of (by rfl) T.b_list PyProof.Rows.boot_list (pa_cons (pe_ix ix_seq (pv 1) pe_int (fun _ _ => rfl)) pa_nil)) (pa_cons (pe_callTy call_list_of (by rfl) T.b_list PyProof.Rows.boot_list (pa_cons (pe_ix ix_seq (pv 1) pe_int (fun _ _ => rfl)) pa_nil)) pa_nil))))))))
theorem d_l_shows (T : Txt K mg)
    (G_l_integer : FnOk P w K mg base CX0 1 T.l_integer.f T.l_integer.fd P_l_integer (sp_l_integer T))
    {cdv : Value} {A : Around} {outer : List Env} {s : Shared} {H : Hp} {E : XK} (hr : Room 1 (A.deeper (envOfC "_law_shows" (defScope s_l_shows) s.heap.objs.size T.l_shows.f cdv))) :
    PSs (cxOf CX0 P w K mg base N_l_shows "_law_shows" (defScope s_l_shows) T.l_shows.f cdv A outer s H E).nox (defBody s_l_shows) (t_l_shows T) := by
  have sc := sc_l_shows
  exact (pss_cons (ps_if (pt_not (pt_val (pe_callB call_isi (by rfl) T.b_isinstance PyProof.Rows.boot_isinstance (pa_cons (pv 0) (pa_cons (pe_glob (v := .ref T.Standing.C) (by rfl) T.Standing.g rfl) pa_nil))))) (pss_one (ps_ret pe_bl))
    pss_nil)
    (pss_cons (ps_set (i := 2) sc.nd rfl (Or.inl rfl) (pe_lst (pa_cons (pe_fld (pv 0) rfl) (pa_cons (pe_fld (pv 0) rfl) (pa_cons (pe_fld (pv 0) rfl) pa_nil)))))
    (pss_cons (ps_for PassesOwn.never rfl (pi_range1 (by rfl) T.b_range (pa_cons pe_int pa_nil)) (pg_name (i := 3) sc.nd rfl (Or.inl rfl))
    (pss_cons (ps_if (PW.pt (pw_or (pt_not (pt_val (pe_callB call_isi (by rfl) T.b_isinstance PyProof.Rows.boot_isinstance (pa_cons (pe_ix ix_seq (pv 2) (pv 3) (fun _ _ => rfl)) (pa_cons (pe_bltn (v := .ty "tuple") (by rfl) T.b_tuple (by decide +kernel) rfl) pa_nil))))) (pw_or1 (pt_cmpR op_ne (pe_callB call_len_seq (by rfl) T.b_len PySem.boot_len (pa_cons (pe_ix ix_seq (pv 2) (pv 3) (fun _ _ => rfl)) pa_nil)) (pe_callB call_len_seq (by rfl) T.b_len PySem.boot_len (pa_cons (pe_ix ix_seq (pv 1) (pv 3) (fun _ _ => rfl)) pa_nil)) (nomark _))))) (pss_one (ps_ret pe_bl))
    pss_nil)
    (pss_one (ps_for PassesOwn.never rfl (pi_range1 (by rfl) T.b_range (pa_cons (pe_callB call_len_seq (by rfl) T.b_len PySem.boot_len (pa_cons (pe_ix ix_seq (pv 1) (pv 3) (fun _ _ => rfl)) pa_nil)) pa_nil)) (pg_name (i := 4) sc.nd rfl (Or.inl rfl))
    (pss_one (ps_if (PW.pt (pw_or (pt_not (pt_val (pe_call G_l_integer (hr.mono (by decide)) (by rfl) T.l_integer.g T.l_integer.F.kp T.l_integer.b .nil pass0 (pa_cons (pe_ix ix_seq (pe_ix ix_seq (pv 2) (pv 3) (fun _ _ => rfl)) (pv 4) (fun _ _ => rfl)) pa_nil)))) (pw_or1 (pt_cmpR op_ne (pe_ix ix_seq (pe_ix ix_seq (pv 2) (pv 3) (fun _ _ => rfl)) (pv 4) (fun _ _ => rfl)) (pe_ix ix_seq (pe_ix ix_seq (pv 1) (pv 3) (fun _ _ => rfl)) (pv 4) (fun _ _ => rfl)) (nomark _))))) (pss_one (ps_ret pe_bl))
    pss_nil))))))
    (pss_one (ps_ret pe_bl)))))
theorem d_l_arrows (T : Txt K mg)
    {cdv : Value} {A : Around} {outer : List Env} {s : Shared} {H : Hp} {E : XK} (hr : Room 0 (A.deeper (envOfC "_law_arrows" (defScope s_l_arrows) s.heap.objs.size T.l_arrows.f cdv))) :
    PSs (cxOf CX0 P w K mg base N_l_arrows "_law_arrows" (defScope s_l_arrows) T.l_arrows.f cdv A outer s H E).nox (defBody s_l_arrows) (t_l_arrows T) := by
  have sc := sc_l_arrows
  exact (pss_one (ps_ret (pe_lc (own := [("_law_k", 2)]) (g := (gName 2)) (tt := tYes) rfl sc.nd  (pi_range1 (by rfl) T.b_range (pa_cons (pe_callB call_len_seq (by rfl) T.b_len PySem.boot_len (pa_cons (pv 0) pa_nil)) pa_nil)) (blkOk_by (N := N_l_arrows) (sc := defScope s_l_arrows) (by decide +kernel)) (fun _ _ _ _ _ => (pg_name (i := 2) sc.nd rfl (Or.inl rfl))) (fun _ _ _ _ _ => pts_nil) (fun _ _ _ _ _ => (pe_tup (pa_cons (pe_ix ix_seq (pe_ix ix_seq (pv 0) (pv 2) (fun _ _ => rfl)) (pe_ix ix_seq (pv 1) (pv 2) (fun _ _ => rfl)) (fun _ _ => rfl)) (pa_cons (pe_ix ix_seq (pe_ix ix_seq (pv 0) (pv 2) (fun _ _ => rfl)) (pe_op op_sub pe_int (pe_ix ix_seq (pv 1) (pv 2) (fun _ _ => rfl))) (fun _ _ => rfl)) pa_nil)))))))
theorem d_l_rides (T : Txt K mg)
    (G_l_arrows : FnOk P w K mg base CX0 1 T.l_arrows.f T.l_arrows.fd P_l_arrows (sp_l_arrows T))
    {cdv : Value} {A : Around} {outer : List Env} {s : Shared} {H : Hp} {E : XK} (hr : Room 1 (A.deeper (envOfC "_law_rides" (defScope s_l_rides) s.heap.objs.size T.l_rides.f cdv))) :
    PSs (cxOf CX0 P w K mg base N_l_rides "_law_rides" (defScope s_l_rides) T.l_rides.f cdv A outer s H E).nox (defBody s_l_rides) (t_l_rides T) := by
  have sc := sc_l_rides
  exact (pss_cons (ps_set (i := 2) sc.nd rfl (Or.inl rfl) (pe_call G_l_arrows (hr.mono (by decide)) (by rfl) T.l_arrows.g T.l_arrows.F.kp T.l_arrows.b .nil pass0 (pa_cons (pv 0) (pa_cons (pe_ix ix_seq (pv 1) pe_int (fun _ _ => rfl)) pa_nil))))
    (pss_cons (ps_set (i := 3) sc.nd rfl (Or.inl rfl) (pe_lst pa_nil))
    (pss_cons (ps_for PassesOwn.never rfl (pi_range1 (by rfl) T.b_range (pa_cons (pe_callB call_len_seq (by rfl) T.b_len PySem.boot_len (pa_cons (pv 0) pa_nil)) pa_nil)) (pg_name (i := 4) sc.nd rfl (Or.inl rfl))
    (pss_cons (ps_if (pt_cmpR op_gt (pe_ix ix_seq (pe_ix ix_seq (pv 1) pe_int (fun _ _ => rfl)) (pe_ix ix_seq (pe_ix ix_seq (pv 2) (pv 4) (fun _ _ => rfl)) pe_int (fun _ _ => rfl)) (fun _ _ => rfl)) pe_int (nomark _)) (pss_one (ps_expr (pe_bm PySem.F.plainAttrs_list PySem.F.slot_list_append PySem.F.type_list_append mt_append (pv 3) (pa_cons (pe_tup (pa_cons (pv 4) (pa_cons pe_str pa_nil))) pa_nil))))
    pss_nil)
    (pss_one (ps_if (pt_cmpR op_gt (pe_ix ix_seq (pe_ix ix_seq (pv 1) pe_int (fun _ _ => rfl)) (pe_ix ix_seq (pe_ix ix_seq (pv 2) (pv 4) (fun _ _ => rfl)) pe_int (fun _ _ => rfl)) (fun _ _ => rfl)) pe_int (nomark _)) (pss_one (ps_expr (pe_bm PySem.F.plainAttrs_list PySem.F.slot_list_append PySem.F.type_list_append mt_append (pv 3) (pa_cons (pe_tup (pa_cons (pv 4) (pa_cons pe_str pa_nil))) pa_nil))))
    pss_nil))))
    (pss_one (ps_ret (pv 3))))))
theorem d_l_ride (T : Txt K mg)
    {cdv : Value} {A : Around} {outer : List Env} {s : Shared} {H : Hp} {E : XK} (hr : Room 0 (A.deeper (envOfC "_law_ride" (defScope s_l_ride) s.heap.objs.size T.l_ride.f cdv))) :
    PSs (cxOf CX0 P w K mg base N_l_ride "_law_ride" (defScope s_l_ride) T.l_ride.f cdv A outer s H E).nox (defBody s_l_ride) (t_l_ride T) := by
  have sc := sc_l_ride
  exact (pss_cons (ps_set (i := 3) sc.nd rfl (Or.inl rfl) (pe_ix ix_seq (pv 0) (pe_ix ix_seq (pv 2) pe_int (fun _ _ => rfl)) (fun _ _ => rfl)))
    (pss_cons (ps_set (i := 4) sc.nd rfl (Or.inl rfl) (pe_ix ix_seq (pe_ix ix_seq (pv 1) pe_int (fun _ _ => rfl)) (pe_ix ix_seq (pv 2) pe_int (fun _ _ => rfl)) (fun _ _ => rfl)))
    (pss_cons (ps_if (pt_cmpR op_eq (pe_ix ix_seq (pv 2) pe_int (fun _ _ => rfl)) pe_str (nomark _)) (pss_one (ps_set (i := 4) sc.nd rfl (Or.inl rfl) (pe_op op_sub pe_int (pv 4))))
    pss_nil)
    (pss_cons (ps_set (i := 5) sc.nd rfl (Or.inl rfl) (pe_lst (pa_cons (pe_callTy call_list_of (by rfl) T.b_list PyProof.Rows.boot_list (pa_cons (pe_ix ix_seq (pv 1) pe_int (fun _ _ => rfl)) pa_nil)) (pa_cons (pe_callTy call_list_of (by rfl) T.b_list PyProof.Rows.boot_list (pa_cons (pe_ix ix_seq (pv 1) pe_int (fun _ _ => rfl)) pa_nil)) pa_nil))))
    (pss_cons (ps_set (i := 6) sc.nd rfl (Or.inl rfl) (pe_ix ix_seq (pv 5) (pe_callTy call_int1 (by rfl) T.b_int PyProof.Rows.boot_int (pa_cons (pe_cmpR op_eq (pe_ix ix_seq (pv 2) pe_int (fun _ _ => rfl)) pe_str (nomark _)) pa_nil)) (fun _ _ => rfl)))
    (pss_cons (ps_asg (pe_op op_sub (pe_ix ix_seq (pv 6) (pe_ix ix_seq (pv 3) (pv 4) (fun _ _ => rfl)) (fun _ _ => rfl)) pe_int) (pg_sub (pv 6) (pe_ix ix_seq (pv 3) (pv 4) (fun _ _ => rfl)) set_list))
    (pss_cons (ps_asg (pe_op op_add (pe_ix ix_seq (pv 6) (pe_ix ix_seq (pv 3) (pe_op op_sub pe_int (pv 4)) (fun _ _ => rfl)) (fun _ _ => rfl)) pe_int) (pg_sub (pv 6) (pe_ix ix_seq (pv 3) (pe_op op_sub pe_int (pv 4)) (fun _ _ => rfl)) set_list))
    (pss_cons (ps_set (i := 7) sc.nd rfl (Or.inl rfl) (pe_callTy call_list_of (by rfl) T.b_list PyProof.Rows.boot_list (pa_cons (pe_ix ix_seq (pv 1) pe_int (fun _ _ => rfl)) pa_nil)))
    (pss_cons (ps_asg (pe_op op_sub pe_int (pe_ix ix_seq (pv 7) (pe_ix ix_seq (pv 2) pe_int (fun _ _ => rfl)) (fun _ _ => rfl))) (pg_sub (pv 7) (pe_ix ix_seq (pv 2) pe_int (fun _ _ => rfl)) set_list))
    (pss_one (ps_ret (pe_tup (pa_cons (pe_callTy call_tuple_of (by rfl) T.b_tuple PyProof.Rows.boot_tuple (pa_cons (pe_ix ix_seq (pv 5) pe_int (fun _ _ => rfl)) pa_nil)) (pa_cons (pe_callTy call_tuple_of (by rfl) T.b_tuple PyProof.Rows.boot_tuple (pa_cons (pe_ix ix_seq (pv 5) pe_int (fun _ _ => rfl)) pa_nil)) (pa_cons (pe_callTy call_tuple_of (by rfl) T.b_tuple PyProof.Rows.boot_tuple (pa_cons (pv 7) pa_nil)) pa_nil)))))))))))))))
theorem d_l_reach (T : Txt K mg)
    {cdv : Value} {A : Around} {outer : List Env} {s : Shared} {H : Hp} {E : XK} (hr : Room 0 (A.deeper (envOfC "_law_reach" (defScope s_l_reach) s.heap.objs.size T.l_reach.f cdv))) :
    PSs (cxOf CX0 P w K mg base N_l_reach "_law_reach" (defScope s_l_reach) T.l_reach.f cdv A outer s H E).nox (defBody s_l_reach) (t_l_reach T) := by
  have sc := sc_l_reach
  exact (pss_cons (ps_set (i := 3) sc.nd rfl (Or.inr rfl) (pe_lc (own := [("_law_count", 7)]) (g := (gName 7)) (tt := tYes) rfl sc.nd  (pi_seq (pv 2)) (blkOk_by (N := N_l_reach) (sc := defScope s_l_reach) (by decide +kernel)) (fun _ _ _ _ _ => (pg_name (i := 7) sc.nd rfl (Or.inl rfl))) (fun _ _ _ _ _ => pts_nil) (fun _ _ _ _ _ => (pe_cmpR op_gt (pv 7) pe_int (nomark _)))))
    (pss_cons (ps_for PassesOwn.never rfl (pi_range1 (by rfl) T.b_range (pa_cons (pv 0) pa_nil)) (pg_name (i := 4) sc.nd rfl (Or.inl rfl))
    (pss_cons (ps_set (i := 5) sc.nd rfl (Or.inl rfl) pe_bl)
    (pss_cons (ps_for PassesOwn.never rfl (pi_seq (pv 1)) (pg_name (i := 6) sc.nd rfl (Or.inl rfl))
    (pss_one (ps_if (PW.pt (pw_and (pt_val (pe_ix ix_seq (pv 3) (pe_ix ix_seq (pv 6) pe_int (fun _ _ => rfl)) (fun _ _ => rfl))) (pw_and1 (pt_not (pt_val (pe_ix ix_seq (pv 3) (pe_ix ix_seq (pv 6) pe_int (fun _ _ => rfl)) (fun _ _ => rfl))))))) (pss_cons (ps_asg pe_bl (pg_sub (pv 3) (pe_ix ix_seq (pv 6) pe_int (fun _ _ => rfl)) set_list))
    (pss_one (ps_set (i := 5) sc.nd rfl (Or.inl rfl) pe_bl)))
    pss_nil)))
    (pss_one (ps_if (pt_not (pt_val (pv 5))) (pss_one ps_break)
    pss_nil)))))
    (pss_one (ps_ret (pe_lc (own := [("_law_at", 8)]) (g := (gName 8)) (tt := (tB (tOp (rIx K) (tVar 3) (tVar 8)))) rfl sc.nd  (pi_range1 (by rfl) T.b_range (pa_cons (pv 0) pa_nil)) (blkOk_by (N := N_l_reach) (sc := defScope s_l_reach) (by decide +kernel)) (fun _ _ _ _ _ => (pg_name (i := 8) sc.nd rfl (Or.inl rfl))) (fun _ _ _ _ _ => (pts_one (pt_val (pe_ix ix_seq (pv 3) (pv 8) (fun _ _ => rfl))))) (fun _ _ _ _ _ => (pv 8)))))))
theorem d_l_reaches (T : Txt K mg)
    (G_l_arrows : FnOk P w K mg base CX0 1 T.l_arrows.f T.l_arrows.fd P_l_arrows (sp_l_arrows T))
    (G_l_reach : FnOk P w K mg base CX0 1 T.l_reach.f T.l_reach.fd P_l_reach (sp_l_reach T))
    {cdv : Value} {A : Around} {outer : List Env} {s : Shared} {H : Hp} {E : XK} (hr : Room 1 (A.deeper (envOfC "_law_reaches" (defScope s_l_reaches) s.heap.objs.size T.l_reaches.f cdv))) :
    PSs (cxOf CX0 P w K mg base N_l_reaches "_law_reaches" (defScope s_l_reaches) T.l_reaches.f cdv A outer s H E).nox (defBody s_l_reaches) (t_l_reaches T) := by
  have sc := sc_l_reaches
  exact (pss_cons (ps_set (i := 2) sc.nd rfl (Or.inl rfl) (pe_call G_l_arrows (hr.mono (by decide)) (by rfl) T.l_arrows.g T.l_arrows.F.kp T.l_arrows.b .nil pass0 (pa_cons (pe_ix ix_seq (pv 0) pe_int (fun _ _ => rfl)) (pa_cons (pe_ix ix_seq (pv 1) pe_int (fun _ _ => rfl)) pa_nil))))
    (pss_cons (ps_setLc (i := 3) (own := [("_law_pair", 4)]) (g := (gName 4)) (tt := tYes) rfl sc.nd rfl rfl (sw_true rfl rfl rfl (by decide +kernel)) (pi_seq (pv 2)) (blkOk_by (N := N_l_reaches) (sc := defScope s_l_reaches) (by decide +kernel)) (fun _ _ _ _ _ => (pg_name (i := 4) sc.nd rfl (Or.inl rfl))) (fun _ _ _ _ _ => pts_nil) (fun _ _ _ _ _ => (pe_tup (pa_cons (pe_ix ix_seq (pv 4) pe_int (fun _ _ => rfl)) (pa_cons (pe_ix ix_seq (pv 4) pe_int (fun _ _ => rfl)) pa_nil)))))
    (pss_one (ps_ret (pe_lst (pa_cons (pe_call G_l_reach (hr.mono (by decide)) (by rfl) T.l_reach.g T.l_reach.F.kp T.l_reach.b .nil pass0 (pa_cons (pe_ix ix_seq (pv 0) pe_int (fun _ _ => rfl)) (pa_cons (pv 2) (pa_cons (pe_ix ix_seq (pv 1) pe_int (fun _ _ => rfl)) pa_nil)))) (pa_cons (pe_call G_l_reach (hr.mono (by decide)) (by rfl) T.l_reach.g T.l_reach.F.kp T.l_reach.b .nil pass0 (pa_cons (pe_ix ix_seq (pv 0) pe_int (fun _ _ => rfl)) (pa_cons (pv 3) (pa_cons (pe_ix ix_seq (pv 1) pe_int (fun _ _ => rfl)) pa_nil)))) pa_nil)))))))
theorem d_l_alive (T : Txt K mg)
    (G_l_arrows : FnOk P w K mg base CX0 1 T.l_arrows.f T.l_arrows.fd P_l_arrows (sp_l_arrows T))
    (G_l_reaches : FnOk P w K mg base CX0 2 T.l_reaches.f T.l_reaches.fd P_l_reaches (sp_l_reaches T))
    (G_l_rides : FnOk P w K mg base CX0 2 T.l_rides.f T.l_rides.fd P_l_rides (sp_l_rides T))
    {cdv : Value} {A : Around} {outer : List Env} {s : Shared} {H : Hp} {E : XK} (hr : Room 2 (A.deeper (envOfC "_law_alive" (defScope s_l_alive) s.heap.objs.size T.l_alive.f cdv))) :
    PSs (cxOf CX0 P w K mg base N_l_alive "_law_alive" (defScope s_l_alive) T.l_alive.f cdv A outer s H E).nox (defBody s_l_alive) (t_l_alive T) := by
  have sc := sc_l_alive
  exact (pss_cons (ps_set (i := 3) sc.nd rfl (Or.inl rfl) (pe_op op_rep (pe_lst (pa_cons pe_bl pa_nil)) (pe_ix ix_seq (pv 0) pe_int (fun _ _ => rfl))))
    (pss_cons (ps_set (i := 4) sc.nd rfl (Or.inl rfl) (pe_op op_rep (pe_lst (pa_cons pe_bl pa_nil)) (pe_callB call_len_seq (by rfl) T.b_len PySem.boot_len (pa_cons (pe_ix ix_seq (pv 0) pe_int (fun _ _ => rfl)) pa_nil))))
    (pss_cons (ps_if (pt_cmpR op_notN (pv 2) pe_non (nomark _)) (pss_cons (ps_for PassesOwn.never rfl (pi_seq (pv 2)) (pg_name (i := 5) sc.nd rfl (Or.inl rfl))
    (pss_cons (ps_for PassesOwn.never rfl (pi_range1 (by rfl) T.b_range (pa_cons (pe_ix ix_seq (pv 0) pe_int (fun _ _ => rfl)) pa_nil)) (pg_name (i := 6) sc.nd rfl (Or.inl rfl))
    (pss_one (ps_if (pt_cmpR op_gt (pe_op op_add (pe_ix ix_seq (pe_ix ix_seq (pv 5) pe_int (fun _ _ => rfl)) (pv 6) (fun _ _ => rfl)) (pe_ix ix_seq (pe_ix ix_seq (pv 5) pe_int (fun _ _ => rfl)) (pv 6) (fun _ _ => rfl))) pe_int (nomark _)) (pss_one (ps_asg pe_bl (pg_sub (pv 3) (pv 6) set_list)))
    pss_nil)))
    (pss_one (ps_for PassesOwn.never rfl (pi_seq (pe_call G_l_rides (hr.mono (by decide)) (by rfl) T.l_rides.g T.l_rides.F.kp T.l_rides.b .nil pass0 (pa_cons (pe_ix ix_seq (pv 0) pe_int (fun _ _ => rfl)) (pa_cons (pv 5) pa_nil)))) (pg_name (i := 7) sc.nd rfl (Or.inl rfl))
    (pss_one (ps_asg pe_bl (pg_sub (pv 4) (pe_ix ix_seq (pv 7) pe_int (fun _ _ => rfl)) set_list)))))))
    (pss_one (ps_ret (pe_lst (pa_cons (pv 3) (pa_cons (pv 4) pa_nil))))))
    pss_nil)
    (pss_cons (ps_set (i := 8) sc.nd rfl (Or.inr rfl) (pe_call G_l_reaches (hr.mono (by decide)) (by rfl) T.l_reaches.g T.l_reaches.F.kp T.l_reaches.b .nil pass0 (pa_cons (pv 0) (pa_cons (pv 1) pa_nil))))
    (pss_cons (ps_set (i := 9) sc.nd rfl (Or.inl rfl) (pe_cmpR op_gt (pe_callB call_len_seq (by rfl) T.b_len PySem.boot_len (pa_cons (pe_lc (own := [("_law_at", 6)]) (g := (gName 6)) (tt := (tTest (tOp (rIn K false) (tVar 6) (tOp (rIx K) (tVar 8) (tC (.int 1)))))) rfl sc.nd  (pi_seq (pe_ix ix_seq (pv 8) pe_int (fun _ _ => rfl))) (blkOk_by (N := N_l_alive) (sc := defScope s_l_alive) (by decide +kernel)) (fun _ _ _ _ _ => (pg_name (i := 6) sc.nd rfl (Or.inl rfl))) (fun _ _ _ _ _ => (pts_one (pt_cmpR op_in_seq (pv 6) (pe_ix ix_seq (pv 8) pe_int (fun _ _ => rfl)) (by rfl)))) (fun _ _ _ _ _ => (pv 6))) pa_nil)) pe_int (nomark _)))
    (pss_cons (ps_for PassesOwn.never rfl (pi_range1 (by rfl) T.b_range (pa_cons (pe_ix ix_seq (pv 0) pe_int (fun _ _ => rfl)) pa_nil)) (pg_name (i := 6) sc.nd rfl (Or.inl rfl))
    (pss_one (ps_asg (pe_or (pv 9) (pe_or (pe_cmpR op_in_seq (pv 6) (pe_ix ix_seq (pv 8) pe_int (fun _ _ => rfl)) (by rfl)) (pe_one (pe_cmpR op_in_seq (pv 6) (pe_ix ix_seq (pv 8) pe_int (fun _ _ => rfl)) (by rfl))))) (pg_sub (pv 3) (pv 6) set_list))))
    (pss_cons (ps_set (i := 10) sc.nd rfl (Or.inl rfl) (pe_call G_l_arrows (hr.mono (by decide)) (by rfl) T.l_arrows.g T.l_arrows.F.kp T.l_arrows.b .nil pass0 (pa_cons (pe_ix ix_seq (pv 0) pe_int (fun _ _ => rfl)) (pa_cons (pe_ix ix_seq (pv 1) pe_int (fun _ _ => rfl)) pa_nil))))
    (pss_cons (ps_for PassesOwn.never rfl (pi_range1 (by rfl) T.b_range (pa_cons (pe_callB call_len_seq (by rfl) T.b_len PySem.boot_len (pa_cons (pv 10) pa_nil)) pa_nil)) (pg_name (i := 11) sc.nd rfl (Or.inl rfl))
    (pss_one (ps_asg (pe_or (pv 9) (pe_or (pe_cmpR op_in_seq (pe_ix ix_seq (pe_ix ix_seq (pv 10) (pv 11) (fun _ _ => rfl)) pe_int (fun _ _ => rfl)) (pe_ix ix_seq (pv 8) pe_int (fun _ _ => rfl)) (by rfl)) (pe_one (pe_cmpR op_in_seq (pe_ix ix_seq (pe_ix ix_seq (pv 10) (pv 11) (fun _ _ => rfl)) pe_int (fun _ _ => rfl)) (pe_ix ix_seq (pv 8) pe_int (fun _ _ => rfl)) (by rfl))))) (pg_sub (pv 4) (pv 11) set_list))))
    (pss_one (ps_ret (pe_lst (pa_cons (pv 3) (pa_cons (pv 4) pa_nil)))))))))))))
theorem d_l_is_list (T : Txt K mg)
    (G_l_integer : FnOk P w K mg base CX0 1 T.l_integer.f T.l_integer.fd P_l_integer (sp_l_integer T))
    {cdv : Value} {A : Around} {outer : List Env} {s : Shared} {H : Hp} {E : XK} (hr : Room 1 (A.deeper (envOfC "_law_is_list" (defScope s_l_is_list) s.heap.objs.size T.l_is_list.f cdv))) :
    PSs (cxOf CX0 P w K mg base N_l_is_list "_law_is_list" (defScope s_l_is_list) T.l_is_list.f cdv A outer s H E).nox (defBody s_l_is_list) (t_l_is_list T) := by
  have sc := sc_l_is_list
  exact (pss_cons (ps_if (PW.pt (pw_or (pt_not (pt_val (pe_callB call_isi (by rfl) T.b_isinstance PyProof.Rows.boot_isinstance (pa_cons (pv 0) (pa_cons (pe_bltn (v := .ty "list") (by rfl) T.b_list (by decide +kernel) rfl) pa_nil))))) (pw_or1 (pt_cmpR op_ne (pe_callB call_len_seq (by rfl) T.b_len PySem.boot_len (pa_cons (pv 0) pa_nil)) (pe_callB call_len_seq (by rfl) T.b_len PySem.boot_len (pa_cons (pv 1) pa_nil)) (nomark _))))) (pss_one (ps_ret pe_bl))
    pss_nil)
    (pss_cons (ps_for PassesOwn.never rfl (pi_range1 (by rfl) T.b_range (pa_cons (pe_callB call_len_seq (by rfl) T.b_len PySem.boot_len (pa_cons (pv 1) pa_nil)) pa_nil)) (pg_name (i := 2) sc.nd rfl (Or.inl rfl))
    (pss_one (ps_if (PW.pt (pw_or (pt_not (pt_val (pe_call G_l_integer (hr.mono (by decide)) (by rfl) T.l_integer.g T.l_integer.F.kp T.l_integer.b .nil pass0 (pa_cons (pe_ix ix_seq (pv 0) (pv 2) (fun _ _ => rfl)) pa_nil)))) (pw_or1 (pt_cmpR op_ne (pe_ix ix_seq (pv 0) (pv 2) (fun _ _ => rfl)) (pe_ix ix_seq (pv 1) (pv 2) (fun _ _ => rfl)) (nomark _))))) (pss_one (ps_ret pe_bl))
    pss_nil)))
    (pss_one (ps_ret pe_bl))))
theorem d_l_are_rides (T : Txt K mg)
    (G_l_integer : FnOk P w K mg base CX0 1 T.l_integer.f T.l_integer.fd P_l_integer (sp_l_integer T))
    {cdv : Value} {A : Around} {outer : List Env} {s : Shared} {H : Hp} {E : XK} (hr : Room 1 (A.deeper (envOfC "_law_are_rides" (defScope s_l_are_rides) s.heap.objs.size T.l_are_rides.f cdv))) :
    PSs (cxOf CX0 P w K mg base N_l_are_rides "_law_are_rides" (defScope s_l_are_rides) T.l_are_rides.f cdv A outer s H E).nox (defBody s_l_are_rides) (t_l_are_rides T) := by
  have sc := sc_l_are_rides
  exact (pss_cons (ps_if (pt_not (pt_val (pe_callB call_isi (by rfl) T.b_isinstance PyProof.Rows.boot_isinstance (pa_cons (pv 0) (pa_cons (pe_bltn (v := .ty "list") (by rfl) T.b_list (by decide +kernel) rfl) pa_nil))))) (pss_one (ps_ret pe_bl))
    pss_nil)
    (pss_cons (ps_for PassesOwn.never rfl (pi_seq (pv 0)) (pg_name (i := 2) sc.nd rfl (Or.inl rfl))
    (pss_cons (ps_if (PW.pt (pw_or (pt_not (pt_val (pe_callB call_isi (by rfl) T.b_isinstance PyProof.Rows.boot_isinstance (pa_cons (pv 2) (pa_cons (pe_bltn (v := .ty "tuple") (by rfl) T.b_tuple (by decide +kernel) rfl) pa_nil))))) (pw_or (pt_cmpR op_ne (pe_callB call_len_seq (by rfl) T.b_len PySem.boot_len (pa_cons (pv 2) pa_nil)) pe_int (nomark _)) (pw_or1 (pt_not (pt_val (pe_call G_l_integer (hr.mono (by decide)) (by rfl) T.l_integer.g T.l_integer.F.kp T.l_integer.b .nil pass0 (pa_cons (pe_ix ix_seq (pv 2) pe_int (fun _ _ => rfl)) pa_nil)))))))) (pss_one (ps_ret pe_bl))
    pss_nil)
    (pss_cons (ps_if (PW.pt (pw_or (pt_not (pt_val (pe_callB call_isi (by rfl) T.b_isinstance PyProof.Rows.boot_isinstance (pa_cons (pe_ix ix_seq (pv 2) pe_int (fun _ _ => rfl)) (pa_cons (pe_bltn (v := .ty "str") (by rfl) T.b_str (by decide +kernel) rfl) pa_nil))))) (pw_or1 (pt_cmpR op_notIn_seq (pe_ix ix_seq (pv 2) pe_int (fun _ _ => rfl)) (pe_lst (pa_cons pe_str (pa_cons pe_str pa_nil))) (by rfl))))) (pss_one (ps_ret pe_bl))
    pss_nil)
    (pss_one (ps_if (PW.pt (pw_or (pt_cmpR op_lt (pe_ix ix_seq (pv 2) pe_int (fun _ _ => rfl)) pe_int (nomark _)) (pw_or1 (pt_cmpR op_ge (pe_ix ix_seq (pv 2) pe_int (fun _ _ => rfl)) (pe_callB call_len_seq (by rfl) T.b_len PySem.boot_len (pa_cons (pv 1) pa_nil)) (nomark _))))) (pss_one (ps_ret pe_bl))
    pss_nil)))))
    (pss_one (ps_ret pe_bl))))
theorem d_l_end (T : Txt K mg)
    (G_l_ride : FnOk P w K mg base CX0 1 T.l_ride.f T.l_ride.fd P_l_ride (sp_l_ride T))
    (G_l_rides : FnOk P w K mg base CX0 2 T.l_rides.f T.l_rides.fd P_l_rides (sp_l_rides T))
    {cdv : Value} {A : Around} {outer : List Env} {s : Shared} {H : Hp} {E : XK} (hr : Room 2 (A.deeper (envOfC "_law_end" (defScope s_l_end) s.heap.objs.size T.l_end.f cdv))) :
    PSs (cxOf CX0 P w K mg base N_l_end "_law_end" (defScope s_l_end) T.l_end.f cdv A outer s H E).nox (defBody s_l_end) (t_l_end T) := by
  have sc := sc_l_end
  exact (pss_cons (ps_for PassesOwn.never rfl (pi_seq (pv 2)) (pg_name (i := 3) sc.nd rfl (Or.inl rfl))
    (pss_cons (ps_if (pt_cmpR (op_notInD (room65 hr)) (pv 3) (pe_call G_l_rides (hr.mono (by decide)) (by rfl) T.l_rides.g T.l_rides.F.kp T.l_rides.b .nil pass0 (pa_cons (pv 0) (pa_cons (pv 1) pa_nil))) (by rfl)) (pss_one (ps_ret pe_non))
    pss_nil)
    (pss_one (ps_set (i := 1) sc.nd rfl (Or.inl rfl) (pe_call G_l_ride (hr.mono (by decide)) (by rfl) T.l_ride.g T.l_ride.F.kp T.l_ride.b .nil pass0 (pa_cons (pv 0) (pa_cons (pv 1) (pa_cons (pv 3) pa_nil))))))))
    (pss_one (ps_ret (pv 1))))
end
end TR
namespace TR
open PySem L2 PyProof.Rows
open Evl (Ex EvT fresh_back)
section
variable {K : PySem.W.Frag} {mg : Str → Option Value} {T : Txt K mg} {H H' : Hp} {a an p : Addr} {w : Wd} {s : Sd} {ds : List D} {σ : L2.St} {ta tb to : TE} {tr : TA} {d : D}
theorem NetAt.mono (k : Kp H H') (h : NetAt T H a w) : NetAt T H' a w := by
  obtain ⟨o, dx, t, h1, h2⟩ := h
  exact ⟨o, dx, t, k.at h1, h2.mono k⟩
theorem StaA.mono (k : Kp H H') (h : StaA T H a an w s) : StaA T H' a an w s := by
  obtain ⟨o, n, dx, tr, tb, tc, h1, h2, h3, h4⟩ := h
  exact ⟨o, n.mono k, dx, tr, tb, tc, k.at h1, h2.mono k, h3.mono k, h4.mono k⟩
theorem Sta.mono (k : Kp H H') (h : Sta T H a w s) : Sta T H' a w s := by
  obtain ⟨an, h⟩ := h
  exact ⟨an, h.mono k⟩
theorem Lst.mono (e : Ex H H') (h : Lst H p ds) : Lst H' p ds := by
  obtain ⟨vs, h1, f⟩ := h
  exact ⟨vs, e _ _ h1, f.mono (Kp.ex e)⟩
theorem Seq.mono (e : Ex H H') (h : Seq H p ds) : Seq H' p ds := by
  obtain ⟨vs, h1, f⟩ := h
  exact ⟨vs, h1.imp (e _ _) (e _ _), f.mono (Kp.ex e)⟩
theorem Lst.seq (h : Lst H p ds) : Seq H p ds := by
  obtain ⟨vs, h1, f⟩ := h
  exact ⟨vs, .inl h1, f⟩
theorem ne_sr : ¬ (("stations" : Str) = "ropes") := by decide +kernel
theorem netF_st (n : Nat) (t : Addr) : (netF n t).lookup ("stations" : Str) = some (vn n) := by
  unfold netF; rw [lookup_putF, if_neg ne_sr, lookup_putF, if_pos rfl]
theorem netF_rp (n : Nat) (t : Addr) : (netF n t).lookup ("ropes" : Str) = some (.ref t) := by
  unfold netF; rw [lookup_putF, if_pos rfl]
theorem netF_len (n : Nat) (t : Addr) : (netF n t).length ≤ 2 := Nat.le_trans (length_putF _ _ _) (Nat.succ_le_succ (length_putF _ _ _))
theorem staF_net (an tr tb tc : Addr) : (staF an tr tb tc).lookup ("net" : Str) = some (.ref an) := by
  unfold staF
  rw [lookup_putF, if_neg (by decide +kernel), lookup_putF, if_neg (by decide +kernel), lookup_putF, if_neg (by decide +kernel), lookup_putF, if_pos rfl]
theorem staF_reds (an tr tb tc : Addr) : (staF an tr tb tc).lookup ("reds" : Str) = some (.ref tr) := by
  unfold staF
  rw [lookup_putF, if_neg (by decide +kernel), lookup_putF, if_neg (by decide +kernel), lookup_putF, if_pos rfl]
theorem staF_blues (an tr tb tc : Addr) : (staF an tr tb tc).lookup ("blues" : Str) = some (.ref tb) := by
  unfold staF
  rw [lookup_putF, if_neg (by decide +kernel), lookup_putF, if_pos rfl]
theorem staF_cars (an tr tb tc : Addr) : (staF an tr tb tc).lookup ("cars" : Str) = some (.ref tc) := by
  unfold staF; rw [lookup_putF, if_pos rfl]
theorem staF_no (an tr tb tc : Addr) {m : Str} (h1 : ¬ m = "cars") (h2 : ¬ m = "blues") (h3 : ¬ m = "reds") (h4 : ¬ m = "net") : (staF an tr tb tc).lookup m = none := by
  unfold staF
  rw [lookup_putF, if_neg h1, lookup_putF, if_neg h2, lookup_putF, if_neg h3, lookup_putF, if_neg h4]
  rfl
theorem evd_stations (N : NetAt T H a w) (ha : EvD ta σ H (.adr a)) : EvD (tFld K ta "stations") σ H (dn w.n) := by
  obtain ⟨o, dx, t, h1, h2⟩ := N
  exact evd_fld ha h1 T.Net.cl T.Net.nStations (netF_st _ _) (.int _)
theorem evd_ropes (N : NetAt T H a w) (ha : EvD ta σ H (.adr a)) : EvD (tFld K ta "ropes") σ H (.tup (w.rs.map dPair)) := by
  obtain ⟨o, dx, t, h1, h2⟩ := N
  exact evd_fld ha h1 T.Net.cl T.Net.nRopes (netF_rp _ _) h2
theorem evd_net (S : StaA T H a an w s) (ha : EvD ta σ H (.adr a)) : EvD (tFld K ta "net") σ H (.adr an) := by
  obtain ⟨o, n, dx, tr, tb, tc, h1, h2, h3, h4⟩ := S
  exact evd_fld ha h1 T.Standing.cl T.Standing.nNet (staF_net _ _ _ _) (.adr _)
theorem evd_reds (S : StaA T H a an w s) (ha : EvD ta σ H (.adr a)) : EvD (tFld K ta "reds") σ H (.tup (s.reds.map dn)) := by
  obtain ⟨o, n, dx, tr, tb, tc, h1, h2, h3, h4⟩ := S
  exact evd_fld ha h1 T.Standing.cl T.Standing.nReds (staF_reds _ _ _ _) h2
theorem evd_blues (S : StaA T H a an w s) (ha : EvD ta σ H (.adr a)) : EvD (tFld K ta "blues") σ H (.tup (s.blues.map dn)) := by
  obtain ⟨o, n, dx, tr, tb, tc, h1, h2, h3, h4⟩ := S
  exact evd_fld ha h1 T.Standing.cl T.Standing.nBlues (staF_blues _ _ _ _) h3
theorem evd_cars (S : StaA T H a an w s) (ha : EvD ta σ H (.adr a)) : EvD (tFld K ta "cars") σ H (.tup (s.cars.map dn)) := by
  obtain ⟨o, n, dx, tr, tb, tc, h1, h2, h3, h4⟩ := S
  exact evd_fld ha h1 T.Standing.cl T.Standing.nCars (staF_cars _ _ _ _) h4
theorem StaA.nt (S : StaA T H a an w s) : NetAt T H an w := S.2.1
theorem StaA.ok (S : StaA T H a an w s) : SOk w s := S.1
theorem NetAt.ok (N : NetAt T H a w) : WOk w := N.1
theorem Sta.ok (S : Sta T H a w s) : SOk w s := S.choose_spec.1
theorem Sta.wok (S : Sta T H a w s) : WOk w := S.choose_spec.2.1.1
theorem evd_call {sp : Sp} {dvs : List V} {E : XK} (h : EvDs tr σ H ds) (hs : ∀ vs H1, Ex H H1 → FzL H1 vs ds → ∀ Q : VK, RetD d H1 Q → sp (vs ++ dvs) H1 Q E) : EvD (tCall sp dvs E tr) σ H d := fun H1 e Q q =>
  h H1 e _ fun vs H2 e2 f => hs vs H2 (e.trans e2) f Q fun v H3 e3 fv => q v H3 (e2.trans e3) fv
theorem evd_callF {sp : Sp} {E : XK} (h : EvDs tr σ H ds) (hf : ds.all D.flat = true) (hs : ∀ H1, Ex H H1 → ∀ Q : VK, RetD d H1 Q → sp (ds.map D.v) H1 Q E) : EvD (tCall sp [] E tr) σ H d :=
  evd_call h fun vs H1 e f Q q => by rw [List.append_nil, f.flat_of hf]; exact hs H1 e Q q
theorem evn_callF {sp : Sp} {E : XK} {es : List D} (h : EvDs tr σ H ds) (hf : ds.all D.flat = true) (hs : ∀ H1, Ex H H1 → ∀ Q : VK, RetN es H1 Q → sp (ds.map D.v) H1 Q E) : EvN (tCall sp [] E tr) σ H es := fun H1 e Q q =>
  h H1 e _ fun vs H2 e2 f => by
    rw [List.append_nil, f.flat_of hf]
    exact hs H2 (e.trans e2) Q fun p us H3 hp e3 h3 g => q p us H3 (fresh_back e2 hp) (e2.trans e3) h3 g
theorem evd_methF {C : Addr} {m : Str} {sp : Sp} {E : XK} {dx : Addr} {fs : List (Str × V)} (ho : EvD to σ H (.adr a)) (hi : H a = some (.ins C dx fs)) (hm : fs.lookup m = none) (h : EvDs tr σ H ds) (hf : ds.all D.flat = true)
    (hs : ∀ H1, Ex H H1 → ∀ Q : VK, RetD d H1 Q → sp (.ref a :: ds.map D.v) H1 Q E) : EvD (tMeth C m sp [] E to tr) σ H d := fun H1 e Q q =>
  ho H1 e _ fun v H2 e2 fv => ⟨a, dx, fs, fv.adr_of, (e.trans e2) a _ hi, hm, h H2 (e.trans e2) _ fun vs H3 e3 f => by
    rw [List.append_nil, f.flat_of hf, fv.adr_of]
    exact hs H3 ((e.trans e2).trans e3) Q fun v H4 e4 g => q v H4 ((e2.trans e3).trans e4) g⟩
/-- a statement that is a call whose value is dropped -/
theorem s_drop {E : Ends} {te : TE} (h : EvD te σ H d) (k : ∀ H1, Ex H H1 → E.nx σ H1) : tDrop te E σ H := h H (Ex.refl H) _ fun v H1 e _ => k H1 e
theorem q_drop {E : Ends} {te : TE} {tz : TS} (h : EvD te σ H d) (k : ∀ H1, Ex H H1 → tz E σ H1) : tSeq (tDrop te) tz E σ H := s_drop (E := { E with nx := tz E }) h k
theorem et_chain2 {r r' : R2} {tc : TE} {i j k : Int} {p p' : Int → Int → Bool} (ha : EvD ta σ H (.int i)) (hb : EvD tb σ H (.int j)) (hc : EvD tc σ H (.int k)) (hr : r = (rI0 fun i j => .bl (p i j)) := by rfl) (hr' : r' = (rI0 fun i j => .bl (p' i j)) := by rfl) :
    EvT (tTest (tChain r r' ta tb tc)) σ H (p i j && p' j k) := et_test (evd_chain hr hr' ha hb hc)
theorem evd_red_car (S : Sta T H a w s) (ho : EvD to σ H (.adr a)) {k : Nat} (ha : EvD ta σ H (dn k)) (hk : k < w.rs.length) : EvD (tMeth T.Standing.C "red_car" (sp_Standing_red_car T) [] E0 to (tCons ta tNil)) σ H (dn (redSt w s k)) := by
  obtain ⟨an, o, n, dx, tr, tb, tc, h1, h2⟩ := id S
  exact evd_methF ho h1 (staF_no _ _ _ _ (by decide +kernel) (by decide +kernel) (by decide +kernel) (by decide +kernel)) (evds_cons ha evds_nil) rfl fun H1 e Q q => ⟨a, w, s, k, rfl, S.mono (Kp.ex e), hk, q⟩
theorem evd_blue_car (S : Sta T H a w s) (ho : EvD to σ H (.adr a)) {k : Nat} (ha : EvD ta σ H (dn k)) (hk : k < w.rs.length) : EvD (tMeth T.Standing.C "blue_car" (sp_Standing_blue_car T) [] E0 to (tCons ta tNil)) σ H (dn (bluSt w s k)) := by
  obtain ⟨an, o, n, dx, tr, tb, tc, h1, h2⟩ := id S
  exact evd_methF ho h1 (staF_no _ _ _ _ (by decide +kernel) (by decide +kernel) (by decide +kernel) (by decide +kernel)) (evds_cons ha evds_nil) rfl fun H1 e Q q => ⟨a, w, s, k, rfl, S.mono (Kp.ex e), hk, q⟩
theorem evd_check_station (N : NetAt T H an w) (ho : EvD to σ H (.adr an)) {k : Nat} (ha : EvD ta σ H (dn k)) (hk : k < w.n) : EvD (tCall (sp_check_station T) [] E0 (tCons to (tCons ta tNil))) σ H .non :=
  evd_callF (evds_cons ho (evds_cons ha evds_nil)) rfl fun H1 e Q q => ⟨an, w, k, rfl, N.mono (Kp.ex e), hk, q⟩
theorem evd_check_rope (N : NetAt T H an w) (ho : EvD to σ H (.adr an)) {k : Nat} (ha : EvD ta σ H (dn k)) (hk : k < w.rs.length) : EvD (tCall (sp_check_rope T) [] E0 (tCons to (tCons ta tNil))) σ H .non :=
  evd_callF (evds_cons ho (evds_cons ha evds_nil)) rfl fun H1 e Q q => ⟨an, w, k, rfl, N.mono (Kp.ex e), hk, q⟩
theorem evd_far_end (N : NetAt T H an w) (ho : EvD to σ H (.adr an)) {k x : Nat} (ha : EvD ta σ H (dn k)) (hb : EvD tb σ H (dn x)) (hk : k < w.rs.length) : EvD (tCall (sp_far_end T) [] E0 (tCons to (tCons ta (tCons tb tNil)))) σ H (dn (far (rope w k) x)) :=
  evd_callF (evds_cons ho (evds_cons ha (evds_cons hb evds_nil))) rfl fun H1 e Q q => ⟨an, w, k, x, rfl, N.mono (Kp.ex e), hk, q⟩
theorem evd_car_station (S : Sta T H a w s) (ho : EvD to σ H (.adr a)) {k : Nat} {c : Bool} (ha : EvD ta σ H (dn k)) (hb : EvD tb σ H (.str (colS c))) (hk : k < w.rs.length) : EvD (tCall (sp_car_station T) [] E0 (tCons to (tCons ta (tCons tb tNil)))) σ H (dn (carSt w s k c)) :=
  evd_callF (evds_cons ho (evds_cons ha (evds_cons hb evds_nil))) rfl fun H1 e Q q => ⟨a, w, s, k, c, rfl, S.mono (Kp.ex e), hk, q⟩
theorem evd_guests_of (S : Sta T H a w s) (ho : EvD to σ H (.adr a)) {c : Bool} (hb : EvD tb σ H (.str (colS c))) : EvD (tCall (sp_guests_of T) [] E0 (tCons to (tCons tb tNil))) σ H (.tup ((gs s c).map dn)) :=
  evd_callF (evds_cons ho (evds_cons hb evds_nil)) rfl fun H1 e Q q => ⟨a, w, s, c, rfl, S.mono (Kp.ex e), q⟩
theorem evn_arrows_of (S : Sta T H a w s) (ho : EvD to σ H (.adr a)) : EvN (tCall (sp_arrows_of T) [] E0 (tCons to tNil)) σ H ((arrows w s).map dPair) :=
  evn_callF (evds_cons ho evds_nil) rfl fun H1 e Q q => ⟨a, w, s, rfl, S.mono (Kp.ex e), q⟩
theorem evn_red_reach (S : Sta T H a w s) (ho : EvD to σ H (.adr a)) : EvN (tCall (sp_red_reach T) [] E0 (tCons to tNil)) σ H ((redL w s).map dn) :=
  evn_callF (evds_cons ho evds_nil) rfl fun H1 e Q q => ⟨a, w, s, rfl, S.mono (Kp.ex e), q⟩
theorem evn_blue_reach (S : Sta T H a w s) (ho : EvD to σ H (.adr a)) : EvN (tCall (sp_blue_reach T) [] E0 (tCons to tNil)) σ H ((bluL w s).map dn) :=
  evn_callF (evds_cons ho evds_nil) rfl fun H1 e Q q => ⟨a, w, s, rfl, S.mono (Kp.ex e), q⟩
theorem evd_can_meet (S : Sta T H a w s) (ho : EvD to σ H (.adr a)) : EvD (tCall (sp_can_meet T) [] E0 (tCons to tNil)) σ H (.bl (meets w s)) :=
  evd_callF (evds_cons ho evds_nil) rfl fun H1 e Q q => ⟨a, w, s, rfl, S.mono (Kp.ex e), q⟩
theorem evd_con {C dx : Addr} {fs : List (Str × V)} {f : Str} {v : V} {u : Value} (ha : EvD ta σ H (.adr a)) (ho : H a = some (.ins C dx fs)) (hc : Cls K C) (hn : Con K C f v u) (hl : fs.lookup f = none) (hf : Fz H v d) : EvD (tCon K ta f) σ H d := fun H1 e Q q =>
  ha H1 e _ fun w H2 e2 fw => by
    rw [fw.adr_of]
    exact ⟨a, C, dx, fs, v, u, rfl, (e.trans e2) a _ ho, hc, hn, hl, q v H2 e2 (hf.mono (Kp.ex (e.trans e2)))⟩
theorem evd_cval {C : Addr} {f : Str} {v : V} {u mc : Value} (hr : ClX.CRead K C mc) (hn : ClX.CVal K C mc f v u) (hf : Fz H v d) : EvD (ClX.tCVal K (tC (.ref C)) f) σ H d := fun H1 e Q q =>
  ⟨C, mc, v, u, rfl, hr, hn, q v H1 (Ex.refl _) (hf.mono (Kp.ex e))⟩
theorem nats_int (l : List Nat) : nats l = (l.map fun n : Nat => (n : Int)).map V.int := by unfold nats; rw [List.map_map]; rfl
theorem sum_int (l : List Nat) : (l.map fun n : Nat => (n : Int)).sum = (l.sum : Nat) := by
  induction l with
  | nil => rfl
  | cons a l ih => rw [List.map_cons, List.sum_cons, List.sum_cons, ih]; omega
theorem evd_sum {l : List Nat} (ha : EvD ta σ H (.adr p)) (hp : Seq H p (l.map dn)) : EvD (tCB (rSumS K) (tCons ta tNil)) σ H (dn l.sum) := fun H1 e Q q =>
  ha H1 e _ fun v H2 e2 fv => by
    obtain ⟨vs, hp, f⟩ := hp
    have ev := f.nats_of
    subst ev
    rw [nats_int] at hp
    refine ⟨p, l.map fun n : Nat => (n : Int), by rw [fv.adr_of], ?_, ?_⟩
    · exact hp.imp (fun h => SqL.of ((e.trans e2) _ _ h)) (fun h => SqT.of ((e.trans e2) _ _ h))
    · rw [sum_int]; exact q _ H2 e2 (.int _)
theorem q_fld {E : Ends} {tz : TS} {tv : TE} {C dx : Addr} {fs : List (Str × V)} {f : Str} (hv : EvD tv σ H d) (ha : EvD ta σ H (.adr a)) (ho : H a = some (.ins C dx fs)) (hc : Cls K C) (hn : NoAttr K C f) (hl : fs.length < 1000)
    (k : ∀ v H1, Ex H H1 → Fz H1 v d → tz E σ (upd H1 a (.ins C dx (putF f v fs)))) : tSeq (sFld K ta tv f) tz E σ H := hv H (Ex.refl _) _ fun v H1 e1 fv => ha H1 e1 _ fun u H2 e2 fu => by
  rw [fu.adr_of]
  exact ⟨a, C, dx, fs, rfl, (e1.trans e2) a _ ho, hc, hn, hl, k v H2 (e1.trans e2) (fv.mono (Kp.ex e2))⟩
theorem s_fld {E : Ends} {tv : TE} {C dx : Addr} {fs : List (Str × V)} {f : Str} (hv : EvD tv σ H d) (ha : EvD ta σ H (.adr a)) (ho : H a = some (.ins C dx fs)) (hc : Cls K C) (hn : NoAttr K C f) (hl : fs.length < 1000)
    (k : ∀ v H1, Ex H H1 → Fz H1 v d → E.nx σ (upd H1 a (.ins C dx (putF f v fs)))) : sFld K ta tv f E σ H := hv H (Ex.refl _) _ fun v H1 e1 fv => ha H1 e1 _ fun u H2 e2 fu => by
  rw [fu.adr_of]
  exact ⟨a, C, dx, fs, rfl, (e1.trans e2) a _ ho, hc, hn, hl, k v H2 (e1.trans e2) (fv.mono (Kp.ex e2))⟩
theorem ExB.refl (a : Addr) (H : Hp) : ExB a H H := fun _ _ _ h => h
theorem ExB.ex {H1 : Hp} (b : ExB a H H') (e : Ex H' H1) : ExB a H H1 := fun x o n h => e _ _ (b x o n h)
theorem ExB.set {o : HO} (b : ExB a H H') : ExB a H (upd H' a o) := fun x u n h => by rw [upd_ne n]; exact b x u n h
theorem ExB.tk {o : HO} (b : ExB a H H') (h : H a = some o) (ho : ∀ xs, o ≠ .tup xs) : Tk H H' := fun x xs hx => b x _ (fun z => by rw [z, h] at hx; cases hx; exact ho _ rfl) hx
theorem ExB.seq {o : HO} (b : ExB a H H') (h : H a = some o) (ho : ∀ xs, o ≠ .tup xs) (hl : ∀ xs, o ≠ .lst xs) (s : Seq H p ds) : Seq H' p ds := by
  obtain ⟨vs, hp, f⟩ := s
  refine ⟨vs, ?_, f.monoT (b.tk h ho)⟩
  rcases hp with hp | hp
  · exact .inl (b _ _ (fun z => by rw [z, h] at hp; cases hp; exact hl _ rfl) hp)
  · exact .inr (b _ _ (fun z => by rw [z, h] at hp; cases hp; exact ho _ rfl) hp)
theorem netF_ne (n : Nat) (t : Addr) : netF n t ≠ [] := fun z => by
  have h := netF_rp n t
  rw [z] at h; cases h
theorem evd_tupS (ha : EvD ta σ H (.adr p)) (h : Seq H p ds) : EvD (tCB (rTupOf K) (tCons ta tNil)) σ H (.tup ds) := by
  obtain ⟨vs, h, f⟩ := h
  rcases h with h | h
  · exact evd_tupL ha h f
  · exact evd_tupT ha h f
/-- a list at an address, or a tuple that is data -/
def SeqD (H : Hp) (d : D) (ds : List D) : Prop := (∃ p, d = .adr p ∧ Seq H p ds) ∨ d = .tup ds
theorem SeqD.seq {v : V} (h : SeqD H d ds) (f : Fz H v d) : ∃ p, v = .ref p ∧ Seq H p ds := by
  rcases h with ⟨p, rfl, h⟩ | rfl
  · exact ⟨p, f.adr_of, h⟩
  · obtain ⟨a, xs, rfl, h1, fl⟩ := f.tup_of
    exact ⟨a, rfl, xs, .inr h1, fl⟩
theorem SeqD.mono (e : Ex H H') (h : SeqD H d ds) : SeqD H' d ds := h.imp (fun ⟨p, h1, h2⟩ => ⟨p, h1, h2.mono e⟩) id
theorem make_sta {Q : VK} {E : XK} {dr db dc : D} (h : EvDs tr σ H [.adr an, dr, db, dc]) (N : NetAt T H an w) (O : SOk w s) (hr : SeqD H dr (s.reds.map dn)) (hb : SeqD H db (s.blues.map dn)) (hc : SeqD H dc (s.cars.map dn))
    (k : ∀ p H', Ex H H' → StaA T H' p an w s → Q (.ref p) H') : tMake T.Standing.C (sp_Standing_init T) [] E tr σ H Q := h H (Ex.refl _) _ fun vs H1 e1 f x dx nx ndx ne => by
  cases f with
  | cons f1 f =>
    cases f with
    | cons f2 f =>
      cases f with
      | cons f3 f =>
        cases f with
        | cons f4 f =>
          cases f
          obtain ⟨pr, rfl, hr⟩ := (hr.mono e1).seq f2
          obtain ⟨pb, rfl, hb⟩ := (hb.mono e1).seq f3
          obtain ⟨pc, rfl, hc⟩ := (hc.mono e1).seq f4
          obtain rfl := f1.adr_of
          have e2 : Ex H1 (upd (upd H1 dx (.own x)) x (.ins T.Standing.C dx [])) := (Ex.new ndx).trans (Ex.new (by rw [upd_ne (Ne.symm ne)]; exact nx))
          refine ⟨x, an, pr, pb, pc, dx, w, s, rfl, upd_same, N.mono (Kp.ex (e1.trans e2)), hr.mono e2, hb.mono e2, hc.mono e2, O, fun H' b S => ⟨rfl, k x H' (fun c o hc => ?_) S⟩⟩
          exact b c o (ne_of_none (e1 _ _ hc) nx) (e2 _ _ (e1 _ _ hc))
theorem at_dn {l : List Nat} {i : Nat} (h : i < l.length) : atI (l.map dn) (i : Int) = some (dn (l.getD i 0)) :=
  atI_nat (by rw [List.getElem?_map, List.getElem?_eq_getElem h, List.getD_eq_getElem?_getD, List.getElem?_eq_getElem h]; rfl)
theorem at_dPair {l : List (Nat × Nat)} {i : Nat} (h : i < l.length) : atI (l.map dPair) (i : Int) = some (dPair (l.getD i (0, 0))) :=
  atI_nat (by rw [List.getElem?_map, List.getElem?_eq_getElem h, List.getD_eq_getElem?_getD, List.getElem?_eq_getElem h]; rfl)
theorem at_pick {p : Nat × Nat} {c : Nat} (h : c ≤ 1) : atI [dn p.1, dn p.2] (c : Int) = some (dn (pick p c)) := by
  have : c = 0 ∨ c = 1 := by omega
  rcases this with rfl | rfl <;> rfl
theorem at_pick1 {p : Nat × Nat} {c : Nat} (h : c ≤ 1) : atI [dn p.1, dn p.2] (1 - (c : Int)) = some (dn (pick p (1 - c))) := by
  have : c = 0 ∨ c = 1 := by omega
  rcases this with rfl | rfl <;> rfl
theorem car_le (S : SOk w s) {k : Nat} : car s k ≤ 1 := by
  unfold car
  rw [List.getD_eq_getElem?_getD]
  cases h : s.cars[k]? with
  | none => decide
  | some c => exact S.c01 c (List.mem_of_getElem? h)
theorem rope_ends (W : WOk w) {k : Nat} (hk : k < w.rs.length) : (rope w k).1 < w.n ∧ (rope w k).2 < w.n ∧ (rope w k).1 ≠ (rope w k).2 := by
  unfold rope
  rw [List.getD_eq_getElem?_getD, List.getElem?_eq_getElem hk]
  exact W.ends _ (List.getElem_mem hk)
theorem pick_lt (W : WOk w) {k c : Nat} (hk : k < w.rs.length) : pick (rope w k) c < w.n := by
  have := rope_ends W hk
  unfold pick; split <;> omega
theorem redSt_lt (W : WOk w) {k : Nat} (hk : k < w.rs.length) : redSt w s k < w.n := pick_lt W hk
theorem bluSt_lt (W : WOk w) {k : Nat} (hk : k < w.rs.length) : bluSt w s k < w.n := pick_lt W hk
theorem carSt_lt (W : WOk w) {k : Nat} {c : Bool} (hk : k < w.rs.length) : carSt w s k c < w.n := by
  unfold carSt; split
  · exact redSt_lt W hk
  · exact bluSt_lt W hk
theorem gs_len (S : SOk w s) {c : Bool} : (gs s c).length = w.n := by
  unfold gs; split
  · exact S.lr
  · exact S.lb
end
end TR
namespace TR
open PySem L2 PyProof.Rows
open Evl (Ex EvT fresh_back)
/-- what is walked: n turns while G stands; Y i says what comes -/
structure Src (J : It) (G : Hp → Prop) (n : Nat) (Y : Nat → Hp → V → Prop) : Prop where
  go : ∀ i H, i < n → G H → J.go i H
  stop : ∀ H, G H → J.stop n H
  yld : ∀ i H x H', i < n → G H → J.yld i H x H' → Ex H H' ∧ Y i H' x
section
variable {K : PySem.W.Frag} {σ : L2.St} {H H' : Hp} {ta tb te tx : TE} {tr : TA} {d : D} {ds es : List D} {g : TG} {tb' tu : TS} {E : Ends} {wi : TI} {tt : TT}
theorem Src.imp {J : It} {G G' : Hp → Prop} {n : Nat} {Y Y' : Nat → Hp → V → Prop} (S : Src J G n Y) (hg : ∀ H, G' H → G H) (hy : ∀ i H x H', i < n → G' H → Ex H H' → Y i H' x → Y' i H' x) : Src J G' n Y' :=
  ⟨fun i H h z => S.go i H h (hg H z), fun H z => S.stop H (hg H z), fun i H x H' h z y => ⟨(S.yld i H x H' h (hg H z) y).1, hy i H x H' h z (S.yld i H x H' h (hg H z) y).1 (S.yld i H x H' h (hg H z) y).2⟩⟩
theorem src_l {a : Addr} {vs : List V} : Src (Itl K a) (fun H => H a = some (.lst vs)) vs.length fun i _ x => vs[i]? = some x where
  go := fun i H h z => ⟨vs, vs[i], SqL.of z, List.getElem?_eq_getElem h⟩
  stop := fun H z => ⟨vs, SqL.of z, Nat.le_refl _⟩
  yld := fun i H x H' h z y => by
    obtain ⟨e, y⟩ := y
    subst e
    exact ⟨Ex.refl _, y vs (SqL.of z)⟩
theorem src_t {a : Addr} {vs : List V} : Src (Itt K a) (fun H => H a = some (.tup vs)) vs.length fun i _ x => vs[i]? = some x where
  go := fun i H h z => ⟨vs, vs[i], SqT.of z, List.getElem?_eq_getElem h⟩
  stop := fun H z => ⟨vs, SqT.of z, Nat.le_refl _⟩
  yld := fun i H x H' h z y => by
    obtain ⟨e, y⟩ := y
    subst e
    exact ⟨Ex.refl _, y vs (SqT.of z)⟩
theorem src_el {a : Addr} {vs : List V} : Src (Ite K a) (fun H => H a = some (.lst vs)) vs.length fun i H x => ∃ t y, x = .ref t ∧ H t = some (.tup [vn i, y]) ∧ vs[i]? = some y where
  go := fun i H h z => ⟨vs, vs[i], SqL.of z, List.getElem?_eq_getElem h⟩
  stop := fun H z => ⟨vs, SqL.of z, Nat.le_refl _⟩
  yld := fun i H x H' h z y => by
    obtain ⟨t, y, rfl, hn, rfl, hy⟩ := y
    exact ⟨Ex.new hn, t, y, rfl, upd_same, hy vs (SqL.of z)⟩
theorem src_et {a : Addr} {vs : List V} : Src (IteT K a) (fun H => H a = some (.tup vs)) vs.length fun i H x => ∃ t y, x = .ref t ∧ H t = some (.tup [vn i, y]) ∧ vs[i]? = some y where
  go := fun i H h z => ⟨vs, vs[i], SqT.of z, List.getElem?_eq_getElem h⟩
  stop := fun H z => ⟨vs, SqT.of z, Nat.le_refl _⟩
  yld := fun i H x H' h z y => by
    obtain ⟨t, y, rfl, hn, rfl, hy⟩ := y
    exact ⟨Ex.new hn, t, y, rfl, upd_same, hy vs (SqT.of z)⟩
theorem src_r {lo : Int} {n : Nat} : Src (Itr lo n) (fun _ => True) n fun i _ x => x = .int (lo + i) where
  go := fun i H h _ => h
  stop := fun H _ => Nat.le_refl _
  yld := fun i H x H' h _ y => by
    obtain ⟨rfl, rfl⟩ := y
    exact ⟨Ex.refl _, rfl⟩
theorem i_seqL {p : Addr} {vs : List V} {R : It → Hp → Prop} (h : EvD te σ H (.adr p)) (hp : H p = some (.lst vs)) (k : ∀ J H1, Ex H H1 → Src J (fun H => H p = some (.lst vs)) vs.length (fun i _ x => vs[i]? = some x) → R J H1) : iSeq K te σ H R :=
  h H (Ex.refl H) _ fun v H1 e f => ⟨p, f.adr_of, .inl ⟨⟨vs, SqL.of (e _ _ hp)⟩, k _ H1 e src_l⟩⟩
theorem i_seqA {p : Addr} {vs : List V} {R : It → Hp → Prop} (h : EvD te σ H (.adr p)) (hp : H p = some (.tup vs)) (k : ∀ J H1, Ex H H1 → Src J (fun H => H p = some (.tup vs)) vs.length (fun i _ x => vs[i]? = some x) → R J H1) : iSeq K te σ H R :=
  h H (Ex.refl H) _ fun v H1 e f => ⟨p, f.adr_of, .inr ⟨⟨vs, SqT.of (e _ _ hp)⟩, k _ H1 e src_t⟩⟩
theorem i_seqT {R : It → Hp → Prop} (h : EvD te σ H (.tup ds)) (k : ∀ J H1, Ex H H1 → Src J (fun H' => Kp H1 H') ds.length (fun i H' x => ∃ d, ds[i]? = some d ∧ Fz H' x d) → R J H1) : iSeq K te σ H R :=
  h H (Ex.refl H) _ fun v H1 e f => by
    obtain ⟨a, xs, rfl, ha, fl⟩ := f.tup_of
    refine ⟨a, rfl, .inr ⟨⟨xs, SqT.of ha⟩, k _ H1 e ?_⟩⟩
    rw [← fl.len]
    exact src_t.imp (fun H' z => z.at ha) fun i H' x H'' hi z e2 y => by
      obtain ⟨d, hd, fd⟩ := fl.getV y
      exact ⟨d, hd, fd.mono (z.trans (Kp.ex e2))⟩
theorem i_seqN {R : It → Hp → Prop} (h : EvN te σ H ds) (k : ∀ J p vs H1, H p = none → Ex H H1 → H1 p = some (.lst vs) → FzL H1 vs ds → Src J (fun H => H p = some (.lst vs)) vs.length (fun i _ x => vs[i]? = some x) → R J H1) : iSeq K te σ H R :=
  h H (Ex.refl H) _ fun p vs H1 hn e h1 f => ⟨p, rfl, .inl ⟨⟨vs, SqL.of h1⟩, k _ p vs H1 hn e h1 f src_l⟩⟩
theorem i_enL {p : Addr} {vs : List V} {R : It → Hp → Prop} (h : EvD te σ H (.adr p)) (hp : H p = some (.lst vs)) (k : ∀ J H1, Ex H H1 → Src J (fun H => H p = some (.lst vs)) vs.length (fun i H x => ∃ t y, x = .ref t ∧ H t = some (.tup [vn i, y]) ∧ vs[i]? = some y) → R J H1) : iEnumS K (tCons te tNil) σ H R :=
  h H (Ex.refl H) _ fun v H1 e f => ⟨p, vs, by rw [f.adr_of], .inl ⟨SqL.of (e _ _ hp), k _ H1 e src_el⟩⟩
theorem i_enA {p : Addr} {vs : List V} {R : It → Hp → Prop} (h : EvD te σ H (.adr p)) (hp : H p = some (.tup vs)) (k : ∀ J H1, Ex H H1 → Src J (fun H => H p = some (.tup vs)) vs.length (fun i H x => ∃ t y, x = .ref t ∧ H t = some (.tup [vn i, y]) ∧ vs[i]? = some y) → R J H1) : iEnumS K (tCons te tNil) σ H R :=
  h H (Ex.refl H) _ fun v H1 e f => ⟨p, vs, by rw [f.adr_of], .inr ⟨SqT.of (e _ _ hp), k _ H1 e src_et⟩⟩
theorem i_enT {R : It → Hp → Prop} (h : EvD te σ H (.tup ds)) (k : ∀ J H1, Ex H H1 → Src J (fun H' => Kp H1 H') ds.length (fun i H' x => ∃ d, ds[i]? = some d ∧ Fz H' x (.tup [dn i, d])) → R J H1) : iEnumS K (tCons te tNil) σ H R :=
  h H (Ex.refl H) _ fun v H1 e f => by
    obtain ⟨a, xs, rfl, ha, fl⟩ := f.tup_of
    refine ⟨a, xs, rfl, .inr ⟨SqT.of ha, k _ H1 e ?_⟩⟩
    rw [← fl.len]
    exact src_et.imp (fun H' z => z.at ha) fun i H' x H'' hi z e2 y => by
      obtain ⟨t, y, rfl, ht, hy⟩ := y
      obtain ⟨d, hd, fd⟩ := fl.getV hy
      exact ⟨d, hd, .tup ht (.cons (.int _) (.cons (fd.mono (z.trans (Kp.ex e2))) .nil))⟩
theorem i_enN {R : It → Hp → Prop} (h : EvN te σ H ds) (k : ∀ J p vs H1, H p = none → Ex H H1 → H1 p = some (.lst vs) → FzL H1 vs ds → Src J (fun H => H p = some (.lst vs)) vs.length (fun i H x => ∃ t y, x = .ref t ∧ H t = some (.tup [vn i, y]) ∧ vs[i]? = some y) → R J H1) : iEnumS K (tCons te tNil) σ H R :=
  h H (Ex.refl H) _ fun p vs H1 hn e h1 f => ⟨p, vs, rfl, .inl ⟨SqL.of h1, k _ p vs H1 hn e h1 f src_el⟩⟩
theorem i_rng {n : Nat} {R : It → Hp → Prop} (h : EvD te σ H (dn n)) (hn : n ≤ 1000000) (k : ∀ J H1, Ex H H1 → Src J (fun _ => True) n (fun i _ x => x = vn i) → R J H1) : iRng1 (tCons te tNil) σ H R :=
  h H (Ex.refl H) _ fun v H1 e f => ⟨n, by rw [f.int_of], by omega, by omega, k _ H1 e (by
    rw [Int.toNat_natCast]
    exact src_r.imp (fun _ z => z) fun i _ x _ _ _ _ y => by rw [y, Int.zero_add])⟩
theorem i_rng2 {a n : Nat} {R : It → Hp → Prop} (h1 : EvD ta σ H (dn a)) (h : EvD te σ H (dn n)) (ha : a ≤ 1000000) (hn : n ≤ 1000000) (k : ∀ J H1, Ex H H1 → Src J (fun _ => True) (n - a) (fun i _ x => x = vn (a + i)) → R J H1) : iRng2 (tCons ta (tCons te tNil)) σ H R :=
  h1 H (Ex.refl H) _ fun v H1 e f => h H1 e _ fun u H2 e2 f2 => ⟨a, n, by rw [f.int_of, f2.int_of], ⟨by omega, by omega, by omega, by omega⟩, k _ H2 (e.trans e2) (by
    have e3 : ((n : Int) - (a : Int)).toNat = n - a := by omega
    rw [e3]
    exact src_r.imp (fun _ z => z) fun i _ x _ _ _ _ y => by rw [y]; simp)⟩
/-- a list or a tuple; nothing tracked changes meanwhile -/
theorem i_seqS {p : Addr} {R : It → Hp → Prop} (h : EvD te σ H (.adr p)) (hp : Seq H p ds) (k : ∀ J H1, Ex H H1 → Src J (fun H' => Ex H1 H') ds.length (fun i H' x => ∃ d, ds[i]? = some d ∧ Fz H' x d) → R J H1) : iSeq K te σ H R := by
  obtain ⟨vs, hp, f⟩ := hp
  rw [← f.len] at k
  rcases hp with hp | hp
  · exact i_seqL h hp fun J H1 e S => k J H1 e (S.imp (fun H' z => z _ _ (e _ _ hp)) fun i H' x H'' hi z e2 y => (f.mono (Kp.ex ((e.trans z).trans e2))).getV y)
  · exact i_seqA h hp fun J H1 e S => k J H1 e (S.imp (fun H' z => z _ _ (e _ _ hp)) fun i H' x H'' hi z e2 y => (f.mono (Kp.ex ((e.trans z).trans e2))).getV y)
theorem i_enS {p : Addr} {R : It → Hp → Prop} (h : EvD te σ H (.adr p)) (hp : Seq H p ds) (k : ∀ J H1, Ex H H1 → Src J (fun H' => Ex H1 H') ds.length (fun i H' x => ∃ d, ds[i]? = some d ∧ Fz H' x (.tup [dn i, d])) → R J H1) : iEnumS K (tCons te tNil) σ H R := by
  obtain ⟨vs, hp, f⟩ := hp
  rw [← f.len] at k
  have g : ∀ {H'' : Hp} {x : V} {i : Nat}, Ex H H'' → (∃ t y, x = .ref t ∧ H'' t = some (.tup [vn i, y]) ∧ vs[i]? = some y) → ∃ d, ds[i]? = some d ∧ Fz H'' x (.tup [dn i, d]) := fun e2 y => by
    obtain ⟨t, y, rfl, ht, hy⟩ := y
    obtain ⟨d, hd, fd⟩ := (f.mono (Kp.ex e2)).getV hy
    exact ⟨d, hd, .tup ht (.cons (.int _) (.cons fd .nil))⟩
  rcases hp with hp | hp
  · exact i_enL h hp fun J H1 e S => k J H1 e (S.imp (fun H' z => z _ _ (e _ _ hp)) fun i H' x H'' hi z e2 y => g ((e.trans z).trans e2) y)
  · exact i_enA h hp fun J H1 e S => k J H1 e (S.imp (fun H' z => z _ _ (e _ _ hp)) fun i H' x H'' hi z e2 y => g ((e.trans z).trans e2) y)
theorem evd_lenS {p : Addr} (ha : EvD ta σ H (.adr p)) (h : Seq H p ds) : EvD (tCB (Evl.rLenS K) (tCons ta tNil)) σ H (.int (ds.length : Int)) := by
  obtain ⟨vs, h, f⟩ := h
  rw [← f.len]
  rcases h with h | h
  · exact evd_lenL ha h
  · exact evd_lenT ha h
theorem s_for {J : It} {G : Hp → Prop} {n : Nat} {Y : Nat → Hp → V → Prop} (S : Src J G n Y) (Pv : Nat → L2.St → Hp → Prop) (h0 : Pv 0 σ H) (hG : ∀ i σ' H', i ≤ n → Pv i σ' H' → G H')
    (hs : ∀ i x σ' H' H2, i < n → Pv i σ' H' → Ex H' H2 → Y i H2 x → g x σ' H2 fun σ2 H3 => tu { E with nx := Pv (i + 1), ct := Pv (i + 1), bk := E.nx } σ2 H3) (hd : ∀ σ' H', Pv n σ' H' → E.nx σ' H') :
    ∃ W : Nat → Nat → L2.St → Hp → Prop, (∃ m, W 0 m σ H) ∧ ∀ i m σ H, W i m σ H →
      (J.stop i H ∧ E.nx σ H) ∨ (J.go i H ∧ ∃ N : L2.St → Hp → Prop, (∀ σ' H', N σ' H' → ∃ m', m' < m ∧ W (i + 1) m' σ' H') ∧ ∀ x H', J.yld i H x H' → g x σ H' fun σ2 H2 => tu { E with nx := N, ct := N, bk := E.nx } σ2 H2) := by
  refine ⟨fun i m σ H => m = n - i ∧ i ≤ n ∧ Pv i σ H, ⟨n, by simp, Nat.zero_le _, h0⟩, ?_⟩
  rintro i m σ H ⟨rfl, hi, p⟩
  have q := hG i σ H hi p
  by_cases hlt : i < n
  · refine .inr ⟨S.go i H hlt q, Pv (i + 1), fun σ' H' p' => ⟨n - (i + 1), by omega, rfl, hlt, p'⟩, fun x H' y => ?_⟩
    obtain ⟨e, y⟩ := S.yld i H x H' hlt q y
    exact hs i x σ H H' hlt p e y
  · have e : i = n := by omega
    subst e
    exact .inl ⟨S.stop H q, hd σ H p⟩
theorem for_intro (h : wi σ H fun J H1 => ∃ W : Nat → Nat → L2.St → Hp → Prop, (∃ m, W 0 m σ H1) ∧ ∀ i m σ H, W i m σ H →
      (J.stop i H ∧ E.nx σ H) ∨ (J.go i H ∧ ∃ N : L2.St → Hp → Prop, (∀ σ' H', N σ' H' → ∃ m', m' < m ∧ W (i + 1) m' σ' H') ∧ ∀ x H', J.yld i H x H' → g x σ H' fun σ2 H2 => tu { E with nx := N, ct := N, bk := E.nx } σ2 H2)) : tFor wi g tu E σ H := h
theorem q_forI {tz : TS} (h : wi σ H fun J H1 => ∃ W : Nat → Nat → L2.St → Hp → Prop, (∃ m, W 0 m σ H1) ∧ ∀ i m σ H, W i m σ H →
      (J.stop i H ∧ tz E σ H) ∨ (J.go i H ∧ ∃ N : L2.St → Hp → Prop, (∀ σ' H', N σ' H' → ∃ m', m' < m ∧ W (i + 1) m' σ' H') ∧ ∀ x H', J.yld i H x H' → g x σ H' fun σ2 H2 => tu { E with nx := N, ct := N, bk := tz E } σ2 H2)) : tSeq (tFor wi g tu) tz E σ H := h
theorem EvN.eq (h : EvN te σ H ds) (e : ds = es) : EvN te σ H es := e ▸ h
def EvI (wi : TI) (σ : L2.St) (H : Hp) (n : Nat) (dd : Nat → D) : Prop := ∀ H1, Ex H H1 → ∀ R : It → Hp → Prop, (∀ J H2, Ex H1 H2 → Src J (fun H' => Ex H2 H') n (fun i H' x => Fz H' x (dd i)) → R J H2) → wi σ H1 R
theorem FzL.getDD {vs : List V} (f : FzL H vs ds) {i : Nat} {x : V} (h : vs[i]? = some x) : Fz H x (ds.getD i .non) := by
  obtain ⟨d, hd, fd⟩ := f.getV h
  rw [List.getD_eq_getElem?_getD, hd]
  exact fd
theorem evi_seqT (h : EvD te σ H (.tup ds)) : EvI (iSeq K te) σ H ds.length (fun i => ds.getD i .non) := fun H1 e R q =>
  i_seqT (h.mono e) fun J H2 e2 S => q J H2 e2 (S.imp (fun _ z => Kp.ex z) fun i H' x H'' hi z e3 y => by
    obtain ⟨d, hd, fd⟩ := y
    show Fz H'' x (ds.getD i .non)
    rw [List.getD_eq_getElem?_getD, hd]
    exact fd)
theorem evi_seqL {p : Addr} (h : EvD te σ H (.adr p)) (hp : Lst H p ds) : EvI (iSeq K te) σ H ds.length (fun i => ds.getD i .non) := fun H1 e R q => by
  obtain ⟨vs, h1, f⟩ := hp
  refine i_seqL (h.mono e) (e _ _ h1) fun J H2 e2 S => q J H2 e2 ?_
  rw [← f.len]
  exact S.imp (fun _ z => z _ _ (e2 _ _ (e _ _ h1))) fun i H' x H'' hi z e3 y => (f.mono (Kp.ex (((e.trans e2).trans z).trans e3))).getDD y
theorem evi_seqN (h : EvN te σ H ds) : EvI (iSeq K te) σ H ds.length (fun i => ds.getD i .non) := fun H1 e R q =>
  i_seqN (fun H2 a Q k => h H2 (e.trans a) Q k) fun J p vs H2 hn e2 h1 f S => q J H2 e2 (by
    rw [← f.len]
    exact S.imp (fun _ z => z _ _ h1) fun i H' x H'' hi z e3 y => (f.mono (Kp.ex (z.trans e3))).getDD y)
theorem evi_enT (h : EvD te σ H (.tup ds)) : EvI (iEnumS K (tCons te tNil)) σ H ds.length (fun i => .tup [dn i, ds.getD i .non]) := fun H1 e R q =>
  i_enT (h.mono e) fun J H2 e2 S => q J H2 e2 (S.imp (fun _ z => Kp.ex z) fun i H' x H'' hi z e3 y => by
    obtain ⟨d, hd, fd⟩ := y
    show Fz H'' x (.tup [dn i, ds.getD i .non])
    rw [List.getD_eq_getElem?_getD, hd]
    exact fd)
theorem evi_enL {p : Addr} (h : EvD te σ H (.adr p)) (hp : Lst H p ds) : EvI (iEnumS K (tCons te tNil)) σ H ds.length (fun i => .tup [dn i, ds.getD i .non]) := fun H1 e R q => by
  obtain ⟨vs, h1, f⟩ := hp
  refine i_enL (h.mono e) (e _ _ h1) fun J H2 e2 S => q J H2 e2 ?_
  rw [← f.len]
  exact S.imp (fun _ z => z _ _ (e2 _ _ (e _ _ h1))) fun i H' x H'' hi z e3 y => by
    obtain ⟨t, y, rfl, ht, hy⟩ := y
    exact .tup ht (.cons (.int _) (.cons ((f.mono (Kp.ex (((e.trans e2).trans z).trans e3))).getDD hy) .nil))
theorem evi_rng {n : Nat} (h : EvD te σ H (dn n)) (hn : n ≤ 1000000) : EvI (iRng1 (tCons te tNil)) σ H n (fun i => dn i) := fun H1 e R q =>
  i_rng (h.mono e) hn fun J H2 e2 S => q J H2 e2 (S.imp (fun _ _ => trivial) fun i H' x H'' hi z e3 y => by rw [y]; exact .int _)
theorem filt_yes {n : Nat} {f : Nat → Bool} {e : Nat → D} (h : f n = true) : ((List.range (n + 1)).filter f).map e = ((List.range n).filter f).map e ++ [e n] := by
  rw [List.range_succ, List.filter_append, List.map_append, List.filter_cons, if_pos h] <;> rfl
theorem filt_no {n : Nat} {f : Nat → Bool} {e : Nat → D} (h : f n = false) : ((List.range (n + 1)).filter f).map e = ((List.range n).filter f).map e := by
  rw [List.range_succ, List.filter_append, List.map_append, List.filter_cons, if_neg (by rw [h]; decide)]
  show _ ++ [] = _
  rw [List.append_nil]
theorem filt_len (n : Nat) (f : Nat → Bool) (e : Nat → D) : (((List.range n).filter f).map e).length ≤ n := by
  rw [List.length_map]
  have h := List.length_filter_le f (List.range n)
  rw [List.length_range] at h
  exact h
theorem evn_lc {n : Nat} {dd : Nat → D} {vs : List Nat} (f : Nat → Bool) (e : Nat → D) (hi : EvI wi σ H n dd) (hn : n ≤ 50000)
    (ht : ∀ i v H1, i < n → Ex H H1 → Fz H1 v (dd i) → ∃ σ2, (∀ Q' : L2.St → Hp → Prop, Q' σ2 H1 → g v (wipe σ vs) H1 Q') ∧ wipe σ2 vs = wipe σ vs ∧ EvT tt σ2 H1 (f i) ∧ (f i = true → EvD te σ2 H1 (e i))) :
    EvN (tLc wi g tt te vs) σ H (((List.range n).filter f).map e) := fun H1 e1 Q q => by
  refine hi H1 e1 _ fun J H2 e2 S Dl hD => ?_
  refine ⟨fun i m H' => m = n - i ∧ i ≤ n ∧ Ex H2 H' ∧ ∃ us, H' Dl = some (.lst us) ∧ FzL H' us (((List.range i).filter f).map e), ⟨n, by simp, Nat.zero_le _, Ex.new hD, [], upd_same, .nil⟩, ?_⟩
  rintro i m H' ⟨rfl, hin, e3, us, hl, fl⟩
  by_cases hlt : i < n
  · refine .inr ⟨S.go i H' hlt e3, fun H' => i + 1 ≤ n ∧ Ex H2 H' ∧ ∃ us, H' Dl = some (.lst us) ∧ FzL H' us (((List.range (i + 1)).filter f).map e), fun H' ⟨a, b, c⟩ => ⟨n - (i + 1), by omega, rfl, a, b, c⟩, fun x H3 y => ?_⟩
    obtain ⟨e4, fy⟩ := S.yld i H' x H3 hlt e3 y
    obtain ⟨σ2, hg, hw, ht', he'⟩ := ht i x H3 hlt (((e1.trans e2).trans e3).trans e4) fy
    refine hg _ ⟨hw, ht' H3 (Ex.refl _) _ fun H4 e5 => ?_⟩
    cases hf : f i with
    | true =>
      show te σ2 H4 _
      refine he' hf H4 e5 _ fun y H5 e6 fy => ⟨us, e6 _ _ (e5 _ _ (e4 _ _ hl)), ?_, by omega, ?_, _, upd_same, ?_⟩
      · have := filt_len i f e
        rw [← fl.len] at this
        exact Evl.sz_lt (by omega)
      · exact Ex.set (((e3.trans e4).trans e5).trans e6) hD
      · rw [filt_yes hf]
        have k : Kp H5 (upd H5 Dl (.lst (us ++ [y]))) := Kp.set (e6 _ _ (e5 _ _ (e4 _ _ hl)))
        exact (fl.mono ((Kp.ex ((e4.trans e5).trans e6)).trans k)).snoc (fy.mono k)
    | false =>
      show _ ∧ _
      refine ⟨by omega, (e3.trans e4).trans e5, us, e5 _ _ (e4 _ _ hl), ?_⟩
      rw [filt_no hf]
      exact fl.mono (Kp.ex (e4.trans e5))
  · have e' : i = n := by omega
    subst e'
    exact .inl ⟨S.stop H' e3, q Dl us H' (fresh_back e2 hD) (e2.trans e3) hl fl⟩
theorem tg_2 {v : V} {d1 d2 : D} {i j : Nat} (f : Fz H v (.tup [d1, d2])) : ∃ v1 v2, Fz H v1 d1 ∧ Fz H v2 d2 ∧ ∀ (σ : L2.St) (Q : L2.St → Hp → Prop), Q ((σ.set i (some v1)).set j (some v2)) H → gTup K 2 (gCons (gName i) (gCons (gName j) gNil)) v σ H Q := by
  obtain ⟨a, xs, rfl, ha, fl⟩ := f.tup_of
  cases fl with
  | cons f1 r =>
    cases r with
    | cons f2 r =>
      cases r
      exact ⟨_, _, f1, f2, fun σ Q q => ⟨a, _, rfl, SqT.of ha, rfl, _, _, rfl, _, _, rfl, rfl, q⟩⟩
theorem tg_3 {v : V} {d1 d2 d3 : D} {i j k : Nat} (f : Fz H v (.tup [d1, d2, d3])) : ∃ v1 v2 v3, Fz H v1 d1 ∧ Fz H v2 d2 ∧ Fz H v3 d3 ∧ ∀ (σ : L2.St) (Q : L2.St → Hp → Prop), Q (((σ.set i (some v1)).set j (some v2)).set k (some v3)) H → gTup K 3 (gCons (gName i) (gCons (gName j) (gCons (gName k) gNil))) v σ H Q := by
  obtain ⟨a, xs, rfl, ha, fl⟩ := f.tup_of
  cases fl with
  | cons f1 r =>
    cases r with
    | cons f2 r =>
      cases r with
      | cons f3 r =>
        cases r
        exact ⟨_, _, _, f1, f2, f3, fun σ Q q => ⟨a, _, rfl, SqT.of ha, rfl, _, _, rfl, _, _, rfl, _, _, rfl, rfl, q⟩⟩
/-- i, (j, k) -/
theorem tg_12 {v : V} {d1 d2 d3 : D} {i j k : Nat} (f : Fz H v (.tup [d1, .tup [d2, d3]])) : ∃ v1 v2 v3, Fz H v1 d1 ∧ Fz H v2 d2 ∧ Fz H v3 d3 ∧
    ∀ (σ : L2.St) (Q : L2.St → Hp → Prop), Q (((σ.set i (some v1)).set j (some v2)).set k (some v3)) H → gTup K 2 (gCons (gName i) (gCons (gTup K 2 (gCons (gName j) (gCons (gName k) gNil))) gNil)) v σ H Q := by
  obtain ⟨a, xs, rfl, ha, fl⟩ := f.tup_of
  cases fl with
  | cons f1 r =>
    cases r with
    | cons f2 r =>
      cases r
      obtain ⟨v2, v3, g2, g3, hq⟩ := tg_2 (K := K) (i := j) (j := k) f2
      exact ⟨_, _, _, f1, g2, g3, fun σ Q q => ⟨a, _, rfl, SqT.of ha, rfl, _, _, rfl, _, _, rfl, hq _ _ ⟨rfl, q⟩⟩⟩
end
end TR
namespace TR
open PySem L2 PyProof.Rows
open Evl (Ex EvT fresh_back)
section
variable {K : PySem.W.Frag} {σ : L2.St} {H H' : Hp} {ta tb te tx : TE} {tr : TA} {d : D} {ds es : List D} {g : TG} {tu : TS} {E : Ends} {wi : TI} {t : TT} {v : V}
theorem s_while (Pv : Nat → L2.St → Hp → Prop) (m0 : Nat) (h0 : Pv m0 σ H)
    (h : ∀ m σ' H', Pv m σ' H' → ∃ b, EvT t σ' H' b ∧ (b = true → ∀ H2, Ex H' H2 → tu { E with nx := fun σ2 H3 => ∃ m', m' < m ∧ Pv m' σ2 H3, ct := fun σ2 H3 => ∃ m', m' < m ∧ Pv m' σ2 H3, bk := E.nx } σ' H2) ∧ (b = false → ∀ H2, Ex H' H2 → E.nx σ' H2)) : tWhile t tu E σ H := by
  refine ⟨Pv, ⟨m0, h0⟩, fun m σ' H' p => ?_⟩
  obtain ⟨b, ht, h1, h2⟩ := h m σ' H' p
  refine ht H' (Ex.refl _) _ fun H2 e => ?_
  cases b with
  | true =>
    rw [if_pos rfl]
    exact ⟨_, fun σ2 H3 z => z, h1 rfl H2 e⟩
  | false =>
    rw [if_neg (by decide)]
    exact h2 rfl H2 e
theorem q_while {tz : TS} (Pv : Nat → L2.St → Hp → Prop) (m0 : Nat) (h0 : Pv m0 σ H)
    (h : ∀ m σ' H', Pv m σ' H' → ∃ b, EvT t σ' H' b ∧ (b = true → ∀ H2, Ex H' H2 → tu { E with nx := fun σ2 H3 => ∃ m', m' < m ∧ Pv m' σ2 H3, ct := fun σ2 H3 => ∃ m', m' < m ∧ Pv m' σ2 H3, bk := tz E } σ' H2) ∧ (b = false → ∀ H2, Ex H' H2 → tz E σ' H2)) : tSeq (tWhile t tu) tz E σ H :=
  s_while (E := { E with nx := tz E }) Pv m0 h0 h
theorem q_for {tz : TS} {J : It} {G : Hp → Prop} {n : Nat} {Y : Nat → Hp → V → Prop} (S : Src J G n Y) (Pv : Nat → L2.St → Hp → Prop) (h0 : Pv 0 σ H) (hG : ∀ i σ' H', i ≤ n → Pv i σ' H' → G H')
    (hs : ∀ i x σ' H' H2, i < n → Pv i σ' H' → Ex H' H2 → Y i H2 x → g x σ' H2 fun σ2 H3 => tu { E with nx := Pv (i + 1), ct := Pv (i + 1), bk := tz E } σ2 H3) (hd : ∀ σ' H', Pv n σ' H' → tz E σ' H') :
    ∃ W : Nat → Nat → L2.St → Hp → Prop, (∃ m, W 0 m σ H) ∧ ∀ i m σ H, W i m σ H →
      (J.stop i H ∧ tz E σ H) ∨ (J.go i H ∧ ∃ N : L2.St → Hp → Prop, (∀ σ' H', N σ' H' → ∃ m', m' < m ∧ W (i + 1) m' σ' H') ∧ ∀ x H', J.yld i H x H' → g x σ H' fun σ2 H2 => tu { E with nx := N, ct := N, bk := tz E } σ2 H2) :=
  s_for (E := { E with nx := tz E }) S Pv h0 hG hs hd
theorem q_aug {tz : TS} {i : Nat} {a b : Int} {f : Int → Int → Int} (ha : σ[i]? = some (some (.int a))) (h : EvD te σ H (.int b)) (k : ∀ H1, Ex H H1 → tz E (σ.set i (some (.int (f a b)))) H1) : tSeq (tAug i te (ipI f)) tz E σ H :=
  ⟨_, ha, h H (Ex.refl _) _ fun v H1 e fv => ⟨a, b, rfl, fv.int_of, k H1 e⟩⟩
theorem s_aug {i : Nat} {a b : Int} {f : Int → Int → Int} (ha : σ[i]? = some (some (.int a))) (h : EvD te σ H (.int b)) (k : ∀ H1, Ex H H1 → E.nx (σ.set i (some (.int (f a b)))) H1) : tAug i te (ipI f) E σ H :=
  ⟨_, ha, h H (Ex.refl _) _ fun v H1 e fv => ⟨a, b, rfl, fv.int_of, k H1 e⟩⟩
/-- xs.pop() of a list of flat items -/
theorem q_pop {tz : TS} {i : Nat} {l : Addr} {xs : List V} {x : V} (hl : H l = some (.lst (xs ++ [x]))) (ha : EvD ta σ H (.adr l)) (k : ∀ H1, Ex H H1 → tz E (σ.set i (some x)) (upd H1 l (.lst xs))) : tSeq (tAsg (tBM0 K "list" rPop ta) (gName i)) tz E σ H :=
  ha H (Ex.refl _) _ fun v H1 e fv => by
    rw [fv.adr_of]
    refine ⟨Or.inl ⟨rfl, _, SqL.of (e _ _ hl)⟩, l, xs ++ [x], x, rfl, rfl, e _ _ hl, by simp, ?_⟩
    rw [List.dropLast_concat]
    exact k H1 e
theorem q_ext {tz : TS} {l : Addr} {xs : List V} (hl : H l = some (.lst xs)) (ha : EvD ta σ H (.adr l)) (h : EvN te σ H ds) (hz : xs.length + ds.length ≤ 100000) (k : ∀ vs H1, Ex H H1 → FzL H1 vs ds → tz E σ (upd H1 l (.lst (xs ++ vs)))) :
    tSeq (tDrop (tBM K "list" rExtend ta (tCons te tNil))) tz E σ H := ha H (Ex.refl _) _ fun v H1 e fv => by
  rw [fv.adr_of]
  exact ⟨Or.inl ⟨rfl, _, SqL.of (e _ _ hl)⟩, h H1 e _ fun p vs H2 hp e2 h1 f => ⟨l, p, xs, vs, rfl, rfl, e2 _ _ (e _ _ hl), h1, by rw [f.len]; exact Evl.sz_of hz, k vs H2 (e.trans e2) f⟩⟩
theorem s_ext {l : Addr} {xs : List V} (hl : H l = some (.lst xs)) (ha : EvD ta σ H (.adr l)) (h : EvN te σ H ds) (hz : xs.length + ds.length ≤ 100000) (k : ∀ vs H1, Ex H H1 → FzL H1 vs ds → E.nx σ (upd H1 l (.lst (xs ++ vs)))) :
    tDrop (tBM K "list" rExtend ta (tCons te tNil)) E σ H := ha H (Ex.refl _) _ fun v H1 e fv => by
  rw [fv.adr_of]
  exact ⟨Or.inl ⟨rfl, _, SqL.of (e _ _ hl)⟩, h H1 e _ fun p vs H2 hp e2 h1 f => ⟨l, p, xs, vs, rfl, rfl, e2 _ _ (e _ _ hl), h1, by rw [f.len]; exact Evl.sz_of hz, k vs H2 (e.trans e2) f⟩⟩
/-- two lists joined -/
theorem evn_cat {p q : Addr} (ha : EvD ta σ H (.adr p)) (hb : EvD tb σ H (.adr q)) (hp : Lst H p ds) (hq : Lst H q es) (hz : ds.length + es.length ≤ 100000) : EvN (tOp rCat ta tb) σ H (ds ++ es) := fun H1 e Q k =>
  ha H1 e _ fun v H2 e2 fv => hb H2 (e.trans e2) _ fun w H3 e3 fw => by
    obtain ⟨xs, h1, f1⟩ := hp.mono ((e.trans e2).trans e3)
    obtain ⟨ys, h2, f2⟩ := hq.mono ((e.trans e2).trans e3)
    refine ⟨p, q, xs, ys, fv.adr_of, fw.adr_of, h1, h2, by rw [f1.len, f2.len]; exact Evl.sz_of hz, fun r hr => ?_⟩
    exact k r _ _ (fresh_back (e2.trans e3) hr) ((e2.trans e3).trans (Ex.new hr)) upd_same ((f1.app f2).mono (Kp.ex (Ex.new hr)))
/-- a list and a new list joined -/
theorem evn_catN {p : Addr} (ha : EvD ta σ H (.adr p)) (hb : EvN tb σ H es) (hp : Lst H p ds) (hz : ds.length + es.length ≤ 100000) : EvN (tOp rCat ta tb) σ H (ds ++ es) := fun H1 e Q k =>
  ha H1 e _ fun v H2 e2 fv => hb H2 (e.trans e2) _ fun q ys H3 hn e3 h2 f2 => by
    obtain ⟨xs, h1, f1⟩ := hp.mono ((e.trans e2).trans e3)
    refine ⟨p, q, xs, ys, fv.adr_of, rfl, h1, h2, by rw [f1.len, f2.len]; exact Evl.sz_of hz, fun r hr => ?_⟩
    exact k r _ _ (fresh_back (e2.trans e3) hr) ((e2.trans e3).trans (Ex.new hr)) upd_same ((f1.app f2).mono (Kp.ex (Ex.new hr)))
/-- xs[::-1] -/
theorem evn_rev {p : Addr} (ha : EvD ta σ H (.adr p)) (hp : Lst H p ds) : EvN (tRevL K ta) σ H ds.reverse := fun H1 e Q k =>
  ha H1 e _ fun v H2 e2 fv => by
    obtain ⟨xs, h1, f1⟩ := hp.mono (e.trans e2)
    exact ⟨p, xs, fv.adr_of, SqL.of h1, fun r hr => k r _ _ (fresh_back e2 hr) (e2.trans (Ex.new hr)) upd_same ((f1.rev).mono (Kp.ex (Ex.new hr)))⟩
/-- any(xs) of a new list of bools -/
theorem evd_any {bs : List Bool} (h : EvN te σ H (bs.map D.bl)) : EvD (tCB (rAny K) (tCons te tNil)) σ H (.bl (bs.any id)) := fun H1 e Q k =>
  h H1 e _ fun p vs H2 hn e2 h1 f => by
    have ev : vs = bs.map V.bl := by
      have := f.flat_of (by rw [List.all_map]; exact List.all_eq_true.mpr fun _ _ => rfl)
      rw [this, List.map_map]; rfl
    subst ev
    exact ⟨p, bs, rfl, SqL.of h1, k _ H2 e2 (.bl _)⟩
/-- min(xs) of a new list of numbers -/
theorem evd_min {l : List Nat} {m : Nat} (h : EvN te σ H (l.map dn)) (hl : 0 < l.length) (hm : ∀ x ∈ l, (∀ y ∈ l, x ≤ y) → x = m) : EvD (tCB (rMin K) (tCons te tNil)) σ H (dn m) := fun H1 e Q k =>
  h H1 e _ fun p vs H2 hn e2 h1 f => by
    have ev := f.nats_of
    subst ev
    rw [nats_int] at h1
    refine ⟨p, _, rfl, SqL.of h1, by rw [List.length_map]; exact hl, fun i hi hle => ?_⟩
    obtain ⟨x, hx, rfl⟩ := List.mem_map.mp hi
    have : x = m := hm x hx fun y hy => by
      have := hle _ (List.mem_map.mpr ⟨y, hy, rfl⟩)
      omega
    subst this
    exact k _ H2 e2 (.int _)
/-- tuple(xs) of a new list -/
theorem evd_tupN (h : EvN te σ H ds) : EvD (tCB (rTupOf K) (tCons te tNil)) σ H (.tup ds) := fun H1 e Q k =>
  h H1 e _ fun p xs H2 hn e2 h1 f => ⟨p, xs, rfl, .inl ⟨SqL.of h1, fun l hl => k _ _ (e2.trans (Ex.new hl)) (.tup upd_same (f.mono (Kp.ex (Ex.new hl))))⟩⟩
/-- a call whose arguments are flat -/
theorem callF {sp : Sp} {X : XK} {Q : VK} (h : EvDs tr σ H ds) (hf : ds.all D.flat = true) (k : ∀ H1, Ex H H1 → sp (ds.map D.v) H1 Q X) : tCall sp [] X tr σ H Q :=
  h H (Ex.refl _) _ fun vs H1 e f => by
    rw [List.append_nil, f.flat_of hf]
    exact k H1 e
theorem q_rows {tz : TS} {n i vx : Nat} (hi : EvI wi σ H n (fun i => dn i)) (hn : n ≤ 50000) (hw2 : ∀ v, wipe ((wipe σ [vx]).set vx v) [vx] = wipe σ [vx])
    (k : ∀ (p : Addr) (as : List Addr) (H1 : Hp), H p = none → Ex H H1 → H1 p = some (.lst (as.map V.ref)) → as.length = n → as.Nodup → p ∉ as → (∀ a ∈ as, H a = none ∧ H1 a = some (.lst [])) → tz E (σ.set i (some (.ref p))) H1) :
    tSeq (tAsg (tLc wi (gName vx) tYes (tLst tNil) [vx]) (gName i)) tz E σ H := by
  refine hi H (Ex.refl _) _ fun J H2 e2 S Dl hD => ?_
  refine ⟨fun i m H' => m = n - i ∧ i ≤ n ∧ Ex H2 H' ∧ ∃ as : List Addr, H' Dl = some (.lst (as.map V.ref)) ∧ as.length = i ∧ as.Nodup ∧ Dl ∉ as ∧ ∀ a ∈ as, H a = none ∧ H' a = some (.lst []), ⟨n, by simp, Nat.zero_le _, Ex.new hD, [], upd_same, rfl, List.nodup_nil, by simp, by simp⟩, ?_⟩
  rintro i m H' ⟨rfl, hin, e3, as, hl, hlen, hnd, hD', hal⟩
  by_cases hlt : i < n
  · refine .inr ⟨S.go i H' hlt e3, fun H' => i + 1 ≤ n ∧ Ex H2 H' ∧ ∃ as : List Addr, H' Dl = some (.lst (as.map V.ref)) ∧ as.length = i + 1 ∧ as.Nodup ∧ Dl ∉ as ∧ ∀ a ∈ as, H a = none ∧ H' a = some (.lst []), fun H' ⟨a, b, c⟩ => ⟨n - (i + 1), by omega, rfl, a, b, c⟩, fun x H3 y => ?_⟩
    obtain ⟨e4, fy⟩ := S.yld i H' x H3 hlt e3 y
    refine ⟨hw2 _, ?_⟩
    simp only [tYes, if_true]
    refine ⟨Nat.zero_le _, fun a ha => ⟨as.map V.ref, ?_, ?_, by omega, ?_, as ++ [a], ?_, by simp [hlen], ?_, ?_, ?_⟩⟩
    · rw [upd_ne (ne_of_none (e4 _ _ hl) ha)]; exact e4 _ _ hl
    · rw [List.length_map, hlen]; exact Evl.sz_lt (by omega)
    · exact Ex.set ((e3.trans e4).trans (Ex.new ha)) hD
    · rw [upd_same, List.map_append]; rfl
    · rw [List.nodup_append]
      refine ⟨hnd, (by simp), fun b hb c hc => ?_⟩
      rw [List.mem_singleton] at hc
      subst hc
      exact fun z => by
        subst z
        have := e4 _ _ (hal _ hb).2
        rw [ha] at this; cases this
    · rw [List.mem_append, List.mem_singleton]
      rintro (h | rfl)
      · exact hD' h
      · rw [e4 _ _ hl] at ha; cases ha
    · intro b hb
      rw [List.mem_append, List.mem_singleton] at hb
      rcases hb with hb | rfl
      · refine ⟨(hal b hb).1, ?_⟩
        have hb2 := e4 _ _ (hal b hb).2
        rw [upd_ne (show b ≠ Dl from fun z => hD' (z ▸ hb)), upd_ne (ne_of_none hb2 ha)]
        exact hb2
      · have ha0 : H b = none := fresh_back ((e2.trans e3).trans e4) ha
        refine ⟨ha0, ?_⟩
        rw [upd_ne (show b ≠ Dl from fun z => by rw [z, e4 _ _ hl] at ha; cases ha)]
        exact upd_same
  · have e' : i = n := by omega
    subst e'
    exact .inl ⟨S.stop H' e3, k Dl as H' (fresh_back e2 hD) (e2.trans e3) hl hlen hnd hD' hal⟩
/-- isinstance and the like: a call whose value is told by its reading -/
theorem FzL.adrs {as : List Addr} : FzL H (as.map V.ref) (as.map D.adr) := by
  induction as with
  | nil => exact .nil
  | cons a as ih => exact .cons (.adr _) ih
theorem at_adr {as : List Addr} {i : Nat} {a : Addr} (h : as[i]? = some a) : atI (as.map D.adr) (i : Int) = some (.adr a) := atI_nat (by rw [List.getElem?_map, h]; rfl)
end
end TR
namespace TR
open PySem L2 PyProof.Rows
open Evl (Ex EvT fresh_back)
abbrev bls (l : List Bool) : List V := l.map V.bl
def mk (l : List Bool) (x : Nat) : Bool := l.getD x false
def nf (l : List Bool) : Nat := l.count false
theorem FzL.bls {H : Hp} (l : List Bool) : FzL H (bls l) (l.map D.bl) := by
  induction l with
  | nil => exact .nil
  | cons a l ih => exact .cons (.bl _) ih
theorem FzL.bls_of {H : Hp} {vs : List V} {l : List Bool} (h : FzL H vs (l.map D.bl)) : vs = TR.bls l := by
  induction l generalizing vs with
  | nil => cases h; rfl
  | cons a l ih =>
    cases h with
    | cons h1 h2 => rw [h1.bl_of, ih h2]; rfl
theorem bls_set {l : List Bool} {j : Nat} {x : Bool} : (bls l).set j (.bl x) = bls (l.set j x) := by unfold bls; rw [List.map_set]
theorem at_bl {l : List Bool} {i : Nat} (h : i < l.length) : atI (l.map D.bl) (i : Int) = some (.bl (mk l i)) :=
  atI_nat (by rw [List.getElem?_map, List.getElem?_eq_getElem h]; unfold mk; rw [List.getD_eq_getElem?_getD, List.getElem?_eq_getElem h]; rfl)
theorem mk_set {l : List Bool} {i x : Nat} {b : Bool} : mk (l.set i b) x = if i = x ∧ i < l.length then b else mk l x := by
  unfold mk
  rw [List.getD_eq_getElem?_getD, List.getD_eq_getElem?_getD, List.getElem?_set]
  by_cases h : i = x
  · subst h
    by_cases h2 : i < l.length
    · simp [h2]
    · simp [h2]
  · simp [h]
theorem mk_lt {l : List Bool} {x : Nat} (h : mk l x = true) : x < l.length := by
  unfold mk at h
  rw [List.getD_eq_getElem?_getD] at h
  rcases Nat.lt_or_ge x l.length with h1 | h1
  · exact h1
  · rw [List.getElem?_eq_none h1] at h; cases h
theorem mk_keep {l : List Bool} {i x : Nat} (h : mk l x = true) : mk (l.set i true) x = true := by
  rw [mk_set]; split
  · rfl
  · exact h
theorem mk_self {l : List Bool} {i : Nat} (h : i < l.length) : mk (l.set i true) i = true := by rw [mk_set, if_pos ⟨rfl, h⟩]
theorem nf_cons {b : Bool} {l : List Bool} : nf (b :: l) = (if b = false then 1 else 0) + nf l := by
  unfold nf
  rw [List.count_cons]
  cases b <;> simp <;> omega
theorem nf_set_le {l : List Bool} {i : Nat} : nf (l.set i true) ≤ nf l := by
  induction l generalizing i with
  | nil => exact Nat.le_refl _
  | cons b l ih =>
    cases i with
    | zero => rw [List.set_cons_zero, nf_cons, nf_cons]; cases b <;> simp
    | succ i => rw [List.set_cons_succ, nf_cons, nf_cons]; have := ih (i := i); omega
theorem nf_set_lt {l : List Bool} {i : Nat} (h : i < l.length) (hm : mk l i = false) : nf (l.set i true) + 1 = nf l := by
  induction l generalizing i with
  | nil => cases h
  | cons b l ih =>
    cases i with
    | zero =>
      have hb : b = false := hm
      subst hb
      rw [List.set_cons_zero, nf_cons, nf_cons]; simp; omega
    | succ i =>
      rw [List.set_cons_succ, nf_cons, nf_cons]
      have := ih (i := i) (by simpa using h) hm
      omega
theorem nf_rep {n : Nat} : nf (List.replicate n false) = n := by unfold nf; rw [List.count_replicate]; simp
theorem mk_rep {n x : Nat} : mk (List.replicate n false) x = false := by
  unfold mk
  rw [List.getD_eq_getElem?_getD, List.getElem?_replicate]
  split <;> rfl
theorem mk_range {n x : Nat} {f : Nat → Bool} (h : x < n) : mk ((List.range n).map f) x = f x := by
  unfold mk
  rw [List.getD_eq_getElem?_getD, List.getElem?_map, List.getElem?_range h]
  rfl
/-- what is closed under the pairs and has the starts has all to which ways lead -/
theorem PathTo.closed {ps : List (Nat × Nat)} {st : Nat → Prop} {P : Nat → Prop} {x : Nat} (h : PathTo ps st x) (hs : ∀ y, st y → P y) (hc : ∀ q ∈ ps, P q.1 → P q.2) : P x := by
  induction h with
  | base h => exact hs _ h
  | step _ hm ih => exact hc _ hm ih
end TR
namespace TR
section
variable {ps : List (Nat × Nat)} {st : Nat → Prop} {x y d e n : Nat}
open Classical in
theorem dist_iff : dist ps st x = some d ↔ Near ps st d x ∧ ∀ e, e < d → ¬ Near ps st e x := by
  unfold dist
  split
  · rename_i h
    have hs := h.choose_spec
    constructor
    · intro z
      injection z with z
      rw [← z]; exact hs
    · rintro ⟨h1, h2⟩
      congr 1
      rcases Nat.lt_trichotomy h.choose d with h3 | h3 | h3
      · exact absurd hs.1 (h2 _ h3)
      · exact h3
      · exact absurd h1 (hs.2 _ h3)
  · rename_i h
    constructor
    · intro z; cases z
    · exact fun z => absurd ⟨d, z⟩ h
theorem near_dist (h : Near ps st d x) : ∃ e, e ≤ d ∧ dist ps st x = some e := by
  induction d using Nat.strongRecOn with
  | ind d ih =>
    by_cases g : ∃ e, e < d ∧ Near ps st e x
    · obtain ⟨e, h1, h2⟩ := g
      obtain ⟨f, h3, h4⟩ := ih e h1 h2
      exact ⟨f, by omega, h4⟩
    · exact ⟨d, Nat.le_refl _, dist_iff.mpr ⟨h, fun e he hn => g ⟨e, he, hn⟩⟩⟩
theorem dist_zero : dist ps st x = some 0 ↔ st x := by
  rw [dist_iff]
  exact ⟨fun h => h.1, fun h => ⟨h, fun e he => absurd he (Nat.not_lt_zero _)⟩⟩
theorem dist_edge (h : (x, y) ∈ ps) (hy : dist ps st y = some d) : ∃ e, e ≤ d + 1 ∧ dist ps st x = some e :=
  near_dist (d := d + 1) ⟨y, h, (dist_iff.mp hy).1⟩
theorem dist_step (h : dist ps st x = some (d + 1)) : ∃ y, (x, y) ∈ ps ∧ dist ps st y = some d := by
  obtain ⟨⟨y, h1, h2⟩, h3⟩ := dist_iff.mp h
  refine ⟨y, h1, dist_iff.mpr ⟨h2, fun e he hn => h3 (e + 1) (by omega) ⟨y, h1, hn⟩⟩⟩
theorem filter_lt {α : Type} {l : List α} {p q : α → Bool} (h : ∀ x ∈ l, q x = true → p x = true) (g : ∃ x ∈ l, p x = true ∧ q x = false) : (l.filter q).length < (l.filter p).length := by
  induction l with
  | nil => obtain ⟨x, hx, _⟩ := g; cases hx
  | cons a l ih =>
    have hle : (l.filter q).length ≤ (l.filter p).length := by
      clear ih g
      induction l with
      | nil => exact Nat.le_refl _
      | cons b l ih =>
        have := ih fun x hx => h x (by rcases List.mem_cons.mp hx with h | h <;> simp [h])
        rw [List.filter_cons, List.filter_cons]
        have hb := h b (by simp)
        cases hq : q b with
        | true => rw [hb hq]; simp; exact this
        | false => cases hp : p b <;> simp <;> omega
    rw [List.filter_cons, List.filter_cons]
    by_cases hl : ∃ x ∈ l, p x = true ∧ q x = false
    · have := ih (fun x hx => h x (by simp [hx])) hl
      have ha := h a (by simp)
      cases hq : q a with
      | true => rw [ha hq]; simp; exact this
      | false => cases hp : p a <;> simp <;> omega
    · obtain ⟨x, hx, h1, h2⟩ := g
      rcases List.mem_cons.mp hx with rfl | hx
      · rw [h1, h2]; simp; omega
      · exact absurd ⟨x, hx, h1, h2⟩ hl
/-- how many stations are at least so far -/
noncomputable def nfar (n : Nat) (ps : List (Nat × Nat)) (st : Nat → Prop) (l : Nat) : Nat := ((List.range n).filter fun x => match dist ps st x with | some d => decide (l ≤ d) | none => false).length
theorem nfar_lt {l : Nat} (hx : x < n) (h : dist ps st x = some l) : nfar n ps st (l + 1) < nfar n ps st l := by
  unfold nfar
  refine filter_lt (fun y _ hy => ?_) ⟨x, List.mem_range.mpr hx, ?_, ?_⟩
  · cases hd : dist ps st y with
    | none => rw [hd] at hy; cases hy
    | some d => rw [hd] at hy; simp at hy ⊢; omega
  · rw [h]; simp
  · rw [h]; simp
theorem nfar_le {l : Nat} : nfar n ps st l ≤ n := by
  unfold nfar
  have := List.length_filter_le (fun x => match dist ps st x with | some d => decide (l ≤ d) | none => false) (List.range n)
  rw [List.length_range] at this
  exact this
theorem dist_back (hps : ∀ q ∈ ps, q.1 < n ∧ q.2 < n) (hx : x < n) (h : dist ps st x = some d) : ∀ l, l ≤ d → ∃ y, y < n ∧ dist ps st y = some l := fun l hl => by
  obtain ⟨k, rfl⟩ : ∃ k, d = l + k := ⟨d - l, by omega⟩
  induction k generalizing x with
  | zero => exact ⟨x, hx, h⟩
  | succ k ih =>
    obtain ⟨y, h1, h2⟩ := dist_step (d := l + k) h
    exact ih (hps _ h1).2 h2 (by omega)
theorem dist_lt (hps : ∀ q ∈ ps, q.1 < n ∧ q.2 < n) (hx : x < n) (h : dist ps st x = some d) : d < n := by
  have key : ∀ k, k ≤ d → nfar n ps st (d - k) ≥ k + 1 := fun k hk => by
    induction k with
    | zero =>
      have := nfar_lt hx h
      rw [Nat.sub_zero]
      omega
    | succ k ih =>
      have h1 := ih (by omega)
      obtain ⟨y, hy, hd⟩ := dist_back hps hx h (d - (k + 1)) (by omega)
      have h2 := nfar_lt hy hd
      have : d - (k + 1) + 1 = d - k := by omega
      rw [this] at h2
      omega
  have h1 := key d (Nat.le_refl _)
  have h2 := nfar_le (n := n) (ps := ps) (st := st) (l := d - d)
  omega
theorem minL_le {l : List Nat} : ∀ y ∈ l, minL l ≤ y := by
  induction l with
  | nil => intro y hy; cases hy
  | cons a l ih =>
    intro y hy
    cases l with
    | nil => rw [List.mem_singleton] at hy; rw [hy]; exact Nat.le_refl _
    | cons b l =>
      show min a (minL (b :: l)) ≤ y
      rcases List.mem_cons.mp hy with rfl | hy
      · exact Nat.min_le_left _ _
      · exact Nat.le_trans (Nat.min_le_right _ _) (ih y hy)
theorem minL_mem {l : List Nat} (h : l ≠ []) : minL l ∈ l := by
  induction l with
  | nil => exact absurd rfl h
  | cons a l ih =>
    cases l with
    | nil => exact List.mem_singleton.mpr rfl
    | cons b l =>
      show min a (minL (b :: l)) ∈ a :: b :: l
      rcases Nat.le_total a (minL (b :: l)) with h1 | h1
      · rw [Nat.min_eq_left h1]; simp
      · rw [Nat.min_eq_right h1]; exact List.mem_cons_of_mem _ (ih (by simp))
theorem minL_eq {l : List Nat} {m : Nat} (h1 : m ∈ l) (h2 : ∀ y ∈ l, m ≤ y) : m = minL l := by
  have h3 := minL_le m h1
  have h4 := h2 _ (minL_mem (l := l) (fun z => by rw [z] at h1; cases h1))
  omega
end
end TR
namespace TR
theorem bstep_in {e : En} {es : List En} {t : Stp} (h : t.2.1 = e.st ∧ t.2.2 ∉ es.map En.st) : bstep e es t = es ++ [⟨t.2.2, some (t.1, e.st), e.path ++ [t.1]⟩] := if_pos h
theorem bstep_out {e : En} {es : List En} {t : Stp} (h : ¬ (t.2.1 = e.st ∧ t.2.2 ∉ es.map En.st)) : bstep e es t = es := if_neg h
theorem nodup_le {n : Nat} {l : List Nat} (hn : l.Nodup) (h : ∀ x ∈ l, x < n) : l.length ≤ n := by
  induction n generalizing l with
  | zero =>
    cases l with
    | nil => exact Nat.le_refl _
    | cons a l => exact absurd (h a (by simp)) (Nat.not_lt_zero _)
  | succ n ih =>
    by_cases hm : n ∈ l
    · have h1 := ih (l := l.erase n) (hn.erase n) fun x hx => by
        rw [hn.mem_erase_iff] at hx
        have := h x hx.2
        have := hx.1
        omega
      rw [List.length_erase_of_mem hm] at h1
      omega
    · have := ih hn fun x hx => by
        have := h x hx
        have : x ≠ n := fun z => hm (z ▸ hx)
        omega
      omega
/-- the pairs of the steps -/
def stp (steps : List Stp) : List (Nat × Nat) := steps.map fun t => (t.2.1, t.2.2)
/-- a simple way from a start: its ropes, its end, the stations it passes -/
inductive Way (steps : List Stp) (st gl : List Nat) : List Nat → Nat → List Nat → Prop
  | base {x : Nat} : x ∈ st → Way steps st gl [] x [x]
  | step {l vis : List Nat} {t : Stp} : Way steps st gl l t.2.1 vis → t ∈ steps → t.2.2 ∉ vis → t.2.1 ∉ gl → Way steps st gl (l ++ [t.1]) t.2.2 (vis ++ [t.2.2])
section
variable {steps : List Stp} {st gl l vis : List Nat} {n i f x : Nat} {es : List En} {e : En}
theorem Way.nodup (h : Way steps st gl l x vis) : vis.Nodup := by
  induction h with
  | base _ => simp
  | step _ _ hn _ ih =>
    rw [List.nodup_append]
    refine ⟨ih, by simp, fun a ha b hb => ?_⟩
    rw [List.mem_singleton] at hb
    subst hb
    exact fun z => hn (z ▸ ha)
theorem Way.len (h : Way steps st gl l x vis) : vis.length = l.length + 1 := by
  induction h with
  | base _ => rfl
  | step _ _ _ _ ih => rw [List.length_append, List.length_append, ih]; rfl
theorem Way.last (h : Way steps st gl l x vis) : x ∈ vis := by
  cases h with
  | base _ => simp
  | step _ _ _ _ => simp
theorem Way.lt (h : Way steps st gl l x vis) (hs : ∀ x ∈ st, x < n) (ht : ∀ t ∈ steps, t.2.2 < n) : ∀ v ∈ vis, v < n := by
  induction h with
  | base h => intro v hv; rw [List.mem_singleton] at hv; subst hv; exact hs _ h
  | step _ hm _ _ ih =>
    intro v hv
    rw [List.mem_append, List.mem_singleton] at hv
    rcases hv with hv | rfl
    · exact ih v hv
    · exact ht _ hm
theorem Way.short (h : Way steps st gl l x vis) (hs : ∀ x ∈ st, x < n) (ht : ∀ t ∈ steps, t.2.2 < n) : l.length + 1 ≤ n := by
  rw [← h.len]
  exact nodup_le h.nodup (h.lt hs ht)
/-- the search so far -/
structure BI (steps : List Stp) (st gl : List Nat) (n : Nat) (es : List En) (i : Nat) : Prop where
  nd : (es.map En.st).Nodup
  lt : ∀ x ∈ es.map En.st, x < n
  wy : ∀ e ∈ es, ∃ vis, Way steps st gl e.path e.st vis ∧ ∀ v ∈ vis, v ∈ es.map En.st
  sub : ∀ x ∈ st, x ∈ es.map En.st
  cl : ∀ j, j < i → ∀ e, es[j]? = some e → e.st ∉ gl ∧ ∀ t ∈ steps, t.2.1 = e.st → t.2.2 ∈ es.map En.st
  le : i ≤ es.length
theorem BI.fold (hgl : e.st ∉ gl) (ht : ∀ t ∈ steps, t.2.2 < n) (ts : List Stp) (hs : ∀ t ∈ ts, t ∈ steps) : ∀ {es : List En}, (es.map En.st).Nodup → (∀ x ∈ es.map En.st, x < n) → (∀ e ∈ es, ∃ vis, Way steps st gl e.path e.st vis ∧ ∀ v ∈ vis, v ∈ es.map En.st) → e ∈ es →
    (((ts.foldl (bstep e) es).map En.st).Nodup ∧ (∀ x ∈ (ts.foldl (bstep e) es).map En.st, x < n) ∧ (∀ f ∈ ts.foldl (bstep e) es, ∃ vis, Way steps st gl f.path f.st vis ∧ ∀ v ∈ vis, v ∈ (ts.foldl (bstep e) es).map En.st) ∧
      (∃ more, ts.foldl (bstep e) es = es ++ more) ∧ ∀ t ∈ ts, t.2.1 = e.st → t.2.2 ∈ (ts.foldl (bstep e) es).map En.st) := by
  induction ts with
  | nil => exact fun h1 h2 h3 h4 => ⟨h1, h2, h3, ⟨[], by simp⟩, fun t ht => by cases ht⟩
  | cons t ts ih =>
    intro es h1 h2 h3 h4
    have htm := hs t (by simp)
    have key : ((bstep e es t).map En.st).Nodup ∧ (∀ x ∈ (bstep e es t).map En.st, x < n) ∧ (∀ f ∈ bstep e es t, ∃ vis, Way steps st gl f.path f.st vis ∧ ∀ v ∈ vis, v ∈ (bstep e es t).map En.st) ∧ (∃ more, bstep e es t = es ++ more) ∧ (t.2.1 = e.st → t.2.2 ∈ (bstep e es t).map En.st) := by
      by_cases hc : t.2.1 = e.st ∧ t.2.2 ∉ es.map En.st
      · rw [bstep_in hc]
        refine ⟨?_, fun x hx => ?_, fun f hf => ?_, ⟨_, rfl⟩, fun _ => by simp⟩
        · rw [List.map_append, List.nodup_append]
          refine ⟨h1, by simp, fun a ha b hb => ?_⟩
          have : b = t.2.2 := by simpa using hb
          subst this
          exact fun z => hc.2 (z ▸ ha)
        · rw [List.map_append, List.mem_append] at hx
          rcases hx with hx | hx
          · exact h2 x hx
          · have : x = t.2.2 := by simpa using hx
            subst this
            exact ht t htm
        · rw [List.mem_append, List.mem_singleton] at hf
          rcases hf with hf | rfl
          · obtain ⟨vis, w1, w2⟩ := h3 f hf
            exact ⟨vis, w1, fun v hv => by rw [List.map_append, List.mem_append]; exact .inl (w2 v hv)⟩
          · obtain ⟨vis, w1, w2⟩ := h3 e h4
            rw [← hc.1] at w1
            refine ⟨vis ++ [t.2.2], .step w1 htm (fun z => hc.2 (w2 _ z)) (hc.1 ▸ hgl), fun v hv => ?_⟩
            rw [List.mem_append, List.mem_singleton] at hv
            rw [List.map_append, List.mem_append]
            rcases hv with hv | rfl
            · exact .inl (w2 v hv)
            · exact .inr (by simp)
      · rw [bstep_out hc]
        refine ⟨h1, h2, h3, ⟨[], by simp⟩, fun h => ?_⟩
        exact Classical.byContradiction fun z => hc ⟨h, z⟩
    obtain ⟨k1, k2, k3, ⟨m1, k4⟩, k5⟩ := key
    have k6 : e ∈ bstep e es t := by rw [k4]; simp [h4]
    obtain ⟨r1, r2, r3, ⟨m2, r4⟩, r5⟩ := ih (fun t ht => hs t (by simp [ht])) k1 k2 k3 k6
    refine ⟨r1, r2, r3, ⟨m1 ++ m2, ?_⟩, fun u hu hu2 => ?_⟩
    · show ts.foldl (bstep e) (bstep e es t) = _
      rw [r4, k4, List.append_assoc]
    · rcases List.mem_cons.mp hu with rfl | hu
      · have := k5 hu2
        show u.2.2 ∈ (ts.foldl (bstep e) (bstep e es u)).map En.st
        rw [r4, List.map_append, List.mem_append]
        exact .inl this
      · exact r5 u hu hu2
theorem BI.next (ht : ∀ t ∈ steps, t.2.2 < n) (b : BI steps st gl n es i) (he : es[i]? = some e) (hg : e.st ∉ gl) : BI steps st gl n (steps.foldl (bstep e) es) (i + 1) := by
  have hi := (List.getElem?_eq_some_iff.mp he).1
  obtain ⟨r1, r2, r3, ⟨m, r4⟩, r5⟩ := BI.fold (e := e) hg ht steps (fun _ h => h) b.nd b.lt b.wy (List.mem_of_getElem? he)
  have hsub : ∀ x ∈ es.map En.st, x ∈ (steps.foldl (bstep e) es).map En.st := fun x hx => by rw [r4, List.map_append, List.mem_append]; exact .inl hx
  refine ⟨r1, r2, r3, fun x hx => hsub x (b.sub x hx), fun j hj f hf => ?_, ?_⟩
  · rcases Nat.lt_or_ge j i with h | h
    · rw [r4, List.getElem?_append_left (by omega)] at hf
      obtain ⟨c1, c2⟩ := b.cl j h f hf
      exact ⟨c1, fun t ht h => hsub _ (c2 t ht h)⟩
    · have : j = i := by omega
      subst this
      rw [r4, List.getElem?_append_left hi, he] at hf
      injection hf with hf
      subst hf
      exact ⟨hg, r5⟩
  · rw [r4, List.length_append]; omega
theorem bfs_succ (f : Nat) (es : List En) (i : Nat) : bfs steps gl (f + 1) es i = match es[i]? with | none => none | some e => if e.st ∈ gl then some e.path else bfs steps gl f (steps.foldl (bstep e) es) (i + 1) := rfl
theorem bfs_some (ht : ∀ t ∈ steps, t.2.2 < n) : ∀ {f : Nat} {es : List En} {i : Nat}, BI steps st gl n es i → bfs steps gl f es i = some l → ∃ g ∈ gl, ∃ vis, Way steps st gl l g vis := by
  intro f
  induction f with
  | zero => intro es i _ h; cases h
  | succ f ih =>
    intro es i b h
    rw [bfs_succ] at h
    cases he : es[i]? with
    | none => rw [he] at h; cases h
    | some e =>
      rw [he] at h
      by_cases hg : e.st ∈ gl
      · have h : (if e.st ∈ gl then some e.path else _) = some l := h
        rw [if_pos hg] at h
        injection h with h
        subst h
        obtain ⟨vis, w, _⟩ := b.wy e (List.mem_of_getElem? he)
        exact ⟨e.st, hg, vis, w⟩
      · have h : (if e.st ∈ gl then some e.path else bfs steps gl f (steps.foldl (bstep e) es) (i + 1)) = some l := h
        rw [if_neg hg] at h
        exact ih (b.next ht he hg) h
theorem bfs_none (ht : ∀ t ∈ steps, t.2.2 < n) : ∀ {f : Nat} {es : List En} {i : Nat}, BI steps st gl n es i → f + i = n + 1 → bfs steps gl f es i = none → ∀ x, PathTo (stp steps) (fun x => x ∈ st) x → x ∉ gl := by
  intro f
  induction f with
  | zero =>
    intro es i b hf
    have := b.le
    have := nodup_le b.nd b.lt
    rw [List.length_map] at this
    omega
  | succ f ih =>
    intro es i b hf h
    rw [bfs_succ] at h
    cases he : es[i]? with
    | none =>
      have hi : es.length ≤ i := by
        rcases Nat.lt_or_ge i es.length with h1 | h1
        · rw [List.getElem?_eq_getElem h1] at he; cases he
        · exact h1
      have hall : ∀ x, PathTo (stp steps) (fun x => x ∈ st) x → x ∈ es.map En.st := fun x hx => by
        induction hx with
        | base h => exact b.sub _ h
        | step _ hm ih2 =>
          obtain ⟨t, htm, hte⟩ := List.mem_map.mp hm
          obtain ⟨e, hem, hes⟩ := List.mem_map.mp ih2
          obtain ⟨j, hj⟩ := List.getElem?_of_mem hem
          have hjl := (List.getElem?_eq_some_iff.mp hj).1
          injection hte with t1 t2
          rw [← t2]
          exact (b.cl j (by omega) e hj).2 t htm (by rw [t1, hes])
      intro x hx hg
      obtain ⟨e, hem, hes⟩ := List.mem_map.mp (hall x hx)
      obtain ⟨j, hj⟩ := List.getElem?_of_mem hem
      have hjl := (List.getElem?_eq_some_iff.mp hj).1
      exact (b.cl j (by omega) e hj).1 (hes ▸ hg)
    | some e =>
      rw [he] at h
      have h : (if e.st ∈ gl then some e.path else bfs steps gl f (steps.foldl (bstep e) es) (i + 1)) = none := h
      by_cases hg : e.st ∈ gl
      · rw [if_pos hg] at h; cases h
      · rw [if_neg hg] at h
        exact ih (b.next ht he hg) (by omega) h
theorem BI.init (hn : st.Nodup) (hs : ∀ x ∈ st, x < n) : BI steps st gl n (st.map fun x => ⟨x, none, []⟩) 0 := by
  have h0 : (st.map fun x => (⟨x, none, []⟩ : En)).map En.st = st := by rw [List.map_map]; exact List.map_id _
  refine ⟨by rw [h0]; exact hn, by rw [h0]; exact hs, fun e he => ?_, by rw [h0]; exact fun _ h => h, fun j hj => absurd hj (Nat.not_lt_zero _), Nat.zero_le _⟩
  obtain ⟨x, hx, rfl⟩ := List.mem_map.mp he
  exact ⟨[x], .base hx, fun v hv => by rw [h0]; rw [List.mem_singleton] at hv; subst hv; exact hx⟩
theorem sway_some (hn : st.Nodup) (hs : ∀ x ∈ st, x < n) (ht : ∀ t ∈ steps, t.2.2 < n) (h : sway n steps st gl = some l) : ∃ g ∈ gl, ∃ vis, Way steps st gl l g vis := bfs_some ht (BI.init hn hs) h
theorem sway_none (hn : st.Nodup) (hs : ∀ x ∈ st, x < n) (ht : ∀ t ∈ steps, t.2.2 < n) (h : sway n steps st gl = none) : ∀ x, PathTo (stp steps) (fun x => x ∈ st) x → x ∉ gl := bfs_none ht (BI.init hn hs) rfl h
theorem sway_len (hn : st.Nodup) (hs : ∀ x ∈ st, x < n) (ht : ∀ t ∈ steps, t.2.2 < n) (h : sway n steps st gl = some l) : l.length + 1 ≤ n := by
  obtain ⟨g, _, vis, w⟩ := sway_some hn hs ht h
  exact w.short hs ht
end
end TR
namespace TR
open PySem L2 PyProof.Rows
open Evl (Ex EvT fresh_back)
local macro_rules | `(tactic| walk_at "h") => `(tactic| first
  | assumption
  | (refine Ex.at (by assumption) ?_; walk_at "h")
  | (refine Kp.at (by assumption) ?_; walk_at "h")
  | (refine Fz.mono (Kp.ex (by assumption)) ?_; walk_at "h")
  | (refine Fz.mono (by assumption) ?_; walk_at "h")
  | (refine FzL.mono (Kp.ex (by assumption)) ?_; walk_at "h")
  | (refine FzL.mono (by assumption) ?_; walk_at "h")
  | (refine NetAt.mono (Kp.ex (by assumption)) ?_; walk_at "h")
  | (refine NetAt.mono (by assumption) ?_; walk_at "h")
  | (refine StaA.mono (Kp.ex (by assumption)) ?_; walk_at "h")
  | (refine StaA.mono (by assumption) ?_; walk_at "h")
  | (refine Sta.mono (Kp.ex (by assumption)) ?_; walk_at "h")
  | (refine Sta.mono (by assumption) ?_; walk_at "h")
  | (refine Lst.mono (by assumption) ?_; walk_at "h")
  | (refine Seq.mono (by assumption) ?_; walk_at "h"))
local macro_rules | `(tactic| walk_at "fz") => `(tactic| first
  | exact Fz.int _ | exact Fz.bl _ | exact Fz.str _ | exact Fz.non
  | walk_at "h"
  | exact Fz.adr _)
local macro_rules | `(tactic| walk_at "ix") => `(tactic| first
  | exact rfl
  | (refine atI_nat ?_; first | assumption | rfl | (simp; done)))
local macro_rules | `(tactic| walk_at "ev") => `(tactic| first
  | exact evd_int | exact evd_str | exact evd_bl | exact evd_non
  | (refine evd_var rfl ?_; walk_at "fz")
  | (refine evd_stations ?_ ?_; (walk_at "h"); (walk_at "ev"))
  | (refine evd_ropes ?_ ?_; (walk_at "h"); (walk_at "ev"))
  | (refine evd_net ?_ ?_; (walk_at "h"); (walk_at "ev"))
  | (refine evd_reds ?_ ?_; (walk_at "h"); (walk_at "ev"))
  | (refine evd_blues ?_ ?_; (walk_at "h"); (walk_at "ev"))
  | (refine evd_cars ?_ ?_; (walk_at "h"); (walk_at "ev"))
  | (refine evd_add ?_ ?_; (walk_at "ev"); (walk_at "ev"))
  | (refine evd_sub ?_ ?_; (walk_at "ev"); (walk_at "ev"))
  | (refine evd_lt ?_ ?_; (walk_at "ev"); (walk_at "ev"))
  | (refine evd_le ?_ ?_; (walk_at "ev"); (walk_at "ev"))
  | (refine evd_gt ?_ ?_; (walk_at "ev"); (walk_at "ev"))
  | (refine evd_ge ?_ ?_; (walk_at "ev"); (walk_at "ev"))
  | (refine evd_neg ?_; (walk_at "ev"))
  | (refine evd_eqI ?_ ?_; (walk_at "ev"); (walk_at "ev"))
  | (refine evd_neI ?_ ?_; (walk_at "ev"); (walk_at "ev"))
  | (refine evd_eqS ?_ ?_; (walk_at "ev"); (walk_at "ev"))
  | (refine evd_eqB ?_ ?_; (walk_at "ev"); (walk_at "ev"))
  | (refine evd_neB ?_ ?_; (walk_at "ev"); (walk_at "ev"))
  | (refine evd_isN ?_ ?_; (walk_at "ev"); exact rfl)
  | (refine evd_notN ?_ ?_; (walk_at "ev"); exact rfl)
  | (refine evd_ixT ?_ ?_ ?_; (walk_at "ev"); (walk_at "ev"); (walk_at "ix"))
  | (refine evd_ixL ?_ ?_ ?_ ?_ ?_; (walk_at "ev"); (walk_at "h"); (walk_at "h"); (walk_at "ev"); (walk_at "ix"))
  | (refine evd_tup ?_ ?_; (walk_at "evs"); exact Nat.le_of_ble_eq_true rfl)
  | (refine evd_lenD ?_; walk_at "ev")
  | (refine evd_lenL ?_ ?_; (walk_at "ev"); (walk_at "h"))
  | (refine evd_intI ?_; walk_at "ev")
  | (refine evd_intB ?_; walk_at "ev")
  | (refine evd_notV ?_; walk_at "ev"))
local macro_rules | `(tactic| walk_at "evs") => `(tactic| first
  | exact evds_nil
  | (refine evds_cons ?_ ?_; (walk_at "ev"); (walk_at "evs")))
local macro_rules | `(tactic| walk_at "et") => `(tactic| first
  | (refine et_test ?_; walk_at "ev")
  | (refine et_B ?_; walk_at "ev")
  | (refine et_tru ?_ ?_; (walk_at "ev"); (walk_at "h"))
  | (refine Evl.et_not ?_; walk_at "et")
  | (refine et_chain2 ?_ ?_ ?_; (walk_at "ev"); (walk_at "ev"); (walk_at "ev")))
section
variable {K : PySem.W.Frag} {mg : Str → Option Value}
abbrev Goes (t : TS) (N : List Str) (vs : List V) (H : Hp) (Q : VK) : Prop := t { nx := fun _ H' => Q .non H', rt := Q } (start N vs) H
theorem pure_check_station (T : Txt K mg) (vs : List V) (H : Hp) (Q : VK) (E : XK) (h : sp_check_station T vs H Q E) : Goes (t_check_station T) N_check_station vs H Q := by
  obtain ⟨a, w, x, rfl, N, hx, k⟩ := h
  refine s_if (b := false) (Evl.et_is (Evl.et_not (et_chain2 (evd_int) (evd_var rfl (.int _)) (evd_stations N (evd_var rfl (.adr _))))) ?_) (fun q => by cases q) fun _ H1 e => k _ _ e .non
  have h1 : decide ((0 : Int) ≤ x) = true := decide_eq_true (by omega)
  have h2 : decide ((x : Int) < w.n) = true := decide_eq_true (by omega)
  rw [h1, h2]; rfl
theorem pure_check_rope (T : Txt K mg) (vs : List V) (H : Hp) (Q : VK) (E : XK) (h : sp_check_rope T vs H Q E) : Goes (t_check_rope T) N_check_rope vs H Q := by
  obtain ⟨a, w, x, rfl, N, hx, k⟩ := h
  refine s_if (b := false) (Evl.et_is (Evl.et_not (et_chain2 (evd_int) (evd_var rfl (.int _)) (evd_lenD (evd_ropes N (evd_var rfl (.adr _)))))) ?_) (fun q => by cases q) fun _ H1 e => k _ _ e .non
  have h1 : decide ((0 : Int) ≤ x) = true := decide_eq_true (by omega)
  have h2 : decide ((x : Int) < ((w.rs.map dPair).length : Nat)) = true := decide_eq_true (by rw [List.length_map]; omega)
  rw [h1, h2]; rfl
theorem pure_check_colour (T : Txt K mg) (vs : List V) (H : Hp) (Q : VK) (E : XK) (h : sp_check_colour T vs H Q E) : Goes (t_check_colour T) N_check_colour vs H Q := by
  obtain ⟨c, rfl, k⟩ := h
  refine s_if (b := false) (Evl.et_is (et_test (evd_inT (d := .str (colS c)) (ds := [.str "red", .str "blue"]) (evd_var rfl (.str _)) rfl rfl (by walk_at "ev") rfl rfl)) ?_) (fun q => by cases q) fun _ H1 e => k _ _ e .non
  cases c <;> decide +kernel
theorem map_get {α β : Type} {l : List α} {f : α → β} {i : Nat} {y : β} (h : (l.map f)[i]? = some y) : ∃ x, l[i]? = some x ∧ y = f x := by
  rw [List.getElem?_map] at h
  cases e : l[i]? with
  | none => rw [e] at h; cases h
  | some x => rw [e] at h; cases h; exact ⟨x, rfl, rfl⟩
theorem pure_check_rides (T : Txt K mg) (vs : List V) (H : Hp) (Q : VK) (E : XK) (h : sp_check_rides T vs H Q E) : Goes (t_check_rides T) N_check_rides vs H Q := by
  obtain ⟨a, w, p, rs, rfl, N, hp, hr, k⟩ := h
  refine for_intro (i_seqS (evd_var rfl (.adr _)) hp fun J H1 e1 S => ?_)
  refine s_for (E := { nx := fun _ H' => Q .non H', rt := Q }) S (fun i σ' H' => Ex H1 H' ∧ ∃ x y, σ' = [some (.ref a), some (.ref p), x, y]) ⟨Ex.refl _, none, none, rfl⟩ (fun i σ' H' _ ⟨e, _⟩ => e) ?_ fun σ' H' ⟨e, _⟩ => k _ _ (e1.trans e) .non
  rintro i x σ' H' H2 hi ⟨e, z1, z2, rfl⟩ e2 ⟨d, hd, fd⟩
  obtain ⟨r, hr', rfl⟩ := map_get hd
  obtain ⟨v1, v2, f1, f2, hq⟩ := tg_2 (K := K) (i := 2) (j := 3) fd
  obtain rfl := f1.int_of
  obtain rfl := f2.str_of
  refine hq _ _ ?_
  refine q_drop (evd_check_rope (N.mono (Kp.ex ((e1.trans e).trans e2))) (evd_var rfl (.adr _)) (evd_var rfl (.int _)) (hr r (List.mem_of_getElem? hr'))) fun H3 e3 => ?_
  refine s_drop (d := .non) (evd_callF (evds_cons (evd_var rfl (.str _)) evds_nil) rfl fun H1 e Q q => ⟨r.2, rfl, q⟩) fun H4 e4 => ?_
  exact ⟨((e.trans e2).trans e3).trans e4, _, _, rfl⟩
theorem pure_check_cars (T : Txt K mg) (vs : List V) (H : Hp) (Q : VK) (E : XK) (h : sp_check_cars T vs H Q E) : Goes (t_check_cars T) N_check_cars vs H Q := by
  obtain ⟨a, w, p, cs, rfl, N, hp, hl, hc, k⟩ := h
  refine q_if (b := false) (Evl.et_is (et_test (evd_neI (evd_lenS (evd_var rfl (.adr _)) hp) (evd_lenD (evd_ropes N (evd_var rfl (.adr _)))))) ?_) (fun q => by cases q) fun _ H0 e0 => ?_
  · rw [List.length_map, List.length_map, hl]; simp
  refine for_intro (i_enS (evd_var rfl (.adr _)) (hp.mono e0) fun J H1 e1 S => ?_)
  refine s_for (E := { nx := fun _ H' => Q .non H', rt := Q }) S (fun i σ' H' => Ex H1 H' ∧ ∃ x y, σ' = [some (.ref a), some (.ref p), x, y]) ⟨Ex.refl _, none, none, rfl⟩ (fun i σ' H' _ ⟨e, _⟩ => e) ?_ fun σ' H' ⟨e, _⟩ => k _ _ ((e0.trans e1).trans e) .non
  rintro i x σ' H' H2 hi ⟨e, z1, z2, rfl⟩ e2 ⟨d, hd, fd⟩
  obtain ⟨c, hc', rfl⟩ := map_get hd
  have hc1 := hc c (List.mem_of_getElem? hc')
  obtain ⟨v1, v2, f1, f2, hq⟩ := tg_2 (K := K) (i := 2) (j := 3) fd
  obtain rfl := f1.int_of
  obtain rfl := f2.int_of
  refine hq _ _ ?_
  refine s_if (b := false) (Evl.et_is (et_test (evd_inT (d := dn c) (ds := [.int 0, .int 1]) (evd_var rfl (.int _)) rfl rfl (by walk_at "ev") rfl rfl)) ?_) (fun q => by cases q) fun _ H3 e3 => ⟨(e.trans e2).trans e3, _, _, rfl⟩
  have : c = 0 ∨ c = 1 := by omega
  rcases this with rfl | rfl <;> rfl
theorem pure_check_guests (T : Txt K mg) (vs : List V) (H : Hp) (Q : VK) (E : XK) (h : sp_check_guests T vs H Q E) : Goes (t_check_guests T) N_check_guests vs H Q := by
  obtain ⟨a, w, x, p, cs, rfl, N, hp, hl, k⟩ := h
  refine q_if (b := false) (Evl.et_is (et_test (evd_neI (evd_lenS (evd_var rfl (.adr _)) hp) (evd_stations N (evd_var rfl (.adr _))))) ?_) (fun q => by cases q) fun _ H0 e0 => ?_
  · rw [List.length_map, hl]; simp
  refine for_intro (i_enS (evd_var rfl (.adr _)) (hp.mono e0) fun J H1 e1 S => ?_)
  refine s_for (E := { nx := fun _ H' => Q .non H', rt := Q }) S (fun i σ' H' => Ex H1 H' ∧ ∃ y z, σ' = [some (.ref a), some (.str x), some (.ref p), y, z]) ⟨Ex.refl _, none, none, rfl⟩ (fun i σ' H' _ ⟨e, _⟩ => e) ?_ fun σ' H' ⟨e, _⟩ => k _ _ ((e0.trans e1).trans e) .non
  rintro i x σ' H' H2 hi ⟨e, z1, z2, rfl⟩ e2 ⟨d, hd, fd⟩
  obtain ⟨c, hc', rfl⟩ := map_get hd
  obtain ⟨v1, v2, f1, f2, hq⟩ := tg_2 (K := K) (i := 3) (j := 4) fd
  obtain rfl := f1.int_of
  obtain rfl := f2.int_of
  refine hq _ _ ?_
  refine s_if (b := false) (Evl.et_is (et_test (evd_lt (evd_var rfl (.int _)) evd_int)) ?_) (fun q => by cases q) fun _ H3 e3 => ⟨(e.trans e2).trans e3, _, _, rfl⟩
  exact decide_eq_false (by omega)
theorem pure_Standing_red_car (T : Txt K mg) (vs : List V) (H : Hp) (Q : VK) (E : XK) (h : sp_Standing_red_car T vs H Q E) : Goes (t_Standing_red_car T) N_Standing_red_car vs H Q := by
  obtain ⟨a, w, s, k, rfl, ⟨an, S⟩, hk, q⟩ := h
  refine q_drop (evd_check_rope S.nt (evd_net S (evd_var rfl (.adr _))) (evd_var rfl (.int _)) hk) fun H1 e1 => ?_
  have S1 := S.mono (Kp.ex e1)
  refine s_ret (evd_ixT (evd_ixT (evd_ropes S1.nt (evd_net S1 (evd_var rfl (.adr _)))) (evd_var rfl (.int _)) (at_dPair hk)) (evd_ixT (evd_cars S1 (evd_var rfl (.adr _))) (evd_var rfl (.int _)) (at_dn (by rw [S.ok.lc]; exact hk))) (at_pick (car_le S.ok))) fun v H2 e2 f => q v H2 (e1.trans e2) f
theorem pure_Standing_blue_car (T : Txt K mg) (vs : List V) (H : Hp) (Q : VK) (E : XK) (h : sp_Standing_blue_car T vs H Q E) : Goes (t_Standing_blue_car T) N_Standing_blue_car vs H Q := by
  obtain ⟨a, w, s, k, rfl, ⟨an, S⟩, hk, q⟩ := h
  refine q_drop (evd_check_rope S.nt (evd_net S (evd_var rfl (.adr _))) (evd_var rfl (.int _)) hk) fun H1 e1 => ?_
  have S1 := S.mono (Kp.ex e1)
  refine s_ret (evd_ixT (evd_ixT (evd_ropes S1.nt (evd_net S1 (evd_var rfl (.adr _)))) (evd_var rfl (.int _)) (at_dPair hk)) (evd_sub evd_int (evd_ixT (evd_cars S1 (evd_var rfl (.adr _))) (evd_var rfl (.int _)) (at_dn (by rw [S.ok.lc]; exact hk)))) (at_pick1 (car_le S.ok))) fun v H2 e2 f => q v H2 (e1.trans e2) f
theorem pure_far_end (T : Txt K mg) (vs : List V) (H : Hp) (Q : VK) (E : XK) (h : sp_far_end T vs H Q E) : Goes (t_far_end T) N_far_end vs H Q := by
  obtain ⟨a, w, k, x, rfl, N, hk, q⟩ := h
  refine evd_ixT (evd_ropes N (evd_var rfl (.adr _))) (evd_var rfl (.int _)) (at_dPair hk) H (Ex.refl _) _ fun v H1 e1 f => ?_
  obtain ⟨v1, v2, f1, f2, hq⟩ := tg_2 (K := K) (i := 3) (j := 4) f
  obtain rfl := f1.int_of
  obtain rfl := f2.int_of
  refine hq _ _ ?_
  refine s_ret (evd_if (d := dn (far (rope w k) x)) (et_test (evd_eqI (evd_var rfl (.int _)) (evd_var rfl (.int _)))) (fun hb => ?_) fun hb => ?_) fun v H2 e2 f => q v H2 (e1.trans e2) f
  · have hb' := of_decide_eq_true hb
    have e : far (rope w k) x = (rope w k).2 := by unfold far rope; exact if_pos (by omega)
    rw [e]; exact evd_var rfl (.int _)
  · have hb' := of_decide_eq_false hb
    have e : far (rope w k) x = (rope w k).1 := by unfold far rope; exact if_neg (by omega)
    rw [e]; exact evd_var rfl (.int _)
theorem colS_red {c : Bool} : decide (colS c = ("red" : Str)) = c := by cases c <;> decide +kernel
theorem colS_blue {c : Bool} : decide (colS c = ("blue" : Str)) = !c := by cases c <;> decide +kernel
theorem pure_car_station (T : Txt K mg) (vs : List V) (H : Hp) (Q : VK) (E : XK) (h : sp_car_station T vs H Q E) : Goes (t_car_station T) N_car_station vs H Q := by
  obtain ⟨a, w, s, k, c, rfl, ⟨an, S⟩, hk, q⟩ := h
  refine q_asg (evd_ixT (evd_cars S (evd_var rfl (.adr _))) (evd_var rfl (.int _)) (at_dn (by rw [S.ok.lc]; exact hk))) fun v H1 e1 f => ?_
  obtain rfl := f.int_of
  have S1 := S.mono (Kp.ex e1)
  have hc : car s k ≤ 1 := car_le S.ok
  have go : ∀ H2, Ex H1 H2 → tRet (tOp (rIx K) (tOp (rIx K) (tFld K (tFld K (tVar 0) "net") "ropes") (tVar 1)) (tVar 3)) { nx := fun _ H' => Q .non H', rt := Q } [some (.ref a), some (vn k), some (.str (colS c)), some (.int (if c then (car s k : Int) else 1 - (car s k : Int)))] H2 := fun H2 e2 => by
    have S2 := S1.mono (Kp.ex e2)
    refine s_ret (d := dn (carSt w s k c)) (evd_ixT (evd_ixT (evd_ropes S2.nt (evd_net S2 (evd_var rfl (.adr _)))) (evd_var rfl (.int _)) (at_dPair hk)) (evd_var rfl (.int _)) ?_) fun v H3 e3 f => q v H3 ((e1.trans e2).trans e3) f
    cases c with
    | true => exact at_pick hc
    | false => exact at_pick1 hc
  refine q_if (et_test (evd_eqS (evd_var rfl (.str _)) evd_str)) (fun hb H2 e2 => ?_) fun hb H2 e2 => ?_
  · rw [colS_blue] at hb
    refine s_asg (evd_sub evd_int (evd_var rfl (.int _))) fun v H3 e3 f => ?_
    obtain rfl := f.int_of
    cases c with
    | true => cases hb
    | false => exact go H3 (e2.trans e3)
  · rw [colS_blue] at hb
    cases c with
    | true => exact go H2 e2
    | false => cases hb
theorem pure_guests_of (T : Txt K mg) (vs : List V) (H : Hp) (Q : VK) (E : XK) (h : sp_guests_of T vs H Q E) : Goes (t_guests_of T) N_guests_of vs H Q := by
  obtain ⟨a, w, s, c, rfl, ⟨an, S⟩, q⟩ := h
  refine s_ret (evd_if (et_test (evd_eqS (evd_var rfl (.str _)) evd_str)) (fun hb => ?_) fun hb => ?_) q
  · rw [colS_red] at hb; subst hb; exact evd_reds S (evd_var rfl (.adr _))
  · rw [colS_red] at hb; subst hb; exact evd_blues S (evd_var rfl (.adr _))
theorem pure_is_possible (T : Txt K mg) (vs : List V) (H : Hp) (Q : VK) (E : XK) (h : sp_is_possible T vs H Q E) : Goes (t_is_possible T) N_is_possible vs H Q := by
  obtain ⟨a, w, s, k, c, rfl, S, hk, q⟩ := h
  refine s_ret (EvD.eq (evd_gt (evd_ixT (evd_guests_of S (evd_var rfl (.adr _)) (evd_var rfl (.str _))) (evd_car_station S (evd_var rfl (.adr _)) (evd_var rfl (.int _)) (evd_var rfl (.str _)) hk) (at_dn (by rw [gs_len S.ok]; exact carSt_lt S.wok hk))) evd_int) ?_) q
  show D.bl (decide (0 < (((gs s c).getD (carSt w s k c) 0 : Nat) : Int))) = D.bl (decide (0 < (gs s c).getD (carSt w s k c) 0))
  congr 1
  exact decide_eq_decide.mpr (by omega)
theorem pure_arrows_of (T : Txt K mg) (vs : List V) (H : Hp) (Q : VK) (E : XK) (h : sp_arrows_of T vs H Q E) : Goes (t_arrows_of T) N_arrows_of vs H Q := by
  obtain ⟨a, w, s, rfl, ⟨an, S⟩, q⟩ := h
  have W := S.nt.ok
  refine s_retN (EvN.eq (evn_lc (fun _ => true) (fun k => dPair (redSt w s k, bluSt w s k)) (evi_rng (n := w.rs.length) (EvD.eq (evd_lenD (evd_ropes S.nt (evd_net S (evd_var rfl (.adr _))))) ?_) (by have := W.m40; omega)) (by have := W.m40; omega) fun i v H1 hi e f => ?_) ?_) fun p vs H1 hp e h1 f => q p vs H1 hp e h1 f
  · rw [List.length_map]
  · obtain rfl := f.int_of
    exact ⟨[some (.ref a), some (vn i)], fun Q' q => q, rfl, fun H2 e2 Q q => q H2 (Ex.refl _), fun _ => evd_tup (evds_cons (evd_red_car ⟨an, S.mono (Kp.ex e)⟩ (evd_var rfl (.adr _)) (evd_var rfl (.int _)) hi) (evds_cons (evd_blue_car ⟨an, S.mono (Kp.ex e)⟩ (evd_var rfl (.adr _)) (evd_var rfl (.int _)) hi) evds_nil)) (Nat.le_of_ble_eq_true rfl)⟩
  · unfold arrows
    rw [List.filter_eq_self.mpr (fun _ _ => rfl), List.map_map]; rfl
end
end TR
namespace TR
open PySem L2 PyProof.Rows
open Evl (Ex EvT fresh_back)
local macro_rules | `(tactic| walk_at "h") => `(tactic| first
  | assumption
  | (refine Ex.at (by assumption) ?_; walk_at "h")
  | (refine Kp.at (by assumption) ?_; walk_at "h")
  | (refine Fz.mono (Kp.ex (by assumption)) ?_; walk_at "h")
  | (refine Fz.mono (by assumption) ?_; walk_at "h")
  | (refine FzL.mono (Kp.ex (by assumption)) ?_; walk_at "h")
  | (refine FzL.mono (by assumption) ?_; walk_at "h")
  | (refine NetAt.mono (Kp.ex (by assumption)) ?_; walk_at "h")
  | (refine NetAt.mono (by assumption) ?_; walk_at "h")
  | (refine StaA.mono (Kp.ex (by assumption)) ?_; walk_at "h")
  | (refine StaA.mono (by assumption) ?_; walk_at "h")
  | (refine Sta.mono (Kp.ex (by assumption)) ?_; walk_at "h")
  | (refine Sta.mono (by assumption) ?_; walk_at "h")
  | (refine Lst.mono (by assumption) ?_; walk_at "h")
  | (refine Seq.mono (by assumption) ?_; walk_at "h"))
local macro_rules | `(tactic| walk_at "fz") => `(tactic| first
  | exact Fz.int _ | exact Fz.bl _ | exact Fz.str _ | exact Fz.non
  | walk_at "h"
  | exact Fz.adr _)
local macro_rules | `(tactic| walk_at "ix") => `(tactic| first
  | exact rfl
  | (refine atI_nat ?_; first | assumption | rfl | (simp; done)))
local macro_rules | `(tactic| walk_at "ev") => `(tactic| first
  | exact evd_int | exact evd_str | exact evd_bl | exact evd_non
  | (refine evd_var rfl ?_; walk_at "fz")
  | (refine evd_stations ?_ ?_; (walk_at "h"); (walk_at "ev"))
  | (refine evd_ropes ?_ ?_; (walk_at "h"); (walk_at "ev"))
  | (refine evd_net ?_ ?_; (walk_at "h"); (walk_at "ev"))
  | (refine evd_reds ?_ ?_; (walk_at "h"); (walk_at "ev"))
  | (refine evd_blues ?_ ?_; (walk_at "h"); (walk_at "ev"))
  | (refine evd_cars ?_ ?_; (walk_at "h"); (walk_at "ev"))
  | (refine evd_add ?_ ?_; (walk_at "ev"); (walk_at "ev"))
  | (refine evd_sub ?_ ?_; (walk_at "ev"); (walk_at "ev"))
  | (refine evd_lt ?_ ?_; (walk_at "ev"); (walk_at "ev"))
  | (refine evd_le ?_ ?_; (walk_at "ev"); (walk_at "ev"))
  | (refine evd_gt ?_ ?_; (walk_at "ev"); (walk_at "ev"))
  | (refine evd_ge ?_ ?_; (walk_at "ev"); (walk_at "ev"))
  | (refine evd_neg ?_; (walk_at "ev"))
  | (refine evd_eqI ?_ ?_; (walk_at "ev"); (walk_at "ev"))
  | (refine evd_neI ?_ ?_; (walk_at "ev"); (walk_at "ev"))
  | (refine evd_eqS ?_ ?_; (walk_at "ev"); (walk_at "ev"))
  | (refine evd_eqB ?_ ?_; (walk_at "ev"); (walk_at "ev"))
  | (refine evd_neB ?_ ?_; (walk_at "ev"); (walk_at "ev"))
  | (refine evd_isN ?_ ?_; (walk_at "ev"); exact rfl)
  | (refine evd_notN ?_ ?_; (walk_at "ev"); exact rfl)
  | (refine evd_ixT ?_ ?_ ?_; (walk_at "ev"); (walk_at "ev"); (walk_at "ix"))
  | (refine evd_ixL ?_ ?_ ?_ ?_ ?_; (walk_at "ev"); (walk_at "h"); (walk_at "h"); (walk_at "ev"); (walk_at "ix"))
  | (refine evd_tup ?_ ?_; (walk_at "evs"); exact Nat.le_of_ble_eq_true rfl)
  | (refine evd_lenD ?_; walk_at "ev")
  | (refine evd_lenL ?_ ?_; (walk_at "ev"); (walk_at "h"))
  | (refine evd_intI ?_; walk_at "ev")
  | (refine evd_intB ?_; walk_at "ev")
  | (refine evd_notV ?_; walk_at "ev"))
local macro_rules | `(tactic| walk_at "evs") => `(tactic| first
  | exact evds_nil
  | (refine evds_cons ?_ ?_; (walk_at "ev"); (walk_at "evs")))
local macro_rules | `(tactic| walk_at "et") => `(tactic| first
  | (refine et_test ?_; walk_at "ev")
  | (refine et_B ?_; walk_at "ev")
  | (refine et_tru ?_ ?_; (walk_at "ev"); (walk_at "h"))
  | (refine Evl.et_not ?_; walk_at "et")
  | (refine et_chain2 ?_ ?_ ?_; (walk_at "ev"); (walk_at "ev"); (walk_at "ev")))
theorem getD_set {l : List Nat} {a b x : Nat} : (l.set a x).getD b 0 = if a = b ∧ a < l.length then x else l.getD b 0 := by
  rw [List.getD_eq_getElem?_getD, List.getD_eq_getElem?_getD, List.getElem?_set]
  by_cases h : a = b
  · subst h
    by_cases h2 : a < l.length
    · simp [h2]
    · simp [h2]
  · simp [h]
theorem shift_len {l : List Nat} {a b : Nat} : (shift l a b).length = l.length := by unfold shift; rw [List.length_set, List.length_set]
theorem sum_setN {l : List Nat} {a x : Nat} (h : a < l.length) : (l.set a x).sum + l.getD a 0 = l.sum + x := by
  induction l generalizing a with
  | nil => cases h
  | cons y l ih =>
    cases a with
    | zero => simp [List.sum_cons]; omega
    | succ a =>
      rw [List.set_cons_succ, List.sum_cons, List.sum_cons, List.getD_cons_succ]
      have := ih (a := a) (by simpa using h)
      omega
theorem shift_sum {l : List Nat} {a b : Nat} (ha : a < l.length) (hb : b < l.length) (h : 0 < l.getD a 0) : (shift l a b).sum = l.sum := by
  unfold shift
  have h1 := sum_setN (l := l) (a := a) (x := l.getD a 0 - 1) ha
  have h2 := sum_setN (l := l.set a (l.getD a 0 - 1)) (a := b) (x := (l.set a (l.getD a 0 - 1)).getD b 0 + 1) (by rw [List.length_set]; exact hb)
  omega
theorem far_lt {w : Wd} (W : WOk w) {k x : Nat} (hk : k < w.rs.length) : far (rope w k) x < w.n := by
  have := rope_ends W hk
  unfold far; split <;> omega
theorem set_le1 {l : List Nat} {k c : Nat} (h : ∀ x ∈ l, x ≤ 1) (hc : c ≤ 1) : ∀ x ∈ l.set k c, x ≤ 1 := fun x hx => by
  rcases List.mem_or_eq_of_mem_set hx with h1 | h1
  · exact h x h1
  · omega
theorem ride_ok {w : Wd} {s : Sd} (W : WOk w) (S : SOk w s) {k : Nat} {c : Bool} (hk : k < w.rs.length) (hc : can w s (k, c) = true) : SOk w (ride w s (k, c)) := by
  have hc := of_decide_eq_true hc
  cases c with
  | true =>
    have hc : 0 < s.reds.getD (redSt w s k) 0 := hc
    refine ⟨?_, S.lb, ?_, ?_, ?_⟩
    · show (shift s.reds _ _).length = _
      rw [shift_len, S.lr]
    · show (s.cars.set _ _).length = _
      rw [List.length_set, S.lc]
    · exact set_le1 S.c01 (Nat.sub_le ..)
    · show (shift s.reds _ _).sum + _ ≤ _
      rw [shift_sum (by rw [S.lr]; exact redSt_lt W hk) (by rw [S.lr]; exact far_lt W hk) hc]
      exact S.g30
  | false =>
    have hc : 0 < s.blues.getD (bluSt w s k) 0 := hc
    refine ⟨S.lr, ?_, ?_, ?_, ?_⟩
    · show (shift s.blues _ _).length = _
      rw [shift_len, S.lb]
    · show (s.cars.set _ _).length = _
      rw [List.length_set, S.lc]
    · exact set_le1 S.c01 (Nat.sub_le ..)
    · show _ + (shift s.blues _ _).sum ≤ _
      rw [shift_sum (by rw [S.lb]; exact bluSt_lt W hk) (by rw [S.lb]; exact far_lt W hk) hc]
      exact S.g30
theorem Ok_get {w : Wd} {rs : List Ride} {i : Nat} {r : Ride} : ∀ {s : Sd}, Ok w s rs → rs[i]? = some r → r.1 < w.rs.length ∧ can w (rideAll w s (rs.take i)) r = true := by
  induction rs generalizing i with
  | nil => intro s _ h; simp at h
  | cons r' rs ih =>
    intro s o h
    cases i with
    | zero =>
      simp only [List.getElem?_cons_zero, Option.some.injEq] at h
      subst h
      exact ⟨o.1, o.2.1⟩
    | succ i =>
      simp only [List.getElem?_cons_succ] at h
      exact ih o.2.2 h
theorem rideAll_take {w : Wd} {s : Sd} {rs : List Ride} {i : Nat} {r : Ride} (h : rs[i]? = some r) : rideAll w s (rs.take (i + 1)) = ride w (rideAll w s (rs.take i)) r := by
  have e : rs.take (i + 1) = rs.take i ++ [r] := by
    rw [List.take_add_one, h]; rfl
  unfold rideAll
  rw [e, List.foldl_append]; rfl
section
variable {K : PySem.W.Frag} {mg : Str → Option Value}
theorem pure_check_size (T : Txt K mg) (vs : List V) (H : Hp) (Q : VK) (E : XK) (h : sp_check_size T vs H Q E) : Goes (t_check_size T) N_check_size vs H Q := by
  obtain ⟨n, l, rfl, h1, h2, k⟩ := h
  refine s_if (b := false) (Evl.et_is (Evl.et_not (et_chain2 (evd_var rfl (.int _)) (evd_var rfl (.int _)) (evd_cval T.Net.rd T.Net.mostStations (.int 24)))) ?_) (fun q => by cases q) fun _ H1 e => k _ _ e .non
  rw [decide_eq_true (show (l : Int) ≤ n by omega), decide_eq_true (show (n : Int) ≤ 24 by omega)]; rfl
theorem pure_Standing_init (T : Txt K mg) (vs : List V) (H : Hp) (Q : VK) (E : XK) (h : sp_Standing_init T vs H Q E) : Goes (t_Standing_init T) N_Standing_init vs H Q := by
  obtain ⟨a, an, pr, pb, pc, dx, w, s, rfl, ha, N, hr, hb, hc, O, k⟩ := h
  refine q_drop (d := .non) (evd_callF (evds_cons (evd_var rfl (.adr an)) (evds_cons evd_str (evds_cons (evd_var rfl (.adr pr)) evds_nil))) rfl fun H1 e Q q => ⟨an, w, _, pr, s.reds, rfl, N.mono (Kp.ex e), hr.mono e, O.lr, q⟩) fun H1 e1 => ?_
  refine q_drop (d := .non) (evd_callF (evds_cons (evd_var rfl (.adr an)) (evds_cons evd_str (evds_cons (evd_var rfl (.adr pb)) evds_nil))) rfl fun H2 e Q q => ⟨an, w, _, pb, s.blues, rfl, N.mono (Kp.ex (e1.trans e)), hb.mono (e1.trans e), O.lb, q⟩) fun H2 e2 => ?_
  have e12 := e1.trans e2
  refine q_if (b := false) (Evl.et_is (et_test (evd_gt (evd_add (evd_sum (evd_var rfl (.adr pr)) (hr.mono e12)) (evd_sum (evd_var rfl (.adr pb)) (hb.mono e12))) (evd_con (evd_var rfl (.adr a)) (e12 _ _ ha) T.Standing.cl T.Standing.mostGuests rfl (.int 30)))) ?_) (fun q => by cases q) fun _ H3 e3 => ?_
  · have := O.g30
    exact decide_eq_false (by omega)
  refine q_drop (d := .non) (evd_callF (evds_cons (evd_var rfl (.adr an)) (evds_cons (evd_var rfl (.adr pc)) evds_nil)) rfl fun H4 e Q q => ⟨an, w, pc, s.cars, rfl, N.mono (Kp.ex ((e12.trans e3).trans e)), hc.mono ((e12.trans e3).trans e), O.lc, O.c01, q⟩) fun H4 e4 => ?_
  have e14 := (e12.trans e3).trans e4
  have nt : ∀ xs, HO.ins T.Standing.C dx [] ≠ .tup xs := fun _ z => by cases z
  have nl : ∀ xs, HO.ins T.Standing.C dx [] ≠ .lst xs := fun _ z => by cases z
  have b0 : ExB a H H4 := (ExB.refl a H).ex e14
  refine q_fld (d := .adr an) (evd_var rfl (.adr an)) (evd_var rfl (.adr a)) (e14 _ _ ha) T.Standing.cl T.Standing.nNet (by decide) fun v1 H5 e5 f1 => ?_
  obtain rfl := f1.adr_of
  have b1 : ExB a H (upd H5 a (.ins T.Standing.C dx (putF "net" (.ref an) []))) := (b0.ex e5).set
  refine q_fld (evd_tupS (evd_var rfl (.adr pr)) (b1.seq ha nt nl hr)) (evd_var rfl (.adr a)) upd_same T.Standing.cl T.Standing.nReds (by have := length_putF "net" (.ref an) []; simp at this; omega) fun v2 H6 e6 f2 => ?_
  obtain ⟨tr, xr, rfl, hr1, fr⟩ := f2.tup_of
  have b2 : ExB a H (upd H6 a (.ins T.Standing.C dx (putF "reds" (.ref tr) (putF "net" (.ref an) [])))) := (b1.ex e6).set
  refine q_fld (evd_tupS (evd_var rfl (.adr pb)) (b2.seq ha nt nl hb)) (evd_var rfl (.adr a)) upd_same T.Standing.cl T.Standing.nBlues (by have h1 := length_putF "net" (.ref an) []; have h2 := length_putF "reds" (.ref tr) (putF "net" (.ref an) []); simp at h1; omega) fun v3 H7 e7 f3 => ?_
  obtain ⟨tb, xb, rfl, hb1, fb⟩ := f3.tup_of
  have b3 : ExB a H (upd H7 a (.ins T.Standing.C dx (putF "blues" (.ref tb) (putF "reds" (.ref tr) (putF "net" (.ref an) []))))) := (b2.ex e7).set
  refine s_fld (evd_tupS (evd_var rfl (.adr pc)) (b3.seq ha nt nl hc)) (evd_var rfl (.adr a)) upd_same T.Standing.cl T.Standing.nCars (by have h1 := length_putF "net" (.ref an) []; have h2 := length_putF "reds" (.ref tr) (putF "net" (.ref an) []); have h3 := length_putF "blues" (.ref tb) (putF "reds" (.ref tr) (putF "net" (.ref an) [])); simp at h1; omega) fun v4 H8 e8 f4 => ?_
  obtain ⟨tc, xc, rfl, hc1, fc⟩ := f4.tup_of
  have b4 : ExB a H (upd H8 a (.ins T.Standing.C dx (staF an tr tb tc))) := (b3.ex e8).set
  have ti : ∀ {G : Hp} {o : HO} {fs : List (Str × V)}, G a = some (.ins T.Standing.C dx fs) → Tk G (upd G a o) := fun h => ((ExB.refl a _).set).tk h (fun _ z => by cases z)
  have z5 : (upd H5 a (.ins T.Standing.C dx (putF "net" (.ref an) []))) a = _ := upd_same
  have z6 : (upd H6 a (.ins T.Standing.C dx (putF "reds" (.ref tr) (putF "net" (.ref an) [])))) a = _ := upd_same
  have z7 : (upd H7 a (.ins T.Standing.C dx (putF "blues" (.ref tb) (putF "reds" (.ref tr) (putF "net" (.ref an) []))))) a = _ := upd_same
  have t8 : Tk H8 (upd H8 a (.ins T.Standing.C dx (staF an tr tb tc))) := ti (e8 _ _ z7)
  have t7 : Tk H7 (upd H8 a (.ins T.Standing.C dx (staF an tr tb tc))) := fun x xs hx => t8 _ _ (e8 _ _ (ti (e7 _ _ z6) _ _ hx))
  have t6 : Tk H6 (upd H8 a (.ins T.Standing.C dx (staF an tr tb tc))) := fun x xs hx => t7 _ _ (e7 _ _ (ti (e6 _ _ z5) _ _ hx))
  refine k _ b4 ⟨O, ?_, dx, tr, tb, tc, upd_same, f2.monoT t6, f3.monoT t7, f4.monoT t8⟩
  obtain ⟨W, dn', tn, hn, fn⟩ := N
  refine ⟨W, dn', tn, b4 _ _ (fun z => ?_) hn, fn.monoT (b4.tk ha nt)⟩
  rw [z, ha] at hn
  injection hn with hn
  injection hn with _ _ h3
  exact netF_ne _ _ h3.symm
theorem nats_set {l : List Nat} {j x : Nat} : (nats l).set j (vn x) = nats (l.set j x) := by unfold nats; rw [List.map_set]
theorem pure_moved (T : Txt K mg) (vs : List V) (H : Hp) (Q : VK) (E : XK) (h : sp_moved T vs H Q E) : Goes (t_moved T) N_moved vs H Q := by
  obtain ⟨a, w, s, k, c, rfl, ⟨an, S⟩, hk, hc, q⟩ := h
  have W := S.nt.ok
  have O := S.ok
  have hx := of_decide_eq_true hc
  have hx : 0 < (gs s c).getD (carSt w s k c) 0 := hx
  have hcl : carSt w s k c < (gs s c).length := by rw [gs_len O]; exact carSt_lt W hk
  have hfl : far (rope w k) (carSt w s k c) < (gs s c).length := by rw [gs_len O]; exact far_lt W hk
  refine q_asg (evd_car_station ⟨an, S⟩ (evd_var rfl (.adr _)) (evd_var rfl (.int _)) (evd_var rfl (.str _)) hk) fun v H1 e1 f => ?_
  obtain rfl := f.int_of
  have S1 := S.mono (Kp.ex e1)
  refine q_asg (evd_far_end S1.nt (evd_net S1 (evd_var rfl (.adr _))) (evd_var rfl (.int _)) (evd_var rfl (.int _)) hk) fun v H2 e2 f => ?_
  obtain rfl := f.int_of
  have S2 := S1.mono (Kp.ex e2)
  refine q_asgN (evn_listD (evd_guests_of ⟨an, S2⟩ (evd_var rfl (.adr _)) (evd_var rfl (.str _)))) fun p us H3 hp e3 h3 f => ?_
  have eu := f.nats_of
  subst eu
  have S3 := S2.mono (Kp.ex e3)
  refine q_setL h3 (EvD.eq (evd_sub (evd_ixL (evd_var rfl (.adr p)) h3 f (evd_var rfl (.int _)) (at_dn hcl)) evd_int) (e := dn ((gs s c).getD (carSt w s k c) 0 - 1)) (by show D.int _ = D.int _; congr 1; omega)) (evd_var rfl (.adr p)) (evd_var rfl (.int _)) (by rw [List.length_map]; exact hcl) fun v H4 e4 fv => ?_
  obtain rfl := fv.int_of
  rw [nats_set]
  have k4 : Kp H3 (upd H4 p (.lst (nats ((gs s c).set (carSt w s k c) ((gs s c).getD (carSt w s k c) 0 - 1))))) := (Kp.ex e4).step (e4 _ _ h3)
  have S4 := S3.mono k4
  have x4 : Ex H2 (upd H4 p (.lst (nats ((gs s c).set (carSt w s k c) ((gs s c).getD (carSt w s k c) 0 - 1))))) := Ex.set (e3.trans e4) hp
  generalize hG4 : upd H4 p (.lst (nats ((gs s c).set (carSt w s k c) ((gs s c).getD (carSt w s k c) 0 - 1)))) = G4 at *
  have h4 : G4 p = some (.lst (nats ((gs s c).set (carSt w s k c) ((gs s c).getD (carSt w s k c) 0 - 1)))) := by rw [← hG4]; exact upd_same
  refine q_setL h4 (EvD.eq (evd_add (evd_ixL (evd_var rfl (.adr p)) h4 (FzL.nats _) (evd_var rfl (.int _)) (at_dn (by rw [List.length_set]; exact hfl))) evd_int) (e := dn (((gs s c).set (carSt w s k c) ((gs s c).getD (carSt w s k c) 0 - 1)).getD (far (rope w k) (carSt w s k c)) 0 + 1)) (by show D.int _ = D.int _; congr 1)) (evd_var rfl (.adr p)) (evd_var rfl (.int _)) (by rw [List.length_map, List.length_set]; exact hfl) fun v H5 e5 fv => ?_
  obtain rfl := fv.int_of
  rw [nats_set]
  have eS : ((gs s c).set (carSt w s k c) ((gs s c).getD (carSt w s k c) 0 - 1)).set (far (rope w k) (carSt w s k c)) (((gs s c).set (carSt w s k c) ((gs s c).getD (carSt w s k c) 0 - 1)).getD (far (rope w k) (carSt w s k c)) 0 + 1) = shift (gs s c) (carSt w s k c) (far (rope w k) (carSt w s k c)) := rfl
  rw [eS]
  have S5 := S4.mono ((Kp.ex e5).step (o := .lst (nats (shift (gs s c) (carSt w s k c) (far (rope w k) (carSt w s k c))))) (e5 _ _ h4))
  have x5 : Ex H2 (upd H5 p (.lst (nats (shift (gs s c) (carSt w s k c) (far (rope w k) (carSt w s k c)))))) := Ex.set (x4.trans e5) hp
  generalize hG5 : upd H5 p (.lst (nats (shift (gs s c) (carSt w s k c) (far (rope w k) (carSt w s k c))))) = G5 at *
  have h5 : G5 p = some (.lst (nats (shift (gs s c) (carSt w s k c) (far (rope w k) (carSt w s k c))))) := by rw [← hG5]; exact upd_same
  refine q_asgN (evn_listD (evd_cars S5 (evd_var rfl (.adr a)))) fun pc us H6 hpc e6 h6 f => ?_
  have eu := f.nats_of
  subst eu
  refine q_setL h6 (EvD.eq (evd_sub evd_int (evd_ixL (evd_var rfl (.adr pc)) h6 f (evd_var rfl (.int _)) (at_dn (by rw [O.lc]; exact hk)))) (e := dn (1 - car s k)) (by show D.int _ = D.int _; congr 1; have := car_le O (k := k); unfold car at *; omega)) (evd_var rfl (.adr pc)) (evd_var rfl (.int _)) (by rw [List.length_map, O.lc]; exact hk) fun v H7 e7 fv => ?_
  obtain rfl := fv.int_of
  rw [nats_set]
  have S7 := S5.mono ((Kp.ex (e6.trans e7)).step (o := .lst (nats (s.cars.set k (1 - car s k)))) (e7 _ _ h6))
  have x7 : Ex H2 (upd H7 pc (.lst (nats (s.cars.set k (1 - car s k))))) := Ex.set ((x5.trans e6).trans e7) (fresh_back x5 hpc)
  have h7 : (upd H7 pc (.lst (nats (s.cars.set k (1 - car s k))))) p = some (.lst (nats (shift (gs s c) (carSt w s k c) (far (rope w k) (carSt w s k c))))) := by
    rw [upd_ne (ne_of_none h5 hpc)]
    exact e7 _ _ (e6 _ _ h5)
  have h7c : (upd H7 pc (.lst (nats (s.cars.set k (1 - car s k))))) pc = some (.lst (nats (s.cars.set k (1 - car s k)))) := upd_same
  generalize upd H7 pc (.lst (nats (s.cars.set k (1 - car s k)))) = G7 at *
  have sP : Seq G7 p ((shift (gs s c) (carSt w s k c) (far (rope w k) (carSt w s k c))).map dn) := ⟨_, .inl h7, FzL.nats _⟩
  have sC : Seq G7 pc ((s.cars.set k (1 - car s k)).map dn) := ⟨_, .inl h7c, FzL.nats _⟩
  have R := ride_ok W O hk hc
  refine q_if (et_test (evd_eqS (evd_var rfl (.str _)) evd_str)) (fun hb H8 e8 => ?_) fun hb H8 e8 => ?_
  · rw [colS_red] at hb
    subst hb
    have S8 := S7.mono (Kp.ex e8)
    refine make_sta (s := ride w s (k, true)) (evds_cons (evd_net S8 (evd_var rfl (.adr a))) (evds_cons (evd_var rfl (.adr p)) (evds_cons (evd_blues S8 (evd_var rfl (.adr a))) (evds_cons (evd_var rfl (.adr pc)) evds_nil)))) S8.nt R (.inl ⟨p, rfl, sP.mono e8⟩) (.inr rfl) (.inl ⟨pc, rfl, sC.mono e8⟩) fun b H9 e9 S9 => ?_
    exact q b H9 (((e1.trans e2).trans (x7.trans e8)).trans e9) ⟨an, S9⟩
  · rw [colS_red] at hb
    subst hb
    have S8 := S7.mono (Kp.ex e8)
    refine make_sta (s := ride w s (k, false)) (evds_cons (evd_net S8 (evd_var rfl (.adr a))) (evds_cons (evd_reds S8 (evd_var rfl (.adr a))) (evds_cons (evd_var rfl (.adr p)) (evds_cons (evd_var rfl (.adr pc)) evds_nil)))) S8.nt R (.inr rfl) (.inl ⟨p, rfl, sP.mono e8⟩) (.inl ⟨pc, rfl, sC.mono e8⟩) fun b H9 e9 S9 => ?_
    exact q b H9 (((e1.trans e2).trans (x7.trans e8)).trans e9) ⟨an, S9⟩
end
end TR
namespace TR
open PySem L2 PyProof.Rows
open Evl (Ex EvT fresh_back)
local macro_rules | `(tactic| walk_at "h") => `(tactic| first
  | assumption
  | (refine Ex.at (by assumption) ?_; walk_at "h")
  | (refine Kp.at (by assumption) ?_; walk_at "h")
  | (refine Fz.mono (Kp.ex (by assumption)) ?_; walk_at "h")
  | (refine Fz.mono (by assumption) ?_; walk_at "h")
  | (refine FzL.mono (Kp.ex (by assumption)) ?_; walk_at "h")
  | (refine FzL.mono (by assumption) ?_; walk_at "h")
  | (refine NetAt.mono (Kp.ex (by assumption)) ?_; walk_at "h")
  | (refine NetAt.mono (by assumption) ?_; walk_at "h")
  | (refine StaA.mono (Kp.ex (by assumption)) ?_; walk_at "h")
  | (refine StaA.mono (by assumption) ?_; walk_at "h")
  | (refine Sta.mono (Kp.ex (by assumption)) ?_; walk_at "h")
  | (refine Sta.mono (by assumption) ?_; walk_at "h")
  | (refine Lst.mono (by assumption) ?_; walk_at "h")
  | (refine Seq.mono (by assumption) ?_; walk_at "h"))
local macro_rules | `(tactic| walk_at "fz") => `(tactic| first
  | exact Fz.int _ | exact Fz.bl _ | exact Fz.str _ | exact Fz.non
  | walk_at "h"
  | exact Fz.adr _)
local macro_rules | `(tactic| walk_at "ix") => `(tactic| first
  | exact rfl
  | (refine atI_nat ?_; first | assumption | rfl | (simp; done)))
local macro_rules | `(tactic| walk_at "ev") => `(tactic| first
  | exact evd_int | exact evd_str | exact evd_bl | exact evd_non
  | (refine evd_var rfl ?_; walk_at "fz")
  | (refine evd_stations ?_ ?_; (walk_at "h"); (walk_at "ev"))
  | (refine evd_ropes ?_ ?_; (walk_at "h"); (walk_at "ev"))
  | (refine evd_net ?_ ?_; (walk_at "h"); (walk_at "ev"))
  | (refine evd_reds ?_ ?_; (walk_at "h"); (walk_at "ev"))
  | (refine evd_blues ?_ ?_; (walk_at "h"); (walk_at "ev"))
  | (refine evd_cars ?_ ?_; (walk_at "h"); (walk_at "ev"))
  | (refine evd_add ?_ ?_; (walk_at "ev"); (walk_at "ev"))
  | (refine evd_sub ?_ ?_; (walk_at "ev"); (walk_at "ev"))
  | (refine evd_lt ?_ ?_; (walk_at "ev"); (walk_at "ev"))
  | (refine evd_le ?_ ?_; (walk_at "ev"); (walk_at "ev"))
  | (refine evd_gt ?_ ?_; (walk_at "ev"); (walk_at "ev"))
  | (refine evd_ge ?_ ?_; (walk_at "ev"); (walk_at "ev"))
  | (refine evd_neg ?_; (walk_at "ev"))
  | (refine evd_eqI ?_ ?_; (walk_at "ev"); (walk_at "ev"))
  | (refine evd_neI ?_ ?_; (walk_at "ev"); (walk_at "ev"))
  | (refine evd_eqS ?_ ?_; (walk_at "ev"); (walk_at "ev"))
  | (refine evd_eqB ?_ ?_; (walk_at "ev"); (walk_at "ev"))
  | (refine evd_neB ?_ ?_; (walk_at "ev"); (walk_at "ev"))
  | (refine evd_isN ?_ ?_; (walk_at "ev"); exact rfl)
  | (refine evd_notN ?_ ?_; (walk_at "ev"); exact rfl)
  | (refine evd_ixT ?_ ?_ ?_; (walk_at "ev"); (walk_at "ev"); (walk_at "ix"))
  | (refine evd_ixL ?_ ?_ ?_ ?_ ?_; (walk_at "ev"); (walk_at "h"); (walk_at "h"); (walk_at "ev"); (walk_at "ix"))
  | (refine evd_tup ?_ ?_; (walk_at "evs"); exact Nat.le_of_ble_eq_true rfl)
  | (refine evd_lenD ?_; walk_at "ev")
  | (refine evd_lenL ?_ ?_; (walk_at "ev"); (walk_at "h"))
  | (refine evd_intI ?_; walk_at "ev")
  | (refine evd_intB ?_; walk_at "ev")
  | (refine evd_notV ?_; walk_at "ev"))
local macro_rules | `(tactic| walk_at "evs") => `(tactic| first
  | exact evds_nil
  | (refine evds_cons ?_ ?_; (walk_at "ev"); (walk_at "evs")))
local macro_rules | `(tactic| walk_at "et") => `(tactic| first
  | (refine et_test ?_; walk_at "ev")
  | (refine et_B ?_; walk_at "ev")
  | (refine et_tru ?_ ?_; (walk_at "ev"); (walk_at "h"))
  | (refine Evl.et_not ?_; walk_at "et")
  | (refine et_chain2 ?_ ?_ ?_; (walk_at "ev"); (walk_at "ev"); (walk_at "ev")))
theorem Ok_mem {w : Wd} {s : Sd} {rs : List Ride} (o : Ok w s rs) : ∀ r ∈ rs, r.1 < w.rs.length := fun r hr => by
  obtain ⟨i, h⟩ := List.getElem?_of_mem hr
  exact (Ok_get o h).1
theorem at_last {α : Type} {l : List α} {x : α} : atI (l ++ [x]) (-1) = some x := by
  unfold atI ixN
  rw [if_neg (by decide), if_pos (by simp; omega), List.length_append]
  have : ((-1 : Int) + ((l.length + [x].length : Nat) : Int)).toNat = l.length := by simp; omega
  rw [this]
  simp
theorem rideAll_nil {w : Wd} {s : Sd} : rideAll w s [] = s := rfl
section
variable {K : PySem.W.Frag} {mg : Str → Option Value}
theorem pure_walk (T : Txt K mg) (vs : List V) (H : Hp) (Q : VK) (E : XK) (h : sp_walk T vs H Q E) : Goes (t_walk T) N_walk vs H Q := by
  obtain ⟨a, w, s, p, rs, rfl, ⟨an, S⟩, ⟨us, hp, fr⟩, hok, hl, k⟩ := h
  refine q_drop (d := .non) (evd_callF (evds_cons (evd_net S (evd_var rfl (.adr a))) (evds_cons (evd_var rfl (.adr p)) evds_nil)) rfl fun H1 e Q q => ⟨an, w, p, rs, rfl, S.nt.mono (Kp.ex e), ⟨us, .inl (e _ _ hp), fr.mono (Kp.ex e)⟩, Ok_mem hok, q⟩) fun H1 e1 => ?_
  refine q_asg (evd_var rfl (.adr a)) fun v H2 e2 f => ?_
  obtain rfl := f.adr_of
  refine q_asgN (evn_lst (evds_cons (evd_var rfl (.adr a)) evds_nil) (Nat.le_of_ble_eq_true rfl)) fun q xs H3 hq e3 h3 f3 => ?_
  have ex : xs = [.ref a] := f3.flat_of rfl
  subst ex
  have e13 := (e1.trans e2).trans e3
  have hqe : H q = none := fresh_back (e1.trans e2) hq
  refine q_forI (i_enL (evd_var rfl (.adr p)) (e13 _ _ hp) fun J H4 e4 S4 => ?_)
  have e14 := e13.trans e4
  refine q_for S4 (fun i σ' H' => Ex H H' ∧ ∃ b vs' x y z, σ' = [some (.ref a), some (.ref p), some (.ref b), some (.ref q), x, y, z] ∧ H' q = some (.lst (vs' ++ [.ref b])) ∧ vs'.length = i ∧ Sta T H' b w (rideAll w s (rs.take i)))
    ⟨e14, a, [], none, none, none, rfl, e4 _ _ h3, rfl, ⟨an, S.mono (Kp.ex e14)⟩⟩ (fun i σ' H' _ ⟨e, _⟩ => e _ _ hp) ?_ fun σ' H' ⟨e, b, vs', x, y, z, hσ, hv, hn, Sb⟩ => ?_
  · rintro i x σ' H' H5 hi ⟨e, b, vs', x', y', z', rfl, hv, hn, Sb⟩ e5 ⟨t, y, rfl, ht, hy⟩
    obtain ⟨d, hd, fd⟩ := fr.getV hy
    obtain ⟨r, hr, rfl⟩ := map_get hd
    obtain ⟨hk, hc⟩ := Ok_get hok hr
    obtain ⟨v1, v2, v3, f1, f2, f3, hq⟩ := tg_12 (K := K) (i := 4) (j := 5) (k := 6) (d1 := dn i) (.tup ht (.cons (.int _) (.cons (fd.mono (Kp.ex (e.trans e5))) .nil)))
    obtain rfl := f1.int_of
    obtain rfl := f2.int_of
    obtain rfl := f3.str_of
    refine hq _ _ ?_
    have St5 := Sb.mono (Kp.ex e5)
    refine q_if (b := false) (Evl.et_is (Evl.et_not (et_B (evd_callF (d := .bl (can w (rideAll w s (rs.take i)) (r.1, r.2))) (evds_cons (evd_var rfl (.adr b)) (evds_cons (evd_var rfl (.int _)) (evds_cons (evd_var rfl (.str _)) evds_nil))) rfl fun H1 e Q q => ⟨b, w, _, r.1, r.2, rfl, St5.mono (Kp.ex e), hk, q⟩))) (by rw [hc]; rfl)) (fun q => by cases q) fun _ H6 e6 => ?_
    have St6 := St5.mono (Kp.ex e6)
    refine callF (evds_cons (evd_var rfl (.adr b)) (evds_cons (evd_var rfl (.int _)) (evds_cons (evd_var rfl (.str _)) evds_nil))) rfl fun H6' e6' => ⟨b, w, _, r.1, r.2, rfl, St6.mono (Kp.ex e6'), hk, hc, fun b' H7 e7 St7 => ?_⟩
    replace e7 := e6'.trans e7
    refine s_app (e7 _ _ (e6 _ _ (e5 _ _ hv))) (evd_var rfl (.adr _)) (evd_var rfl (.adr b')) (by rw [List.length_append]; have := fr.len; rw [List.length_map] at this; simp; omega) fun v H8 e8 f8 => ?_
    obtain rfl := f8.adr_of
    have hv8 := e8 _ _ (e7 _ _ (e6 _ _ (e5 _ _ hv)))
    refine ⟨Ex.set ((((e.trans e5).trans e6).trans e7).trans e8) hqe, b', vs' ++ [.ref b], _, _, _, rfl, upd_same, by simp [hn], ?_⟩
    rw [rideAll_take hr]
    exact St7.mono ((Kp.ex e8).step hv8)
  · subst hσ
    have hln : us.length = rs.length := by rw [fr.len, List.length_map]
    rw [hln, List.take_length] at Sb
    refine s_ret (evd_var rfl (.adr q)) fun v H9 e9 f9 => ?_
    obtain rfl := f9.adr_of
    exact k q vs' b H9 hqe (e.trans e9) (e9 _ _ hv) (Sb.mono (Kp.ex e9))
theorem pure_end_of (T : Txt K mg) (a t : Addr) (H : Hp) (Q : VK) (w : Wd) (s : Sd) (us : List V) (rs : List Ride) (S : Sta T H a w s) (ht : H t = some (.tup us)) (fr : FzL H us (rs.map dRide)) (hok : Ok w s rs) (hl : rs.length ≤ 1000)
    (k : ∀ b H', Ex H H' → Sta T H' b w (rideAll w s rs) → Q (.ref b) H') : Goes (t_end_of T) N_end_of [.ref a, .bl false, .ref t] H Q := by
  obtain ⟨an, S⟩ := S
  refine q_drop (d := .non) (evd_callF (evds_cons (evd_net S (evd_var rfl (.adr a))) (evds_cons (evd_var rfl (.adr t)) evds_nil)) rfl fun H1 e Q q => ⟨an, w, t, rs, rfl, S.nt.mono (Kp.ex e), ⟨us, .inr (e _ _ ht), fr.mono (Kp.ex e)⟩, Ok_mem hok, q⟩) fun H1 e1 => ?_
  refine q_asgN (evn_listT (evd_var rfl (.adr t)) (e1 _ _ ht) (fr.mono (Kp.ex e1))) fun q xs H3 hq e3 h3 f3 => ?_
  refine q_if (b := false) (et_B (evd_var rfl (.bl _))) (fun q => by cases q) fun _ H4 e4 => ?_
  refine callF (evds_cons (evd_var rfl (.adr a)) (evds_cons (evd_var rfl (.adr q)) evds_nil)) rfl fun H4' e4' => ⟨a, w, s, q, rs, rfl, ⟨an, S.mono (Kp.ex (((e1.trans e3).trans e4).trans e4'))⟩, ⟨xs, e4' _ _ (e4 _ _ h3), f3.mono (Kp.ex (e4.trans e4'))⟩, hok, hl, fun r vs' b H5 hr e5 h5 Sb => ?_⟩
  replace e5 := e4'.trans e5
  refine evd_neg (evd_int (i := 1)) H5 (Ex.refl _) _ fun v H6 e6 f6 => ?_
  obtain rfl := f6.int_of
  refine .inl ⟨r, _, -1, .ref b, rfl, rfl, SqL.of (e6 _ _ h5), ?_, k b H6 ((((e1.trans e3).trans e4).trans e5).trans e6) (Sb.mono (Kp.ex e6))⟩
  exact at_last
end
end TR
namespace TR
open PySem L2 PyProof.Rows
open Evl (Ex EvT fresh_back)
local macro_rules | `(tactic| walk_at "h") => `(tactic| first
  | assumption
  | (refine Ex.at (by assumption) ?_; walk_at "h")
  | (refine Kp.at (by assumption) ?_; walk_at "h")
  | (refine Fz.mono (Kp.ex (by assumption)) ?_; walk_at "h")
  | (refine Fz.mono (by assumption) ?_; walk_at "h")
  | (refine FzL.mono (Kp.ex (by assumption)) ?_; walk_at "h")
  | (refine FzL.mono (by assumption) ?_; walk_at "h")
  | (refine NetAt.mono (Kp.ex (by assumption)) ?_; walk_at "h")
  | (refine NetAt.mono (by assumption) ?_; walk_at "h")
  | (refine StaA.mono (Kp.ex (by assumption)) ?_; walk_at "h")
  | (refine StaA.mono (by assumption) ?_; walk_at "h")
  | (refine Sta.mono (Kp.ex (by assumption)) ?_; walk_at "h")
  | (refine Sta.mono (by assumption) ?_; walk_at "h")
  | (refine Lst.mono (by assumption) ?_; walk_at "h")
  | (refine Seq.mono (by assumption) ?_; walk_at "h"))
local macro_rules | `(tactic| walk_at "fz") => `(tactic| first
  | exact Fz.int _ | exact Fz.bl _ | exact Fz.str _ | exact Fz.non
  | walk_at "h"
  | exact Fz.adr _)
local macro_rules | `(tactic| walk_at "ix") => `(tactic| first
  | exact rfl
  | (refine atI_nat ?_; first | assumption | rfl | (simp; done)))
local macro_rules | `(tactic| walk_at "ev") => `(tactic| first
  | exact evd_int | exact evd_str | exact evd_bl | exact evd_non
  | (refine evd_var rfl ?_; walk_at "fz")
  | (refine evd_stations ?_ ?_; (walk_at "h"); (walk_at "ev"))
  | (refine evd_ropes ?_ ?_; (walk_at "h"); (walk_at "ev"))
  | (refine evd_net ?_ ?_; (walk_at "h"); (walk_at "ev"))
  | (refine evd_reds ?_ ?_; (walk_at "h"); (walk_at "ev"))
  | (refine evd_blues ?_ ?_; (walk_at "h"); (walk_at "ev"))
  | (refine evd_cars ?_ ?_; (walk_at "h"); (walk_at "ev"))
  | (refine evd_add ?_ ?_; (walk_at "ev"); (walk_at "ev"))
  | (refine evd_sub ?_ ?_; (walk_at "ev"); (walk_at "ev"))
  | (refine evd_lt ?_ ?_; (walk_at "ev"); (walk_at "ev"))
  | (refine evd_le ?_ ?_; (walk_at "ev"); (walk_at "ev"))
  | (refine evd_gt ?_ ?_; (walk_at "ev"); (walk_at "ev"))
  | (refine evd_ge ?_ ?_; (walk_at "ev"); (walk_at "ev"))
  | (refine evd_neg ?_; (walk_at "ev"))
  | (refine evd_eqI ?_ ?_; (walk_at "ev"); (walk_at "ev"))
  | (refine evd_neI ?_ ?_; (walk_at "ev"); (walk_at "ev"))
  | (refine evd_eqS ?_ ?_; (walk_at "ev"); (walk_at "ev"))
  | (refine evd_eqB ?_ ?_; (walk_at "ev"); (walk_at "ev"))
  | (refine evd_neB ?_ ?_; (walk_at "ev"); (walk_at "ev"))
  | (refine evd_isN ?_ ?_; (walk_at "ev"); exact rfl)
  | (refine evd_notN ?_ ?_; (walk_at "ev"); exact rfl)
  | (refine evd_ixT ?_ ?_ ?_; (walk_at "ev"); (walk_at "ev"); (walk_at "ix"))
  | (refine evd_ixL ?_ ?_ ?_ ?_ ?_; (walk_at "ev"); (walk_at "h"); (walk_at "h"); (walk_at "ev"); (walk_at "ix"))
  | (refine evd_tup ?_ ?_; (walk_at "evs"); exact Nat.le_of_ble_eq_true rfl)
  | (refine evd_lenD ?_; walk_at "ev")
  | (refine evd_lenL ?_ ?_; (walk_at "ev"); (walk_at "h"))
  | (refine evd_intI ?_; walk_at "ev")
  | (refine evd_intB ?_; walk_at "ev")
  | (refine evd_notV ?_; walk_at "ev"))
local macro_rules | `(tactic| walk_at "evs") => `(tactic| first
  | exact evds_nil
  | (refine evds_cons ?_ ?_; (walk_at "ev"); (walk_at "evs")))
local macro_rules | `(tactic| walk_at "et") => `(tactic| first
  | (refine et_test ?_; walk_at "ev")
  | (refine et_B ?_; walk_at "ev")
  | (refine et_tru ?_ ?_; (walk_at "ev"); (walk_at "h"))
  | (refine Evl.et_not ?_; walk_at "et")
  | (refine et_chain2 ?_ ?_ ?_; (walk_at "ev"); (walk_at "ev"); (walk_at "ev")))
theorem filt_all {n : Nat} {e : Nat → D} : ((List.range n).filter fun _ => true).map e = (List.range n).map e := by rw [List.filter_eq_self.mpr (fun _ _ => rfl)]
section
variable {K : PySem.W.Frag} {mg : Str → Option Value}
theorem pure_cut_off (T : Txt K mg) (vs : List V) (H : Hp) (Q : VK) (E : XK) (h : sp_cut_off T vs H Q E) : Goes (t_cut_off T) N_cut_off vs H Q := by
  obtain ⟨p, w, rfl, ⟨us, hp, fr⟩, W, k⟩ := h
  have hn := W.n24
  have hlen : us.length = w.rs.length := by rw [fr.len, List.length_map]
  refine q_asgN (EvN.eq (evn_lc (fun _ => true) (fun i => .bl (decide ((i : Int) = 0))) (evi_rng (evd_var rfl (.int (w.n : Int))) (by omega)) (by omega) fun i v H1 hi e f => ?_) (filt_all.trans (show _ = ((List.range w.n).map fun (i : Nat) => decide ((i : Int) = 0)).map D.bl by rw [List.map_map]; rfl))) fun pj xs H1 hpj e1 h1 f1 => ?_
  · obtain rfl := f.int_of
    exact ⟨[some (vn w.n), some (.ref p), none, none, none, none, some (vn i)], fun Q' q => q, rfl, fun H2 e2 Q q => q H2 (Ex.refl _), fun _ => evd_eqI (evd_var rfl (.int _)) evd_int⟩
  obtain rfl := f1.bls_of
  refine q_asg evd_bl fun v H2 e2 f2 => ?_
  obtain rfl := f2.bl_of
  refine q_while (fun m σ' H' => ∃ jl g x y z, σ' = [some (vn w.n), some (.ref p), some (.ref pj), some (.bl g), x, y, z] ∧ Ex H H' ∧ H' pj = some (.lst (bls jl)) ∧ jl.length = w.n ∧ mk jl 0 = true ∧ (g = false → ∀ q ∈ w.rs, mk jl q.1 = mk jl q.2) ∧ m = 2 * nf jl + g.toNat)
    _ ⟨_, true, none, none, none, rfl, e1.trans e2, e2 _ _ h1, by simp, by rw [mk_range (by have := W.n1; omega)]; rfl, (fun z => by cases z), rfl⟩ ?_
  rintro m σ' H' ⟨jl, g, x, y, z, rfl, e, hj, hl, h0, hg, rfl⟩
  refine ⟨g, et_B (evd_var rfl (.bl g)), fun hb H3 e3 => ?_, fun hb H3 e3 => ?_⟩
  · subst hb
    refine q_asg evd_bl fun v H4 e4 f4 => ?_
    obtain rfl := f4.bl_of
    refine for_intro (i_seqL (evd_var rfl (.adr p)) (((e.trans e3).trans e4) _ _ hp) fun J H5 e5 S5 => ?_)
    refine s_for S5 (fun i σ' H' => ∃ jl' g x y z, σ' = [some (vn w.n), some (.ref p), some (.ref pj), some (.bl g), x, y, z] ∧ Ex H H' ∧ H' pj = some (.lst (bls jl')) ∧ jl'.length = w.n ∧ mk jl' 0 = true ∧ (g = false → jl' = jl ∧ ∀ q ∈ w.rs.take i, mk jl' q.1 = mk jl' q.2) ∧ (g = true → nf jl' < nf jl))
      ⟨jl, false, x, y, z, rfl, ((e.trans e3).trans e4).trans e5, e5 _ _ (e4 _ _ (e3 _ _ hj)), hl, h0, fun _ => ⟨rfl, by simp⟩, fun z => by cases z⟩ (fun i σ' H' _ ⟨_, _, _, _, _, _, e, _⟩ => e _ _ hp) ?_ ?_
    · rintro i v σ' H6 H7 hi ⟨jl', g, x, y, z, rfl, e6, hj', hl', h0', hg0, hg1⟩ e7 hv
      obtain ⟨d, hd, fd⟩ := fr.getV hv
      obtain ⟨q, hq, rfl⟩ := map_get hd
      have hqm := List.mem_of_getElem? hq
      obtain ⟨q1, q2, q3⟩ := W.ends q hqm
      have htk : w.rs.take (i + 1) = w.rs.take i ++ [q] := by rw [List.take_add_one, hq]; rfl
      obtain ⟨v1, v2, f1, f2, hgo⟩ := tg_2 (K := K) (i := 4) (j := 5) (fd.mono (Kp.ex (e6.trans e7)))
      obtain rfl := f1.int_of
      obtain rfl := f2.int_of
      refine hgo _ _ ?_
      have hj7 := e7 _ _ hj'
      refine s_if (et_test (evd_neB (evd_ixL (evd_var rfl (.adr pj)) hj7 (FzL.bls _) (evd_var rfl (.int _)) (at_bl (by omega))) (evd_ixL (evd_var rfl (.adr pj)) hj7 (FzL.bls _) (evd_var rfl (.int _)) (at_bl (by omega))))) (fun hb H8 e8 => ?_) fun hb H8 e8 => ?_
      · have hne : mk jl' q.1 ≠ mk jl' q.2 := fun z => by rw [z] at hb; simp at hb
        refine q_setL (j := q.1) (e8 _ _ hj7) evd_bl (evd_var rfl (.adr pj)) (evd_var rfl (.int _)) (by rw [List.length_map]; omega) fun v H9 e9 f9 => ?_
        obtain rfl := f9.bl_of
        rw [bls_set]
        refine q_setL (j := q.2) upd_same evd_bl (evd_var rfl (.adr pj)) (evd_var rfl (.int _)) (by rw [List.length_map, List.length_set]; omega) fun v H10 e10 f10 => ?_
        obtain rfl := f10.bl_of
        rw [bls_set]
        refine s_asg evd_bl fun v H11 e11 f11 => ?_
        obtain rfl := f11.bl_of
        refine ⟨_, true, _, _, _, rfl, (Ex.set ((Ex.set (((e6.trans e7).trans e8).trans e9) hpj).trans e10) hpj).trans e11, e11 _ _ upd_same, by simp [hl'], mk_keep (mk_keep h0'), (fun z => by cases z), fun _ => ?_⟩
        have hle : nf jl' ≤ nf jl := by
          cases g with
          | false => rw [(hg0 rfl).1]; exact Nat.le_refl _
          | true => exact Nat.le_of_lt (hg1 rfl)
        have h2 : nf ((jl'.set q.1 true).set q.2 true) < nf jl' := by
          cases hm : mk jl' q.1 with
          | false =>
            have := nf_set_lt (l := jl') (i := q.1) (by omega) hm
            have := nf_set_le (l := jl'.set q.1 true) (i := q.2)
            omega
          | true =>
            have hm2 : mk jl' q.2 = false := by cases h : mk jl' q.2 <;> simp_all
            have hm3 : mk (jl'.set q.1 true) q.2 = false := by rw [mk_set, if_neg (by omega)]; exact hm2
            have := nf_set_lt (l := jl'.set q.1 true) (i := q.2) (by rw [List.length_set]; omega) hm3
            have := nf_set_le (l := jl') (i := q.1)
            omega
        omega
      · have heq : mk jl' q.1 = mk jl' q.2 := by
          have := Bool.not_eq_false' .. ▸ hb
          simpa using hb
        refine ⟨jl', g, _, _, _, rfl, (e6.trans e7).trans e8, e8 _ _ hj7, hl', h0', fun hz => ⟨(hg0 hz).1, fun r hr => ?_⟩, hg1⟩
        rw [htk, List.mem_append, List.mem_singleton] at hr
        rcases hr with hr | rfl
        · exact (hg0 hz).2 r hr
        · exact heq
    · rintro σ' H6 ⟨jl', g, x, y, z, rfl, e6, hj', hl', h0', hg0, hg1⟩
      rw [hlen, List.take_length] at hg0
      refine ⟨_, ?_, jl', g, x, y, z, rfl, e6, hj', hl', h0', fun hz => (hg0 hz).2, rfl⟩
      cases g with
      | false => rw [(hg0 rfl).1]; simp
      | true => have := hg1 rfl; simp; omega
  · subst hb
    have hall : ∀ x, x < w.n → mk jl x = true := fun x hx => by
      refine (W.conn x hx).closed (P := fun x => mk jl x = true) (fun y hy => by rw [hy]; exact h0) fun q hq h1 => ?_
      rw [List.mem_append] at hq
      rcases hq with hq | hq
      · rw [← hg rfl q hq]; exact h1
      · obtain ⟨r, hr, rfl⟩ := List.mem_map.mp hq
        show mk jl r.1 = true
        rw [hg rfl r hr]; exact h1
    refine s_retN (EvN.eq (evn_lc (fun _ => false) (fun i => dn i) (evi_rng (evd_var rfl (.int (w.n : Int))) (by omega)) (by omega) fun i v H4 hi e4 f => ?_) (by simp)) fun q xs H4 hq e4 h4 f4 => k q xs H4 (fresh_back (e.trans e3) hq) ((e.trans e3).trans e4) h4 f4
    obtain rfl := f.int_of
    refine ⟨[some (vn w.n), some (.ref p), some (.ref pj), some (.bl false), x, y, some (vn i)], fun Q' q => q, rfl, Evl.et_is (Evl.et_not (et_B (evd_ixL (evd_var rfl (.adr pj)) (e4 _ _ (e3 _ _ hj)) (FzL.bls _) (evd_var rfl (.int _)) (at_bl (by omega))))) (by rw [hall i hi]; rfl), (fun q => by cases q)⟩
theorem pure_Net_init (T : Txt K mg) (vs : List V) (H : Hp) (Q : VK) (E : XK) (h : sp_Net_init T vs H Q E) : Goes (t_Net_init T) N_Net_init vs H Q := by
  obtain ⟨a, p, dx, w, rfl, ha, ⟨us, hp, fr⟩, W, k⟩ := h
  have hn := W.n24
  have hlen : us.length = w.rs.length := by rw [fr.len, List.length_map]
  refine q_drop (d := .non) (evd_callF (evds_cons (evd_var rfl (.int (w.n : Int))) (evds_cons evd_int evds_nil)) rfl fun H1 e Q q => ⟨w.n, 1, rfl, W.n1, W.n24, q⟩) fun H1 e1 => ?_
  refine q_if (b := false) (Evl.et_is (et_test (evd_gt (evd_lenL (evd_var rfl (.adr p)) (e1 _ _ hp)) (evd_con (evd_var rfl (.adr a)) (e1 _ _ ha) T.Net.cl T.Net.mostRopes rfl (.int 40)))) (decide_eq_false (by have := W.m40; omega))) (fun q => by cases q) fun _ H2 e2 => ?_
  have e12 := e1.trans e2
  refine q_forI (i_enL (evd_var rfl (.adr p)) (e12 _ _ hp) fun J H3 e3 S3 => ?_)
  refine q_for S3 (fun i σ' H' => Ex H H' ∧ ∃ x y z, σ' = [some (.ref a), some (vn w.n), some (.ref p), x, y, z, none]) ⟨e12.trans e3, none, none, none, rfl⟩ (fun i σ' H' _ ⟨e, _⟩ => e _ _ hp) ?_ ?_
  · rintro i x σ' H4 H5 hi ⟨e4, x', y', z', rfl⟩ e5 ⟨t, y, rfl, ht, hy⟩
    obtain ⟨d, hd, fd⟩ := fr.getV hy
    obtain ⟨r, hr, rfl⟩ := map_get hd
    obtain ⟨q1, q2, q3⟩ := W.ends r (List.mem_of_getElem? hr)
    obtain ⟨v1, v2, v3, f1, f2, f3, hq⟩ := tg_12 (K := K) (i := 3) (j := 4) (k := 5) (d1 := dn i) (.tup ht (.cons (.int _) (.cons (fd.mono (Kp.ex (e4.trans e5))) .nil)))
    obtain rfl := f1.int_of
    obtain rfl := f2.int_of
    obtain rfl := f3.int_of
    refine hq _ _ ?_
    refine s_if (b := false) (Evl.et_is (Evl.et_or (Evl.et_not (et_chain2 evd_int (evd_var rfl (.int _)) (evd_var rfl (.int _)))) fun _ => Evl.et_or (Evl.et_not (et_chain2 evd_int (evd_var rfl (.int _)) (evd_var rfl (.int _)))) fun _ => et_test (evd_eqI (evd_var rfl (.int _)) (evd_var rfl (.int _)))) ?_) (fun q => by cases q) fun _ H6 e6 => ⟨(e4.trans e5).trans e6, _, _, _, rfl⟩
    rw [decide_eq_true (show (0 : Int) ≤ r.1 by omega), decide_eq_true (show (r.1 : Int) < w.n by omega), decide_eq_true (show (0 : Int) ≤ r.2 by omega), decide_eq_true (show (r.2 : Int) < w.n by omega), decide_eq_false (show ¬ (r.1 : Int) = r.2 by omega)]; rfl
  rintro σ' H4 ⟨e4, x, y, z, rfl⟩
  refine q_asgN (evn_callF (evds_cons (evd_var rfl (.int (w.n : Int))) (evds_cons (evd_var rfl (.adr p)) evds_nil)) rfl fun H5 e Q q => ⟨p, w, rfl, ⟨us, (e4.trans e) _ _ hp, fr.mono (Kp.ex (e4.trans e))⟩, W, q⟩) fun q xs H5 hq e5 h5 f5 => ?_
  cases f5
  refine q_if (b := false) (Evl.et_is (et_tru (evd_var rfl (.adr q)) h5) rfl) (fun q => by cases q) fun _ H6 e6 => ?_
  have e16 := (e4.trans e5).trans e6
  have nt : ∀ xs, HO.ins T.Net.C dx [] ≠ .tup xs := fun _ z => by cases z
  have nl : ∀ xs, HO.ins T.Net.C dx [] ≠ .lst xs := fun _ z => by cases z
  have b0 : ExB a H H6 := (ExB.refl a H).ex e16
  refine q_fld (evd_var rfl (.int (w.n : Int))) (evd_var rfl (.adr a)) (e16 _ _ ha) T.Net.cl T.Net.nStations (by decide) fun v1 H7 e7 f1 => ?_
  obtain rfl := f1.int_of
  have b1 : ExB a H (upd H7 a (.ins T.Net.C dx (putF "stations" (vn w.n) []))) := (b0.ex e7).set
  have hp7 := b1 p _ (fun z => by rw [z, ha] at hp; cases hp) hp
  have z7 : (upd H7 a (.ins T.Net.C dx (putF "stations" (vn w.n) []))) a = _ := upd_same
  generalize upd H7 a (.ins T.Net.C dx (putF "stations" (vn w.n) [])) = G7 at *
  have L : EvN (tLc (iSeq K (tVar 2)) (gTup K 2 (gCons (gName 4) (gCons (gName 5) gNil))) tYes (tTup (tCons (tVar 4) (tCons (tVar 5) tNil))) [4, 5]) [some (.ref a), some (vn w.n), some (.ref p), x, y, z, some (.ref q)] G7 (w.rs.map dPair) := by
    refine EvN.eq (evn_lc (fun _ => true) (fun i => dPair (w.rs.getD i (0, 0))) (evi_seqL (evd_var rfl (.adr p)) ⟨us, hp7, fr.monoT (b1.tk ha nt)⟩) (by rw [List.length_map]; have := W.m40; omega) fun i v H1 hi e f => ?_) ?_
    · rw [List.length_map] at hi
      have hd : (w.rs.map dPair).getD i .non = dPair (w.rs.getD i (0, 0)) := by
        rw [List.getD_eq_getElem?_getD, List.getElem?_map, List.getD_eq_getElem?_getD, List.getElem?_eq_getElem hi]; rfl
      rw [hd] at f
      obtain ⟨v1, v2, f1, f2, hq⟩ := tg_2 (K := K) (i := 4) (j := 5) f
      obtain rfl := f1.int_of
      obtain rfl := f2.int_of
      refine ⟨_, fun Q' q => hq _ _ q, rfl, fun H2 e2 Q q => q H2 (Ex.refl _), fun _ => evd_tup (evds_cons (evd_var rfl (.int _)) (evds_cons (evd_var rfl (.int _)) evds_nil)) (Nat.le_of_ble_eq_true rfl)⟩
    · rw [filt_all, List.length_map]
      refine List.ext_getElem? fun i => ?_
      rw [List.getElem?_map, List.getElem?_map]
      rcases Nat.lt_or_ge i w.rs.length with h | h
      · rw [List.getElem?_range h, List.getElem?_eq_getElem h]
        show some (dPair (w.rs.getD i (0, 0))) = some _
        rw [List.getD_eq_getElem?_getD, List.getElem?_eq_getElem h]; rfl
      · rw [List.getElem?_eq_none h, List.getElem?_eq_none (by simpa using h)]; rfl
  refine s_fld (evd_tupN L) (evd_var rfl (.adr a)) z7 T.Net.cl T.Net.nRopes (by have := length_putF "stations" (vn w.n) []; simp at this; omega) fun v H8 e8 f8 => ?_
  obtain ⟨t, ys, rfl, ht, fy⟩ := f8.tup_of
  have b2 : ExB a H (upd H8 a (.ins T.Net.C dx (netF w.n t))) := (b1.ex e8).set
  have t1 : Tk H8 (upd H8 a (.ins T.Net.C dx (netF w.n t))) := ((ExB.refl a _).set).tk (e8 _ _ z7) (fun _ z => by cases z)
  exact k _ b2 ⟨W, dx, t, upd_same, f8.monoT t1⟩
end
end TR
namespace TR
open PySem L2 PyProof.Rows
open Evl (Ex EvT fresh_back)
local macro_rules | `(tactic| walk_at "h") => `(tactic| first
  | assumption
  | (refine Ex.at (by assumption) ?_; walk_at "h")
  | (refine Kp.at (by assumption) ?_; walk_at "h")
  | (refine Fz.mono (Kp.ex (by assumption)) ?_; walk_at "h")
  | (refine Fz.mono (by assumption) ?_; walk_at "h")
  | (refine FzL.mono (Kp.ex (by assumption)) ?_; walk_at "h")
  | (refine FzL.mono (by assumption) ?_; walk_at "h")
  | (refine NetAt.mono (Kp.ex (by assumption)) ?_; walk_at "h")
  | (refine NetAt.mono (by assumption) ?_; walk_at "h")
  | (refine StaA.mono (Kp.ex (by assumption)) ?_; walk_at "h")
  | (refine StaA.mono (by assumption) ?_; walk_at "h")
  | (refine Sta.mono (Kp.ex (by assumption)) ?_; walk_at "h")
  | (refine Sta.mono (by assumption) ?_; walk_at "h")
  | (refine Lst.mono (by assumption) ?_; walk_at "h")
  | (refine Seq.mono (by assumption) ?_; walk_at "h"))
local macro_rules | `(tactic| walk_at "fz") => `(tactic| first
  | exact Fz.int _ | exact Fz.bl _ | exact Fz.str _ | exact Fz.non
  | walk_at "h"
  | exact Fz.adr _)
local macro_rules | `(tactic| walk_at "ix") => `(tactic| first
  | exact rfl
  | (refine atI_nat ?_; first | assumption | rfl | (simp; done)))
local macro_rules | `(tactic| walk_at "ev") => `(tactic| first
  | exact evd_int | exact evd_str | exact evd_bl | exact evd_non
  | (refine evd_var rfl ?_; walk_at "fz")
  | (refine evd_stations ?_ ?_; (walk_at "h"); (walk_at "ev"))
  | (refine evd_ropes ?_ ?_; (walk_at "h"); (walk_at "ev"))
  | (refine evd_net ?_ ?_; (walk_at "h"); (walk_at "ev"))
  | (refine evd_reds ?_ ?_; (walk_at "h"); (walk_at "ev"))
  | (refine evd_blues ?_ ?_; (walk_at "h"); (walk_at "ev"))
  | (refine evd_cars ?_ ?_; (walk_at "h"); (walk_at "ev"))
  | (refine evd_add ?_ ?_; (walk_at "ev"); (walk_at "ev"))
  | (refine evd_sub ?_ ?_; (walk_at "ev"); (walk_at "ev"))
  | (refine evd_lt ?_ ?_; (walk_at "ev"); (walk_at "ev"))
  | (refine evd_le ?_ ?_; (walk_at "ev"); (walk_at "ev"))
  | (refine evd_gt ?_ ?_; (walk_at "ev"); (walk_at "ev"))
  | (refine evd_ge ?_ ?_; (walk_at "ev"); (walk_at "ev"))
  | (refine evd_neg ?_; (walk_at "ev"))
  | (refine evd_eqI ?_ ?_; (walk_at "ev"); (walk_at "ev"))
  | (refine evd_neI ?_ ?_; (walk_at "ev"); (walk_at "ev"))
  | (refine evd_eqS ?_ ?_; (walk_at "ev"); (walk_at "ev"))
  | (refine evd_eqB ?_ ?_; (walk_at "ev"); (walk_at "ev"))
  | (refine evd_neB ?_ ?_; (walk_at "ev"); (walk_at "ev"))
  | (refine evd_isN ?_ ?_; (walk_at "ev"); exact rfl)
  | (refine evd_notN ?_ ?_; (walk_at "ev"); exact rfl)
  | (refine evd_ixT ?_ ?_ ?_; (walk_at "ev"); (walk_at "ev"); (walk_at "ix"))
  | (refine evd_ixL ?_ ?_ ?_ ?_ ?_; (walk_at "ev"); (walk_at "h"); (walk_at "h"); (walk_at "ev"); (walk_at "ix"))
  | (refine evd_tup ?_ ?_; (walk_at "evs"); exact Nat.le_of_ble_eq_true rfl)
  | (refine evd_lenD ?_; walk_at "ev")
  | (refine evd_lenL ?_ ?_; (walk_at "ev"); (walk_at "h"))
  | (refine evd_intI ?_; walk_at "ev")
  | (refine evd_intB ?_; walk_at "ev")
  | (refine evd_notV ?_; walk_at "ev"))
local macro_rules | `(tactic| walk_at "evs") => `(tactic| first
  | exact evds_nil
  | (refine evds_cons ?_ ?_; (walk_at "ev"); (walk_at "evs")))
local macro_rules | `(tactic| walk_at "et") => `(tactic| first
  | (refine et_test ?_; walk_at "ev")
  | (refine et_B ?_; walk_at "ev")
  | (refine et_tru ?_ ?_; (walk_at "ev"); (walk_at "h"))
  | (refine Evl.et_not ?_; walk_at "et")
  | (refine et_chain2 ?_ ?_ ?_; (walk_at "ev"); (walk_at "ev"); (walk_at "ev")))
def heads (ps : List (Nat × Nat)) (j : Nat) : List Nat := (ps.filter fun q => decide (q.1 = j)).map (·.2)
theorem heads_snoc {ps : List (Nat × Nat)} {q : Nat × Nat} {j : Nat} : heads (ps ++ [q]) j = heads ps j ++ (if q.1 = j then [q.2] else []) := by
  unfold heads
  rw [List.filter_append, List.map_append]
  by_cases h : q.1 = j
  · simp [h]
  · simp [h]
theorem mem_heads {ps : List (Nat × Nat)} {j x : Nat} : x ∈ heads ps j ↔ (j, x) ∈ ps := by
  unfold heads
  rw [List.mem_map]
  constructor
  · rintro ⟨⟨a, b⟩, h, rfl⟩
    rw [List.mem_filter] at h
    obtain ⟨h1, h2⟩ := h
    have := of_decide_eq_true h2
    subst this
    exact h1
  · intro h
    exact ⟨(j, x), List.mem_filter.mpr ⟨h, by simp⟩, rfl⟩
theorem take_succ' {α : Type} {l : List α} {i : Nat} {x : α} (h : l[i]? = some x) : l.take (i + 1) = l.take i ++ [x] := by rw [List.take_add_one, h]; rfl
theorem mem_drop {α : Type} {l : List α} {i : Nat} {x y : α} (h : l[i]? = some x) : y ∈ l.drop i ↔ y = x ∨ y ∈ l.drop (i + 1) := by
  have hi := (List.getElem?_eq_some_iff.mp h).1
  have hx := (List.getElem?_eq_some_iff.mp h).2
  rw [List.drop_eq_getElem_cons hi, hx, List.mem_cons]
theorem nats_append {l r : List Nat} : nats (l ++ r) = nats l ++ nats r := List.map_append
open Classical in
theorem reachL_congr {n : Nat} {ps : List (Nat × Nat)} {st st' : Nat → Prop} (h : ∀ x, st x ↔ st' x) : reachL n ps st = reachL n ps st' := by
  have : st = st' := funext fun x => propext (h x)
  rw [this]
section
variable {K : PySem.W.Frag} {mg : Str → Option Value}
open Classical in
theorem pure_reached_from (T : Txt K mg) (vs : List V) (H : Hp) (Q : VK) (E : XK) (h : sp_reached_from T vs H Q E) : Goes (t_reached_from T) N_reached_from vs H Q := by
  obtain ⟨p, q, n, ps, st, rfl, ⟨us, hp, fr⟩, ⟨ws, hq, fq⟩, hps, hst, hn, hm, hs, k⟩ := h
  obtain rfl := fq.nats_of
  have hlen : us.length = ps.length := by rw [fr.len, List.length_map]
  refine q_rows (evi_rng (evd_var rfl (.int (n : Int))) (by omega)) (by omega) (fun v => rfl) fun pf as H1 hpf e1 h1 hal hnd hnf has => ?_
  refine q_forI (i_seqL (evd_var rfl (.adr p)) (e1 _ _ hp) fun J H2 e2 S2 => ?_)
  refine q_for S2 (fun i σ' H' => ∃ x y, σ' = [some (.ref p), some (vn n), some (.ref q), some (.ref pf), x, y, none, none, none, none, none] ∧ Ex H H' ∧ H' pf = some (.lst (as.map V.ref)) ∧ ∀ j a, as[j]? = some a → H' a = some (.lst (nats (heads (ps.take i) j))))
    ⟨none, none, rfl, e1.trans e2, e2 _ _ h1, fun j a ha => e2 _ _ (has a (List.mem_of_getElem? ha)).2⟩ (fun i σ' H' _ ⟨_, _, _, e, _⟩ => e _ _ hp) ?_ ?_
  · rintro i v σ' H3 H4 hi ⟨x, y, rfl, e3, h3, h3a⟩ e4 hv
    obtain ⟨d, hd, fd⟩ := fr.getV hv
    obtain ⟨r, hr, rfl⟩ := map_get hd
    obtain ⟨r1, r2⟩ := hps r (List.mem_of_getElem? hr)
    obtain ⟨v1, v2, f1, f2, hgo⟩ := tg_2 (K := K) (i := 4) (j := 5) (fd.mono (Kp.ex (e3.trans e4)))
    obtain rfl := f1.int_of
    obtain rfl := f2.int_of
    refine hgo _ _ ?_
    have hal1 : as[r.1]? = some (as[r.1]'(by omega)) := List.getElem?_eq_getElem (by omega)
    generalize as[r.1]'(by omega) = al at hal1
    have hal4 := e4 _ _ (h3a _ _ hal1)
    refine s_app hal4 (evd_ixL (evd_var rfl (.adr pf)) (e4 _ _ h3) FzL.adrs (evd_var rfl (.int _)) (at_adr hal1)) (evd_var rfl (.int _)) (by
      rw [List.length_map]; unfold heads; rw [List.length_map]
      have := List.length_filter_le (fun q => decide (q.1 = r.1)) (ps.take i)
      have := List.length_take_le i ps
      have : (ps.take i).length ≤ ps.length := by rw [List.length_take]; omega
      omega) fun v H5 e5 f5 => ?_
    obtain rfl := f5.int_of
    have hne : pf ≠ al := fun z => hnf (z ▸ List.mem_of_getElem? hal1)
    have e35 : Ex H (upd H5 al (.lst (nats (heads (ps.take i) r.1) ++ [vn r.2]))) := Ex.set ((e3.trans e4).trans e5) (has al (List.mem_of_getElem? hal1)).1
    refine ⟨_, _, rfl, e35, by rw [upd_ne hne]; exact e5 _ _ (e4 _ _ h3), fun j a ha => ?_⟩
    rw [take_succ' hr, heads_snoc]
    by_cases hj : r.1 = j
    · subst hj
      rw [hal1] at ha; cases ha
      rw [upd_same, if_pos rfl, nats_append]; rfl
    · rw [if_neg hj, List.append_nil, upd_ne]
      · exact e5 _ _ (e4 _ _ (h3a _ _ ha))
      · rintro rfl
        exact hj ((List.getElem?_inj (i := r.1) (j := j) (by omega) hnd).mp (hal1.trans ha.symm))
  rintro σ' H3 ⟨x, y, rfl, e3, h3, h3a⟩
  rw [hlen, List.take_length] at h3a
  refine q_asgN (EvN.eq (evn_rep1 (k := n) evd_bl rfl (evd_var rfl (.int (n : Int))) (by omega)) (show _ = (List.replicate n false).map D.bl by rw [List.map_replicate])) fun pr xs H4 hpr e4 h4 f4 => ?_
  obtain rfl := f4.bls_of
  refine q_asgN (evn_lst evds_nil (Nat.le_of_ble_eq_true rfl)) fun pw xs H5 hpw e5 h5 f5 => ?_
  cases f5
  have hpr0 : H pr = none := fresh_back e3 hpr
  have hpw3 : H3 pw = none := fresh_back e4 hpw
  have hrw : pr ≠ pw := ne_of_none h4 hpw
  refine q_forI (i_seqL (evd_var rfl (.adr q)) (((e3.trans e4).trans e5) _ _ hq) fun J H6 e6 S6 => ?_)
  refine q_for S6 (fun i σ' H' => ∃ jl z, σ' = [some (.ref p), some (vn n), some (.ref q), some (.ref pf), x, y, some (.ref pr), some (.ref pw), z, none, none] ∧ Ex H3 H' ∧ H' pr = some (.lst (bls jl)) ∧ H' pw = some (.lst (nats (st.take i))) ∧ jl.length = n ∧ nf jl ≤ n ∧ ∀ x, mk jl x = true ↔ x ∈ st.take i)
    ⟨_, none, rfl, (e4.trans e5).trans e6, e6 _ _ (e5 _ _ h4), e6 _ _ h5, by simp, by rw [nf_rep]; exact Nat.le_refl _, fun x => by rw [mk_rep]; simp⟩ (fun i σ' H' _ ⟨_, _, _, e, _⟩ => e _ _ (e3 _ _ hq)) ?_ ?_
  · rintro i v σ' H7 H8 hi ⟨jl, z, rfl, e7, h7r, h7w, hjl, hnfj, hjs⟩ e8 hv
    obtain ⟨a, ha, rfl⟩ := map_get hv
    have han := hst a (List.mem_of_getElem? ha)
    refine q_setL (j := a) (e8 _ _ h7r) evd_bl (evd_var rfl (.adr pr)) (evd_var rfl (.int _)) (by rw [List.length_map, hjl]; exact han) fun v H9 e9 f9 => ?_
    obtain rfl := f9.bl_of
    rw [bls_set]
    have h9w : (upd H9 pr (.lst (bls (jl.set a true)))) pw = some (.lst (nats (st.take i))) := by rw [upd_ne hrw.symm]; exact e9 _ _ (e8 _ _ h7w)
    refine s_app h9w (evd_var rfl (.adr pw)) (evd_var rfl (.int (a : Int))) (by rw [List.length_map, List.length_take]; omega) fun v H10 e10 f10 => ?_
    obtain rfl := f10.int_of
    refine ⟨jl.set a true, _, rfl, Ex.set ((Ex.set ((e7.trans e8).trans e9) hpr).trans e10) hpw3, ?_, ?_, by rw [List.length_set, hjl], Nat.le_trans nf_set_le hnfj, fun x => ?_⟩
    · rw [upd_ne hrw]; exact e10 _ _ upd_same
    · rw [upd_same, take_succ' ha, nats_append]; rfl
    · rw [take_succ' ha, List.mem_append, List.mem_singleton, ← hjs x, mk_set]
      by_cases hax : a = x
      · subst hax; simp [hjl, han]
      · rw [if_neg (fun h => hax h.1)]
        exact ⟨.inl, fun h => h.elim id fun h => absurd h.symm hax⟩
  rintro σ' H7 ⟨jl, z, rfl, e7, h7r, h7w, hjl, hnfj, hjs⟩
  have hst' : (nats st).length = st.length := List.length_map _
  rw [hst', List.take_length] at h7w hjs
  refine q_while (fun m σ' H' => ∃ jl wt x y, σ' = [some (.ref p), some (vn n), some (.ref q), some (.ref pf), x, y, some (.ref pr), some (.ref pw), z, none, none] ∧ Ex H3 H' ∧ H' pr = some (.lst (bls jl)) ∧ H' pw = some (.lst (nats wt)) ∧ jl.length = n ∧
      (∀ x ∈ wt, mk jl x = true) ∧ (∀ x ∈ st, mk jl x = true) ∧ (∀ x, mk jl x = true → PathTo ps (fun x => x ∈ st) x) ∧ (∀ q ∈ ps, mk jl q.1 = true → q.1 ∈ wt ∨ mk jl q.2 = true) ∧ wt.length + nf jl ≤ 48 ∧ m = 2 * nf jl + wt.length)
    _ ⟨jl, st, x, y, rfl, e7, h7r, h7w, hjl, fun x hx => (hjs x).mpr hx, fun x hx => (hjs x).mpr hx, fun x hx => .base ((hjs x).mp hx), fun r _ hr => .inl ((hjs _).mp hr), by omega, rfl⟩ ?_
  rintro m σ' H8 ⟨jl, wt, x, y, rfl, e8, h8r, h8w, hjl, hw1, hw2, hw3, hw4, hb, rfl⟩
  refine ⟨_, et_tru (evd_var rfl (.adr pw)) h8w, fun hne H9 e9 => ?_, fun hne H9 e9 => ?_⟩
  · rcases List.eq_nil_or_concat wt with rfl | ⟨wt', t, rfl⟩
    · cases hne
    rw [List.concat_eq_append] at *
    have ht := hw1 t (by simp)
    have htn : t < n := hjl ▸ mk_lt ht
    have h9w := e9 _ _ h8w
    rw [nats_append] at h9w
    refine q_pop h9w (evd_var rfl (.adr pw)) fun H10 e10 => ?_
    have hal1 : as[t]? = some (as[t]'(by omega)) := List.getElem?_eq_getElem (by omega)
    generalize as[t]'(by omega) = al at hal1
    have e3' : Ex H3 (upd H10 pw (.lst (nats wt'))) := Ex.set ((e8.trans e9).trans e10) hpw3
    have h10r : (upd H10 pw (.lst (nats wt'))) pr = some (.lst (bls jl)) := by rw [upd_ne hrw]; exact e10 _ _ (e9 _ _ h8r)
    have h10w : (upd H10 pw (.lst (nats wt'))) pw = some (.lst (nats wt')) := upd_same
    generalize upd H10 pw (.lst (nats wt')) = G10 at *
    refine for_intro (i_seqL (evd_ixL (evd_var rfl (.adr pf)) (e3' _ _ h3) FzL.adrs (evd_var rfl (.int _)) (at_adr hal1)) (e3' _ _ (h3a _ _ hal1)) fun J H11 e11 S11 => ?_)
    refine s_for S11 (fun i σ' H' => ∃ jl' wt y, σ' = [some (.ref p), some (vn n), some (.ref q), some (.ref pf), some (vn t), y, some (.ref pr), some (.ref pw), z, none, none] ∧ Ex H3 H' ∧ H' pr = some (.lst (bls jl')) ∧ H' pw = some (.lst (nats wt)) ∧ jl'.length = n ∧ mk jl' t = true ∧
        (∀ x ∈ wt, mk jl' x = true) ∧ (∀ x ∈ st, mk jl' x = true) ∧ (∀ x, mk jl' x = true → PathTo ps (fun x => x ∈ st) x) ∧ (∀ q ∈ ps, mk jl' q.1 = true → q.1 ∈ wt ∨ mk jl' q.2 = true ∨ (q.1 = t ∧ q.2 ∈ (heads ps t).drop i)) ∧ wt.length + nf jl' ≤ 48 ∧ 2 * nf jl' + wt.length < 2 * nf jl + (wt' ++ [t]).length)
      ⟨jl, wt', y, rfl, e3'.trans e11, e11 _ _ h10r, e11 _ _ h10w, hjl, ht, fun x hx => hw1 x (by simp [hx]), hw2, hw3, fun r hr h1 => ?_, by rw [List.length_append] at hb; omega, by rw [List.length_append]; simp⟩ (fun i σ' H' _ ⟨_, _, _, _, e, _⟩ => e _ _ (h3a _ _ hal1)) ?_ ?_
    · rcases hw4 r hr h1 with h2 | h2
      · rw [List.mem_append, List.mem_singleton] at h2
        rcases h2 with h2 | h2
        · exact .inl h2
        · exact .inr (.inr ⟨h2, by rw [List.drop_zero, mem_heads, ← h2]; exact hr⟩)
      · exact .inr (.inl h2)
    · rintro i v σ' H12 H13 hi ⟨jl', wt, y, rfl, e12, h12r, h12w, hjl', ht', hv1, hv2, hv3, hv4, hb', hm'⟩ e13 hv
      obtain ⟨hd, hhd, rfl⟩ := map_get hv
      have hmem : (t, hd) ∈ ps := mem_heads.mp (List.mem_of_getElem? hhd)
      have hdn : hd < n := (hps _ hmem).2
      have h13r := e13 _ _ h12r
      refine s_if (Evl.et_not (et_B (evd_ixL (evd_var rfl (.adr pr)) h13r (FzL.bls _) (evd_var rfl (.int (hd : Int))) (at_bl (by omega))))) (fun hbb H14 e14 => ?_) fun hbb H14 e14 => ?_
      · have hmf : mk jl' hd = false := by simpa using hbb
        refine q_setL (j := hd) (e14 _ _ h13r) evd_bl (evd_var rfl (.adr pr)) (evd_var rfl (.int _)) (by rw [List.length_map]; omega) fun v H15 e15 f15 => ?_
        obtain rfl := f15.bl_of
        rw [bls_set]
        have h15w : (upd H15 pr (.lst (bls (jl'.set hd true)))) pw = some (.lst (nats wt)) := by rw [upd_ne hrw.symm]; exact e15 _ _ (e14 _ _ (e13 _ _ h12w))
        refine s_app h15w (evd_var rfl (.adr pw)) (evd_var rfl (.int (hd : Int))) (by rw [List.length_map]; omega) fun v H16 e16 f16 => ?_
        obtain rfl := f16.int_of
        have hnf1 := nf_set_lt (l := jl') (i := hd) (by omega) hmf
        have hiff : ∀ x, mk (jl'.set hd true) x = true ↔ x = hd ∨ mk jl' x = true := fun x => by
          rw [mk_set]
          by_cases h : hd = x
          · subst h; simp; omega
          · rw [if_neg (fun z => h z.1)]
            exact ⟨.inr, fun z => z.elim (fun z => absurd z.symm h) id⟩
        refine ⟨jl'.set hd true, wt ++ [hd], _, rfl, Ex.set ((Ex.set (((e12.trans e13).trans e14).trans e15) hpr).trans e16) hpw3, ?_, ?_, by rw [List.length_set, hjl'], mk_keep ht', fun x hx => ?_, fun x hx => mk_keep (hv2 x hx), fun x hx => ?_, fun r hr h1 => ?_, ?_, ?_⟩
        · rw [upd_ne hrw]; exact e16 _ _ upd_same
        · rw [upd_same, nats_append]; rfl
        · rw [List.mem_append, List.mem_singleton] at hx
          exact (hiff x).mpr (hx.elim (fun h => .inr (hv1 x h)) .inl)
        · rcases (hiff x).mp hx with rfl | h
          · exact .step (hv3 t ht') hmem
          · exact hv3 x h
        · rcases (hiff _).mp h1 with h2 | h2
          · exact .inl (by simp [h2])
          · rcases hv4 r hr h2 with h3 | h3 | ⟨h3, h4⟩
            · exact .inl (by simp [h3])
            · exact .inr (.inl (mk_keep h3))
            · rcases (mem_drop hhd).mp h4 with h5 | h5
              · exact .inr (.inl ((hiff _).mpr (.inl h5)))
              · exact .inr (.inr ⟨h3, h5⟩)
        · rw [List.length_append]; simp; omega
        · rw [List.length_append]; simp at *; omega
      · have hmt : mk jl' hd = true := by simpa using hbb
        refine ⟨jl', wt, _, rfl, (e12.trans e13).trans e14, e14 _ _ h13r, e14 _ _ (e13 _ _ h12w), hjl', ht', hv1, hv2, hv3, fun r hr h1 => ?_, hb', hm'⟩
        rcases hv4 r hr h1 with h3 | h3 | ⟨h3, h4⟩
        · exact .inl h3
        · exact .inr (.inl h3)
        · rcases (mem_drop hhd).mp h4 with h5 | h5
          · exact .inr (.inl (h5 ▸ hmt))
          · exact .inr (.inr ⟨h3, h5⟩)
    · rintro σ' H12 ⟨jl', wt, y, rfl, e12, h12r, h12w, hjl', ht', hv1, hv2, hv3, hv4, hb', hm'⟩
      refine ⟨_, hm', jl', wt, _, _, rfl, e12, h12r, h12w, hjl', hv1, hv2, hv3, fun r hr h1 => ?_, hb', rfl⟩
      rcases hv4 r hr h1 with h3 | h3 | ⟨h3, h4⟩
      · exact .inl h3
      · exact .inr h3
      · have : (nats (heads ps t)).length = (heads ps t).length := List.length_map _
        rw [this, List.drop_length] at h4; cases h4
  · cases wt with
    | cons a l => cases hne
    | nil =>
      have hiff : ∀ x, mk jl x = true ↔ PathTo ps (fun x => x ∈ st) x := fun x => ⟨hw3 x, fun h => h.closed (P := fun x => mk jl x = true) hw2 fun r hr h1 => (hw4 r hr h1).elim (fun z => by cases z) id⟩
      refine s_retN (EvN.eq (evn_lc (fun i => mk jl i) (fun i => dn i) (evi_rng (evd_var rfl (.int (n : Int))) (by omega)) (by omega) fun i v H4 hi e4 f => ?_) ?_) fun r xs H10 hr e10 h10 f10 => k r xs H10 (fresh_back ((e3.trans e8).trans e9) hr) (((e3.trans e8).trans e9).trans e10) h10 f10
      · obtain rfl := f.int_of
        exact ⟨[some (.ref p), some (vn n), some (.ref q), some (.ref pf), x, y, some (.ref pr), some (.ref pw), z, none, some (vn i)], fun Q' q => q, rfl, et_B (evd_ixL (evd_var rfl (.adr pr)) (e4 _ _ (e9 _ _ h8r)) (FzL.bls _) (evd_var rfl (.int (i : Int))) (at_bl (by omega))), fun _ => evd_var rfl (.int _)⟩
      · unfold reachL
        congr 1
        refine List.filter_congr fun i _ => ?_
        rw [Bool.eq_iff_iff, hiff i]; simp
end
end TR
namespace TR
open PySem L2 PyProof.Rows
open Evl (Ex EvT fresh_back)
local macro_rules | `(tactic| walk_at "h") => `(tactic| first
  | assumption
  | (refine Ex.at (by assumption) ?_; walk_at "h")
  | (refine Kp.at (by assumption) ?_; walk_at "h")
  | (refine Fz.mono (Kp.ex (by assumption)) ?_; walk_at "h")
  | (refine Fz.mono (by assumption) ?_; walk_at "h")
  | (refine FzL.mono (Kp.ex (by assumption)) ?_; walk_at "h")
  | (refine FzL.mono (by assumption) ?_; walk_at "h")
  | (refine NetAt.mono (Kp.ex (by assumption)) ?_; walk_at "h")
  | (refine NetAt.mono (by assumption) ?_; walk_at "h")
  | (refine StaA.mono (Kp.ex (by assumption)) ?_; walk_at "h")
  | (refine StaA.mono (by assumption) ?_; walk_at "h")
  | (refine Sta.mono (Kp.ex (by assumption)) ?_; walk_at "h")
  | (refine Sta.mono (by assumption) ?_; walk_at "h")
  | (refine Lst.mono (by assumption) ?_; walk_at "h")
  | (refine Seq.mono (by assumption) ?_; walk_at "h"))
local macro_rules | `(tactic| walk_at "fz") => `(tactic| first
  | exact Fz.int _ | exact Fz.bl _ | exact Fz.str _ | exact Fz.non
  | walk_at "h"
  | exact Fz.adr _)
local macro_rules | `(tactic| walk_at "ix") => `(tactic| first
  | exact rfl
  | (refine atI_nat ?_; first | assumption | rfl | (simp; done)))
local macro_rules | `(tactic| walk_at "ev") => `(tactic| first
  | exact evd_int | exact evd_str | exact evd_bl | exact evd_non
  | (refine evd_var rfl ?_; walk_at "fz")
  | (refine evd_stations ?_ ?_; (walk_at "h"); (walk_at "ev"))
  | (refine evd_ropes ?_ ?_; (walk_at "h"); (walk_at "ev"))
  | (refine evd_net ?_ ?_; (walk_at "h"); (walk_at "ev"))
  | (refine evd_reds ?_ ?_; (walk_at "h"); (walk_at "ev"))
  | (refine evd_blues ?_ ?_; (walk_at "h"); (walk_at "ev"))
  | (refine evd_cars ?_ ?_; (walk_at "h"); (walk_at "ev"))
  | (refine evd_add ?_ ?_; (walk_at "ev"); (walk_at "ev"))
  | (refine evd_sub ?_ ?_; (walk_at "ev"); (walk_at "ev"))
  | (refine evd_lt ?_ ?_; (walk_at "ev"); (walk_at "ev"))
  | (refine evd_le ?_ ?_; (walk_at "ev"); (walk_at "ev"))
  | (refine evd_gt ?_ ?_; (walk_at "ev"); (walk_at "ev"))
  | (refine evd_ge ?_ ?_; (walk_at "ev"); (walk_at "ev"))
  | (refine evd_neg ?_; (walk_at "ev"))
  | (refine evd_eqI ?_ ?_; (walk_at "ev"); (walk_at "ev"))
  | (refine evd_neI ?_ ?_; (walk_at "ev"); (walk_at "ev"))
  | (refine evd_eqS ?_ ?_; (walk_at "ev"); (walk_at "ev"))
  | (refine evd_eqB ?_ ?_; (walk_at "ev"); (walk_at "ev"))
  | (refine evd_neB ?_ ?_; (walk_at "ev"); (walk_at "ev"))
  | (refine evd_isN ?_ ?_; (walk_at "ev"); exact rfl)
  | (refine evd_notN ?_ ?_; (walk_at "ev"); exact rfl)
  | (refine evd_ixT ?_ ?_ ?_; (walk_at "ev"); (walk_at "ev"); (walk_at "ix"))
  | (refine evd_ixL ?_ ?_ ?_ ?_ ?_; (walk_at "ev"); (walk_at "h"); (walk_at "h"); (walk_at "ev"); (walk_at "ix"))
  | (refine evd_tup ?_ ?_; (walk_at "evs"); exact Nat.le_of_ble_eq_true rfl)
  | (refine evd_lenD ?_; walk_at "ev")
  | (refine evd_lenL ?_ ?_; (walk_at "ev"); (walk_at "h"))
  | (refine evd_intI ?_; walk_at "ev")
  | (refine evd_intB ?_; walk_at "ev")
  | (refine evd_notV ?_; walk_at "ev"))
local macro_rules | `(tactic| walk_at "evs") => `(tactic| first
  | exact evds_nil
  | (refine evds_cons ?_ ?_; (walk_at "ev"); (walk_at "evs")))
local macro_rules | `(tactic| walk_at "et") => `(tactic| first
  | (refine et_test ?_; walk_at "ev")
  | (refine et_B ?_; walk_at "ev")
  | (refine et_tru ?_ ?_; (walk_at "ev"); (walk_at "h"))
  | (refine Evl.et_not ?_; walk_at "et")
  | (refine et_chain2 ?_ ?_ ?_; (walk_at "ev"); (walk_at "ev"); (walk_at "ev")))
open Classical in
theorem mem_reachL {n : Nat} {ps : List (Nat × Nat)} {st : Nat → Prop} {x : Nat} : x ∈ reachL n ps st ↔ x < n ∧ PathTo ps st x := by
  unfold reachL
  rw [List.mem_filter, List.mem_range, decide_eq_true_iff]
open Classical in
theorem reachL_len {n : Nat} {ps : List (Nat × Nat)} {st : Nat → Prop} : (reachL n ps st).length ≤ n := by
  unfold reachL
  have := List.length_filter_le (fun x => decide (PathTo ps st x)) (List.range n)
  rw [List.length_range] at this
  exact this
theorem arrows_lt {w : Wd} {s : Sd} (W : WOk w) : ∀ x ∈ arrows w s, x.1 < w.n ∧ x.2 < w.n := fun x hx => by
  unfold arrows at hx
  obtain ⟨k, hk, rfl⟩ := List.mem_map.mp hx
  rw [List.mem_range] at hk
  exact ⟨redSt_lt W hk, bluSt_lt W hk⟩
theorem arrows_len {w : Wd} {s : Sd} : (arrows w s).length = w.rs.length := by unfold arrows; rw [List.length_map, List.length_range]
theorem getD_dn {l : List Nat} {i : Nat} (h : i < l.length) : (l.map dn).getD i .non = dn (l.getD i 0) := by
  rw [List.getD_eq_getElem?_getD, List.getElem?_map, List.getD_eq_getElem?_getD, List.getElem?_eq_getElem h]; rfl
theorem getD_dPair {l : List (Nat × Nat)} {i : Nat} (h : i < l.length) : (l.map dPair).getD i .non = dPair (l.getD i (0, 0)) := by
  rw [List.getD_eq_getElem?_getD, List.getElem?_map, List.getD_eq_getElem?_getD, List.getElem?_eq_getElem h]; rfl
theorem range_map {α β : Type} {l : List α} {n : Nat} {d : α} {f : α → β} {g : Nat → β} (hl : l.length = n) (h : ∀ i, i < n → g i = f (l.getD i d)) : (List.range n).map g = l.map f := by
  refine List.ext_getElem? fun i => ?_
  rw [List.getElem?_map, List.getElem?_map]
  rcases Nat.lt_or_ge i n with h1 | h1
  · rw [List.getElem?_range h1, List.getElem?_eq_getElem (by omega)]
    show some (g i) = some _
    rw [h i h1, List.getD_eq_getElem?_getD, List.getElem?_eq_getElem (by omega)]; rfl
  · rw [List.getElem?_eq_none (by simpa using h1), List.getElem?_eq_none (by omega)]; rfl
theorem filt_lt {n : Nat} {f : Nat → Bool} {x : Nat} (h : x ∈ (List.range n).filter f) : x < n ∧ f x = true := by
  rw [List.mem_filter, List.mem_range] at h
  exact h
section
variable {K : PySem.W.Frag} {mg : Str → Option Value} {σ : L2.St} {H : Hp} {te ta : TE} {tr : TA} {ds es : List D}
theorem callN {sp : Sp} {X : XK} {Q : VK} (h : EvN te σ H es) (hr : EvDs tr σ H ds) (hf : ds.all D.flat = true)
    (k : ∀ p vs H1, H p = none → Ex H H1 → H1 p = some (.lst vs) → FzL H1 vs es → sp (.ref p :: ds.map D.v) H1 Q X) : tCall sp [] X (tCons te tr) σ H Q :=
  h H (Ex.refl _) _ fun p vs H1 hp e h1 f => hr H1 e _ fun us H2 e2 g => by
    show sp ((V.ref p :: us) ++ []) H2 Q X
    rw [List.append_nil, g.flat_of hf]
    exact k p vs H2 hp (e.trans e2) (e2 _ _ h1) (f.mono (Kp.ex e2))
/-- the stations at which there are guests -/
theorem evn_starts {n i j : Nat} {l : List Nat} (h : EvD te σ H (.tup (l.map dn))) (hl : l.length = n) (hn : n ≤ 24) (hi : i < σ.length) (hj : j < σ.length) (hij : i ≠ j) (hw : ∀ u v, wipe (((wipe σ [i, j]).set i u).set j v) [i, j] = wipe σ [i, j]) (hwl : (wipe σ [i, j]).length = σ.length) :
    EvN (tLc (iEnumS K (tCons te tNil)) (gTup K 2 (gCons (gName i) (gCons (gName j) gNil))) (tTest (tOp kGt (tVar j) (tC (.int 0)))) (tVar i) [i, j]) σ H (((List.range n).filter fun x => decide (0 < l.getD x 0)).map dn) := by
  have e0 : (l.map dn).length = n := by rw [List.length_map, hl]
  have hi' := evi_enT (K := K) h
  rw [e0] at hi'
  refine evn_lc (fun x => decide (0 < l.getD x 0)) (fun x => dn x) hi' (by omega) fun x v H1 hx e f => ?_
  rw [getD_dn (by omega)] at f
  obtain ⟨v1, v2, f1, f2, hq⟩ := tg_2 (K := K) (i := i) (j := j) f
  obtain rfl := f1.int_of
  obtain rfl := f2.int_of
  refine ⟨_, fun Q' q => hq _ _ q, hw _ _, ?_, fun _ => ?_⟩
  · refine Evl.et_is (et_test (evd_gt (i := (l.getD x 0 : Nat)) (j := 0) (evd_var ?_ (.int _)) evd_int)) (decide_eq_decide.mpr (by omega))
    rw [List.getElem?_set_self (by rw [List.length_set, hwl]; exact hj)]
  · refine evd_var (v := vn x) ?_ (.int _)
    rw [List.getElem?_set_ne (Ne.symm hij), List.getElem?_set_self (by rw [hwl]; exact hi)]
theorem starts_lt {n : Nat} {l : List Nat} : ∀ x ∈ (List.range n).filter (fun x => decide (0 < l.getD x 0)), x < n := fun x hx => (filt_lt hx).1
theorem filt_len' {n : Nat} {f : Nat → Bool} : ((List.range n).filter f).length ≤ n := by
  have := List.length_filter_le f (List.range n)
  rw [List.length_range] at this
  exact this
theorem pure_red_reach (T : Txt K mg) (vs : List V) (H : Hp) (Q : VK) (E : XK) (h : sp_red_reach T vs H Q E) : Goes (t_red_reach T) N_red_reach vs H Q := by
  obtain ⟨a, w, s, rfl, ⟨an, S⟩, k⟩ := h
  have W := S.nt.ok
  have O := S.ok
  refine q_asgN (evn_starts (n := w.n) (evd_reds S (evd_var rfl (.adr a))) O.lr W.n24 (Nat.le_of_ble_eq_true rfl) (Nat.le_of_ble_eq_true rfl) (by decide) (fun u v => rfl) rfl) fun q xs H1 hq e1 h1 f1 => ?_
  have S1 := S.mono (Kp.ex e1)
  refine callN (evn_arrows_of ⟨an, S1⟩ (evd_var rfl (.adr a))) (evds_cons (evd_stations S1.nt (evd_net S1 (evd_var rfl (.adr a)))) (evds_cons (evd_var rfl (.adr q)) evds_nil)) rfl fun p us H2 hp e2 h2 f2 => ?_
  refine ⟨p, q, w.n, arrows w s, _, rfl, ⟨us, h2, f2⟩, ⟨xs, e2 _ _ h1, f1.mono (Kp.ex e2)⟩, arrows_lt W, starts_lt, W.n24, by rw [arrows_len]; exact W.m40, Nat.le_trans filt_len' W.n24, fun r ys H3 hr e3 h3 f3 => k r ys H3 (fresh_back (e1.trans e2) hr) ((e1.trans e2).trans e3) h3 ?_⟩
  have : redL w s = reachL w.n (arrows w s) fun x => x ∈ (List.range w.n).filter fun x => decide (0 < s.reds.getD x 0) := reachL_congr fun x => by
    rw [List.mem_filter, List.mem_range, decide_eq_true_iff]
    refine ⟨fun h => ⟨?_, h⟩, fun h => h.2⟩
    rcases Nat.lt_or_ge x w.n with h1 | h1
    · exact h1
    · rw [List.getD_eq_getElem?_getD, List.getElem?_eq_none (by rw [O.lr]; exact h1)] at h; cases h
  rw [this]
  exact f3
theorem pure_blue_reach (T : Txt K mg) (vs : List V) (H : Hp) (Q : VK) (E : XK) (h : sp_blue_reach T vs H Q E) : Goes (t_blue_reach T) N_blue_reach vs H Q := by
  obtain ⟨a, w, s, rfl, ⟨an, S⟩, k⟩ := h
  have W := S.nt.ok
  have O := S.ok
  refine q_asgN (evn_starts (n := w.n) (evd_blues S (evd_var rfl (.adr a))) O.lb W.n24 (Nat.le_of_ble_eq_true rfl) (Nat.le_of_ble_eq_true rfl) (by decide) (fun u v => rfl) rfl) fun q xs H1 hq e1 h1 f1 => ?_
  have S1 := S.mono (Kp.ex e1)
  refine q_asgN (EvN.eq (es := ((arrows w s).map swapP).map dPair) (evn_lc (fun _ => true) (fun i => dPair (swapP ((arrows w s).getD i (0, 0)))) (evi_seqN (evn_arrows_of ⟨an, S1⟩ (evd_var rfl (.adr a)))) (by rw [List.length_map, arrows_len]; have := W.m40; omega) fun i v H2 hi e2 f => ?_) (filt_all.trans ?_)) fun p us H2 hp e2 h2 f2 => ?_
  · rw [List.length_map] at hi
    rw [getD_dPair hi] at f
    obtain ⟨v1, v2, f1, f2, hq⟩ := tg_2 (K := K) (i := 5) (j := 6) f
    obtain rfl := f1.int_of
    obtain rfl := f2.int_of
    exact ⟨_, fun Q' q => hq _ _ q, rfl, fun H2 e2 Q q => q H2 (Ex.refl _), fun _ => evd_tup (evds_cons (evd_var rfl (.int _)) (evds_cons (evd_var rfl (.int _)) evds_nil)) (Nat.le_of_ble_eq_true rfl)⟩
  · rw [List.length_map, List.map_map]
    exact range_map (d := (0, 0)) rfl fun i hi => rfl
  have S2 := S1.mono (Kp.ex e2)
  refine callF (evds_cons (evd_var rfl (.adr p)) (evds_cons (evd_stations S2.nt (evd_net S2 (evd_var rfl (.adr a)))) (evds_cons (evd_var rfl (.adr q)) evds_nil))) rfl fun H3 e3 => ?_
  refine ⟨p, q, w.n, (arrows w s).map swapP, _, rfl, ⟨us, e3 _ _ h2, f2.mono (Kp.ex e3)⟩, ⟨xs, e3 _ _ (e2 _ _ h1), f1.mono (Kp.ex (e2.trans e3))⟩, fun x hx => ?_, starts_lt, W.n24, by rw [List.length_map, arrows_len]; exact W.m40, Nat.le_trans filt_len' W.n24, fun r ys H4 hr e4 h4 f4 => k r ys H4 (fresh_back ((e1.trans e2).trans e3) hr) (((e1.trans e2).trans e3).trans e4) h4 ?_⟩
  · obtain ⟨y, hy, rfl⟩ := List.mem_map.mp hx
    exact (arrows_lt W y hy).symm
  have : bluL w s = reachL w.n ((arrows w s).map swapP) fun x => x ∈ (List.range w.n).filter fun x => decide (0 < s.blues.getD x 0) := reachL_congr fun x => by
    rw [List.mem_filter, List.mem_range, decide_eq_true_iff]
    refine ⟨fun h => ⟨?_, h⟩, fun h => h.2⟩
    rcases Nat.lt_or_ge x w.n with h1 | h1
    · exact h1
    · rw [List.getD_eq_getElem?_getD, List.getElem?_eq_none (by rw [O.lb]; exact h1)] at h; cases h
  rw [this]
  exact f4
theorem pure_can_meet (T : Txt K mg) (vs : List V) (H : Hp) (Q : VK) (E : XK) (h : sp_can_meet T vs H Q E) : Goes (t_can_meet T) N_can_meet vs H Q := by
  obtain ⟨a, w, s, rfl, ⟨an, S⟩, k⟩ := h
  have W := S.nt.ok
  have O := S.ok
  refine s_ret (EvD.eq (evd_any (bs := (redL w s).map fun x => decide (0 < s.blues.getD x 0)) (EvN.eq (evn_lc (fun _ => true) (fun i => .bl (decide (0 < s.blues.getD ((redL w s).getD i 0) 0))) (evi_seqN (evn_red_reach ⟨an, S⟩ (evd_var rfl (.adr a)))) (by rw [List.length_map]; have := W.n24; have := reachL_len (n := w.n) (ps := arrows w s) (st := fun x => 0 < s.reds.getD x 0); unfold redL; omega) fun i v H2 hi e2 f => ?_) (filt_all.trans ?_))) ?_) k
  · rw [List.length_map] at hi
    rw [getD_dn hi] at f
    obtain rfl := f.int_of
    have hm : (redL w s).getD i 0 < w.n := by
      rw [List.getD_eq_getElem?_getD, List.getElem?_eq_getElem hi]
      exact (mem_reachL.mp (List.getElem_mem hi)).1
    have S2 := S.mono (Kp.ex e2)
    refine ⟨[some (.ref a), some (vn ((redL w s).getD i 0))], fun Q' q => q, rfl, fun H2 e2 Q q => q H2 (Ex.refl _), fun _ => EvD.eq (evd_gt (evd_ixT (evd_blues S2 (evd_var rfl (.adr a))) (evd_var rfl (.int _)) (at_dn (by rw [O.lb]; exact hm))) evd_int) ?_⟩
    congr 1
    exact decide_eq_decide.mpr (by omega)
  · rw [List.length_map, List.map_map]
    exact range_map (d := 0) rfl fun i hi => rfl
  · unfold meets
    rw [List.any_map]; rfl
open Classical in
theorem pure_dead_stations (T : Txt K mg) (vs : List V) (H : Hp) (Q : VK) (E : XK) (h : sp_dead_stations T vs H Q E) : Goes (t_dead_stations T) N_dead_stations vs H Q := by
  obtain ⟨a, w, s, rfl, ⟨an, S⟩, k⟩ := h
  have W := S.nt.ok
  have O := S.ok
  refine q_if (et_B (evd_can_meet ⟨an, S⟩ (evd_var rfl (.adr a)))) (fun hb H1 e1 => ?_) fun hb H1 e1 => ?_
  · refine s_retN (EvN.eq (evn_lst evds_nil (Nat.le_of_ble_eq_true rfl)) ?_) fun p us H2 hp e2 h2 f2 => k p us H2 (fresh_back e1 hp) (e1.trans e2) h2 f2
    unfold deadL aliveS
    rw [hb]; simp
  have S1 := S.mono (Kp.ex e1)
  refine q_asgN (evn_red_reach ⟨an, S1⟩ (evd_var rfl (.adr a))) fun p us H2 hp e2 h2 f2 => ?_
  have S2 := S1.mono (Kp.ex e2)
  refine q_asgN (evn_blue_reach ⟨an, S2⟩ (evd_var rfl (.adr a))) fun q ws H3 hq e3 h3 f3 => ?_
  have h1r := reachL_len (n := w.n) (ps := arrows w s) (st := fun x => 0 < s.reds.getD x 0)
  have h1b := reachL_len (n := w.n) (ps := (arrows w s).map swapP) (st := fun x => 0 < s.blues.getD x 0)
  refine q_asgN (EvN.eq (evn_cat (evd_var rfl (.adr p)) (evd_var rfl (.adr q)) ⟨us, e3 _ _ h2, f2.mono (Kp.ex e3)⟩ ⟨ws, h3, f3⟩ (by rw [List.length_map, List.length_map]; have := W.n24; unfold redL bluL; omega)) (List.map_append.symm)) fun r xs H4 hr e4 h4 f4 => ?_
  obtain rfl := f4.nats_of
  have S4 := S2.mono (Kp.ex (e3.trans e4))
  refine s_retN (EvN.eq (evn_lc (fun x => !decide (x ∈ redL w s ++ bluL w s)) (fun x => dn x) (evi_rng (evd_stations S4.nt (evd_net S4 (evd_var rfl (.adr a)))) (by have := W.n24; omega)) (by have := W.n24; omega) fun i v H5 hi e5 f => ?_) ?_) fun t ys H5 ht e5 h5 f5 => k t ys H5 (fresh_back (((e1.trans e2).trans e3).trans e4) ht) ((((e1.trans e2).trans e3).trans e4).trans e5) h5 f5
  · obtain rfl := f.int_of
    exact ⟨[some (.ref a), some (.ref p), some (.ref q), some (.ref r), some (vn i)], fun Q' q => q, rfl, Evl.et_is (et_test (evd_inL (neg := true) (d := dn i) (evd_var rfl (.int _)) rfl rfl (evd_var rfl (.adr r)) (e5 _ _ h4) (nats_flat _))) (by rw [if_pos rfl]; show (!inV (vn i) _) = _; rw [inV_nats]), fun _ => evd_var rfl (.int _)⟩
  · unfold deadL
    congr 1
    refine List.filter_congr fun x hx => ?_
    rw [List.mem_range] at hx
    unfold aliveS
    rw [hb, Bool.false_or]
    congr 1
    rw [Bool.eq_iff_iff, Bool.or_eq_true, decide_eq_true_iff, decide_eq_true_iff, decide_eq_true_iff, List.mem_append]
    unfold redL bluL
    rw [mem_reachL, mem_reachL]
    exact ⟨fun h => h.imp (·.2) (·.2), fun h => h.imp (⟨hx, ·⟩) (⟨hx, ·⟩)⟩
end
end TR
namespace TR
open PySem L2 PyProof.Rows
open Evl (Ex EvT fresh_back)
local macro_rules | `(tactic| walk_at "h") => `(tactic| first
  | assumption
  | (refine Ex.at (by assumption) ?_; walk_at "h")
  | (refine Kp.at (by assumption) ?_; walk_at "h")
  | (refine Fz.mono (Kp.ex (by assumption)) ?_; walk_at "h")
  | (refine Fz.mono (by assumption) ?_; walk_at "h")
  | (refine FzL.mono (Kp.ex (by assumption)) ?_; walk_at "h")
  | (refine FzL.mono (by assumption) ?_; walk_at "h")
  | (refine NetAt.mono (Kp.ex (by assumption)) ?_; walk_at "h")
  | (refine NetAt.mono (by assumption) ?_; walk_at "h")
  | (refine StaA.mono (Kp.ex (by assumption)) ?_; walk_at "h")
  | (refine StaA.mono (by assumption) ?_; walk_at "h")
  | (refine Sta.mono (Kp.ex (by assumption)) ?_; walk_at "h")
  | (refine Sta.mono (by assumption) ?_; walk_at "h")
  | (refine Lst.mono (by assumption) ?_; walk_at "h")
  | (refine Seq.mono (by assumption) ?_; walk_at "h"))
local macro_rules | `(tactic| walk_at "fz") => `(tactic| first
  | exact Fz.int _ | exact Fz.bl _ | exact Fz.str _ | exact Fz.non
  | walk_at "h"
  | exact Fz.adr _)
local macro_rules | `(tactic| walk_at "ix") => `(tactic| first
  | exact rfl
  | (refine atI_nat ?_; first | assumption | rfl | (simp; done)))
local macro_rules | `(tactic| walk_at "ev") => `(tactic| first
  | exact evd_int | exact evd_str | exact evd_bl | exact evd_non
  | (refine evd_var rfl ?_; walk_at "fz")
  | (refine evd_stations ?_ ?_; (walk_at "h"); (walk_at "ev"))
  | (refine evd_ropes ?_ ?_; (walk_at "h"); (walk_at "ev"))
  | (refine evd_net ?_ ?_; (walk_at "h"); (walk_at "ev"))
  | (refine evd_reds ?_ ?_; (walk_at "h"); (walk_at "ev"))
  | (refine evd_blues ?_ ?_; (walk_at "h"); (walk_at "ev"))
  | (refine evd_cars ?_ ?_; (walk_at "h"); (walk_at "ev"))
  | (refine evd_add ?_ ?_; (walk_at "ev"); (walk_at "ev"))
  | (refine evd_sub ?_ ?_; (walk_at "ev"); (walk_at "ev"))
  | (refine evd_lt ?_ ?_; (walk_at "ev"); (walk_at "ev"))
  | (refine evd_le ?_ ?_; (walk_at "ev"); (walk_at "ev"))
  | (refine evd_gt ?_ ?_; (walk_at "ev"); (walk_at "ev"))
  | (refine evd_ge ?_ ?_; (walk_at "ev"); (walk_at "ev"))
  | (refine evd_neg ?_; (walk_at "ev"))
  | (refine evd_eqI ?_ ?_; (walk_at "ev"); (walk_at "ev"))
  | (refine evd_neI ?_ ?_; (walk_at "ev"); (walk_at "ev"))
  | (refine evd_eqS ?_ ?_; (walk_at "ev"); (walk_at "ev"))
  | (refine evd_eqB ?_ ?_; (walk_at "ev"); (walk_at "ev"))
  | (refine evd_neB ?_ ?_; (walk_at "ev"); (walk_at "ev"))
  | (refine evd_isN ?_ ?_; (walk_at "ev"); exact rfl)
  | (refine evd_notN ?_ ?_; (walk_at "ev"); exact rfl)
  | (refine evd_ixT ?_ ?_ ?_; (walk_at "ev"); (walk_at "ev"); (walk_at "ix"))
  | (refine evd_ixL ?_ ?_ ?_ ?_ ?_; (walk_at "ev"); (walk_at "h"); (walk_at "h"); (walk_at "ev"); (walk_at "ix"))
  | (refine evd_tup ?_ ?_; (walk_at "evs"); exact Nat.le_of_ble_eq_true rfl)
  | (refine evd_lenD ?_; walk_at "ev")
  | (refine evd_lenL ?_ ?_; (walk_at "ev"); (walk_at "h"))
  | (refine evd_intI ?_; walk_at "ev")
  | (refine evd_intB ?_; walk_at "ev")
  | (refine evd_notV ?_; walk_at "ev"))
local macro_rules | `(tactic| walk_at "evs") => `(tactic| first
  | exact evds_nil
  | (refine evds_cons ?_ ?_; (walk_at "ev"); (walk_at "evs")))
local macro_rules | `(tactic| walk_at "et") => `(tactic| first
  | (refine et_test ?_; walk_at "ev")
  | (refine et_B ?_; walk_at "ev")
  | (refine et_tru ?_ ?_; (walk_at "ev"); (walk_at "h"))
  | (refine Evl.et_not ?_; walk_at "et")
  | (refine et_chain2 ?_ ?_ ?_; (walk_at "ev"); (walk_at "ev"); (walk_at "ev")))
def vO : Option Nat → V
  | none => .non
  | some k => vn k
/-- a list of numbers or None, by places -/
abbrev oL (n : Nat) (f : Nat → Option Nat) : List V := (List.range n).map fun x => vO (f x)
abbrev oD (n : Nat) (f : Nat → Option Nat) : List D := (List.range n).map fun x => dOpt (f x)
theorem dOpt_flat {o : Option Nat} : (dOpt o).flat = true := by cases o <;> rfl
theorem dOpt_v {o : Option Nat} : (dOpt o).v = vO o := by cases o <;> rfl
theorem oD_flat {n : Nat} {f : Nat → Option Nat} : (oD n f).all D.flat = true := by
  unfold oD; rw [List.all_map]
  exact List.all_eq_true.mpr fun _ _ => dOpt_flat
theorem oD_v {n : Nat} {f : Nat → Option Nat} : (oD n f).map D.v = oL n f := by
  unfold oD oL; rw [List.map_map]
  exact List.map_congr_left fun x _ => dOpt_v
theorem FzL.oL {H : Hp} {n : Nat} {f : Nat → Option Nat} : FzL H (TR.oL n f) (oD n f) := by
  rw [← oD_v]; exact FzL.flat oD_flat
theorem FzL.oL_of {H : Hp} {n : Nat} {f : Nat → Option Nat} {vs : List V} (h : FzL H vs (oD n f)) : vs = TR.oL n f := by
  rw [← oD_v]; exact h.flat_of oD_flat
theorem oL_all {n : Nat} {f : Nat → Option Nat} : (oL n f).all flatV = true := by
  unfold oL; rw [List.all_map]
  exact List.all_eq_true.mpr fun x _ => by show flatV (vO (f x)) = true; cases f x <;> rfl
theorem oL_len {n : Nat} {f : Nat → Option Nat} : (oL n f).length = n := by unfold oL; rw [List.length_map, List.length_range]
theorem oL_set {n j : Nat} {f : Nat → Option Nat} {k : Nat} : (oL n f).set j (vn k) = oL n (fun x => if x = j then some k else f x) := by
  refine List.ext_getElem? fun i => ?_
  rw [List.getElem?_set, oL_len]
  unfold oL
  rw [List.getElem?_map, List.getElem?_map]
  rcases Nat.lt_or_ge i n with h | h
  · rw [List.getElem?_range h]
    by_cases hj : j = i
    · subst hj; simp [h]; rfl
    · rw [if_neg hj]; simp [Ne.symm hj]
  · rw [List.getElem?_eq_none (by simpa using h)]
    by_cases hj : j = i
    · subst hj; rw [if_pos rfl, if_neg (by omega)]; rfl
    · rw [if_neg hj]; rfl
theorem at_oD {n i : Nat} {f : Nat → Option Nat} (h : i < n) : atI (oD n f) (i : Int) = some (dOpt (f i)) := atI_nat (by unfold oD; rw [List.getElem?_map, List.getElem?_range h]; rfl)
theorem inV_oL {n k : Nat} {f : Nat → Option Nat} : inV (vn k) (oL n f) = decide (∃ x, x < n ∧ f x = some k) := by
  unfold inV oL
  rw [List.any_map, Bool.eq_iff_iff, List.any_eq_true, decide_eq_true_iff]
  constructor
  · rintro ⟨x, hx, h⟩
    refine ⟨x, List.mem_range.mp hx, ?_⟩
    have h : eqV (vO (f x)) (vn k) = true := h
    cases hf : f x with
    | none => rw [hf] at h; cases h
    | some d =>
      rw [hf] at h
      have h : ((d : Int) == (k : Int)) = true := h
      simp at h
      exact congrArg some (by omega)
  · rintro ⟨x, hx, h⟩
    refine ⟨x, List.mem_range.mpr hx, ?_⟩
    show eqV (vO (f x)) (vn k) = true
    rw [h]
    show ((k : Int) == (k : Int)) = true
    simp
section
variable {K : PySem.W.Frag} {mg : Str → Option Value} {σ : L2.St} {H : Hp} {te ta tb : TE} {tr : TA} {ds es : List D}
theorem evd_eqO {o : Option Nat} {k : Nat} (ha : EvD ta σ H (dOpt o)) (hb : EvD tb σ H (dn k)) : EvD (tOp rEq ta tb) σ H (.bl (decide (o = some k))) := fun H1 e Q q =>
  ha H1 e _ fun v H2 e2 fv => hb H2 (e.trans e2) _ fun w H3 e3 fw => by
    rw [fv.flat_of dOpt_flat, fw.int_of, dOpt_v]
    cases o with
    | none =>
      refine ⟨rfl, q _ H3 (e2.trans e3) ?_⟩
      have : decide (vO none = V.int (k : Int)) = decide ((none : Option Nat) = some k) := decide_eq_decide.mpr ⟨fun h => (by cases h), fun h => (by cases h)⟩
      rw [this]; exact .bl _
    | some d =>
      refine ⟨rfl, q _ H3 (e2.trans e3) ?_⟩
      have : decide (vO (some d) = V.int (k : Int)) = decide ((some d : Option Nat) = some k) := decide_eq_decide.mpr ⟨fun h => by
        have h : (V.int (d : Int)) = V.int (k : Int) := h
        injection h with h
        congr 1; omega, fun h => by rw [h]; rfl⟩
      rw [this]; exact .bl _
theorem isN_dOpt {o : Option Nat} : decide ((dOpt o).v = .non) = decide (o = none) := by
  cases o with
  | none => rfl
  | some k => exact decide_eq_decide.mpr ⟨fun h => (by cases h), fun h => (by cases h)⟩
/-- the distances up to a bound -/
def trunc (l : Nat) (o : Option Nat) : Option Nat := o.bind fun d => if d ≤ l then some d else none
theorem trunc_iff {l d : Nat} {o : Option Nat} : trunc l o = some d ↔ o = some d ∧ d ≤ l := by
  unfold trunc
  cases o with
  | none => simp
  | some e =>
    show (if e ≤ l then some e else none) = some d ↔ _
    split
    · constructor
      · intro h; injection h with h; subst h; exact ⟨rfl, by assumption⟩
      · exact fun h => h.1
    · constructor
      · intro h; cases h
      · rintro ⟨h, h2⟩; injection h with h; omega
open Classical in
/-- the lengths in the midst of a turn -/
noncomputable def midL (ps : List (Nat × Nat)) (ds : Nat → Option Nat) (l i x : Nat) : Option Nat := if (trunc l (ds x)).isSome then trunc l (ds x) else if ∃ q ∈ ps.take i, q.1 = x ∧ ds q.2 = some l then some (l + 1) else none
open Classical in
theorem midL_some {ps : List (Nat × Nat)} {ds : Nat → Option Nat} {l i x d : Nat} (h : trunc l (ds x) = some d) : midL ps ds l i x = some d := by
  unfold midL; rw [h]; rfl
open Classical in
theorem midL_pos {ps : List (Nat × Nat)} {ds : Nat → Option Nat} {l i x : Nat} (h : trunc l (ds x) = none) (hq : ∃ q ∈ ps.take i, q.1 = x ∧ ds q.2 = some l) : midL ps ds l i x = some (l + 1) := by
  unfold midL; rw [h, if_neg (by decide), if_pos hq]
open Classical in
theorem midL_neg {ps : List (Nat × Nat)} {ds : Nat → Option Nat} {l i x : Nat} (h : trunc l (ds x) = none) (hq : ¬ ∃ q ∈ ps.take i, q.1 = x ∧ ds q.2 = some l) : midL ps ds l i x = none := by
  unfold midL; rw [h, if_neg (by decide), if_neg hq]
theorem midL_eq {ps : List (Nat × Nat)} {ds : Nat → Option Nat} {l i x : Nat} : midL ps ds l i x = some l ↔ ds x = some l := by
  cases h : trunc l (ds x) with
  | some d =>
    rw [midL_some h]
    have := (trunc_iff (l := l)).mp h
    constructor
    · intro z; injection z with z; rw [← z]; exact this.1
    · intro z; rw [this.1] at z; exact z
  | none =>
    by_cases hq : ∃ q ∈ ps.take i, q.1 = x ∧ ds q.2 = some l
    · rw [midL_pos h hq]
      constructor
      · intro z; injection z with z; omega
      · intro z
        have := (trunc_iff (l := l) (o := ds x)).mpr ⟨z, Nat.le_refl _⟩
        rw [h] at this; cases this
    · rw [midL_neg h hq]
      constructor
      · intro z; cases z
      · intro z
        have := (trunc_iff (l := l) (o := ds x)).mpr ⟨z, Nat.le_refl _⟩
        rw [h] at this; cases this
theorem midL_step {ps : List (Nat × Nat)} {ds : Nat → Option Nat} {l i x : Nat} {q : Nat × Nat} (hq : ps[i]? = some q) :
    (x = q.1 → ds q.2 = some l → midL ps ds l i q.1 = none → midL ps ds l (i + 1) x = some (l + 1)) ∧ (¬ (x = q.1 ∧ ds q.2 = some l ∧ midL ps ds l i q.1 = none) → midL ps ds l (i + 1) x = midL ps ds l i x) := by
  have hmem : ∀ r, r ∈ ps.take (i + 1) ↔ r ∈ ps.take i ∨ r = q := fun r => by rw [take_succ' hq, List.mem_append, List.mem_singleton]
  cases h : trunc l (ds x) with
  | some d =>
    refine ⟨fun h1 _ h3 => ?_, fun _ => by rw [midL_some h, midL_some h]⟩
    rw [← h1, midL_some h] at h3; cases h3
  | none =>
    refine ⟨fun h1 h2 _ => midL_pos h ⟨q, (hmem q).mpr (.inr rfl), h1.symm, h2⟩, fun hn => ?_⟩
    by_cases hA : ∃ r ∈ ps.take i, r.1 = x ∧ ds r.2 = some l
    · rw [midL_pos h hA]
      obtain ⟨r, hr, hr1, hr2⟩ := hA
      exact midL_pos h ⟨r, (hmem r).mpr (.inl hr), hr1, hr2⟩
    · rw [midL_neg h hA]
      refine midL_neg h ?_
      rintro ⟨r, hr, hr1, hr2⟩
      rcases (hmem r).mp hr with hr | rfl
      · exact hA ⟨r, hr, hr1, hr2⟩
      · exact hn ⟨hr1.symm, hr2, by rw [hr1]; exact midL_neg h hA⟩
theorem midL_zero {ps : List (Nat × Nat)} {ds : Nat → Option Nat} {l x : Nat} : midL ps ds l 0 x = trunc l (ds x) := by
  cases h : trunc l (ds x) with
  | some d => exact midL_some h
  | none => exact midL_neg h (by rintro ⟨q, hq, _⟩; cases hq)
open Classical in
theorem pure_lengths_to_blue (T : Txt K mg) (vs : List V) (H : Hp) (Q : VK) (E : XK) (h : sp_lengths_to_blue T vs H Q E) : Goes (t_lengths_to_blue T) N_lengths_to_blue vs H Q := by
  obtain ⟨a, w, s, p, rfl, ⟨an, S⟩, ⟨us, hp, fr⟩, k⟩ := h
  have W := S.nt.ok
  have O := S.ok
  have hn := W.n24
  have hus : us.length = (arrows w s).length := by rw [fr.len, List.length_map]
  have hbl : (s.blues.map dn).length = w.n := by rw [List.length_map, O.lb]
  have hi0 := evi_seqT (K := K) (σ := start N_lengths_to_blue [.ref a, .ref p]) (evd_blues (ta := tVar 0) S (evd_var rfl (.adr a)))
  rw [hbl] at hi0
  refine q_asgN (EvN.eq (es := oD w.n fun x => trunc 0 (distB w s x)) (evn_lc (fun _ => true) (fun x => dOpt (trunc 0 (distB w s x))) hi0 (by omega) fun i v H1 hi e f => ?_) filt_all) fun pl xs H1 hpl e1 h1 f1 => ?_
  · rw [getD_dn (by rw [O.lb]; exact hi)] at f
    obtain rfl := f.int_of
    refine ⟨[some (.ref a), some (.ref p), none, none, none, none, some (vn (s.blues.getD i 0))], fun Q' q => q, rfl, fun H2 e2 Q q => q H2 (Ex.refl _), fun _ => evd_if (et_test (evd_gt (evd_var rfl (.int _)) evd_int)) (fun hb => ?_) fun hb => ?_⟩
    · have hb := of_decide_eq_true hb
      rw [show trunc 0 (distB w s i) = some 0 from trunc_iff.mpr ⟨dist_zero.mpr (by omega), Nat.le_refl _⟩]
      exact evd_int
    · have hb := of_decide_eq_false hb
      have : trunc 0 (distB w s i) = none := by
        cases h : trunc 0 (distB w s i) with
        | none => rfl
        | some d =>
          obtain ⟨h1, h2⟩ := trunc_iff.mp h
          have : d = 0 := by omega
          subst this
          have := dist_zero.mp h1
          omega
      rw [this]
      exact evd_non
  obtain rfl := f1.oL_of
  refine q_asg evd_int fun v H2 e2 f2 => ?_
  obtain rfl := f2.int_of
  refine q_while (fun m σ' H' => ∃ l x y, σ' = [some (.ref a), some (.ref p), some (.ref pl), some (vn l), x, y, none] ∧ Ex H H' ∧ H' pl = some (.lst (oL w.n fun x => trunc l (distB w s x))) ∧ m = nfar w.n (arrows w s) (fun x => 0 < s.blues.getD x 0) l ∧ (∀ j, j < l → ∃ x, x < w.n ∧ distB w s x = some j))
    _ ⟨0, none, none, rfl, e1.trans e2, e2 _ _ h1, rfl, fun j hj => absurd hj (Nat.not_lt_zero _)⟩ ?_
  rintro m σ' H' ⟨l, x, y, rfl, e, hl, rfl, hall⟩
  refine ⟨_, et_test (evd_inL (neg := false) (d := dn l) (evd_var rfl (.int _)) rfl rfl (evd_var rfl (.adr pl)) hl oL_all), fun hb H3 e3 => ?_, fun hb H3 e3 => ?_⟩
  · rw [if_neg (by decide)] at hb
    have hb : inV (vn l) _ = true := hb
    rw [inV_oL] at hb
    obtain ⟨x0, hx0, hd0⟩ := of_decide_eq_true hb
    have hd0 := (trunc_iff.mp hd0).1
    refine q_forI (i_seqL (evd_var rfl (.adr p)) ((e.trans e3) _ _ hp) fun J H5 e5 S5 => ?_)
    have hmid0 : (fun x => midL (arrows w s) (distB w s) l 0 x) = fun x => trunc l (distB w s x) := funext fun x => midL_zero
    have hbnd : ∀ x d, x < w.n → distB w s x = some d → d < w.n := fun x d hx h => dist_lt (arrows_lt W) hx h
    refine q_for S5 (fun i σ' H' => ∃ x y, σ' = [some (.ref a), some (.ref p), some (.ref pl), some (vn l), x, y, none] ∧ Ex H H' ∧ H' pl = some (.lst (oL w.n fun x => midL (arrows w s) (distB w s) l i x)))
      ⟨x, y, rfl, (e.trans e3).trans e5, by rw [hmid0]; exact e5 _ _ (e3 _ _ hl)⟩ (fun i σ' H' _ ⟨_, _, _, e, _⟩ => e _ _ hp) ?_ ?_
    · rintro i v σ' H6 H7 hi ⟨x, y, rfl, e6, h6⟩ e7 hv
      obtain ⟨d, hd, fd⟩ := fr.getV hv
      obtain ⟨q, hq, rfl⟩ := map_get hd
      obtain ⟨q1, q2⟩ := arrows_lt W q (List.mem_of_getElem? hq)
      obtain ⟨v1, v2, f1, f2, hgo⟩ := tg_2 (K := K) (i := 4) (j := 5) (fd.mono (Kp.ex (e6.trans e7)))
      obtain rfl := f1.int_of
      obtain rfl := f2.int_of
      refine hgo _ _ ?_
      have h7 := e7 _ _ h6
      have hstep := fun x => midL_step (ds := distB w s) (l := l) (x := x) hq
      refine s_if (Evl.et_and (et_test (evd_eqO (evd_ixL (evd_var rfl (.adr pl)) h7 FzL.oL (evd_var rfl (.int _)) (at_oD q2)) (evd_var rfl (.int _)))) fun _ => et_test (EvD.eq (evd_isN (evd_ixL (evd_var rfl (.adr pl)) h7 FzL.oL (evd_var rfl (.int _)) (at_oD q1)) dOpt_flat) (by rw [isN_dOpt]))) (fun hbb H8 e8 => ?_) fun hbb H8 e8 => ?_
      · rw [Bool.and_eq_true, decide_eq_true_iff, decide_eq_true_iff, midL_eq] at hbb
        refine s_setL (j := q.1) (e8 _ _ h7) (EvD.eq (evd_add (evd_var rfl (.int _)) evd_int) (e := dn (l + 1)) rfl) (evd_var rfl (.adr pl)) (evd_var rfl (.int _)) (by rw [oL_len]; exact q1) fun v H9 e9 f9 => ?_
        obtain rfl := f9.int_of
        refine ⟨_, _, rfl, Ex.set (((e6.trans e7).trans e8).trans e9) hpl, ?_⟩
        rw [upd_same]
        show some (HO.lst ((oL w.n _).set q.1 (vn (l + 1)))) = _
        rw [oL_set]
        congr 2
        congr 1
        funext x
        by_cases hx : x = q.1
        · rw [if_pos hx, (hstep x).1 hx hbb.1 hbb.2]
        · rw [if_neg hx, (hstep x).2 (fun z => hx z.1)]
      · refine ⟨_, _, rfl, (e6.trans e7).trans e8, ?_⟩
        rw [e8 _ _ h7]
        congr 2
        congr 1
        funext x
        refine ((hstep x).2 ?_).symm
        rintro ⟨h1, h2, h3⟩
        rw [h3, midL_eq.mpr h2] at hbb
        simp at hbb
    · rintro σ' H6 ⟨x, y, rfl, e6, h6⟩
      refine s_aug (b := 1) rfl evd_int fun H7 e7 => ?_
      refine ⟨_, nfar_lt hx0 hd0, l + 1, x, y, rfl, e6.trans e7, ?_, rfl, fun j hj => ?_⟩
      · rw [e7 _ _ h6]
        congr 2
        congr 1
        funext x
        rw [hus]
        have hno : trunc l (distB w s x) = none → ∀ d, d ≤ l → distB w s x ≠ some d := fun h d hd z => by
          rw [trunc_iff.mpr ⟨z, hd⟩] at h; cases h
        cases h : trunc l (distB w s x) with
        | some d =>
          obtain ⟨h1, h2⟩ := trunc_iff.mp h
          rw [midL_some h]
          exact (trunc_iff.mpr ⟨h1, by omega⟩).symm
        | none =>
          have hno := hno h
          by_cases hq : ∃ q ∈ (arrows w s).take (arrows w s).length, q.1 = x ∧ distB w s q.2 = some l
          · rw [midL_pos h hq]
            rw [List.take_length] at hq
            obtain ⟨q, hq, rfl, hq2⟩ := hq
            obtain ⟨e', he1, he2⟩ := dist_edge (x := q.1) (y := q.2) hq hq2
            have : e' = l + 1 := by
              rcases Nat.lt_or_ge l e' with h3 | h3
              · omega
              · exact absurd he2 (hno _ h3)
            subst this
            exact (trunc_iff.mpr ⟨he2, Nat.le_refl _⟩).symm
          · rw [midL_neg h hq]
            rw [List.take_length] at hq
            cases h2 : trunc (l + 1) (distB w s x) with
            | none => rfl
            | some d =>
              obtain ⟨h3, h4⟩ := trunc_iff.mp h2
              have : d = l + 1 := by
                rcases Nat.lt_or_ge l d with h5 | h5
                · omega
                · exact absurd h3 (hno _ h5)
              subst this
              obtain ⟨y', hy1, hy2⟩ := dist_step h3
              exact absurd ⟨(x, y'), hy1, rfl, hy2⟩ hq
      · rcases Nat.lt_or_ge j l with h | h
        · exact hall j h
        · have : j = l := by omega
          subst this
          exact ⟨x0, hx0, hd0⟩
  · rw [if_neg (by decide)] at hb
    have hb : inV (vn l) _ = false := hb
    rw [inV_oL] at hb
    have hb := of_decide_eq_false hb
    refine s_ret (evd_var rfl (.adr pl)) fun v H4 e4 f4 => ?_
    obtain rfl := f4.adr_of
    refine k pl _ H4 hpl ((e.trans e3).trans e4) (e4 _ _ (e3 _ _ hl)) ?_
    have hEq : (oL w.n fun x => trunc l (distB w s x)) = oL w.n fun x => distB w s x := by
      unfold oL
      refine List.map_congr_left fun x hx => ?_
      rw [List.mem_range] at hx
      show vO (trunc l (distB w s x)) = vO (distB w s x)
      congr 1
      cases hd : distB w s x with
      | none => rfl
      | some d =>
        refine trunc_iff.mpr ⟨rfl, ?_⟩
        rcases Nat.lt_or_ge l d with h | h
        · obtain ⟨y', hy1, hy2⟩ := dist_back (arrows_lt W) hx hd l (by omega)
          exact absurd ⟨y', hy1, trunc_iff.mpr ⟨hy2, Nat.le_refl _⟩⟩ hb
        · exact h
    rw [hEq]
    exact FzL.oL
end
end TR
namespace TR
open PySem L2 PyProof.Rows
open Evl (Ex EvT fresh_back)
local macro_rules | `(tactic| walk_at "h") => `(tactic| first
  | assumption
  | (refine Ex.at (by assumption) ?_; walk_at "h")
  | (refine Kp.at (by assumption) ?_; walk_at "h")
  | (refine Fz.mono (Kp.ex (by assumption)) ?_; walk_at "h")
  | (refine Fz.mono (by assumption) ?_; walk_at "h")
  | (refine FzL.mono (Kp.ex (by assumption)) ?_; walk_at "h")
  | (refine FzL.mono (by assumption) ?_; walk_at "h")
  | (refine NetAt.mono (Kp.ex (by assumption)) ?_; walk_at "h")
  | (refine NetAt.mono (by assumption) ?_; walk_at "h")
  | (refine StaA.mono (Kp.ex (by assumption)) ?_; walk_at "h")
  | (refine StaA.mono (by assumption) ?_; walk_at "h")
  | (refine Sta.mono (Kp.ex (by assumption)) ?_; walk_at "h")
  | (refine Sta.mono (by assumption) ?_; walk_at "h")
  | (refine Lst.mono (by assumption) ?_; walk_at "h")
  | (refine Seq.mono (by assumption) ?_; walk_at "h"))
local macro_rules | `(tactic| walk_at "fz") => `(tactic| first
  | exact Fz.int _ | exact Fz.bl _ | exact Fz.str _ | exact Fz.non
  | walk_at "h"
  | exact Fz.adr _)
local macro_rules | `(tactic| walk_at "ix") => `(tactic| first
  | exact rfl
  | (refine atI_nat ?_; first | assumption | rfl | (simp; done)))
local macro_rules | `(tactic| walk_at "ev") => `(tactic| first
  | exact evd_int | exact evd_str | exact evd_bl | exact evd_non
  | (refine evd_var rfl ?_; walk_at "fz")
  | (refine evd_stations ?_ ?_; (walk_at "h"); (walk_at "ev"))
  | (refine evd_ropes ?_ ?_; (walk_at "h"); (walk_at "ev"))
  | (refine evd_net ?_ ?_; (walk_at "h"); (walk_at "ev"))
  | (refine evd_reds ?_ ?_; (walk_at "h"); (walk_at "ev"))
  | (refine evd_blues ?_ ?_; (walk_at "h"); (walk_at "ev"))
  | (refine evd_cars ?_ ?_; (walk_at "h"); (walk_at "ev"))
  | (refine evd_add ?_ ?_; (walk_at "ev"); (walk_at "ev"))
  | (refine evd_sub ?_ ?_; (walk_at "ev"); (walk_at "ev"))
  | (refine evd_lt ?_ ?_; (walk_at "ev"); (walk_at "ev"))
  | (refine evd_le ?_ ?_; (walk_at "ev"); (walk_at "ev"))
  | (refine evd_gt ?_ ?_; (walk_at "ev"); (walk_at "ev"))
  | (refine evd_ge ?_ ?_; (walk_at "ev"); (walk_at "ev"))
  | (refine evd_neg ?_; (walk_at "ev"))
  | (refine evd_eqI ?_ ?_; (walk_at "ev"); (walk_at "ev"))
  | (refine evd_neI ?_ ?_; (walk_at "ev"); (walk_at "ev"))
  | (refine evd_eqS ?_ ?_; (walk_at "ev"); (walk_at "ev"))
  | (refine evd_eqB ?_ ?_; (walk_at "ev"); (walk_at "ev"))
  | (refine evd_neB ?_ ?_; (walk_at "ev"); (walk_at "ev"))
  | (refine evd_isN ?_ ?_; (walk_at "ev"); exact rfl)
  | (refine evd_notN ?_ ?_; (walk_at "ev"); exact rfl)
  | (refine evd_ixT ?_ ?_ ?_; (walk_at "ev"); (walk_at "ev"); (walk_at "ix"))
  | (refine evd_ixL ?_ ?_ ?_ ?_ ?_; (walk_at "ev"); (walk_at "h"); (walk_at "h"); (walk_at "ev"); (walk_at "ix"))
  | (refine evd_tup ?_ ?_; (walk_at "evs"); exact Nat.le_of_ble_eq_true rfl)
  | (refine evd_lenD ?_; walk_at "ev")
  | (refine evd_lenL ?_ ?_; (walk_at "ev"); (walk_at "h"))
  | (refine evd_intI ?_; walk_at "ev")
  | (refine evd_intB ?_; walk_at "ev")
  | (refine evd_notV ?_; walk_at "ev"))
local macro_rules | `(tactic| walk_at "evs") => `(tactic| first
  | exact evds_nil
  | (refine evds_cons ?_ ?_; (walk_at "ev"); (walk_at "evs")))
local macro_rules | `(tactic| walk_at "et") => `(tactic| first
  | (refine et_test ?_; walk_at "ev")
  | (refine et_B ?_; walk_at "ev")
  | (refine et_tru ?_ ?_; (walk_at "ev"); (walk_at "h"))
  | (refine Evl.et_not ?_; walk_at "et")
  | (refine et_chain2 ?_ ?_ ?_; (walk_at "ev"); (walk_at "ev"); (walk_at "ev")))
theorem find_range_some {f : Nat → Bool} {n i : Nat} (hi : i < n) (h1 : f i = true) (h2 : ∀ k, k < i → f k = false) : (List.range n).find? f = some i := by
  induction n with
  | zero => cases hi
  | succ n ih =>
    rw [List.range_succ, List.find?_append]
    rcases Nat.lt_or_ge i n with h | h
    · rw [ih h]; rfl
    · have : i = n := by omega
      subst this
      have : (List.range i).find? f = none := by
        rw [List.find?_eq_none]
        intro x hx
        rw [h2 x (List.mem_range.mp hx)]; decide
      rw [this, List.find?_cons, h1]; rfl
theorem find_range_none {f : Nat → Bool} {n : Nat} (h2 : ∀ k, k < n → f k = false) : (List.range n).find? f = none := by
  rw [List.find?_eq_none]
  intro x hx
  rw [h2 x (List.mem_range.mp hx)]; decide
theorem find_range_iff {f : Nat → Bool} {n i : Nat} (h : (List.range n).find? f = some i) : i < n ∧ f i = true := ⟨List.mem_range.mp (List.mem_of_find?_eq_some h), List.find?_some h⟩
def okL (ds : Nat → Option Nat) (pl : List Nat) (r : Nat) (q : Nat × Nat) : Bool := decide (q.1 ∈ pl) && (ds q.2 == some r)
theorem lropes_hit {ps : List (Nat × Nat)} {ds : Nat → Option Nat} {pl : List Nat} {r i : Nat} (hi : i < ps.length) (h1 : okL ds pl r (ps.getD i (0, 0)) = true) (h2 : ∀ k, k < i → okL ds pl r (ps.getD k (0, 0)) = false) : lropes ps ds (r + 1) pl = i :: lropes ps ds r [(ps.getD i (0, 0)).2] := by
  show (match firstRope ps (okL ds pl r) with | some k => k :: lropes ps ds r [(ps.getD k (0, 0)).2] | none => lropes ps ds r pl) = _
  unfold firstRope
  rw [find_range_some hi h1 h2]
theorem lropes_miss {ps : List (Nat × Nat)} {ds : Nat → Option Nat} {pl : List Nat} {r : Nat} (h2 : ∀ k, k < ps.length → okL ds pl r (ps.getD k (0, 0)) = false) : lropes ps ds (r + 1) pl = lropes ps ds r pl := by
  show (match firstRope ps (okL ds pl r) with | some k => k :: lropes ps ds r [(ps.getD k (0, 0)).2] | none => lropes ps ds r pl) = _
  unfold firstRope
  rw [find_range_none h2]
theorem getD_of {α : Type} {l : List α} {i : Nat} {x d : α} (h : l[i]? = some x) : l.getD i d = x := by rw [List.getD_eq_getElem?_getD, h]; rfl
section
variable {K : PySem.W.Frag} {mg : Str → Option Value} {σ : L2.St} {H : Hp} {te ta tb : TE} {tr : TA} {ds es : List D}
theorem pure_least_ropes (T : Txt K mg) (vs : List V) (H : Hp) (Q : VK) (E : XK) (h : sp_least_ropes T vs H Q E) : Goes (t_least_ropes T) N_least_ropes vs H Q := by
  obtain ⟨p, l, q, n, ps, ds, st, d, rfl, ⟨us, hp, fr⟩, ⟨ls, hl, fl⟩, ⟨ws, hq, fq⟩, hps, hst, hn, hm, h0, e, hde, he, k⟩ := h
  obtain rfl := fl.oL_of
  obtain rfl := fq.nats_of
  have hus : us.length = ps.length := by rw [fr.len, List.length_map]
  refine q_asgN (evn_lst evds_nil (Nat.le_of_ble_eq_true rfl)) fun pr xs H1 hpr e1 h1 f1 => ?_
  cases f1
  refine q_asg (evd_var rfl (.adr q)) fun v H2 e2 f2 => ?_
  obtain rfl := f2.adr_of
  have e12 := e1.trans e2
  refine q_asg (EvD.eq (evd_ixL (evd_var rfl (.adr l)) (e12 _ _ hl) FzL.oL (evd_ixL (evd_var rfl (.adr q)) (e12 _ _ hq) (FzL.nats _) (evd_int (i := ((0 : Nat) : Int))) (d := dn d) (atI_nat (by rw [List.getElem?_map, h0]; rfl))) (at_oD (hst d (List.mem_of_getElem? h0)))) (e := dn e) (by rw [hde]; rfl)) fun v H3 e3 f3 => ?_
  obtain rfl := f3.int_of
  refine q_while (fun m σ' H' => ∃ acc r pl plA x y z, σ' = [some (.ref p), some (.ref l), some (.ref q), some (.ref pr), some (.ref plA), some (vn r), x, y, z] ∧ Ex H H' ∧ H' pr = some (.lst (nats acc)) ∧ H' plA = some (.lst (nats pl)) ∧ plA ≠ pr ∧ acc ++ lropes ps ds r pl = lropes ps ds e st ∧ acc.length + r ≤ 24 ∧ m = r)
    _ ⟨[], e, st, q, none, none, none, rfl, e12.trans e3, e3 _ _ (e2 _ _ h1), (e12.trans e3) _ _ hq, ne_of_none hq hpr, rfl, by simp; omega, rfl⟩ ?_
  rintro m σ' H4 ⟨acc, r, pl, plA, x, y, z, rfl, e4, h4r, h4p, hne, heq, hlen, rfl⟩
  refine ⟨_, et_test (evd_gt (evd_var rfl (.int _)) evd_int), fun hb H5 e5 => ?_, fun hb H5 e5 => ?_⟩
  · have hb := of_decide_eq_true hb
    obtain ⟨r', rfl⟩ : ∃ r', m = r' + 1 := ⟨m - 1, by omega⟩
    refine q_aug (b := 1) rfl evd_int fun H6 e6 => ?_
    have hr' : V.int (((r' + 1 : Nat) : Int) - 1) = vn r' := by congr 1; omega
    rw [hr']
    have e46 := (e4.trans e5).trans e6
    refine for_intro (i_enL (evd_var rfl (.adr p)) (e46 _ _ hp) fun J H7 e7 S7 => ?_)
    refine s_for S7 (fun i σ' H' => ∃ x y z, σ' = [some (.ref p), some (.ref l), some (.ref q), some (.ref pr), some (.ref plA), some (vn r'), x, y, z] ∧ Ex H H' ∧ H' pr = some (.lst (nats acc)) ∧ H' plA = some (.lst (nats pl)) ∧ ∀ k, k < i → okL ds pl r' (ps.getD k (0, 0)) = false)
      ⟨x, y, z, rfl, e46.trans e7, e7 _ _ (e6 _ _ (e5 _ _ h4r)), e7 _ _ (e6 _ _ (e5 _ _ h4p)), fun k hk => absurd hk (Nat.not_lt_zero _)⟩ (fun i σ' H' _ ⟨_, _, _, _, e, _⟩ => e _ _ hp) ?_ ?_
    · rintro i v σ' H8 H9 hi ⟨x, y, z, rfl, e8, h8r, h8p, hno⟩ e9 ⟨t, y', rfl, ht, hy⟩
      obtain ⟨dd, hd, fd⟩ := fr.getV hy
      obtain ⟨c, hc, rfl⟩ := map_get hd
      obtain ⟨c1, c2⟩ := hps c (List.mem_of_getElem? hc)
      obtain ⟨v1, v2, v3, f1, f2, f3, hgo⟩ := tg_12 (K := K) (i := 6) (j := 7) (k := 8) (d1 := dn i) (.tup ht (.cons (.int _) (.cons (fd.mono (Kp.ex (e8.trans e9))) .nil)))
      obtain rfl := f1.int_of
      obtain rfl := f2.int_of
      obtain rfl := f3.int_of
      refine hgo _ _ ?_
      have hok : okL ds pl r' (ps.getD i (0, 0)) = (decide (c.1 ∈ pl) && decide (ds c.2 = some r')) := by
        rw [getD_of hc]; unfold okL
        congr 1
        rw [Bool.eq_iff_iff]; simp
      have e89 := e8.trans e9
      refine s_if (Evl.et_and (a := decide (c.1 ∈ pl)) (b := decide (ds c.2 = some r')) (Evl.et_is (et_test (evd_inL (neg := false) (d := dn c.1) (evd_var rfl (.int _)) rfl rfl (evd_var rfl (.adr plA)) (e9 _ _ h8p) (nats_flat _))) (by rw [if_neg (by decide)]; exact inV_nats)) fun _ => et_test (evd_eqO (evd_ixL (evd_var rfl (.adr l)) (e89 _ _ hl) FzL.oL (evd_var rfl (.int _)) (at_oD c2)) (evd_var rfl (.int _)))) (fun hbb H10 e10 => ?_) fun hbb H10 e10 => ?_
      · refine q_app (e10 _ _ (e9 _ _ h8r)) (evd_var rfl (.adr pr)) (evd_var rfl (.int (i : Int))) (by rw [List.length_map]; omega) fun v H11 e11 f11 => ?_
        obtain rfl := f11.int_of
        have x11 : Ex H (upd H11 pr (.lst (nats acc ++ [vn i]))) := Ex.set ((e89.trans e10).trans e11) hpr
        refine q_asgN (evn_lst (evds_cons (evd_var rfl (.int (c.2 : Int))) evds_nil) (Nat.le_of_ble_eq_true rfl)) fun pB xs H12 hpB e12 h12 f12 => ?_
        obtain rfl := FzL.nats_of (l := [c.2]) f12
        refine ⟨r', Nat.lt_succ_self _, acc ++ [i], r', [c.2], pB, _, _, _, rfl, x11.trans e12, ?_, h12, fun z => ?_, ?_, ?_, rfl⟩
        · rw [e12 _ _ upd_same, nats_append]; rfl
        · subst z
          rw [upd_same] at hpB; cases hpB
        · rw [← heq, lropes_hit (by have := fr.len; rw [List.length_map] at this; omega) (hok.trans hbb) hno, getD_of hc, List.append_assoc]; rfl
        · rw [List.length_append]; simp; omega
      · refine ⟨_, _, _, rfl, e89.trans e10, e10 _ _ (e9 _ _ h8r), e10 _ _ (e9 _ _ h8p), fun k hk => ?_⟩
        rcases Nat.lt_or_ge k i with h | h
        · exact hno k h
        · have : k = i := by omega
          subst this
          exact hok.trans hbb
    · rintro σ' H8 ⟨x, y, z, rfl, e8, h8r, h8p, hno⟩
      refine ⟨r', Nat.lt_succ_self _, acc, r', pl, plA, _, _, _, rfl, e8, h8r, h8p, hne, ?_, by omega, rfl⟩
      rw [← heq, lropes_miss (hus ▸ hno)]
  · have hb := of_decide_eq_false hb
    have : m = 0 := by omega
    subst this
    refine s_ret (evd_var rfl (.adr pr)) fun v H6 e6 f6 => ?_
    obtain rfl := f6.adr_of
    refine k pr _ H6 hpr ((e4.trans e5).trans e6) (e6 _ _ (e5 _ _ h4r)) ?_
    rw [← heq]
    show FzL H6 (nats acc) ((acc ++ []).map dn)
    rw [List.append_nil]
    exact FzL.nats _
end
end TR
namespace TR
open PySem L2 PyProof.Rows
open Evl (Ex EvT fresh_back)
local macro_rules | `(tactic| walk_at "h") => `(tactic| first
  | assumption
  | (refine Ex.at (by assumption) ?_; walk_at "h")
  | (refine Kp.at (by assumption) ?_; walk_at "h")
  | (refine Fz.mono (Kp.ex (by assumption)) ?_; walk_at "h")
  | (refine Fz.mono (by assumption) ?_; walk_at "h")
  | (refine FzL.mono (Kp.ex (by assumption)) ?_; walk_at "h")
  | (refine FzL.mono (by assumption) ?_; walk_at "h")
  | (refine NetAt.mono (Kp.ex (by assumption)) ?_; walk_at "h")
  | (refine NetAt.mono (by assumption) ?_; walk_at "h")
  | (refine StaA.mono (Kp.ex (by assumption)) ?_; walk_at "h")
  | (refine StaA.mono (by assumption) ?_; walk_at "h")
  | (refine Sta.mono (Kp.ex (by assumption)) ?_; walk_at "h")
  | (refine Sta.mono (by assumption) ?_; walk_at "h")
  | (refine Lst.mono (by assumption) ?_; walk_at "h")
  | (refine Seq.mono (by assumption) ?_; walk_at "h"))
local macro_rules | `(tactic| walk_at "fz") => `(tactic| first
  | exact Fz.int _ | exact Fz.bl _ | exact Fz.str _ | exact Fz.non
  | walk_at "h"
  | exact Fz.adr _)
local macro_rules | `(tactic| walk_at "ix") => `(tactic| first
  | exact rfl
  | (refine atI_nat ?_; first | assumption | rfl | (simp; done)))
local macro_rules | `(tactic| walk_at "ev") => `(tactic| first
  | exact evd_int | exact evd_str | exact evd_bl | exact evd_non
  | (refine evd_var rfl ?_; walk_at "fz")
  | (refine evd_stations ?_ ?_; (walk_at "h"); (walk_at "ev"))
  | (refine evd_ropes ?_ ?_; (walk_at "h"); (walk_at "ev"))
  | (refine evd_net ?_ ?_; (walk_at "h"); (walk_at "ev"))
  | (refine evd_reds ?_ ?_; (walk_at "h"); (walk_at "ev"))
  | (refine evd_blues ?_ ?_; (walk_at "h"); (walk_at "ev"))
  | (refine evd_cars ?_ ?_; (walk_at "h"); (walk_at "ev"))
  | (refine evd_add ?_ ?_; (walk_at "ev"); (walk_at "ev"))
  | (refine evd_sub ?_ ?_; (walk_at "ev"); (walk_at "ev"))
  | (refine evd_lt ?_ ?_; (walk_at "ev"); (walk_at "ev"))
  | (refine evd_le ?_ ?_; (walk_at "ev"); (walk_at "ev"))
  | (refine evd_gt ?_ ?_; (walk_at "ev"); (walk_at "ev"))
  | (refine evd_ge ?_ ?_; (walk_at "ev"); (walk_at "ev"))
  | (refine evd_neg ?_; (walk_at "ev"))
  | (refine evd_eqI ?_ ?_; (walk_at "ev"); (walk_at "ev"))
  | (refine evd_neI ?_ ?_; (walk_at "ev"); (walk_at "ev"))
  | (refine evd_eqS ?_ ?_; (walk_at "ev"); (walk_at "ev"))
  | (refine evd_eqB ?_ ?_; (walk_at "ev"); (walk_at "ev"))
  | (refine evd_neB ?_ ?_; (walk_at "ev"); (walk_at "ev"))
  | (refine evd_isN ?_ ?_; (walk_at "ev"); exact rfl)
  | (refine evd_notN ?_ ?_; (walk_at "ev"); exact rfl)
  | (refine evd_ixT ?_ ?_ ?_; (walk_at "ev"); (walk_at "ev"); (walk_at "ix"))
  | (refine evd_ixL ?_ ?_ ?_ ?_ ?_; (walk_at "ev"); (walk_at "h"); (walk_at "h"); (walk_at "ev"); (walk_at "ix"))
  | (refine evd_tup ?_ ?_; (walk_at "evs"); exact Nat.le_of_ble_eq_true rfl)
  | (refine evd_lenD ?_; walk_at "ev")
  | (refine evd_lenL ?_ ?_; (walk_at "ev"); (walk_at "h"))
  | (refine evd_intI ?_; walk_at "ev")
  | (refine evd_intB ?_; walk_at "ev")
  | (refine evd_notV ?_; walk_at "ev"))
local macro_rules | `(tactic| walk_at "evs") => `(tactic| first
  | exact evds_nil
  | (refine evds_cons ?_ ?_; (walk_at "ev"); (walk_at "evs")))
local macro_rules | `(tactic| walk_at "et") => `(tactic| first
  | (refine et_test ?_; walk_at "ev")
  | (refine et_B ?_; walk_at "ev")
  | (refine et_tru ?_ ?_; (walk_at "ev"); (walk_at "h"))
  | (refine Evl.et_not ?_; walk_at "et")
  | (refine et_chain2 ?_ ?_ ?_; (walk_at "ev"); (walk_at "ev"); (walk_at "ev")))
theorem range_getD {α : Type} {l : List α} {d : α} : (List.range l.length).map (fun i => l.getD i d) = l := by
  have := range_map (l := l) (d := d) (f := id) (g := fun i => l.getD i d) rfl fun i _ => rfl
  rw [this, List.map_id]
theorem range_filter_map {α β : Type} {l : List α} {d : α} {g : α → Bool} {e : α → β} : ((List.range l.length).filter fun i => g (l.getD i d)).map (fun i => e (l.getD i d)) = (l.filter g).map e := by
  have h : l.filter g = ((List.range l.length).filter fun i => g (l.getD i d)).map fun i => l.getD i d := by
    have h1 : ((List.range l.length).map (fun i => l.getD i d)).filter g = ((List.range l.length).filter fun i => g (l.getD i d)).map fun i => l.getD i d := List.filter_map
    rw [range_getD] at h1
    exact h1
  rw [h, List.map_map]; rfl
theorem getD_mem {l : List Nat} {i : Nat} (h : i < l.length) : l.getD i 0 ∈ l := by
  rw [List.getD_eq_getElem?_getD, List.getElem?_eq_getElem h]
  exact List.getElem_mem h
def mok (w : Wd) (s : Sd) (ds : Nat → Option Nat) (x : Nat) : Bool := decide (0 < s.reds.getD x 0) && (ds x).isSome
section
variable {w : Wd} {s : Sd}
theorem mstarts_mem {x : Nat} : x ∈ mstarts w s ↔ x < w.n ∧ 0 < s.reds.getD x 0 ∧ (distB w s x).isSome = true := by
  unfold mstarts
  rw [List.mem_filter, List.mem_range, Bool.and_eq_true, decide_eq_true_iff]
theorem mstarts_dist {x : Nat} (h : x ∈ mstarts w s) : distB w s x = some ((distB w s x).getD 0) := by
  have := (mstarts_mem.mp h).2.2
  cases hd : distB w s x with
  | none => rw [hd] at this; cases this
  | some d => rfl
theorem mnear_mem {x : Nat} : x ∈ mnear w s ↔ x ∈ mstarts w s ∧ distB w s x = some (mshort w s) := by
  unfold mnear
  rw [List.mem_filter, decide_eq_true_iff]
  constructor
  · rintro ⟨h1, h2⟩
    exact ⟨h1, by rw [mstarts_dist h1, h2]⟩
  · rintro ⟨h1, h2⟩
    exact ⟨h1, by rw [h2]; rfl⟩
theorem mnear_ne (h : mstarts w s ≠ []) : mnear w s ≠ [] := fun z => by
  have hm := minL_mem (l := (mstarts w s).map fun x => (distB w s x).getD 0) (by simpa using h)
  obtain ⟨x, hx, h2⟩ := List.mem_map.mp hm
  have : x ∈ mnear w s := mnear_mem.mpr ⟨hx, by rw [mstarts_dist hx]; exact congrArg some h2⟩
  rw [z] at this; cases this
theorem mnear_head (h : mstarts w s ≠ []) : ∃ d, (mnear w s)[0]? = some d ∧ d < w.n ∧ distB w s d = some (mshort w s) := by
  cases hc : mnear w s with
  | nil => exact absurd hc (mnear_ne h)
  | cons d l =>
    have hm : d ∈ mnear w s := by rw [hc]; simp
    obtain ⟨h1, h2⟩ := mnear_mem.mp hm
    exact ⟨d, rfl, (mstarts_mem.mp h1).1, h2⟩
/-- a positive shortest length: there is a first rope -/
theorem mropes_cons (h : mstarts w s ≠ []) {r : Nat} (hr : mshort w s = r + 1) : ∃ k, k < w.rs.length ∧ okL (distB w s) (mnear w s) r ((arrows w s).getD k (0, 0)) = true ∧ mropes w s = k :: lropes (arrows w s) (distB w s) r [((arrows w s).getD k (0, 0)).2] := by
  obtain ⟨d, h1, h2, h3⟩ := mnear_head h
  rw [hr] at h3
  obtain ⟨y, hy1, hy2⟩ := dist_step h3
  obtain ⟨i, hi⟩ := List.getElem?_of_mem hy1
  have hlt : i < (arrows w s).length := (List.getElem?_eq_some_iff.mp hi).1
  unfold mropes
  rw [hr]
  show ∃ k, k < w.rs.length ∧ _ ∧ (match firstRope (arrows w s) (okL (distB w s) (mnear w s) r) with | some k => k :: lropes (arrows w s) (distB w s) r [((arrows w s).getD k (0, 0)).2] | none => lropes (arrows w s) (distB w s) r (mnear w s)) = _
  cases hf : firstRope (arrows w s) (okL (distB w s) (mnear w s) r) with
  | some k =>
    have hf' := find_range_iff hf
    exact ⟨k, by rw [← arrows_len (s := s)]; exact hf'.1, hf'.2, rfl⟩
  | none =>
    unfold firstRope at hf
    rw [List.find?_eq_none] at hf
    have := hf i (List.mem_range.mpr hlt)
    rw [getD_of hi] at this
    unfold okL at this
    have hy2 : distB w s y = some r := hy2
    have hm := List.mem_of_getElem? h1
    simp [hm, hy2] at this
end
section
variable {K : PySem.W.Frag} {mg : Str → Option Value} {σ : L2.St} {H : Hp} {te ta tb : TE} {tr : TA} {ds es : List D}
theorem pure_meeting_way (T : Txt K mg) (vs : List V) (H : Hp) (Q : VK) (E : XK) (h : sp_meeting_way T vs H Q E) : Goes (t_meeting_way T) N_meeting_way vs H Q := by
  obtain ⟨a, w, s, rfl, ⟨an, S⟩, k0, k1⟩ := h
  have W := S.nt.ok
  have O := S.ok
  have hn := W.n24
  refine q_asgN (evn_arrows_of ⟨an, S⟩ (evd_var rfl (.adr a))) fun p us H1 hp e1 h1 f1 => ?_
  have S1 := S.mono (Kp.ex e1)
  refine q_asgN (evn_callF (es := oD w.n (distB w s)) (evds_cons (evd_var rfl (.adr a)) (evds_cons (evd_var rfl (.adr p)) evds_nil)) rfl fun H e Q q => ⟨a, w, s, p, rfl, ⟨an, S1.mono (Kp.ex e)⟩, ⟨us, e _ _ h1, f1.mono (Kp.ex e)⟩, q⟩) fun l ls H2 hl e2 h2 f2 => ?_
  obtain rfl := f2.oL_of
  have e12 := e1.trans e2
  refine q_asgN (evn_lst evds_nil (Nat.le_of_ble_eq_true rfl)) fun ps xs H3 hps e3 h3 f3 => ?_
  cases f3
  have S3 := S1.mono (Kp.ex (e2.trans e3))
  have hrl : (s.reds.map dn).length = w.n := by rw [List.length_map, O.lr]
  have hstep : ∀ i, ((List.range (i + 1)).filter (mok w s (distB w s))) = (List.range i).filter (mok w s (distB w s)) ++ if mok w s (distB w s) i then [i] else [] := fun i => by
    rw [List.range_succ, List.filter_append, List.filter_cons]; rfl
  have hflen : ∀ i, ((List.range i).filter (mok w s (distB w s))).length ≤ i := fun i => filt_len'
  refine q_forI (i_enT (evd_reds S3 (evd_var rfl (.adr a))) fun J H4 e4 S4 => ?_)
  refine q_for S4 (fun i σ' H' => ∃ x y, σ' = [some (.ref a), some (.ref p), some (.ref l), some (.ref ps), x, y, none, none, none] ∧ Kp H4 H' ∧ Ex H2 H' ∧ H' ps = some (.lst (nats ((List.range i).filter (mok w s (distB w s))))))
    ⟨none, none, rfl, Kp.refl _, e3.trans e4, e4 _ _ h3⟩ (fun i σ' H' _ ⟨_, _, _, k, _⟩ => k) ?_ ?_
  · rintro i v σ' H5 H6 hi ⟨x, y, rfl, k5, e5, h5⟩ e6 ⟨d, hd, fd⟩
    rw [hrl] at hi
    obtain ⟨c, hc, rfl⟩ := map_get hd
    have hcg : s.reds.getD i 0 = c := getD_of hc
    obtain ⟨v1, v2, f1, f2, hgo⟩ := tg_2 (K := K) (i := 4) (j := 5) fd
    obtain rfl := f1.int_of
    obtain rfl := f2.int_of
    refine hgo _ _ ?_
    have e56 := e5.trans e6
    have hcond : (decide ((0 : Int) < c) && !decide ((dOpt (distB w s i)).v = V.non)) = mok w s (distB w s) i := by
      unfold mok
      rw [hcg, isN_dOpt]
      congr 1
      · exact decide_eq_decide.mpr (by omega)
      · cases distB w s i <;> rfl
    refine s_if (Evl.et_is (Evl.et_and (et_test (evd_gt (evd_var rfl (.int _)) evd_int)) fun _ => et_test (evd_notN (evd_ixL (evd_var rfl (.adr l)) (e56 _ _ h2) FzL.oL (evd_var rfl (.int (i : Int))) (at_oD hi)) dOpt_flat)) hcond) (fun hbb H7 e7 => ?_) fun hbb H7 e7 => ?_
    · refine s_app (e7 _ _ (e6 _ _ h5)) (evd_var rfl (.adr ps)) (evd_var rfl (.int (i : Int))) (by rw [List.length_map]; have := hflen i; omega) fun v H8 e8 f8 => ?_
      obtain rfl := f8.int_of
      refine ⟨_, _, rfl, ((k5.trans (Kp.ex e6)).trans (Kp.ex e7)).trans ((Kp.ex e8).step (e8 _ _ (e7 _ _ (e6 _ _ h5)))), Ex.set ((e56.trans e7).trans e8) hps, ?_⟩
      rw [upd_same, hstep, if_pos hbb, nats_append]; rfl
    · refine ⟨_, _, rfl, (k5.trans (Kp.ex e6)).trans (Kp.ex e7), e56.trans e7, ?_⟩
      rw [e7 _ _ (e6 _ _ h5), hstep, if_neg (by rw [hbb]; decide), List.append_nil]
  rintro σ' H5 ⟨x, y, rfl, k5, e5, h5⟩
  rw [hrl] at h5
  have hms : (List.range w.n).filter (mok w s (distB w s)) = mstarts w s := rfl
  rw [hms] at h5
  refine q_if (et_test (evd_eqI (evd_lenL (evd_var rfl (.adr ps)) h5) evd_int)) (fun hb H6 e6 => ?_) fun hb H6 e6 => ?_
  · have hb := of_decide_eq_true hb
    rw [List.length_map] at hb
    have : mstarts w s = [] := List.length_eq_zero_iff.mp (by omega)
    exact s_ret evd_non fun v H7 e7 f7 => k0 this v H7 (((e12.trans e5).trans e6).trans e7) f7
  have hb := of_decide_eq_false hb
  rw [List.length_map] at hb
  have hne : mstarts w s ≠ [] := fun z => by rw [z] at hb; exact hb rfl
  have hmn : ∀ i, i < (mstarts w s).length → (mstarts w s).getD i 0 < w.n ∧ distB w s ((mstarts w s).getD i 0) = some ((distB w s ((mstarts w s).getD i 0)).getD 0) := fun i hi => ⟨(mstarts_mem.mp (getD_mem hi)).1, mstarts_dist (getD_mem hi)⟩
  have hml : (mstarts w s).length ≤ 24 := by rw [← hms]; have := hflen w.n; omega
  refine q_asg (evd_min (l := (mstarts w s).map fun x => (distB w s x).getD 0) (m := mshort w s) (EvN.eq (evn_lc (fun _ => true) (fun i => dn ((distB w s ((mstarts w s).getD i 0)).getD 0)) (evi_seqL (evd_var rfl (.adr ps)) ⟨_, e6 _ _ h5, FzL.nats _⟩) (by rw [List.length_map]; omega) fun i v H7 hi e7 f => ?_) (filt_all.trans ?_)) ?_ ?_) fun v H7 e7 f7 => ?_
  · rw [List.length_map] at hi
    rw [getD_dn hi] at f
    obtain rfl := f.int_of
    obtain ⟨g1, g2⟩ := hmn i hi
    refine ⟨[some (.ref a), some (.ref p), some (.ref l), some (.ref ps), some (vn ((mstarts w s).getD i 0)), y, none, none, none], fun Q' q => q, rfl, fun H2 e2 Q q => q H2 (Ex.refl _), fun _ => EvD.eq (evd_ixL (evd_var rfl (.adr l)) (e7 _ _ (e6 _ _ (e5 _ _ h2))) FzL.oL (evd_var rfl (.int _)) (at_oD g1)) ?_⟩
    rw [g2]; rfl
  · rw [List.length_map, List.map_map]
    exact range_map (d := 0) rfl fun i hi => rfl
  · rw [List.length_map]; exact List.length_pos_iff.mpr hne
  · exact fun x h1 h2 => minL_eq h1 h2
  obtain rfl := f7.int_of
  refine q_asgN (EvN.eq (es := (mnear w s).map dn) (evn_lc (fun i => decide (distB w s ((mstarts w s).getD i 0) = some (mshort w s))) (fun i => dn ((mstarts w s).getD i 0)) (evi_seqL (evd_var rfl (.adr ps)) ⟨_, e7 _ _ (e6 _ _ h5), FzL.nats _⟩) (by rw [List.length_map]; omega) fun i v H8 hi e8 f => ?_) ?_) fun pn xs H8 hpn e8 h8 f8 => ?_
  · rw [List.length_map] at hi
    rw [getD_dn hi] at f
    obtain rfl := f.int_of
    obtain ⟨g1, g2⟩ := hmn i hi
    exact ⟨[some (.ref a), some (.ref p), some (.ref l), some (.ref ps), some (vn ((mstarts w s).getD i 0)), y, some (vn (mshort w s)), none, none], fun Q' q => q, rfl, et_test (evd_eqO (evd_ixL (evd_var rfl (.adr l)) (e8 _ _ (e7 _ _ (e6 _ _ (e5 _ _ h2)))) FzL.oL (evd_var rfl (.int _)) (at_oD g1)) (evd_var rfl (.int _))), fun _ => evd_var rfl (.int _)⟩
  · rw [List.length_map]
    have := range_filter_map (l := mstarts w s) (d := 0) (g := fun x => decide (distB w s x = some (mshort w s))) (e := dn)
    rw [this]
    congr 1
    unfold mnear
    refine List.filter_congr fun x hx => ?_
    rw [mstarts_dist hx]
    exact decide_eq_decide.mpr ⟨fun h => by injection h, fun h => congrArg some h⟩
  obtain rfl := f8.nats_of
  obtain ⟨d0, hd0, hdn, hdd⟩ := mnear_head hne
  have hnear : ∀ x ∈ mnear w s, x < w.n := fun x hx => (mstarts_mem.mp (mnear_mem.mp hx).1).1
  have hsl : mshort w s ≤ 24 := by have := dist_lt (arrows_lt W) hdn hdd; omega
  have e58 := (e6.trans e7).trans e8
  refine q_asgN (evn_callF (es := (mropes w s).map dn) (evds_cons (evd_var rfl (.adr p)) (evds_cons (evd_var rfl (.adr l)) (evds_cons (evd_var rfl (.adr pn)) evds_nil))) rfl fun H9 e9 Q q => ?_) fun pr xs H9 hpr e9 h9 f9 => ?_
  · have e59 := (e5.trans e58).trans e9
    exact ⟨p, l, pn, w.n, arrows w s, distB w s, mnear w s, d0, rfl, ⟨us, (e2.trans e59) _ _ h1, f1.mono (Kp.ex (e2.trans e59))⟩, ⟨_, e59 _ _ h2, FzL.oL⟩, ⟨_, e9 _ _ h8, FzL.nats _⟩, arrows_lt W, hnear, hn, by rw [arrows_len]; exact W.m40, hd0, mshort w s, hdd, hsl, q⟩
  obtain rfl := f9.nats_of
  have hprH : H pr = none := fresh_back (((e12.trans e5).trans e6).trans (e7.trans e8)) hpr
  have e09 := ((e12.trans e5).trans e58).trans e9
  refine q_if (et_test (evd_eqI (evd_var rfl (.int _)) evd_int)) (fun hb H10 e10 => ?_) fun hb H10 e10 => ?_
  · have hb := of_decide_eq_true hb
    refine s_ret (evd_tup (evds_cons (evd_ixL (evd_var rfl (.adr pn)) (e10 _ _ (e9 _ _ h8)) (FzL.nats _) (evd_int (i := ((0 : Nat) : Int))) (d := dn d0) (atI_nat (by rw [List.getElem?_map, hd0]; rfl))) (evds_cons (evd_var rfl (.adr pr)) evds_nil)) (Nat.le_of_ble_eq_true rfl)) fun v H11 e11 f11 => ?_
    obtain ⟨t, ts, rfl, ht, ft⟩ := f11.tup_of
    obtain rfl := ft.flat_of rfl
    refine k1 hne t pr H11 hprH ((e09.trans e10).trans e11) ?_ (e11 _ _ (e10 _ _ h9))
    rw [ht]
    unfold mstart
    rw [if_pos (by omega), getD_of hd0]; rfl
  · have hb := of_decide_eq_false hb
    obtain ⟨r, hr⟩ : ∃ r, mshort w s = r + 1 := ⟨mshort w s - 1, by omega⟩
    obtain ⟨kk, hk1, hk2, hk3⟩ := mropes_cons hne hr
    have hk0 : (mropes w s)[0]? = some kk := by rw [hk3]; rfl
    have e2a := (((e2.trans e5).trans e58).trans e9).trans e10
    refine s_ret (evd_tup (evds_cons (evd_ixT (evd_ixL (evd_var rfl (.adr p)) (e2a _ _ h1) (f1.mono (Kp.ex e2a)) (evd_ixL (evd_var rfl (.adr pr)) (e10 _ _ h9) (FzL.nats _) (evd_int (i := ((0 : Nat) : Int))) (d := dn kk) (atI_nat (by rw [List.getElem?_map, hk0]; rfl))) (at_dPair (by rw [arrows_len]; exact hk1))) evd_int (d := dn ((arrows w s).getD kk (0, 0)).1) rfl) (evds_cons (evd_var rfl (.adr pr)) evds_nil)) (Nat.le_of_ble_eq_true rfl)) fun v H11 e11 f11 => ?_
    obtain ⟨t, ts, rfl, ht, ft⟩ := f11.tup_of
    obtain rfl := ft.flat_of rfl
    refine k1 hne t pr H11 hprH ((e09.trans e10).trans e11) ?_ (e11 _ _ (e10 _ _ h9))
    rw [ht]
    unfold mstart
    rw [if_neg (by omega), getD_of hk0]; rfl
end
end TR
namespace TR
open PySem L2 PyProof.Rows
open Evl (Ex EvT fresh_back)
local macro_rules | `(tactic| walk_at "h") => `(tactic| first
  | assumption
  | (refine Ex.at (by assumption) ?_; walk_at "h")
  | (refine Kp.at (by assumption) ?_; walk_at "h")
  | (refine Fz.mono (Kp.ex (by assumption)) ?_; walk_at "h")
  | (refine Fz.mono (by assumption) ?_; walk_at "h")
  | (refine FzL.mono (Kp.ex (by assumption)) ?_; walk_at "h")
  | (refine FzL.mono (by assumption) ?_; walk_at "h")
  | (refine NetAt.mono (Kp.ex (by assumption)) ?_; walk_at "h")
  | (refine NetAt.mono (by assumption) ?_; walk_at "h")
  | (refine StaA.mono (Kp.ex (by assumption)) ?_; walk_at "h")
  | (refine StaA.mono (by assumption) ?_; walk_at "h")
  | (refine Sta.mono (Kp.ex (by assumption)) ?_; walk_at "h")
  | (refine Sta.mono (by assumption) ?_; walk_at "h")
  | (refine Lst.mono (by assumption) ?_; walk_at "h")
  | (refine Seq.mono (by assumption) ?_; walk_at "h"))
local macro_rules | `(tactic| walk_at "fz") => `(tactic| first
  | exact Fz.int _ | exact Fz.bl _ | exact Fz.str _ | exact Fz.non
  | walk_at "h"
  | exact Fz.adr _)
local macro_rules | `(tactic| walk_at "ix") => `(tactic| first
  | exact rfl
  | (refine atI_nat ?_; first | assumption | rfl | (simp; done)))
local macro_rules | `(tactic| walk_at "ev") => `(tactic| first
  | exact evd_int | exact evd_str | exact evd_bl | exact evd_non
  | (refine evd_var rfl ?_; walk_at "fz")
  | (refine evd_stations ?_ ?_; (walk_at "h"); (walk_at "ev"))
  | (refine evd_ropes ?_ ?_; (walk_at "h"); (walk_at "ev"))
  | (refine evd_net ?_ ?_; (walk_at "h"); (walk_at "ev"))
  | (refine evd_reds ?_ ?_; (walk_at "h"); (walk_at "ev"))
  | (refine evd_blues ?_ ?_; (walk_at "h"); (walk_at "ev"))
  | (refine evd_cars ?_ ?_; (walk_at "h"); (walk_at "ev"))
  | (refine evd_add ?_ ?_; (walk_at "ev"); (walk_at "ev"))
  | (refine evd_sub ?_ ?_; (walk_at "ev"); (walk_at "ev"))
  | (refine evd_lt ?_ ?_; (walk_at "ev"); (walk_at "ev"))
  | (refine evd_le ?_ ?_; (walk_at "ev"); (walk_at "ev"))
  | (refine evd_gt ?_ ?_; (walk_at "ev"); (walk_at "ev"))
  | (refine evd_ge ?_ ?_; (walk_at "ev"); (walk_at "ev"))
  | (refine evd_neg ?_; (walk_at "ev"))
  | (refine evd_eqI ?_ ?_; (walk_at "ev"); (walk_at "ev"))
  | (refine evd_neI ?_ ?_; (walk_at "ev"); (walk_at "ev"))
  | (refine evd_eqS ?_ ?_; (walk_at "ev"); (walk_at "ev"))
  | (refine evd_eqB ?_ ?_; (walk_at "ev"); (walk_at "ev"))
  | (refine evd_neB ?_ ?_; (walk_at "ev"); (walk_at "ev"))
  | (refine evd_isN ?_ ?_; (walk_at "ev"); exact rfl)
  | (refine evd_notN ?_ ?_; (walk_at "ev"); exact rfl)
  | (refine evd_ixT ?_ ?_ ?_; (walk_at "ev"); (walk_at "ev"); (walk_at "ix"))
  | (refine evd_ixL ?_ ?_ ?_ ?_ ?_; (walk_at "ev"); (walk_at "h"); (walk_at "h"); (walk_at "ev"); (walk_at "ix"))
  | (refine evd_tup ?_ ?_; (walk_at "evs"); exact Nat.le_of_ble_eq_true rfl)
  | (refine evd_lenD ?_; walk_at "ev")
  | (refine evd_lenL ?_ ?_; (walk_at "ev"); (walk_at "h"))
  | (refine evd_intI ?_; walk_at "ev")
  | (refine evd_intB ?_; walk_at "ev")
  | (refine evd_notV ?_; walk_at "ev"))
local macro_rules | `(tactic| walk_at "evs") => `(tactic| first
  | exact evds_nil
  | (refine evds_cons ?_ ?_; (walk_at "ev"); (walk_at "evs")))
local macro_rules | `(tactic| walk_at "et") => `(tactic| first
  | (refine et_test ?_; walk_at "ev")
  | (refine et_B ?_; walk_at "ev")
  | (refine et_tru ?_ ?_; (walk_at "ev"); (walk_at "h"))
  | (refine Evl.et_not ?_; walk_at "et")
  | (refine et_chain2 ?_ ?_ ?_; (walk_at "ev"); (walk_at "ev"); (walk_at "ev")))
theorem Back.mono {H H' : Hp} {kvs kvs' : List (Key × V)} {x : Nat} {l : List Nat} (t : Tk H H') (g : ∀ (x : Nat) (v : V), valV kvs (Sum.inl (x : Int)) = some v → valV kvs' (Sum.inl (x : Int)) = some v) (h : Back H kvs x l) : Back H' kvs' x l := by
  induction h with
  | base h => exact .base (g _ _ h)
  | step h1 h2 _ ih => exact .step (g _ _ h1) (t _ _ h2) ih
/-- what the dict of the search holds -/
structure Came (H : Hp) (kvs : List (Key × V)) (es : List En) : Prop where
  dom : ∀ x : Nat, (valV kvs (Sum.inl (x : Int))).isSome = true ↔ x ∈ es.map En.st
  back : ∀ e ∈ es, Back H kvs e.st e.path
  len : kvs.length = es.length
theorem Came.mono {H H' : Hp} {kvs : List (Key × V)} {es : List En} (t : Tk H H') (c : Came H kvs es) : Came H' kvs es := ⟨c.dom, fun e he => (c.back e he).mono t fun _ _ h => h, c.len⟩
theorem inl_eq {x y : Nat} : ((Sum.inl (x : Int) : Key) = Sum.inl (y : Int)) ↔ x = y := ⟨fun h => by injection h with h; omega, fun h => by rw [h]⟩
theorem Came.add {H H' : Hp} {kvs : List (Key × V)} {es : List En} {e : En} {v : V} (c : Came H kvs es) (t : Tk H H') (hn : e.st ∉ es.map En.st) (hb : ∀ kvs', (∀ (x : Nat) (v : V), valV kvs (Sum.inl (x : Int)) = some v → valV kvs' (Sum.inl (x : Int)) = some v) → valV kvs' (Sum.inl (e.st : Int)) = some v → Back H' kvs' e.st e.path) :
    Came H' (putK kvs (Sum.inl (e.st : Int)) v) (es ++ [e]) := by
  have hnew : valV kvs (Sum.inl (e.st : Int)) = none := by
    cases h : valV kvs (Sum.inl (e.st : Int)) with
    | none => rfl
    | some u => exact absurd ((c.dom e.st).mp (by rw [h]; rfl)) hn
  have hg : ∀ (x : Nat) (u : V), valV kvs (Sum.inl (x : Int)) = some u → valV (putK kvs (Sum.inl (e.st : Int)) v) (Sum.inl (x : Int)) = some u := fun x u h => by
    rw [valV_put, if_neg]
    · exact h
    · intro z
      rw [z, hnew] at h; cases h
  refine ⟨fun x => ?_, fun f hf => ?_, ?_⟩
  · rw [valV_put, List.map_append, List.mem_append, ← c.dom x]
    by_cases hx : x = e.st
    · subst hx
      rw [if_pos rfl]; simp
    · rw [if_neg (fun z => hx (inl_eq.mp z))]
      simp [hx]
  · rw [List.mem_append, List.mem_singleton] at hf
    rcases hf with hf | rfl
    · exact (c.back f hf).mono t hg
    · exact hb _ hg (by rw [valV_put, if_pos rfl])
  · rw [putK_new v hnew, List.length_append, List.length_append, c.len]; rfl
section
variable {K : PySem.W.Frag} {mg : Str → Option Value} {σ : L2.St} {H : Hp} {te ta tb tv tx : TE} {tr : TA} {ds es : List D} {d d1 d2 : D} {E : Ends} {tz : TS}
theorem et_dgetN {a : Addr} {kvs : List (Key × V)} {i : Nat} {v : V} (ha : EvD ta σ H (.adr a)) (hb : EvD tb σ H (dn i)) (hd : H a = some (.dK kvs)) (hv : valV kvs (Sum.inl (i : Int)) = some v) :
    EvT (tTest (tOp kNotN (tDGet ta tb) (tC .non))) σ H (!decide (v = .non)) := fun H1 e Q q =>
  ha H1 e _ fun x H2 e2 fx => hb H2 (e.trans e2) _ fun y H3 e3 fy => by
    rw [fx.adr_of, fy.int_of]
    exact ⟨a, v, rfl, hv ▸ DGet.k (k := Sum.inl (i : Int)) (((e.trans e2).trans e3) _ _ hd), rfl, _, rfl, q H3 (e2.trans e3)⟩
theorem q_dget {g : TG} {a : Addr} {kvs : List (Key × V)} {i : Nat} {v : V} (ha : EvD ta σ H (.adr a)) (hb : EvD tb σ H (dn i)) (hd : H a = some (.dK kvs)) (hv : valV kvs (Sum.inl (i : Int)) = some v)
    (k : ∀ H1, Ex H H1 → g v σ H1 (tz E)) : tSeq (tAsg (tDGet ta tb) g) tz E σ H :=
  ha H (Ex.refl _) _ fun x H2 e2 fx => hb H2 e2 _ fun y H3 e3 fy => by
    rw [fx.adr_of, fy.int_of]
    exact ⟨a, v, rfl, hv ▸ DGet.k (k := Sum.inl (i : Int)) ((e2.trans e3) _ _ hd), k H3 (e2.trans e3)⟩
theorem evd_dnotin {a : Addr} {kvs : List (Key × V)} {i : Nat} (hb : EvD tb σ H (dn i)) (ha : EvD ta σ H (.adr a)) (hd : H a = some (.dK kvs)) : EvD (tDNotIn tb ta) σ H (.bl (!(valV kvs (Sum.inl (i : Int))).isSome)) := fun H1 e Q q =>
  hb H1 e _ fun y H2 e2 fy => ha H2 (e.trans e2) _ fun x H3 e3 fx => by
    rw [fx.adr_of, fy.int_of]
    exact ⟨a, _, rfl, DGet.k (k := Sum.inl (i : Int)) (((e.trans e2).trans e3) _ _ hd), q _ H3 (e2.trans e3) (.bl _)⟩
theorem q_dput {a : Addr} {kvs : List (Key × V)} {i : Nat} (hv : EvD tv σ H d) (ha : EvD ta σ H (.adr a)) (hb : EvD tb σ H (dn i)) (hd : H a = some (.dK kvs)) (hl : kvs.length < 100000)
    (k : ∀ v H1, Ex H H1 → Fz H1 v d → tz E σ (upd H1 a (.dK (putK kvs (Sum.inl (i : Int)) v)))) : tSeq (sDPut ta tb tv) tz E σ H :=
  hv H (Ex.refl _) _ fun v H1 e1 fv => ha H1 e1 _ fun x H2 e2 fx => hb H2 (e1.trans e2) _ fun y H3 e3 fy => by
    rw [fx.adr_of, fy.int_of]
    exact ⟨a, _, rfl, DPut.k (k := Sum.inl (i : Int)) (((e1.trans e2).trans e3) _ _ hd) (Evl.sz_lt hl), k v H3 ((e1.trans e2).trans e3) (fv.mono (Kp.ex (e2.trans e3)))⟩
theorem pure_ropes_back (T : Txt K mg) (vs : List V) (H : Hp) (Q : VK) (E : XK) (h : sp_ropes_back T vs H Q E) : Goes (t_ropes_back T) N_ropes_back vs H Q := by
  obtain ⟨d, x, kvs, l, rfl, hd, hb, hl, k⟩ := h
  refine q_asgN (evn_lst evds_nil (Nat.le_of_ble_eq_true rfl)) fun pr xs H1 hpr e1 h1 f1 => ?_
  cases f1
  refine q_while (fun m σ' H' => ∃ x l' acc z, σ' = [some (.ref d), some (vn x), some (.ref pr), z] ∧ Ex H H' ∧ H' pr = some (.lst (nats acc)) ∧ Back H' kvs x l' ∧ l = l' ++ acc.reverse ∧ m = l'.length)
    _ ⟨x, l, [], none, rfl, e1, h1, hb.mono (Kp.ex e1).tk (fun _ _ h => h), by simp, rfl⟩ ?_
  rintro m σ' H' ⟨x, l', acc, z, rfl, e, h', hb', hl', rfl⟩
  cases hb' with
  | base hv =>
    refine ⟨_, et_dgetN (evd_var rfl (.adr d)) (evd_var rfl (.int _)) (e _ _ hd) hv, (fun hb => by cases hb), fun hb H2 e2 => ?_⟩
    refine s_retN (evn_rev (evd_var rfl (.adr pr)) ⟨_, e2 _ _ h', FzL.nats _⟩) fun r us H3 hr e3 h3 f3 => k r us H3 (fresh_back (e.trans e2) hr) ((e.trans e2).trans e3) h3 ?_
    rw [hl', List.nil_append, List.map_reverse]
    exact f3
  | @step _ kk y l'' t hv ht hb'' =>
    refine ⟨_, et_dgetN (evd_var rfl (.adr d)) (evd_var rfl (.int _)) (e _ _ hd) hv, fun _ H2 e2 => ?_, (fun hb => by cases hb)⟩
    refine q_dget (evd_var rfl (.adr d)) (evd_var rfl (.int _)) ((e.trans e2) _ _ hd) hv fun H3 e3 => ?_
    obtain ⟨v1, v2, f1, f2, hq⟩ := tg_2 (K := K) (i := 3) (j := 1) (v := .ref t) (H := H3) (d1 := dn kk) (d2 := dn y) (.tup (e3 _ _ (e2 _ _ ht)) (.cons (.int _) (.cons (.int _) .nil)))
    obtain rfl := f1.int_of
    obtain rfl := f2.int_of
    refine hq _ _ ?_
    refine s_app (e3 _ _ (e2 _ _ h')) (evd_var rfl (.adr pr)) (evd_var rfl (.int _)) (by rw [List.length_map]; rw [hl'] at hl; simp at hl; omega) fun v H4 e4 f4 => ?_
    obtain rfl := f4.int_of
    refine ⟨l''.length, by simp, y, l'', acc ++ [kk], _, rfl, Ex.set (((e.trans e2).trans e3).trans e4) hpr, ?_, ?_, by rw [hl']; simp, rfl⟩
    · rw [upd_same, nats_append]; rfl
    · exact hb''.mono (((Kp.ex (e2.trans e3)).trans (Kp.ex e4)).step (e4 _ _ (e3 _ _ (e2 _ _ h')))).tk fun _ _ h => h
theorem foldl_take {α β : Type} {f : β → α → β} {b : β} {l : List α} {i : Nat} {x : α} (h : l[i]? = some x) : (l.take (i + 1)).foldl f b = f ((l.take i).foldl f b) x := by
  rw [take_succ' h, List.foldl_append]; rfl
theorem pure_shortest_way (T : Txt K mg) (vs : List V) (H : Hp) (Q : VK) (E : XK) (h : sp_shortest_way T vs H Q E) : Goes (t_shortest_way T) N_shortest_way vs H Q := by
  obtain ⟨p, q, g, n, steps, st, gl, rfl, ⟨us, hp, fr⟩, ⟨ws, hq, fq⟩, ⟨gs, hg, fg⟩, hnd, hst, hsn, hn, hsl, k0, k1⟩ := h
  obtain rfl := fq.nats_of
  obtain rfl := fg.nats_of
  have hus : us.length = steps.length := by rw [fr.len, List.length_map]
  have hwl : (nats st).length = st.length := List.length_map _
  have hstl : st.length ≤ n := nodup_le hnd hst
  refine fun d hd => ?_
  refine q_asgN (evn_lst evds_nil (Nat.le_of_ble_eq_true rfl)) fun pw xs H1 hpw1 e1 h1 f1 => ?_
  cases f1
  have hdw : d ≠ pw := ne_of_none (upd_same (H := H) (a := d)) hpw1
  have hpw : H pw = none := fresh_back (Ex.new hd) hpw1
  have e01 := (Ex.new (o := HO.dK []) hd).trans e1
  have hd1 := e1 _ _ (upd_same (H := H) (a := d))
  refine q_forI (i_seqL (evd_var rfl (.adr q)) (e01 _ _ hq) fun J H2 e2 S2 => ?_)
  refine q_for S2 (fun i σ' H' => ∃ kvs x, σ' = [some (.ref p), some (.ref q), some (.ref g), some (.ref d), some (.ref pw), x, none, none, none, none, none] ∧ Ex H H' ∧ H' d = some (.dK kvs) ∧ H' pw = some (.lst (nats (st.take i))) ∧ Came H' kvs ((st.take i).map fun x => ⟨x, none, []⟩))
    ⟨[], none, rfl, e01.trans e2, e2 _ _ hd1, e2 _ _ h1, fun x => by simp [valV_nil], fun e he => by simp at he, rfl⟩ (fun i σ' H' _ ⟨_, _, _, e, _⟩ => e _ _ hq) ?_ ?_
  · rintro i v σ' H3 H4 hi ⟨kvs, x, rfl, e3, h3d, h3w, C⟩ e4 hv
    obtain ⟨a, ha, rfl⟩ := map_get hv
    have hidx : ((st.take i).map fun x => (⟨x, none, []⟩ : En)).map En.st = st.take i := by rw [List.map_map]; exact List.map_id _
    have hnot : a ∉ st.take i := fun hm => by
      rw [List.mem_take_iff_getElem] at hm
      obtain ⟨j, hj, hja⟩ := hm
      have h1 : st[j]? = some a := by rw [List.getElem?_eq_getElem (by omega), hja]
      have := (List.getElem?_inj (i := j) (j := i) (by omega) hnd).mp (h1.trans ha.symm)
      omega
    refine q_dput evd_non (evd_var rfl (.adr d)) (evd_var rfl (.int (a : Int))) (e4 _ _ h3d) (by rw [C.len, List.length_map, List.length_take]; omega) fun v H5 e5 f5 => ?_
    obtain rfl := f5.non_of
    have h5d := e5 _ _ (e4 _ _ h3d)
    have x5 : Ex H (upd H5 d (.dK (putK kvs (Sum.inl (a : Int)) .non))) := Ex.set ((e3.trans e4).trans e5) hd
    have C5 : Came (upd H5 d (.dK (putK kvs (Sum.inl (a : Int)) .non))) _ _ := C.add (e := ⟨a, none, []⟩) (v := .non) ((Kp.ex (e4.trans e5)).trans (Kp.setK h5d)).tk (by rw [hidx]; exact hnot) fun kvs' _ h => .base h
    have w5 : (upd H5 d (.dK (putK kvs (Sum.inl (a : Int)) .non))) pw = some (.lst (nats (st.take i))) := by rw [upd_ne hdw.symm]; exact e5 _ _ (e4 _ _ h3w)
    have d5 : (upd H5 d (.dK (putK kvs (Sum.inl (a : Int)) .non))) d = _ := upd_same
    generalize upd H5 d (.dK (putK kvs (Sum.inl (a : Int)) .non)) = G5 at *
    refine s_app w5 (evd_var rfl (.adr pw)) (evd_var rfl (.int (a : Int))) (by rw [List.length_map, List.length_take]; omega) fun v H6 e6 f6 => ?_
    obtain rfl := f6.int_of
    refine ⟨putK kvs (Sum.inl (a : Int)) .non, _, rfl, Ex.set (x5.trans e6) hpw, ?_, ?_, ?_⟩
    · exact (upd_ne hdw).trans (e6 _ _ d5)
    · rw [upd_same, take_succ' ha, nats_append]; rfl
    · rw [take_succ' ha, List.map_append]
      exact C5.mono ((Kp.ex e6).step (e6 _ _ w5)).tk
  rintro σ' H3 ⟨kvs, x, rfl, e3, h3d, h3w, C⟩
  rw [hwl, List.take_length] at h3w C
  refine q_asg evd_int fun v H4 e4 f4 => ?_
  obtain rfl := f4.int_of
  have hes0 : (st.map fun x => (⟨x, none, []⟩ : En)).map En.st = st := by rw [List.map_map]; exact List.map_id _
  refine q_while (fun m σ' H' => ∃ (kvs : List (Key × V)) (es : List En) (i : Nat) (y z u v : Option V), σ' = [some (.ref p), some (.ref q), some (.ref g), some (.ref d), some (.ref pw), x, some (vn i), y, z, u, v] ∧ Ex H H' ∧ H' d = some (.dK kvs) ∧ H' pw = some (.lst (nats (es.map En.st))) ∧ Came H' kvs es ∧ (es.map En.st).Nodup ∧ (∀ x ∈ es.map En.st, x < n) ∧
      (∀ (j : Nat) (e : En), es[j]? = some e → e.path.length ≤ j) ∧ i ≤ es.length ∧ m + i = n + 1 ∧ bfs steps gl m es i = sway n steps st gl)
    (n + 1) ⟨kvs, _, 0, none, none, none, none, rfl, e3.trans e4, e4 _ _ h3d, by rw [hes0]; exact e4 _ _ h3w, C.mono (Kp.ex e4).tk, by rw [hes0]; exact hnd, by rw [hes0]; exact hst, fun j e he => ?_, Nat.zero_le _, rfl, rfl⟩ ?_
  · obtain ⟨a, _, rfl⟩ := map_get he
    exact Nat.zero_le _
  rintro m σ' H5 ⟨kvs, es, i, y, z, u, v, rfl, e5, h5d, h5w, C5, hN, hL, hP, hi, hm, hB⟩
  have hesl : es.length ≤ n := by
    have := nodup_le hN hL
    rwa [List.length_map] at this
  refine ⟨_, et_test (evd_lt (evd_var rfl (.int _)) (evd_lenL (evd_var rfl (.adr pw)) h5w)), fun hb H6 e6 => ?_, fun hb H6 e6 => ?_⟩
  · have hb := of_decide_eq_true hb
    rw [List.length_map, List.length_map] at hb
    have hb : i < es.length := by omega
    obtain ⟨f, rfl⟩ : ∃ f, m = f + 1 := ⟨m - 1, by omega⟩
    have hei : es[i]? = some (es[i]'hb) := List.getElem?_eq_getElem hb
    generalize es[i]'hb = e at hei
    have hem : e ∈ es := List.mem_of_getElem? hei
    have hB' : (if e.st ∈ gl then some e.path else bfs steps gl f (steps.foldl (bstep e) es) (i + 1)) = sway n steps st gl := by
      rw [← hB]
      show _ = (match es[i]? with | none => none | some e => if e.st ∈ gl then some e.path else bfs steps gl f (steps.foldl (bstep e) es) (i + 1))
      rw [hei]
    refine q_asg (evd_ixL (evd_var rfl (.adr pw)) (e6 _ _ h5w) (FzL.nats _) (evd_var rfl (.int (i : Int))) (d := dn e.st) (atI_nat (by rw [List.getElem?_map, List.getElem?_map, hei]; rfl))) fun v7 H7 e7 f7 => ?_
    obtain rfl := f7.int_of
    have e57 := e6.trans e7
    refine q_if (b := decide (e.st ∈ gl)) (Evl.et_is (et_test (evd_inL (neg := false) (d := dn e.st) (evd_var rfl (.int _)) rfl rfl (evd_var rfl (.adr g)) ((e5.trans e57) _ _ hg) (nats_flat _))) (by rw [if_neg (by decide)]; exact inV_nats)) (fun hbb H8 e8 => ?_) fun hbb H8 e8 => ?_
    · have hbb := of_decide_eq_true hbb
      rw [if_pos hbb] at hB'
      have e58 := e57.trans e8
      refine s_retN (evn_callF (es := e.path.map dn) (evds_cons (evd_var rfl (.adr d)) (evds_cons (evd_var rfl (.int (e.st : Int))) evds_nil)) rfl fun H9 e9 Q q => ⟨d, e.st, kvs, e.path, rfl, (e58.trans e9) _ _ h5d, (C5.back e hem).mono (Kp.ex (e58.trans e9)).tk (fun _ _ h => h), by have := hP i e hei; omega, q⟩) fun r xs H9 hr e9 h9 f9 => ?_
      exact k1 e.path hB'.symm r xs H9 (fresh_back (e5.trans e58) hr) ((e5.trans e58).trans e9) h9 f9
    · have hbb := of_decide_eq_false hbb
      rw [if_neg hbb] at hB'
      have e58 := e57.trans e8
      refine q_forI (i_seqL (evd_var rfl (.adr p)) ((e5.trans e58) _ _ hp) fun J H9 e9 S9 => ?_)
      have e59 := e58.trans e9
      refine q_for S9 (fun j σ' H' => ∃ kvs y z u, σ' = [some (.ref p), some (.ref q), some (.ref g), some (.ref d), some (.ref pw), x, some (vn i), some (vn e.st), y, z, u] ∧ Ex H H' ∧ H' d = some (.dK kvs) ∧ H' pw = some (.lst (nats (((steps.take j).foldl (bstep e) es).map En.st))) ∧ Came H' kvs ((steps.take j).foldl (bstep e) es) ∧
          (((steps.take j).foldl (bstep e) es).map En.st).Nodup ∧ (∀ x ∈ ((steps.take j).foldl (bstep e) es).map En.st, x < n) ∧ (∀ (j' : Nat) (e' : En), ((steps.take j).foldl (bstep e) es)[j']? = some e' → e'.path.length ≤ j') ∧ i + 1 ≤ ((steps.take j).foldl (bstep e) es).length ∧ e ∈ (steps.take j).foldl (bstep e) es)
        ⟨kvs, _, _, _, rfl, e5.trans e59, e59 _ _ h5d, e59 _ _ h5w, C5.mono (Kp.ex e59).tk, hN, hL, hP, hb, hem⟩ (fun j σ' H' _ ⟨_, _, _, _, _, e, _⟩ => e _ _ hp) ?_ ?_
      · rintro j v σ' H10 H11 hj ⟨kvs, y, z, u, rfl, e10, h10d, h10w, C10, hN', hL', hP', hi', hem'⟩ e11 hv
        obtain ⟨dd, hd', fd⟩ := fr.getV hv
        obtain ⟨t, ht, rfl⟩ := map_get hd'
        have htm := List.mem_of_getElem? ht
        obtain ⟨v1, v2, v3, f1, f2, f3, hgo⟩ := tg_3 (K := K) (i := 8) (j := 9) (k := 10) (fd.mono (Kp.ex (e10.trans e11)))
        obtain rfl := f1.int_of
        obtain rfl := f2.int_of
        obtain rfl := f3.int_of
        refine hgo _ _ ?_
        rw [foldl_take ht]
        generalize hE : (steps.take j).foldl (bstep e) es = es' at *
        have hes'l : es'.length ≤ n := by
          have := nodup_le hN' hL'
          rwa [List.length_map] at this
        have h11d := e11 _ _ h10d
        have hdec : (decide ((t.2.1 : Int) = e.st) && !(valV kvs (Sum.inl (t.2.2 : Int))).isSome) = decide (t.2.1 = e.st ∧ t.2.2 ∉ es'.map En.st) := by
          rw [Bool.eq_iff_iff, Bool.and_eq_true, decide_eq_true_iff, decide_eq_true_iff]
          refine and_congr (by omega) ?_
          rw [← C10.dom t.2.2]
          cases (valV kvs (Sum.inl (t.2.2 : Int))).isSome <;> simp
        refine s_if (Evl.et_is (Evl.et_and (et_test (evd_eqI (evd_var rfl (.int _)) (evd_var rfl (.int _)))) fun _ => et_B (evd_dnotin (evd_var rfl (.int _)) (evd_var rfl (.adr d)) h11d)) hdec) (fun hc H12 e12 => ?_) fun hc H12 e12 => ?_
        · have hc := of_decide_eq_true hc
          rw [bstep_in hc]
          refine q_dput (evd_tup (evds_cons (evd_var rfl (.int (t.1 : Int))) (evds_cons (evd_var rfl (.int (t.2.1 : Int))) evds_nil)) (Nat.le_of_ble_eq_true rfl)) (evd_var rfl (.adr d)) (evd_var rfl (.int (t.2.2 : Int))) (e12 _ _ h11d) (by rw [C10.len]; omega) fun v H13 e13 f13 => ?_
          obtain ⟨tt, ts, rfl, htt, ftt⟩ := f13.tup_of
          obtain rfl := ftt.flat_of rfl
          have h13d := e13 _ _ (e12 _ _ h11d)
          have x13 : Ex H (upd H13 d (.dK (putK kvs (Sum.inl (t.2.2 : Int)) (.ref tt)))) := Ex.set (((e10.trans e11).trans e12).trans e13) hd
          have kk : Kp H13 (upd H13 d (.dK (putK kvs (Sum.inl (t.2.2 : Int)) (.ref tt)))) := Kp.setK h13d
          have C13 : Came (upd H13 d (.dK (putK kvs (Sum.inl (t.2.2 : Int)) (.ref tt)))) _ _ := C10.add (e := ⟨t.2.2, some (t.1, e.st), e.path ++ [t.1]⟩) (v := .ref tt) ((Kp.ex ((e11.trans e12).trans e13)).trans kk).tk hc.2 fun kvs' hg' h => .step h (kk _ _ htt rfl) (by
            have := (C10.back e hem').mono (((Kp.ex ((e11.trans e12).trans e13)).trans kk).tk) hg'
            rw [← hc.1] at this
            exact this)
          have w13 : (upd H13 d (.dK (putK kvs (Sum.inl (t.2.2 : Int)) (.ref tt)))) pw = some (.lst (nats (es'.map En.st))) := by rw [upd_ne hdw.symm]; exact e13 _ _ (e12 _ _ (e11 _ _ h10w))
          have d13 : (upd H13 d (.dK (putK kvs (Sum.inl (t.2.2 : Int)) (.ref tt)))) d = _ := upd_same
          generalize upd H13 d (.dK (putK kvs (Sum.inl (t.2.2 : Int)) (.ref tt))) = G13 at *
          refine s_app w13 (evd_var rfl (.adr pw)) (evd_var rfl (.int (t.2.2 : Int))) (by rw [List.length_map, List.length_map]; omega) fun v H14 e14 f14 => ?_
          obtain rfl := f14.int_of
          refine ⟨putK kvs (Sum.inl (t.2.2 : Int)) (.ref tt), _, _, _, rfl, Ex.set (x13.trans e14) hpw, (upd_ne hdw).trans (e14 _ _ d13), ?_, C13.mono ((Kp.ex e14).step (e14 _ _ w13)).tk, ?_, fun x hx => ?_, fun j' e' he' => ?_, by rw [List.length_append]; omega, by simp [hem']⟩
          · rw [upd_same, List.map_append, nats_append]; rfl
          · rw [List.map_append, List.nodup_append]
            refine ⟨hN', by simp, fun a ha b hb => ?_⟩
            have : b = t.2.2 := by simpa using hb
            subst this
            exact fun z => hc.2 (z ▸ ha)
          · rw [List.map_append, List.mem_append] at hx
            rcases hx with hx | hx
            · exact hL' x hx
            · have : x = t.2.2 := by simpa using hx
              subst this
              exact hsn t htm
          · rw [List.getElem?_append] at he'
            split at he'
            · exact hP' j' e' he'
            · have hj0 : j' - es'.length = 0 := by
                have := (List.getElem?_eq_some_iff.mp he').1
                simpa using this
              rw [hj0] at he'
              injection he' with he'
              rw [← he', List.length_append]
              obtain ⟨i', hi1'⟩ := List.getElem?_of_mem hem'
              have h1 := hP' i' e hi1'
              have h2 := (List.getElem?_eq_some_iff.mp hi1').1
              simp; omega
        · have hc := of_decide_eq_false hc
          rw [bstep_out hc]
          exact ⟨kvs, _, _, _, rfl, (e10.trans e11).trans e12, e12 _ _ h11d, e12 _ _ (e11 _ _ h10w), C10.mono (Kp.ex (e11.trans e12)).tk, hN', hL', hP', hi', hem'⟩
      · rintro σ' H10 ⟨kvs, y, z, u, rfl, e10, h10d, h10w, C10, hN', hL', hP', hi', hem'⟩
        rw [hus, List.take_length] at h10w C10 hN' hL' hP' hi'
        refine s_aug (b := 1) rfl evd_int fun H11 e11 => ?_
        exact ⟨f, Nat.lt_succ_self _, kvs, _, i + 1, _, _, _, _, rfl, e10.trans e11, e11 _ _ h10d, e11 _ _ h10w, C10.mono (Kp.ex e11).tk, hN', hL', hP', hi', by omega, hB'⟩
  · have hb := of_decide_eq_false hb
    rw [List.length_map, List.length_map] at hb
    have hb : i = es.length := by omega
    have : sway n steps st gl = none := by
      rw [← hB]
      obtain ⟨f, rfl⟩ : ∃ f, m = f + 1 := ⟨m - 1, by omega⟩
      show (match es[i]? with | none => none | some e => if e.st ∈ gl then some e.path else bfs steps gl f (steps.foldl (bstep e) es) (i + 1)) = none
      rw [List.getElem?_eq_none (by omega)]
    exact s_ret evd_non fun v H7 e7 f7 => k0 this v H7 ((e5.trans e6).trans e7) f7
end
end TR
namespace TR
section
variable {w : Wd} {s s' : Sd} {k k' x y z : Nat} {c c' : Bool} {ks : List Nat}
theorem far_pick {p : Nat × Nat} (h : p.1 ≠ p.2) {a : Nat} (ha : a ≤ 1) : far p (pick p a) = pick p (1 - a) := by
  have : a = 0 ∨ a = 1 := by omega
  rcases this with rfl | rfl
  · show (if p.1 = p.1 then p.2 else p.1) = p.2
    rw [if_pos rfl]
  · show (if p.2 = p.1 then p.2 else p.1) = p.1
    rw [if_neg (Ne.symm h)]
theorem sub_sub1 {a : Nat} (h : a ≤ 1) : 1 - (1 - a) = a := by omega
theorem far_car (W : WOk w) (O : SOk w s) (hk : k < w.rs.length) : far (rope w k) (carSt w s k c) = carSt w s k (!c) := by
  have h := (rope_ends W hk).2.2
  have hc := car_le O (k := k)
  cases c with
  | true => exact far_pick h hc
  | false =>
    have := far_pick h (a := 1 - car s k) (by omega)
    rw [sub_sub1 hc] at this
    exact this
theorem pick_ne {p : Nat × Nat} (h : p.1 ≠ p.2) {a : Nat} (ha : a ≤ 1) : pick p a ≠ pick p (1 - a) := by
  have : a = 0 ∨ a = 1 := by omega
  rcases this with rfl | rfl
  · exact h
  · exact Ne.symm h
theorem car_ne (W : WOk w) (O : SOk w s) (hk : k < w.rs.length) : carSt w s k c ≠ carSt w s k (!c) := by
  have h := (rope_ends W hk).2.2
  have hc := car_le O (k := k)
  cases c with
  | true => exact pick_ne h hc
  | false => exact (pick_ne h hc).symm
theorem shift_at {l : List Nat} {a b x : Nat} (ha : a < l.length) (hb : b < l.length) (h : a ≠ b) : (shift l a b).getD x 0 = if x = a then l.getD a 0 - 1 else if x = b then l.getD b 0 + 1 else l.getD x 0 := by
  unfold shift
  rw [getD_set, List.length_set]
  by_cases hx : x = a
  · subst hx
    rw [if_neg (fun z => h z.1.symm), getD_set, if_pos ⟨rfl, ha⟩, if_pos rfl]
  · rw [if_neg hx]
    by_cases hxb : x = b
    · subst hxb
      rw [if_pos ⟨rfl, hb⟩, getD_set, if_neg (fun z => h z.1), if_pos rfl]
    · rw [if_neg (fun z => hxb z.1.symm), getD_set, if_neg (fun z => hx z.1.symm), if_neg hxb]
theorem ride_gs (W : WOk w) (O : SOk w s) (hk : k < w.rs.length) : gs (ride w s (k, c)) c = shift (gs s c) (carSt w s k c) (carSt w s k (!c)) := by
  rw [← far_car W O hk]
  cases c <;> rfl
theorem ride_gs' : gs (ride w s (k, c)) (!c) = gs s (!c) := by cases c <;> rfl
theorem ride_cars : (ride w s (k, c)).cars = s.cars.set k (1 - car s k) := by cases c <;> rfl
theorem ride_car (O : SOk w s) (hk : k < w.rs.length) : car (ride w s (k, c)) k' = if k' = k then 1 - car s k else car s k' := by
  unfold car
  rw [ride_cars, getD_set]
  by_cases h : k' = k
  · rw [if_pos ⟨h.symm, by rw [O.lc]; exact hk⟩, if_pos h]; rfl
  · rw [if_neg (fun z => h z.1.symm), if_neg h]
theorem carSt_pick : carSt w s k c = pick (rope w k) (if c then car s k else 1 - car s k) := by cases c <;> rfl
theorem ride_carSt (O : SOk w s) (hk : k < w.rs.length) : carSt w (ride w s (k, c)) k' c' = if k' = k then carSt w s k' (!c') else carSt w s k' c' := by
  have hc := car_le O (k := k)
  rw [carSt_pick, ride_car O hk]
  by_cases h : k' = k
  · subst h
    rw [if_pos rfl, if_pos rfl, carSt_pick, sub_sub1 hc]
    cases c' <;> rfl
  · rw [if_neg h, if_neg h, carSt_pick]
theorem can_iff : can w s (k, c) = true ↔ 0 < gAt s c (carSt w s k c) := decide_eq_true_iff
theorem ride_there (W : WOk w) (O : SOk w s) (hk : k < w.rs.length) : 0 < gAt (ride w s (k, c)) c (carSt w s k (!c)) := by
  unfold gAt
  rw [ride_gs W O hk, shift_at (by rw [gs_len O]; exact carSt_lt W hk) (by rw [gs_len O]; exact carSt_lt W hk) (car_ne W O hk), if_neg (car_ne W O hk).symm, if_pos rfl]
  exact Nat.succ_pos _
theorem ride_other : gAt (ride w s (k, c)) (!c) x = gAt s (!c) x := by unfold gAt; rw [ride_gs']
theorem Ok_append {a b : List Ride} : Ok w s (a ++ b) ↔ Ok w s a ∧ Ok w (rideAll w s a) b := by
  induction a generalizing s with
  | nil => exact ⟨fun h => ⟨trivial, h⟩, fun h => h.2⟩
  | cons r a ih =>
    show r.1 < _ ∧ _ ∧ Ok w (ride w s r) (a ++ b) ↔ (r.1 < _ ∧ _ ∧ Ok w (ride w s r) a) ∧ Ok w (rideAll w (ride w s r) a) b
    rw [ih]
    exact ⟨fun ⟨a, b, c, d⟩ => ⟨⟨a, b, c⟩, d⟩, fun ⟨⟨a, b, c⟩, d⟩ => ⟨a, b, c, d⟩⟩
theorem rideAll_append {a b : List Ride} : rideAll w s (a ++ b) = rideAll w (rideAll w s a) b := by unfold rideAll; rw [List.foldl_append]
theorem rideAll_cons {r : Ride} {b : List Ride} : rideAll w s (r :: b) = rideAll w (ride w s r) b := rfl
theorem rideAll_ok (W : WOk w) : ∀ {l : List Ride} {s : Sd}, SOk w s → Ok w s l → SOk w (rideAll w s l) := by
  intro l
  induction l with
  | nil => exact fun h _ => h
  | cons r l ih => exact fun h o => ih (ride_ok W h o.1 o.2.1) o.2.2
inductive Chain (w : Wd) (s : Sd) (c : Bool) : Nat → List Nat → Nat → Prop
  | nil {x : Nat} : Chain w s c x [] x
  | cons {k y : Nat} {ks : List Nat} : k < w.rs.length → Chain w s c (carSt w s k (!c)) ks y → Chain w s c (carSt w s k c) (k :: ks) y
theorem Chain.congr (h : Chain w s c x ks y) (e : ∀ k ∈ ks, ∀ c, carSt w s' k c = carSt w s k c) : Chain w s' c x ks y := by
  induction h with
  | nil => exact .nil
  | @cons k y ks hk _ ih =>
    rw [← e k (by simp) c]
    refine .cons hk ?_
    rw [e k (by simp) (!c)]
    exact ih fun k' hk' => e k' (by simp [hk'])
theorem Chain.snoc (h : Chain w s c x ks (carSt w s k c)) (hk : k < w.rs.length) : Chain w s c x (ks ++ [k]) (carSt w s k (!c)) := by
  generalize hy : carSt w s k c = y at h
  induction h with
  | nil => subst hy; exact .cons hk .nil
  | cons h1 _ ih => exact .cons h1 (ih hy)
theorem Chain.ok (W : WOk w) : ∀ {ks : List Nat} {s : Sd} {x y : Nat}, SOk w s → Chain w s c x ks y → ks.Nodup → 0 < gAt s c x →
    Ok w s (ks.map fun k => (k, c)) ∧ SOk w (rideAll w s (ks.map fun k => (k, c))) ∧ 0 < gAt (rideAll w s (ks.map fun k => (k, c))) c y ∧ (∀ z, gAt (rideAll w s (ks.map fun k => (k, c))) (!c) z = gAt s (!c) z) ∧ ∀ k', k' ∉ ks → ∀ c', carSt w (rideAll w s (ks.map fun k => (k, c))) k' c' = carSt w s k' c' := by
  intro ks
  induction ks with
  | nil =>
    intro s x y O h _ hx
    cases h
    exact ⟨trivial, O, hx, fun _ => rfl, fun _ _ _ => rfl⟩
  | cons k ks ih =>
    intro s x y O h hn hx
    cases h with
    | cons hk h =>
      rw [List.nodup_cons] at hn
      have hc : can w s (k, c) = true := can_iff.mpr hx
      have O' := ride_ok W O hk hc
      have hoth : ∀ k', k' ≠ k → ∀ c', carSt w (ride w s (k, c)) k' c' = carSt w s k' c' := fun k' h c' => by rw [ride_carSt O hk, if_neg h]
      obtain ⟨r1, r2, r3, r4, r5⟩ := ih O' (h.congr fun k' hk' => hoth k' fun z => hn.1 (z ▸ hk')) hn.2 (ride_there W O hk)
      refine ⟨⟨hk, hc, r1⟩, r2, r3, fun z => (r4 z).trans ride_other, fun k' hk' c' => ?_⟩
      have h1 : k' ≠ k := fun z => hk' (by simp [z])
      exact (r5 k' (fun z => hk' (by simp [z])) c').trans (hoth k' h1 c')
/-- where guests of a colour get to, by the arrows of the standing -/
def cArr (w : Wd) (s : Sd) (c : Bool) : List (Nat × Nat) := (List.range w.rs.length).map fun k => (carSt w s k c, carSt w s k (!c))
def To (w : Wd) (s : Sd) (c : Bool) : Nat → Prop := PathTo (cArr w s c) fun x => 0 < gAt s c x
theorem RedTo_iff : RedTo w s x ↔ To w s true x := Iff.rfl
theorem cArr_false : cArr w s false = (arrows w s).map swapP := by unfold cArr arrows; rw [List.map_map]; rfl
theorem BluTo_iff : BluTo w s x ↔ To w s false x := by
  unfold To BluTo
  rw [cArr_false]; rfl
theorem mem_cArr {p : Nat × Nat} : p ∈ cArr w s c ↔ ∃ k, k < w.rs.length ∧ p = (carSt w s k c, carSt w s k (!c)) := by
  unfold cArr
  rw [List.mem_map]
  exact ⟨fun ⟨k, h, e⟩ => ⟨k, List.mem_range.mp h, e.symm⟩, fun ⟨k, h, e⟩ => ⟨k, List.mem_range.mpr h, e.symm⟩⟩
theorem To.next (h : To w s c (carSt w s k c)) (hk : k < w.rs.length) : To w s c (carSt w s k (!c)) := .step h (mem_cArr.mpr ⟨k, hk, rfl⟩)
theorem Chain.to (h : Chain w s c x ks y) (hx : To w s c x) : To w s c y := by
  induction h with
  | nil => exact hx
  | cons hk _ ih => exact ih (hx.next hk)
theorem mem_lsteps {t : Stp} : t ∈ lsteps w s c ↔ ∃ k, k < w.rs.length ∧ t = (k, carSt w s k c, carSt w s k (!c)) := by
  unfold lsteps
  rw [List.mem_map]
  exact ⟨fun ⟨k, h, e⟩ => ⟨k, List.mem_range.mp h, e.symm⟩, fun ⟨k, h, e⟩ => ⟨k, List.mem_range.mpr h, e.symm⟩⟩
theorem stp_lsteps : stp (lsteps w s c) = cArr w s c := by unfold stp lsteps cArr; rw [List.map_map]; rfl
theorem mem_lstarts (O : SOk w s) : x ∈ lstarts w s c ↔ 0 < gAt s c x := by
  unfold lstarts
  rw [List.mem_filter, List.mem_range, decide_eq_true_iff]
  refine ⟨fun h => h.2, fun h => ⟨?_, h⟩⟩
  rcases Nat.lt_or_ge x w.n with h1 | h1
  · exact h1
  · unfold gAt at h
    rw [List.getD_eq_getElem?_getD, List.getElem?_eq_none (by rw [gs_len O]; exact h1)] at h; cases h
theorem lstarts_nodup : (lstarts w s c).Nodup := List.nodup_range.filter _
theorem lstarts_lt : ∀ x ∈ lstarts w s c, x < w.n := fun x hx => (filt_lt hx).1
theorem lsteps_lt (W : WOk w) : ∀ t ∈ lsteps w s c, t.2.2 < w.n := fun t ht => by
  obtain ⟨k, hk, rfl⟩ := mem_lsteps.mp ht
  exact carSt_lt W hk
theorem way_chain {st gl vis : List Nat} (W : WOk w) (h : Way (lsteps w s c) st gl ks y vis) : ∃ x, x ∈ st ∧ Chain w s c x ks y ∧ ks.Nodup ∧ (∀ k ∈ ks, carSt w s k c ∉ gl ∧ carSt w s k (!c) ∈ vis) := by
  induction h with
  | base h => exact ⟨_, h, .nil, List.nodup_nil, fun k hk => by cases hk⟩
  | step hw hm hn hg ih =>
    obtain ⟨x, h1, h2, h3, h4⟩ := ih
    obtain ⟨k, hk, rfl⟩ := mem_lsteps.mp hm
    refine ⟨x, h1, h2.snoc hk, ?_, fun k' hk' => ?_⟩
    · rw [List.nodup_append]
      refine ⟨h3, by simp, fun a ha b hb => ?_⟩
      rw [List.mem_singleton] at hb
      subst hb
      exact fun z => hn (z ▸ (h4 a ha).2)
    · rw [List.mem_append, List.mem_singleton] at hk'
      rcases hk' with hk' | rfl
      · exact ⟨(h4 k' hk').1, by simp [(h4 k' hk').2]⟩
      · exact ⟨hg, by simp⟩
theorem lone_some {r : List Ride} (W : WOk w) (O : SOk w s) (h : lone w s c x = some r) : ∃ l x0, r = l.map (fun k => (k, c)) ∧ 0 < gAt s c x0 ∧ Chain w s c x0 l x ∧ l.Nodup ∧ (∀ k ∈ l, carSt w s k c ≠ x) ∧ l.length + 1 ≤ w.n := by
  unfold lone at h
  cases hs : sway w.n (lsteps w s c) (lstarts w s c) [x] with
  | none => rw [hs] at h; cases h
  | some l =>
    rw [hs] at h
    injection h with h
    obtain ⟨g, hg, vis, hw⟩ := sway_some lstarts_nodup lstarts_lt (lsteps_lt W) hs
    rw [List.mem_singleton] at hg
    subst hg
    obtain ⟨x0, h1, h2, h3, h4⟩ := way_chain W hw
    exact ⟨l, x0, h.symm, (mem_lstarts O).mp h1, h2, h3, fun k hk z => (h4 k hk).1 (by simp [z]), hw.short lstarts_lt (lsteps_lt W)⟩
theorem lone_none (W : WOk w) (O : SOk w s) (h : lone w s c x = none) : ¬ To w s c x := by
  unfold lone at h
  cases hs : sway w.n (lsteps w s c) (lstarts w s c) [x] with
  | some l => rw [hs] at h; cases h
  | none =>
    intro hT
    have := sway_none lstarts_nodup lstarts_lt (lsteps_lt W) hs x (by
      rw [stp_lsteps]
      refine PathTo.closed (P := PathTo (cArr w s c) fun x => x ∈ lstarts w s c) hT (fun y hy => .base ((mem_lstarts O).mpr hy)) fun q hq h1 => .step h1 hq)
    exact this (by simp)
theorem lone_to {r : List Ride} (W : WOk w) (O : SOk w s) (h : lone w s c x = some r) : To w s c x := by
  obtain ⟨l, x0, _, h1, h2, _⟩ := lone_some W O h
  exact h2.to (.base h1)
end
end TR
namespace TR
section
variable {w : Wd} {s s' m0 : Sd} {k k' x y z p : Nat} {c c' : Bool} {ks : List Nat}
theorem near_to {d : Nat} : ∀ {x : Nat}, Near (arrows w s) (fun x => 0 < s.blues.getD x 0) d x → RedTo w s x → ∃ y, RedTo w s y ∧ 0 < s.blues.getD y 0 := by
  induction d with
  | zero => exact fun h r => ⟨_, r, h⟩
  | succ d ih =>
    rintro x ⟨y, h1, h2⟩ r
    exact ih h2 (.step r h1)
theorem to_near (h : RedTo w s x) : 0 < s.blues.getD x 0 → ∃ x0 d, 0 < s.reds.getD x0 0 ∧ Near (arrows w s) (fun x => 0 < s.blues.getD x 0) d x0 := by
  intro hb
  suffices hs : ∀ d, Near (arrows w s) (fun x => 0 < s.blues.getD x 0) d x → ∃ x0 d, 0 < s.reds.getD x0 0 ∧ Near (arrows w s) (fun x => 0 < s.blues.getD x 0) d x0 from hs 0 hb
  clear hb
  induction h with
  | base h => exact fun d hd => ⟨_, d, h, hd⟩
  | step _ hm ih => exact fun d hd => ih (d + 1) ⟨_, hm, hd⟩
theorem meets_iff (O : SOk w s) : meets w s = true ↔ ∃ x, RedTo w s x ∧ 0 < s.blues.getD x 0 := by
  unfold meets
  rw [List.any_eq_true]
  constructor
  · rintro ⟨x, hx, h⟩
    exact ⟨x, (mem_reachL.mp hx).2, of_decide_eq_true h⟩
  · rintro ⟨x, hx, h⟩
    refine ⟨x, mem_reachL.mpr ⟨?_, hx⟩, decide_eq_true h⟩
    rcases Nat.lt_or_ge x w.n with h1 | h1
    · exact h1
    · rw [List.getD_eq_getElem?_getD, List.getElem?_eq_none (by rw [O.lb]; exact h1)] at h; cases h
theorem getD_pos_lt {l : List Nat} (h : 0 < l.getD x 0) : x < l.length := by
  rcases Nat.lt_or_ge x l.length with h1 | h1
  · exact h1
  · rw [List.getD_eq_getElem?_getD, List.getElem?_eq_none h1] at h; cases h
theorem meets_starts (O : SOk w s) : meets w s = true → mstarts w s ≠ [] := by
  rw [meets_iff O]
  rintro ⟨x, hx, hb⟩ hn
  obtain ⟨x0, d, h1, h2⟩ := to_near hx hb
  obtain ⟨e, _, he⟩ := near_dist h2
  have : x0 ∈ mstarts w s := mstarts_mem.mpr ⟨by rw [← O.lr]; exact getD_pos_lt h1, h1, by show (distB w s x0).isSome = true; unfold distB; rw [he]; rfl⟩
  rw [hn] at this; cases this
theorem blueTo_path (h : BluTo w s x) : ∃ y d, 0 < s.blues.getD y 0 ∧ Near (arrows w s) (fun x => 0 < s.blues.getD x 0) d x := by
  induction h with
  | base h => exact ⟨_, 0, h, h⟩
  | step _ hm ih =>
    obtain ⟨y, d, h1, h2⟩ := ih
    obtain ⟨q, hq, e⟩ := List.mem_map.mp hm
    unfold swapP at e
    injection e with e1 e2
    exact ⟨y, d + 1, h1, _, by rw [← e1, ← e2]; exact hq, h2⟩
/-- red and blue ways meet -/
theorem meets_both (O : SOk w s) : meets w s = true ↔ ∃ x, RedTo w s x ∧ BluTo w s x := by
  rw [meets_iff O]
  constructor
  · rintro ⟨x, h1, h2⟩
    exact ⟨x, h1, .base h2⟩
  · rintro ⟨x, h1, h2⟩
    obtain ⟨_, d, _, h3⟩ := blueTo_path h2
    exact near_to h3 h1
theorem distB_zero (h : distB w s x = some 0) : 0 < s.blues.getD x 0 := dist_zero (st := fun x => 0 < s.blues.getD x 0).mp h
theorem arr_get (hk : k < w.rs.length) : (arrows w s).getD k (0, 0) = (redSt w s k, bluSt w s k) := getD_of (by unfold arrows; rw [List.getElem?_map, List.getElem?_range hk]; rfl)
theorem lropes_chain (W : WOk w) : ∀ {r : Nat} {x : Nat}, distB w s x = some r → ∃ y, Chain w s true x (lropes (arrows w s) (distB w s) r [x]) y ∧ 0 < s.blues.getD y 0 ∧ (∀ k ∈ lropes (arrows w s) (distB w s) r [x], k < w.rs.length ∧ ∃ j, j < r ∧ distB w s (bluSt w s k) = some j) ∧ (lropes (arrows w s) (distB w s) r [x]).Nodup ∧ (lropes (arrows w s) (distB w s) r [x]).length = r := by
  intro r
  induction r with
  | zero => exact fun h => ⟨_, .nil, distB_zero h, fun k hk => (by cases hk), List.nodup_nil, rfl⟩
  | succ r ih =>
    intro x h
    obtain ⟨y, hy1, hy2⟩ := dist_step h
    obtain ⟨i, hi⟩ := List.getElem?_of_mem hy1
    have hlt : i < (arrows w s).length := (List.getElem?_eq_some_iff.mp hi).1
    have hx : ∃ k, lropes (arrows w s) (distB w s) (r + 1) [x] = k :: lropes (arrows w s) (distB w s) r [((arrows w s).getD k (0, 0)).2] ∧ k < w.rs.length ∧ okL (distB w s) [x] r ((arrows w s).getD k (0, 0)) = true := by
      show ∃ k, (match firstRope (arrows w s) (okL (distB w s) [x] r) with | some k => k :: lropes (arrows w s) (distB w s) r [((arrows w s).getD k (0, 0)).2] | none => lropes (arrows w s) (distB w s) r [x]) = _ ∧ _ ∧ _
      cases hf : firstRope (arrows w s) (okL (distB w s) [x] r) with
      | some k =>
        have hf' := find_range_iff hf
        exact ⟨k, rfl, by rw [← arrows_len (s := s)]; exact hf'.1, hf'.2⟩
      | none =>
        unfold firstRope at hf
        rw [List.find?_eq_none] at hf
        have := hf i (List.mem_range.mpr hlt)
        rw [getD_of hi] at this
        unfold okL at this
        have hy2 : distB w s y = some r := hy2
        simp [hy2] at this
    obtain ⟨k, hk, hkm, hok⟩ := hx
    rw [arr_get hkm] at hk hok
    unfold okL at hok
    rw [Bool.and_eq_true, decide_eq_true_iff, List.mem_singleton] at hok
    obtain ⟨h1, h2⟩ := hok
    have h2 : distB w s (bluSt w s k) = some r := by simpa using h2
    have h1 : redSt w s k = x := h1
    obtain ⟨y, c1, c2, c3, c4, c5⟩ := ih h2
    rw [hk]
    refine ⟨y, h1 ▸ .cons (c := true) hkm c1, c2, fun k' hk' => ?_, ?_, ?_⟩
    · rcases List.mem_cons.mp hk' with rfl | hk'
      · exact ⟨hkm, r, Nat.lt_succ_self _, h2⟩
      · obtain ⟨a, j, b, cc⟩ := c3 k' hk'
        exact ⟨a, j, by omega, cc⟩
    · rw [List.nodup_cons]
      refine ⟨fun hm => ?_, c4⟩
      obtain ⟨_, j, b, cc⟩ := c3 k hm
      rw [h2] at cc
      injection cc with cc
      omega
    · show (lropes (arrows w s) (distB w s) r [bluSt w s k]).length + 1 = r + 1
      rw [c5]
/-- the meeting ropes lead from the start to a station with blue -/
theorem mropes_chain (W : WOk w) (h : mstarts w s ≠ []) : ∃ y, Chain w s true (mstart w s) (mropes w s) y ∧ 0 < s.blues.getD y 0 ∧ 0 < s.reds.getD (mstart w s) 0 ∧ mstart w s < w.n ∧ (mropes w s).Nodup ∧ (∀ k ∈ mropes w s, k < w.rs.length) ∧ (mropes w s).length < w.n := by
  obtain ⟨d, hd1, hd2, hd3⟩ := mnear_head h
  have hml : mshort w s < w.n := dist_lt (arrows_lt W) hd2 hd3
  cases hr : mshort w s with
  | zero =>
    have h1 : mropes w s = [] := by unfold mropes; rw [hr]; rfl
    have h2 : mstart w s = d := by unfold mstart; rw [if_pos hr, getD_of hd1]
    rw [h1, h2]
    rw [hr] at hd3
    exact ⟨d, .nil, distB_zero hd3, (mstarts_mem.mp (mnear_mem.mp (List.mem_of_getElem? hd1)).1).2.1, hd2, List.nodup_nil, fun k hk => (by cases hk), by show 0 < w.n; omega⟩
  | succ r =>
    obtain ⟨k, hk1, hk2, hk3⟩ := mropes_cons h hr
    rw [arr_get hk1] at hk2 hk3
    have h2 : mstart w s = redSt w s k := by
      unfold mstart
      rw [if_neg (by omega), hk3]
      show ((arrows w s).getD k (0, 0)).1 = _
      rw [arr_get hk1]
    unfold okL at hk2
    rw [Bool.and_eq_true, decide_eq_true_iff] at hk2
    have hm : redSt w s k ∈ mnear w s := hk2.1
    have hb : distB w s (bluSt w s k) = some r := by simpa using hk2.2
    obtain ⟨y, c1, c2, c3, c4, c5⟩ := lropes_chain W hb
    rw [h2, hk3]
    refine ⟨y, .cons (c := true) hk1 c1, c2, (mstarts_mem.mp (mnear_mem.mp hm).1).2.1, redSt_lt W hk1, ?_, fun k' hk' => ?_, ?_⟩
    · rw [List.nodup_cons]
      refine ⟨fun hm => ?_, c4⟩
      obtain ⟨_, j, b, cc⟩ := c3 k hm
      rw [hb] at cc
      injection cc with cc
      omega
    · rcases List.mem_cons.mp hk' with rfl | hk'
      · exact hk1
      · exact (c3 k' hk').1
    · show (lropes (arrows w s) (distB w s) r [bluSt w s k]).length + 1 < w.n
      rw [c5]; omega
theorem chain_place (W : WOk w) (O : SOk w s) (h : Chain w s c x ks y) : ks.foldl (fun x k => far (rope w k) x) x = y := by
  induction h with
  | nil => rfl
  | cons hk _ ih =>
    show List.foldl _ (far (rope w _) (carSt w s _ c)) _ = _
    rw [far_car W O hk]
    exact ih
theorem chain_lt (W : WOk w) (h : Chain w s c x ks y) (hx : x < w.n) : y < w.n := by
  induction h with
  | nil => exact hx
  | cons hk _ ih => exact ih (carSt_lt W hk)
structure Met (w : Wd) (s : Sd) : Prop where
  ok : Ok w s (mrow w s)
  sok : SOk w (rideAll w s (mrow w s))
  red : 0 < gAt (rideAll w s (mrow w s)) true (mplace w s)
  blu : 0 < gAt (rideAll w s (mrow w s)) false (mplace w s)
  lt : mplace w s < w.n
  len : (mropes w s).length < w.n
  rng : ∀ k ∈ mropes w s, k < w.rs.length
  cars : ∀ k', k' ∉ mropes w s → ∀ c', carSt w (rideAll w s (mrow w s)) k' c' = carSt w s k' c'
  to : ∀ k ∈ mropes w s, RedTo w s (redSt w s k)
theorem chain_to_mem (h : Chain w s c x ks y) (hx : To w s c x) : ∀ k ∈ ks, To w s c (carSt w s k c) := by
  induction h with
  | nil => intro k hk; cases hk
  | cons hk _ ih =>
    intro k' hk'
    rcases List.mem_cons.mp hk' with rfl | hk'
    · exact hx
    · exact ih (hx.next hk) k' hk'
theorem met (W : WOk w) (O : SOk w s) (h : mstarts w s ≠ []) : Met w s := by
  obtain ⟨y, c1, c2, c3, c4, c5, c6, c7⟩ := mropes_chain W h
  obtain ⟨r1, r2, r3, r4, r5⟩ := c1.ok W O c5 c3
  have hp : mplace w s = y := chain_place W O c1
  refine ⟨r1, r2, ?_, ?_, ?_, c7, c6, r5, chain_to_mem c1 (.base c3)⟩
  · rw [hp]; exact r3
  · rw [hp]
    have h4 : gAt (rideAll w s (mrow w s)) false y = gAt s false y := r4 y
    rw [h4]; exact c2
  · rw [hp]; exact chain_lt W c1 c4
inductive PChain (w : Wd) : Nat → List Nat → Nat → Prop
  | nil {x : Nat} : PChain w x [] x
  | cons {k x y : Nat} {ks : List Nat} : k < w.rs.length → ((rope w k).1 = x ∨ (rope w k).2 = x) → PChain w (far (rope w k) x) ks y → PChain w x (k :: ks) y
theorem PChain.snoc (h : PChain w x ks y) (hk : k < w.rs.length) (hy : (rope w k).1 = y ∨ (rope w k).2 = y) : PChain w x (ks ++ [k]) (far (rope w k) y) := by
  induction h with
  | nil => exact .cons hk hy .nil
  | cons h1 h2 _ ih => exact .cons h1 h2 (ih hy)
theorem mem_psteps {t : Stp} : t ∈ psteps w ↔ ∃ k, k < w.rs.length ∧ (t = (k, (rope w k).1, (rope w k).2) ∨ t = (k, (rope w k).2, (rope w k).1)) := by
  unfold psteps
  rw [List.mem_flatMap]
  constructor
  · rintro ⟨k, hk, h⟩
    refine ⟨k, List.mem_range.mp hk, ?_⟩
    simpa using h
  · rintro ⟨k, hk, h⟩
    exact ⟨k, List.mem_range.mpr hk, by simpa using h⟩
theorem psteps_lt (W : WOk w) : ∀ t ∈ psteps w, t.2.2 < w.n := fun t ht => by
  obtain ⟨k, hk, h⟩ := mem_psteps.mp ht
  obtain ⟨a, b, _⟩ := rope_ends W hk
  rcases h with rfl | rfl
  · exact b
  · exact a
theorem pway_chain {gl vis : List Nat} (W : WOk w) (h : Way (psteps w) [p] gl ks y vis) : PChain w p ks y ∧ (∀ k ∈ ks, k < w.rs.length ∧ ((rope w k).1 ∉ gl ∨ (rope w k).2 ∉ gl)) := by
  induction h with
  | base h =>
    rw [List.mem_singleton] at h
    subst h
    exact ⟨.nil, fun k hk => (by cases hk)⟩
  | step hw hm hn hg ih =>
    obtain ⟨h1, h2⟩ := ih
    obtain ⟨k, hk, h⟩ := mem_psteps.mp hm
    obtain ⟨_, _, hne⟩ := rope_ends W hk
    rcases h with rfl | rfl
    · refine ⟨?_, fun k' hk' => ?_⟩
      · have := h1.snoc hk (.inl rfl)
        unfold far at this
        rw [if_pos rfl] at this
        exact this
      · rw [List.mem_append, List.mem_singleton] at hk'
        rcases hk' with hk' | rfl
        · exact h2 k' hk'
        · exact ⟨hk, .inl hg⟩
    · refine ⟨?_, fun k' hk' => ?_⟩
      · have := h1.snoc hk (.inr rfl)
        unfold far at this
        rw [if_neg (Ne.symm hne)] at this
        exact this
      · rw [List.mem_append, List.mem_singleton] at hk'
        rcases hk' with hk' | rfl
        · exact h2 k' hk'
        · exact ⟨hk, .inr hg⟩
theorem psteps_conn (W : WOk w) (hp : p < w.n) : ∀ x, x < w.n → PathTo (stp (psteps w)) (fun x => x ∈ [p]) x := by
  have hpair : ∀ a b, (a, b) ∈ w.rs ++ w.rs.map swapP → (a, b) ∈ stp (psteps w) ∧ (b, a) ∈ stp (psteps w) := fun a b h => by
    have hh : ∀ q ∈ w.rs, (q.1, q.2) ∈ stp (psteps w) ∧ (q.2, q.1) ∈ stp (psteps w) := fun q hq => by
      obtain ⟨k, hk⟩ := List.getElem?_of_mem hq
      have hkl := (List.getElem?_eq_some_iff.mp hk).1
      have hr : rope w k = q := getD_of hk
      exact ⟨List.mem_map.mpr ⟨_, mem_psteps.mpr ⟨k, hkl, .inl rfl⟩, by rw [hr]⟩, List.mem_map.mpr ⟨_, mem_psteps.mpr ⟨k, hkl, .inr rfl⟩, by rw [hr]⟩⟩
    rw [List.mem_append] at h
    rcases h with h | h
    · exact hh _ h
    · obtain ⟨q, hq, e⟩ := List.mem_map.mp h
      unfold swapP at e
      injection e with e1 e2
      subst e1 e2
      exact (hh q hq).symm
  have h0 : PathTo (stp (psteps w)) (fun x => x ∈ [p]) 0 := by
    have : ∀ x, PathTo (w.rs ++ w.rs.map swapP) (fun y => y = 0) x → PathTo (stp (psteps w)) (fun y => y ∈ [p]) x → PathTo (stp (psteps w)) (fun y => y ∈ [p]) 0 := fun x h => by
      induction h with
      | base h => subst h; exact id
      | step _ hm ih => exact fun hx => ih (.step hx (hpair _ _ hm).2)
    exact this p (W.conn p hp) (.base (by simp))
  intro x hx
  refine PathTo.closed (P := PathTo (stp (psteps w)) fun x => x ∈ [p]) (W.conn x hx) (fun y hy => by subst hy; exact h0) fun q hq h1 => .step h1 (hpair q.1 q.2 hq).1
theorem pway_some {gl : List Nat} (W : WOk w) (hp : p < w.n) (hg : gl ≠ []) (hgl : ∀ x ∈ gl, x < w.n) : ∃ l, sway w.n (psteps w) [p] gl = some l ∧ ∃ g ∈ gl, PChain w p l g ∧ (∀ k ∈ l, k < w.rs.length ∧ ((rope w k).1 ∉ gl ∨ (rope w k).2 ∉ gl)) ∧ l.length < w.n := by
  have hs : ∀ x ∈ [p], x < w.n := fun x hx => by rw [List.mem_singleton] at hx; subst hx; exact hp
  cases h : sway w.n (psteps w) [p] gl with
  | none =>
    obtain ⟨g, hgm⟩ := List.exists_mem_of_ne_nil gl hg
    exact absurd hgm (sway_none (by simp) hs (psteps_lt W) h g (psteps_conn W hp g (hgl g hgm)))
  | some l =>
    obtain ⟨g, hgm, vis, hw⟩ := sway_some (by simp) hs (psteps_lt W) h
    obtain ⟨h1, h2⟩ := pway_chain W hw
    exact ⟨l, rfl, g, hgm, h1, h2, hw.short hs (psteps_lt W)⟩
/-- two rides over one rope bring red and blue across -/
theorem pair2 (W : WOk w) (O : SOk w s) (hk : k < w.rs.length) (hx : carSt w s k c = x) (h1 : 0 < gAt s c x) (h2 : 0 < gAt s (!c) x) :
    Ok w s [(k, c), (k, !c)] ∧ SOk w (rideAll w s [(k, c), (k, !c)]) ∧ 0 < gAt (rideAll w s [(k, c), (k, !c)]) c (far (rope w k) x) ∧ 0 < gAt (rideAll w s [(k, c), (k, !c)]) (!c) (far (rope w k) x) ∧ ∀ k' c', carSt w (rideAll w s [(k, c), (k, !c)]) k' c' = carSt w s k' c' := by
  subst hx
  have hc1 : can w s (k, c) = true := can_iff.mpr h1
  have O1 := ride_ok W O hk hc1
  have e1 : carSt w (ride w s (k, c)) k (!c) = carSt w s k c := by rw [ride_carSt O hk, if_pos rfl, Bool.not_not]
  have e2 : carSt w (ride w s (k, c)) k (!!c) = carSt w s k (!c) := by rw [ride_carSt O hk, if_pos rfl, Bool.not_not]
  have hc2 : can w (ride w s (k, c)) (k, !c) = true := can_iff.mpr (by rw [e1, ride_other]; exact h2)
  have O2 := ride_ok W O1 hk hc2
  rw [far_car W O hk]
  refine ⟨⟨hk, hc1, hk, hc2, trivial⟩, O2, ?_, ?_, fun k' c' => ?_⟩
  · have := ride_other (w := w) (s := ride w s (k, c)) (k := k) (c := !c) (x := carSt w s k (!c))
    rw [Bool.not_not] at this
    show 0 < gAt (ride w (ride w s (k, c)) (k, !c)) c _
    rw [this]
    exact ride_there W O hk
  · have := ride_there W O1 hk (c := !c)
    rw [e2] at this
    exact this
  · show carSt w (ride w (ride w s (k, c)) (k, !c)) k' c' = _
    rw [ride_carSt O1 hk]
    by_cases h : k' = k
    · subst h
      rw [if_pos rfl, ride_carSt O hk, if_pos rfl, Bool.not_not]
    · rw [if_neg h, ride_carSt O hk, if_neg h]
theorem pstep_snd {a : List Ride × Nat} : (pstep w m0 a k).2 = far (rope w k) a.2 := rfl
theorem pairs_ok (W : WOk w) {m : Sd} : ∀ {ks : List Nat} {s : Sd} {p y : Nat} {rs0 : List Ride}, SOk w s → (∀ k c, carSt w s k c = carSt w m k c) → PChain w p ks y → 0 < gAt s true p → 0 < gAt s false p →
    (ks.foldl (pstep w m) (rs0, p)).2 = y ∧ ∃ ex, (ks.foldl (pstep w m) (rs0, p)).1 = rs0 ++ ex ∧ Ok w s ex ∧ ex.length = 2 * ks.length ∧ (∀ r ∈ ex, r.1 ∈ ks) ∧ SOk w (rideAll w s ex) ∧ (∀ k c, carSt w (rideAll w s ex) k c = carSt w m k c) ∧ 0 < gAt (rideAll w s ex) true y ∧ 0 < gAt (rideAll w s ex) false y := by
  intro ks
  induction ks with
  | nil =>
    intro s p y rs0 O hc h h1 h2
    cases h
    exact ⟨rfl, [], by simp, trivial, rfl, fun r hr => (by cases hr), O, hc, h1, h2⟩
  | cons k ks ih =>
    intro s p y rs0 O hc h h1 h2
    cases h with
    | cons hk he h =>
      have hcol : ∃ c, carSt w s k c = p ∧ pstep w m (rs0, p) k = (rs0 ++ [(k, c), (k, !c)], far (rope w k) p) := by
        by_cases hr : redSt w m k = p
        · refine ⟨true, (hc k true).trans hr, ?_⟩
          unfold pstep
          rw [if_pos hr]; rfl
        · refine ⟨false, ?_, ?_⟩
          · have hcl := car_le O (k := k)
            have hrs : redSt w s k ≠ p := fun z => hr ((hc k true).symm.trans z)
            unfold redSt pick at hrs
            show pick (rope w k) (1 - car s k) = p
            unfold pick
            have : car s k = 0 ∨ car s k = 1 := by omega
            rcases this with h0 | h0
            · rw [h0] at hrs ⊢
              rw [if_pos rfl] at hrs
              rw [if_neg (by decide)]
              exact he.resolve_left hrs
            · rw [h0] at hrs ⊢
              rw [if_neg (by decide)] at hrs
              rw [if_pos rfl]
              exact he.resolve_right hrs
          · unfold pstep
            rw [if_neg hr]; rfl
      obtain ⟨c, hcp, hps⟩ := hcol
      have hb : 0 < gAt s c p ∧ 0 < gAt s (!c) p := by cases c <;> exact ⟨by assumption, by assumption⟩
      obtain ⟨q1, q2, q3, q4, q5⟩ := pair2 W O hk hcp hb.1 hb.2
      have hb' : 0 < gAt (rideAll w s [(k, c), (k, !c)]) true (far (rope w k) p) ∧ 0 < gAt (rideAll w s [(k, c), (k, !c)]) false (far (rope w k) p) := by
        cases c
        · exact ⟨q4, q3⟩
        · exact ⟨q3, q4⟩
      obtain ⟨r1, ex, r2, r3, r4, r5, r6, r7, r8, r9⟩ := ih (rs0 := rs0 ++ [(k, c), (k, !c)]) q2 (fun k' c' => (q5 k' c').trans (hc k' c')) h hb'.1 hb'.2
      show (ks.foldl (pstep w m) (pstep w m (rs0, p) k)).2 = y ∧ ∃ ex, (ks.foldl (pstep w m) (pstep w m (rs0, p) k)).1 = _ ∧ _
      rw [hps]
      refine ⟨r1, [(k, c), (k, !c)] ++ ex, by rw [r2, List.append_assoc], Ok_append.mpr ⟨q1, r3⟩, by rw [List.length_append, r4]; simp; omega, fun r hr => ?_, ?_, ?_, ?_, ?_⟩
      · rw [List.mem_append] at hr
        rcases hr with hr | hr
        · simp at hr
          rcases hr with rfl | rfl <;> simp
        · simp [r5 r hr]
      · rw [rideAll_append]; exact r6
      · rw [rideAll_append]; exact r7
      · rw [rideAll_append]; exact r8
      · rw [rideAll_append]; exact r9
/-- the row of the pair -/
theorem pairRow_ok {gl : List Nat} (W : WOk w) (O : SOk w s) (hm : meets w s = true) (hg : gl ≠ []) (hgl : ∀ x ∈ gl, x < w.n) :
    ∃ ex, (pairRow w s gl).1 = mrow w s ++ ex ∧ (pairRow w s gl).2 ∈ gl ∧ Ok w s (pairRow w s gl).1 ∧ (pairRow w s gl).1.length + 3 ≤ 3 * w.n ∧ (∀ r ∈ ex, r.1 < w.rs.length ∧ ((rope w r.1).1 ∉ gl ∨ (rope w r.1).2 ∉ gl)) ∧
      (∀ k c, carSt w (rideAll w s (pairRow w s gl).1) k c = carSt w (rideAll w s (mrow w s)) k c) ∧ 0 < gAt (rideAll w s (pairRow w s gl).1) true (pairRow w s gl).2 ∧ 0 < gAt (rideAll w s (pairRow w s gl).1) false (pairRow w s gl).2 := by
  have M := met W O (meets_starts O hm)
  obtain ⟨l, hl, g, hgm, hc, hrng, hlen⟩ := pway_some W M.lt hg hgl
  have hpw : pway w s gl = l := by unfold pway; rw [hl]; rfl
  obtain ⟨r1, ex, r2, r3, r4, r5, r6, r7, r8, r9⟩ := pairs_ok W (m := rideAll w s (mrow w s)) (rs0 := mrow w s) M.sok (fun _ _ => rfl) hc M.red M.blu
  have hpr : pairRow w s gl = l.foldl (pstep w (rideAll w s (mrow w s))) (mrow w s, mplace w s) := by unfold pairRow; rw [hpw]
  rw [hpr, r1, r2]
  refine ⟨ex, rfl, hgm, Ok_append.mpr ⟨M.ok, r3⟩, ?_, fun r hr => hrng _ (r5 r hr), ?_, ?_, ?_⟩
  · have := M.len
    have hml : (mrow w s).length = (mropes w s).length := List.length_map _
    rw [List.length_append, r4, hml]
    omega
  · rw [rideAll_append]; exact r7
  · rw [rideAll_append]; exact r8
  · rw [rideAll_append]; exact r9
end
end TR
namespace TR
section
variable {w : Wd} {s s' : Sd} {k k' x y z p : Nat} {c c' : Bool} {ks : List Nat} {rs : List Ride}
open Classical in
theorem aliveS_iff : aliveS w s x = true ↔ meets w s = true ∨ To w s true x ∨ To w s false x := by
  unfold aliveS
  rw [Bool.or_eq_true, Bool.or_eq_true, decide_eq_true_iff, decide_eq_true_iff, BluTo_iff, RedTo_iff, or_assoc]
open Classical in
theorem aliveR_iff : aliveR w s k = true ↔ meets w s = true ∨ To w s true (carSt w s k true) ∨ To w s false (carSt w s k false) := by
  unfold aliveR
  rw [Bool.or_eq_true, Bool.or_eq_true, decide_eq_true_iff, decide_eq_true_iff, BluTo_iff, RedTo_iff, or_assoc]; rfl
theorem guests_pos (h : 0 < gAt s c x) : 0 < s.reds.getD x 0 + s.blues.getD x 0 := by
  cases c
  · exact Nat.lt_of_lt_of_le h (Nat.le_add_left _ _)
  · exact Nat.lt_of_lt_of_le h (Nat.le_add_right _ _)
theorem guests_to (h : 0 < s.reds.getD x 0 + s.blues.getD x 0) : To w s true x ∨ To w s false x := by
  by_cases h1 : 0 < s.reds.getD x 0
  · exact .inl (.base h1)
  · exact .inr (.base (show 0 < s.blues.getD x 0 by omega))
theorem chain_map_len {l : List Nat} : (l.map fun k => ((k, c) : Ride)).length = l.length := List.length_map _
theorem visit_ok (W : WOk w) (O : SOk w s) (hx : x < w.n) (h : visitF w s x = some rs) :
    Ok w s rs ∧ rs.length ≤ 3 * w.n ∧ (0 < s.reds.getD x 0 + s.blues.getD x 0 → rs = []) ∧ 0 < (rideAll w s rs).reds.getD x 0 + (rideAll w s rs).blues.getD x 0 := by
  have hlone : ∀ c r, lone w s c x = some r → Ok w s r ∧ r.length ≤ 3 * w.n ∧ 0 < (rideAll w s r).reds.getD x 0 + (rideAll w s r).blues.getD x 0 := fun c r h => by
    obtain ⟨l, x0, rfl, h1, h2, h3, _, h4⟩ := lone_some W O h
    obtain ⟨r1, _, r3, _, _⟩ := h2.ok W O h3 h1
    exact ⟨r1, by rw [chain_map_len]; omega, guests_pos r3⟩
  unfold visitF at h
  by_cases h0 : 0 < s.reds.getD x 0 + s.blues.getD x 0
  · rw [if_pos h0] at h
    injection h with h
    subst h
    exact ⟨trivial, Nat.zero_le _, fun _ => rfl, h0⟩
  · rw [if_neg h0] at h
    suffices hs : Ok w s rs ∧ rs.length ≤ 3 * w.n ∧ 0 < (rideAll w s rs).reds.getD x 0 + (rideAll w s rs).blues.getD x 0 from ⟨hs.1, hs.2.1, fun z => absurd z h0, hs.2.2⟩
    cases hr : lone w s true x with
    | some r =>
      rw [hr] at h
      injection h with h
      subst h
      exact hlone true r hr
    | none =>
      rw [hr] at h
      cases hb : lone w s false x with
      | some r =>
        rw [hb] at h
        injection h with h
        subst h
        exact hlone false r hb
      | none =>
        rw [hb] at h
        have h : (if meets w s then some (pairRow w s [x]).1 else none) = some rs := h
        cases hm : meets w s with
        | false => rw [hm] at h; cases h
        | true =>
          rw [hm, if_pos rfl] at h
          injection h with h
          subst h
          obtain ⟨ex, _, h2, h3, h4, _, _, h5, _⟩ := pairRow_ok (gl := [x]) W O hm (by simp) (fun y hy => by rw [List.mem_singleton] at hy; subst hy; exact hx)
          rw [List.mem_singleton] at h2
          rw [h2] at h5
          exact ⟨h3, by omega, guests_pos h5⟩
theorem visit_none (W : WOk w) (O : SOk w s) : visitF w s x = none ↔ aliveS w s x = false := by
  rw [← Bool.not_eq_true, aliveS_iff]
  unfold visitF
  by_cases h0 : 0 < s.reds.getD x 0 + s.blues.getD x 0
  · rw [if_pos h0]
    exact ⟨fun h => (by cases h), fun h => absurd (.inr (guests_to h0)) h⟩
  · rw [if_neg h0]
    cases hr : lone w s true x with
    | some r => exact ⟨fun h => (by cases h), fun h => absurd (.inr (.inl (lone_to W O hr))) h⟩
    | none =>
      cases hb : lone w s false x with
      | some r => exact ⟨fun h => (by cases h), fun h => absurd (.inr (.inr (lone_to W O hb))) h⟩
      | none =>
        show (if meets w s then some (pairRow w s [x]).1 else none) = none ↔ _
        cases hm : meets w s with
        | true => rw [if_pos rfl]; exact ⟨fun h => (by cases h), fun h => absurd (.inl rfl) h⟩
        | false =>
          rw [if_neg (by decide)]
          exact ⟨fun _ h => h.elim (fun z => by cases z) (fun h => h.elim (lone_none W O hr) (lone_none W O hb)), fun _ => rfl⟩
theorem ends_of_car (hk : k < w.rs.length) (O : SOk w s) : ((rope w k).1 = carSt w s k true ∧ (rope w k).2 = carSt w s k false) ∨ ((rope w k).1 = carSt w s k false ∧ (rope w k).2 = carSt w s k true) := by
  have hc := car_le O (k := k)
  show (_ = pick (rope w k) (car s k) ∧ _ = pick (rope w k) (1 - car s k)) ∨ (_ = pick (rope w k) (1 - car s k) ∧ _ = pick (rope w k) (car s k))
  have : car s k = 0 ∨ car s k = 1 := by omega
  rcases this with h | h
  · rw [h]; exact .inl ⟨rfl, rfl⟩
  · rw [h]; exact .inr ⟨rfl, rfl⟩
theorem run_ok (W : WOk w) (O : SOk w s) (hk : k < w.rs.length) (h : runF w s k = some rs) :
    ∃ rs' c, rs = rs' ++ [(k, c)] ∧ Ok w s rs ∧ rs.length ≤ 3 * w.n + 1 ∧ ∀ r ∈ rs', r.1 ≠ k := by
  have hlone : ∀ c r, lone w s c (carSt w s k c) = some r → ∃ rs' c', r ++ [(k, c)] = rs' ++ [(k, c')] ∧ Ok w s (r ++ [(k, c)]) ∧ (r ++ [(k, c)]).length ≤ 3 * w.n + 1 ∧ ∀ r ∈ rs', r.1 ≠ k := fun c r h => by
    obtain ⟨l, x0, rfl, h1, h2, h3, h4, h5⟩ := lone_some W O h
    obtain ⟨r1, r2, r3, _, r5⟩ := h2.ok W O h3 h1
    have hkl : k ∉ l := fun hm => h4 k hm rfl
    refine ⟨_, c, rfl, Ok_append.mpr ⟨r1, hk, can_iff.mpr ?_, trivial⟩, by rw [List.length_append, chain_map_len]; simp; omega, fun r hr z => ?_⟩
    · rw [r5 k hkl]; exact r3
    · obtain ⟨k', hk', rfl⟩ := List.mem_map.mp hr
      have z : k' = k := z
      exact hkl (z ▸ hk')
  unfold runF at h
  cases hr : lone w s true (redSt w s k) with
  | some r =>
    rw [hr] at h
    injection h with h
    subst h
    exact hlone true r hr
  | none =>
    rw [hr] at h
    cases hb : lone w s false (bluSt w s k) with
    | some r =>
      rw [hb] at h
      injection h with h
      subst h
      exact hlone false r hb
    | none =>
      rw [hb] at h
      have h : (if meets w s then some ((pairRow w s [redSt w s k, bluSt w s k]).1 ++ [(k, decide ((pairRow w s [redSt w s k, bluSt w s k]).2 = redSt w s k))]) else none) = some rs := h
      cases hm : meets w s with
      | false => rw [hm] at h; cases h
      | true =>
        rw [hm, if_pos rfl] at h
        injection h with h
        have hgl : ∀ y ∈ [redSt w s k, bluSt w s k], y < w.n := fun y hy => by
          simp at hy
          rcases hy with rfl | rfl
          · exact redSt_lt W hk
          · exact bluSt_lt W hk
        obtain ⟨ex, h1, h2, h3, h4, h5, h6, h7, h8⟩ := pairRow_ok (gl := [redSt w s k, bluSt w s k]) W O hm (by simp) hgl
        have M := met W O (meets_starts O hm)
        have hkm : k ∉ mropes w s := fun hz => lone_none W O hr (M.to k hz)
        have hno : ∀ r ∈ (pairRow w s [redSt w s k, bluSt w s k]).1, r.1 ≠ k := fun r hr z => by
          rw [h1, List.mem_append] at hr
          rcases hr with hr | hr
          · unfold mrow at hr
            obtain ⟨k', hk', rfl⟩ := List.mem_map.mp hr
            have z : k' = k := z
            exact hkm (z ▸ hk')
          · have := (h5 r hr).2
            rw [z] at this
            have hin : ∀ b, carSt w s k b ∈ [redSt w s k, bluSt w s k] := fun b => by
              cases b
              · show bluSt w s k ∈ _; simp
              · show redSt w s k ∈ _; simp
            rcases ends_of_car hk O with ⟨e1, e2⟩ | ⟨e1, e2⟩
            · rw [e1, e2] at this
              exact this.elim (fun z => z (hin _)) (fun z => z (hin _))
            · rw [e1, e2] at this
              exact this.elim (fun z => z (hin _)) (fun z => z (hin _))
        have hcar : ∀ c, carSt w (rideAll w s (pairRow w s [redSt w s k, bluSt w s k]).1) k c = carSt w s k c := fun c => (h6 k c).trans (M.cars k hkm c)
        subst h
        refine ⟨_, _, rfl, Ok_append.mpr ⟨h3, hk, can_iff.mpr ?_, trivial⟩, by rw [List.length_append]; simp; omega, hno⟩
        by_cases hp : (pairRow w s [redSt w s k, bluSt w s k]).2 = redSt w s k
        · rw [decide_eq_true hp, hcar true]
          rw [hp] at h7
          exact h7
        · rw [decide_eq_false hp, hcar false]
          have hp2 : (pairRow w s [redSt w s k, bluSt w s k]).2 = bluSt w s k := by
            rcases List.mem_cons.mp h2 with h | h
            · exact absurd h hp
            · exact List.mem_singleton.mp h
          show 0 < gAt _ false (bluSt w s k)
          rw [hp2] at h8; exact h8
theorem run_none (W : WOk w) (O : SOk w s) : runF w s k = none ↔ aliveR w s k = false := by
  rw [← Bool.not_eq_true, aliveR_iff]
  unfold runF
  cases hr : lone w s true (redSt w s k) with
  | some r => exact ⟨fun h => (by cases h), fun h => absurd (.inr (.inl (lone_to W O hr))) h⟩
  | none =>
    cases hb : lone w s false (bluSt w s k) with
    | some r => exact ⟨fun h => (by cases h), fun h => absurd (.inr (.inr (lone_to W O hb))) h⟩
    | none =>
      show (if meets w s then some _ else none) = none ↔ _
      cases hm : meets w s with
      | true => rw [if_pos rfl]; exact ⟨fun h => (by cases h), fun h => absurd (.inl rfl) h⟩
      | false =>
        rw [if_neg (by decide)]
        exact ⟨fun _ h => h.elim (fun z => by cases z) (fun h => h.elim (lone_none W O hr) (lone_none W O hb)), fun _ => rfl⟩
theorem To.ride_sub (W : WOk w) (O : SOk w s) (hk : k < w.rs.length) (hc : can w s (k, c) = true) (hm : ∀ x, ¬ (To w s true x ∧ To w s false x)) : ∀ c' x, To w (ride w s (k, c)) c' x → To w s c' x := by
  have hc0 := can_iff.mp hc
  have hat : To w s c (carSt w s k c) := .base hc0
  have hto := hat.next hk
  intro c' x h
  refine PathTo.closed (P := To w s c') h (fun y hy => ?_) fun q hq h1 => ?_
  · by_cases hcc : c' = c
    · subst hcc
      unfold gAt at hy
      rw [ride_gs W O hk, shift_at (by rw [gs_len O]; exact carSt_lt W hk) (by rw [gs_len O]; exact carSt_lt W hk) (car_ne W O hk)] at hy
      by_cases h1 : y = carSt w s k c'
      · rw [h1]; exact hat
      · rw [if_neg h1] at hy
        by_cases h2 : y = carSt w s k (!c')
        · rw [h2]; exact hto
        · rw [if_neg h2] at hy
          exact .base hy
    · have : c' = !c := by cases c <;> cases c' <;> simp at hcc ⊢
      subst this
      exact .base (by rw [ride_other] at hy; exact hy)
  · obtain ⟨k', hk', rfl⟩ := mem_cArr.mp hq
    have h1 : To w s c' (carSt w (ride w s (k, c)) k' c') := h1
    show To w s c' (carSt w (ride w s (k, c)) k' (!c'))
    rw [ride_carSt O hk] at h1 ⊢
    by_cases hkk : k' = k
    · subst hkk
      rw [if_pos rfl] at h1 ⊢
      rw [Bool.not_not]
      by_cases hcc : c' = c
      · subst hcc; exact hat
      · have : c' = !c := by cases c <;> cases c' <;> simp at hcc ⊢
        subst this
        rw [Bool.not_not] at h1
        refine absurd ?_ (hm (carSt w s k' c))
        cases c
        · exact ⟨h1, hat⟩
        · exact ⟨hat, h1⟩
    · rw [if_neg hkk] at h1 ⊢
      exact h1.next hk'
theorem meets_not (O : SOk w s) (h : ¬ meets w s = true) : ∀ x, ¬ (To w s true x ∧ To w s false x) := fun x hx => h ((meets_both O).mpr ⟨x, hx.1, BluTo_iff.mpr hx.2⟩)
theorem aliveS_ride (W : WOk w) (O : SOk w s) (hk : k < w.rs.length) (hc : can w s (k, c) = true) (h : aliveS w (ride w s (k, c)) x = true) : aliveS w s x = true := by
  have O' := ride_ok W O hk hc
  rw [aliveS_iff] at h ⊢
  by_cases hm : meets w s = true
  · exact .inl hm
  · have hn := meets_not O hm
    have hs := To.ride_sub W O hk hc hn
    rcases h with h | h | h
    · obtain ⟨y, h1, h2⟩ := (meets_both O').mp h
      exact absurd ⟨hs true y h1, hs false y (BluTo_iff.mp h2)⟩ (hn y)
    · exact .inr (.inl (hs true x h))
    · exact .inr (.inr (hs false x h))
theorem aliveR_can (hc : can w s (k, c) = true) : aliveR w s k = true := by
  have hc0 := can_iff.mp hc
  rw [aliveR_iff]
  cases c
  · exact .inr (.inr (.base hc0))
  · exact .inr (.inl (.base hc0))
theorem aliveR_ride (W : WOk w) (O : SOk w s) (hk : k < w.rs.length) (hc : can w s (k, c) = true) (h : aliveR w (ride w s (k, c)) k' = true) : aliveR w s k' = true := by
  have O' := ride_ok W O hk hc
  by_cases hkk : k' = k
  · subst hkk; exact aliveR_can hc
  rw [aliveR_iff] at h ⊢
  rw [ride_carSt O hk, ride_carSt O hk, if_neg hkk, if_neg hkk] at h
  by_cases hm : meets w s = true
  · exact .inl hm
  · have hn := meets_not O hm
    have hs := To.ride_sub W O hk hc hn
    rcases h with h | h | h
    · obtain ⟨y, h1, h2⟩ := (meets_both O').mp h
      exact absurd ⟨hs true y h1, hs false y (BluTo_iff.mp h2)⟩ (hn y)
    · exact .inr (.inl (hs true _ h))
    · exact .inr (.inr (hs false _ h))
theorem aliveS_rides (W : WOk w) : ∀ {rs : List Ride} {s : Sd}, SOk w s → Ok w s rs → aliveS w (rideAll w s rs) x = true → aliveS w s x = true := by
  intro rs
  induction rs with
  | nil => exact fun _ _ h => h
  | cons r rs ih => exact fun O o h => aliveS_ride W O o.1 o.2.1 (ih (ride_ok W O o.1 o.2.1) o.2.2 h)
theorem aliveR_rides (W : WOk w) : ∀ {rs : List Ride} {s : Sd}, SOk w s → Ok w s rs → aliveR w (rideAll w s rs) k = true → aliveR w s k = true := by
  intro rs
  induction rs with
  | nil => exact fun _ _ h => h
  | cons r rs ih => exact fun O o h => aliveR_ride W O o.1 o.2.1 (ih (ride_ok W O o.1 o.2.1) o.2.2 h)
theorem Found.all {fs : List Sd} (F : Found w s fs) : ∀ {rs : List Ride} {t : Sd}, t ∈ fs → Ok w t rs → rideAll w t rs ∈ fs := by
  intro rs
  induction rs with
  | nil => exact fun h _ => h
  | cons r rs ih => exact fun h o => ih (F.next _ h r.1 r.2 o.1 o.2.1) o.2.2
theorem found_S {fs : List Sd} (W : WOk w) (O : SOk w s) (F : Found w s fs) (hx : x < w.n) : aliveS w s x = true ↔ ∃ t ∈ fs, 0 < t.reds.getD x 0 + t.blues.getD x 0 := by
  constructor
  · intro h
    cases hv : visitF w s x with
    | none => rw [visit_none W O] at hv; rw [h] at hv; cases hv
    | some rs =>
      obtain ⟨h1, _, _, h2⟩ := visit_ok W O hx hv
      exact ⟨_, F.all F.here h1, h2⟩
  · rintro ⟨t, ht, h⟩
    obtain ⟨rs, h1, rfl⟩ := F.way t ht
    exact aliveS_rides W O h1 (aliveS_iff.mpr (.inr (guests_to h)))
theorem found_R {fs : List Sd} (W : WOk w) (O : SOk w s) (F : Found w s fs) (hk : k < w.rs.length) : aliveR w s k = true ↔ ∃ t ∈ fs, ∃ c, can w t (k, c) = true := by
  constructor
  · intro h
    cases hv : runF w s k with
    | none => rw [run_none W O] at hv; rw [h] at hv; cases hv
    | some rs =>
      obtain ⟨rs', c, rfl, h1, _, _⟩ := run_ok W O hk hv
      rw [Ok_append] at h1
      exact ⟨_, F.all F.here h1.1, c, h1.2.2.1⟩
  · rintro ⟨t, ht, c, h⟩
    obtain ⟨rs, h1, rfl⟩ := F.way t ht
    exact aliveR_rides W O h1 (aliveR_can h)
end
end TR
namespace TR
open PySem L2 PyProof.Rows
open Evl (Ex EvT fresh_back)
local macro_rules | `(tactic| walk_at "h") => `(tactic| first
  | assumption
  | (refine Ex.at (by assumption) ?_; walk_at "h")
  | (refine Kp.at (by assumption) ?_; walk_at "h")
  | (refine Fz.mono (Kp.ex (by assumption)) ?_; walk_at "h")
  | (refine Fz.mono (by assumption) ?_; walk_at "h")
  | (refine FzL.mono (Kp.ex (by assumption)) ?_; walk_at "h")
  | (refine FzL.mono (by assumption) ?_; walk_at "h")
  | (refine NetAt.mono (Kp.ex (by assumption)) ?_; walk_at "h")
  | (refine NetAt.mono (by assumption) ?_; walk_at "h")
  | (refine StaA.mono (Kp.ex (by assumption)) ?_; walk_at "h")
  | (refine StaA.mono (by assumption) ?_; walk_at "h")
  | (refine Sta.mono (Kp.ex (by assumption)) ?_; walk_at "h")
  | (refine Sta.mono (by assumption) ?_; walk_at "h")
  | (refine Lst.mono (by assumption) ?_; walk_at "h")
  | (refine Seq.mono (by assumption) ?_; walk_at "h"))
local macro_rules | `(tactic| walk_at "fz") => `(tactic| first
  | exact Fz.int _ | exact Fz.bl _ | exact Fz.str _ | exact Fz.non
  | walk_at "h"
  | exact Fz.adr _)
local macro_rules | `(tactic| walk_at "ix") => `(tactic| first
  | exact rfl
  | (refine atI_nat ?_; first | assumption | rfl | (simp; done)))
local macro_rules | `(tactic| walk_at "ev") => `(tactic| first
  | exact evd_int | exact evd_str | exact evd_bl | exact evd_non
  | (refine evd_var rfl ?_; walk_at "fz")
  | (refine evd_stations ?_ ?_; (walk_at "h"); (walk_at "ev"))
  | (refine evd_ropes ?_ ?_; (walk_at "h"); (walk_at "ev"))
  | (refine evd_net ?_ ?_; (walk_at "h"); (walk_at "ev"))
  | (refine evd_reds ?_ ?_; (walk_at "h"); (walk_at "ev"))
  | (refine evd_blues ?_ ?_; (walk_at "h"); (walk_at "ev"))
  | (refine evd_cars ?_ ?_; (walk_at "h"); (walk_at "ev"))
  | (refine evd_add ?_ ?_; (walk_at "ev"); (walk_at "ev"))
  | (refine evd_sub ?_ ?_; (walk_at "ev"); (walk_at "ev"))
  | (refine evd_lt ?_ ?_; (walk_at "ev"); (walk_at "ev"))
  | (refine evd_le ?_ ?_; (walk_at "ev"); (walk_at "ev"))
  | (refine evd_gt ?_ ?_; (walk_at "ev"); (walk_at "ev"))
  | (refine evd_ge ?_ ?_; (walk_at "ev"); (walk_at "ev"))
  | (refine evd_neg ?_; (walk_at "ev"))
  | (refine evd_eqI ?_ ?_; (walk_at "ev"); (walk_at "ev"))
  | (refine evd_neI ?_ ?_; (walk_at "ev"); (walk_at "ev"))
  | (refine evd_eqS ?_ ?_; (walk_at "ev"); (walk_at "ev"))
  | (refine evd_eqB ?_ ?_; (walk_at "ev"); (walk_at "ev"))
  | (refine evd_neB ?_ ?_; (walk_at "ev"); (walk_at "ev"))
  | (refine evd_isN ?_ ?_; (walk_at "ev"); exact rfl)
  | (refine evd_notN ?_ ?_; (walk_at "ev"); exact rfl)
  | (refine evd_ixT ?_ ?_ ?_; (walk_at "ev"); (walk_at "ev"); (walk_at "ix"))
  | (refine evd_ixL ?_ ?_ ?_ ?_ ?_; (walk_at "ev"); (walk_at "h"); (walk_at "h"); (walk_at "ev"); (walk_at "ix"))
  | (refine evd_tup ?_ ?_; (walk_at "evs"); exact Nat.le_of_ble_eq_true rfl)
  | (refine evd_lenD ?_; walk_at "ev")
  | (refine evd_lenL ?_ ?_; (walk_at "ev"); (walk_at "h"))
  | (refine evd_intI ?_; walk_at "ev")
  | (refine evd_intB ?_; walk_at "ev")
  | (refine evd_notV ?_; walk_at "ev"))
local macro_rules | `(tactic| walk_at "evs") => `(tactic| first
  | exact evds_nil
  | (refine evds_cons ?_ ?_; (walk_at "ev"); (walk_at "evs")))
local macro_rules | `(tactic| walk_at "et") => `(tactic| first
  | (refine et_test ?_; walk_at "ev")
  | (refine et_B ?_; walk_at "ev")
  | (refine et_tru ?_ ?_; (walk_at "ev"); (walk_at "h"))
  | (refine Evl.et_not ?_; walk_at "et")
  | (refine et_chain2 ?_ ?_ ?_; (walk_at "ev"); (walk_at "ev"); (walk_at "ev")))
section
variable {K : PySem.W.Frag} {mg : Str → Option Value} {σ : L2.St} {H : Hp} {te ta tb tv tx : TE} {tr : TA} {ds es : List D} {d d1 d2 : D} {E : Ends} {tz : TS}
theorem callDDN {sp : Sp} {X : XK} {Q : VK} (h1 : EvD ta σ H d1) (h2 : EvD tb σ H d2) (h3 : EvN te σ H es) (f1 : d1.flat = true) (f2 : d2.flat = true)
    (k : ∀ p vs H1, H p = none → Ex H H1 → H1 p = some (.lst vs) → FzL H1 vs es → sp [d1.v, d2.v, .ref p] H1 Q X) : tCall sp [] X (tCons ta (tCons tb (tCons te tNil))) σ H Q :=
  h1 H (Ex.refl _) _ fun v1 H1 e1 g1 => h2 H1 e1 _ fun v2 H2 e2 g2 => h3 H2 (e1.trans e2) _ fun p vs H3 hp e3 h f => by
    show sp ([v1, v2, .ref p] ++ []) H3 Q X
    rw [List.append_nil, g1.flat_of f1, g2.flat_of f2]
    exact k p vs H3 (fresh_back (e1.trans e2) hp) ((e1.trans e2).trans e3) h f
theorem callDND {sp : Sp} {X : XK} {Q : VK} (h1 : EvD ta σ H d1) (h3 : EvN te σ H es) (h2 : EvD tb σ H d2) (f1 : d1.flat = true) (f2 : d2.flat = true)
    (k : ∀ p vs H1, H p = none → Ex H H1 → H1 p = some (.lst vs) → FzL H1 vs es → sp [d1.v, .ref p, d2.v] H1 Q X) : tCall sp [] X (tCons ta (tCons te (tCons tb tNil))) σ H Q :=
  h1 H (Ex.refl _) _ fun v1 H1 e1 g1 => h3 H1 e1 _ fun p vs H2 hp e2 h f => h2 H2 (e1.trans e2) _ fun v2 H3 e3 g2 => by
    show sp ([v1, .ref p, v2] ++ []) H3 Q X
    rw [List.append_nil, g1.flat_of f1, g2.flat_of f2]
    exact k p vs H3 (fresh_back e1 hp) ((e1.trans e2).trans e3) (e3 _ _ h) (f.mono (Kp.ex e3))
theorem dec_ref {r : Addr} : decide ((D.adr r).v = V.non) = false := decide_eq_false (fun h => by cases h)
theorem map_getD {α : Type} {f : Nat → α} {n i : Nat} {d : α} (h : i < n) : ((List.range n).map f).getD i d = f i := getD_of (by rw [List.getElem?_map, List.getElem?_range h]; rfl)
theorem lsteps_succ {w : Wd} {s : Sd} {c : Bool} {i : Nat} : ((List.range (i + 1)).map fun k => ((k, carSt w s k c, carSt w s k (!c)) : Stp)) = ((List.range i).map fun k => (k, carSt w s k c, carSt w s k (!c))) ++ [(i, carSt w s i c, carSt w s i (!c))] := by
  rw [List.range_succ, List.map_append]; rfl
theorem pure_lone_row (T : Txt K mg) (vs : List V) (H : Hp) (Q : VK) (E : XK) (h : sp_lone_row T vs H Q E) : Goes (t_lone_row T) N_lone_row vs H Q := by
  obtain ⟨a, w, s, c, x, rfl, ⟨an, S⟩, k0, k1⟩ := h
  have W := S.nt.ok
  have O := S.ok
  have hm40 := W.m40
  refine q_asgN (evn_lst evds_nil (Nat.le_of_ble_eq_true rfl)) fun ps xs H1 hps e1 h1 f1 => ?_
  cases f1
  have S1 := S.mono (Kp.ex e1)
  refine q_forI (i_enN (evn_arrows_of ⟨an, S1⟩ (evd_var rfl (.adr a))) fun J p us H2 hp e2 h2 f2 S2 => ?_)
  have hus : us.length = w.rs.length := by rw [f2.len, List.length_map, arrows_len]
  refine q_for S2 (fun i σ' H' => ∃ y z u vs', σ' = [some (.ref a), some (.str (colS c)), some (vn x), some (.ref ps), y, z, u, none, none, none, none] ∧ Ex H H' ∧ H' p = some (.lst us) ∧ Kp H2 H' ∧ H' ps = some (.lst vs') ∧ FzL H' vs' (((List.range i).map fun k => (k, carSt w s k c, carSt w s k (!c))).map dStp))
    ⟨none, none, none, [], rfl, e1.trans e2, h2, Kp.refl _, e2 _ _ h1, .nil⟩ (fun i σ' H' _ ⟨_, _, _, _, _, _, e, _⟩ => e) ?_ ?_
  · rintro i v σ' H3 H4 hi ⟨y, z, u, vs', rfl, e3, h3p, k3, h3, f3⟩ e4 ⟨t, y', rfl, ht, hy⟩
    obtain ⟨dd, hd, fd⟩ := f2.getV hy
    obtain ⟨r, hr, rfl⟩ := map_get hd
    have hr' : r = (redSt w s i, bluSt w s i) := by
      unfold arrows at hr
      rw [List.getElem?_map, List.getElem?_range (by omega)] at hr
      injection hr with hr
      exact hr.symm
    subst hr'
    obtain ⟨v1, v2, v3, f1, f2', f3', hgo⟩ := tg_12 (K := K) (i := 4) (j := 5) (k := 6) (d1 := dn i) (.tup ht (.cons (.int _) (.cons (fd.mono (k3.trans (Kp.ex e4))) .nil)))
    obtain rfl := f1.int_of
    obtain rfl := f2'.int_of
    obtain rfl := f3'.int_of
    refine hgo _ _ ?_
    have hlen : vs'.length = i := by rw [f3.len, List.length_map, List.length_map, List.length_range]
    have hpn : p ≠ ps := fun z => by subst z; rw [e1.trans (Ex.refl _) |> fun _ => h1] at hp; cases hp
    have fin : ∀ (H5 : Hp) (v : V), Ex H4 H5 → Fz H5 v (dStp (i, carSt w s i c, carSt w s i (!c))) → ∀ (y z u : Option V), (fun i σ' H' => ∃ y z u vs', σ' = [some (.ref a), some (.str (colS c)), some (vn x), some (.ref ps), y, z, u, none, none, none, none] ∧ Ex H H' ∧ H' p = some (.lst us) ∧ Kp H2 H' ∧ H' ps = some (.lst vs') ∧ FzL H' vs' (((List.range i).map fun k => (k, carSt w s k c, carSt w s k (!c))).map dStp)) (i + 1) [some (.ref a), some (.str (colS c)), some (vn x), some (.ref ps), y, z, u, none, none, none, none] (upd H5 ps (.lst (vs' ++ [v]))) := fun H5 v e5 fv y z u => by
      have h5 := e5 _ _ (e4 _ _ h3)
      have kk : Kp H5 (upd H5 ps (.lst (vs' ++ [v]))) := Kp.set h5
      refine ⟨y, z, u, vs' ++ [v], rfl, Ex.set ((e3.trans e4).trans e5) hps, (upd_ne hpn).trans (e5 _ _ (e4 _ _ h3p)), (k3.trans (Kp.ex (e4.trans e5))).trans kk, upd_same, ?_⟩
      rw [lsteps_succ, List.map_append]
      exact (f3.mono ((Kp.ex (e4.trans e5)).trans kk)).snoc (fv.mono kk)
    refine s_if (et_test (evd_eqS (evd_var rfl (.str _)) evd_str)) (fun hb H5 e5 => ?_) fun hb H5 e5 => ?_
    · rw [colS_red] at hb
      subst hb
      refine s_app (e5 _ _ (e4 _ _ h3)) (evd_var rfl (.adr ps)) (evd_tup (evds_cons (evd_var rfl (.int (i : Int))) (evds_cons (evd_var rfl (.int (redSt w s i : Int))) (evds_cons (evd_var rfl (.int (bluSt w s i : Int))) evds_nil))) (Nat.le_of_ble_eq_true rfl)) (by omega) fun v H6 e6 f6 => fin H6 v (e5.trans e6) f6 _ _ _
    · rw [colS_red] at hb
      subst hb
      refine s_app (e5 _ _ (e4 _ _ h3)) (evd_var rfl (.adr ps)) (evd_tup (evds_cons (evd_var rfl (.int (i : Int))) (evds_cons (evd_var rfl (.int (bluSt w s i : Int))) (evds_cons (evd_var rfl (.int (redSt w s i : Int))) evds_nil))) (Nat.le_of_ble_eq_true rfl)) (by omega) fun v H6 e6 f6 => fin H6 v (e5.trans e6) f6 _ _ _
  rintro σ' H3 ⟨y, z, u, vs', rfl, e3, h3p, k3, h3, f3⟩
  rw [hus] at f3
  have S3 := S.mono (Kp.ex e3)
  refine q_asgN (evn_starts (n := w.n) (evd_guests_of ⟨an, S3⟩ (evd_var rfl (.adr a)) (evd_var rfl (.str _))) (gs_len O) W.n24 (Nat.le_of_ble_eq_true rfl) (Nat.le_of_ble_eq_true rfl) (by decide) (fun u v => rfl) rfl) fun q xs H4 hq e4 h4 f4 => ?_
  have hpre : ∀ (r : Addr) (ws : List V) (H5 : Hp) (Q : VK), Ex H4 H5 → H5 r = some (.lst ws) → FzL H5 ws [dn x] → (lone w s c x = none → RetD .non H5 Q) → (∀ l, sway w.n (lsteps w s c) (lstarts w s c) [x] = some l → RetN (l.map dn) H5 Q) → sp_shortest_way T [.ref ps, .ref q, .ref r] H5 Q E0 := fun r ws H5 Q e5 h5 f5 g0 g1 =>
    ⟨ps, q, r, w.n, lsteps w s c, lstarts w s c, [x], rfl, ⟨vs', e5 _ _ (e4 _ _ h3), f3.mono (Kp.ex (e4.trans e5))⟩, ⟨xs, e5 _ _ h4, f4.mono (Kp.ex e5)⟩, ⟨ws, h5, f5⟩, lstarts_nodup, lstarts_lt, lsteps_lt W, W.n24, by unfold lsteps; rw [List.length_map, List.length_range]; omega, fun hn => g0 (by unfold lone; rw [hn]; rfl), g1⟩
  refine callDDN (evd_var rfl (.adr ps)) (evd_var rfl (.adr q)) (evn_lst (evds_cons (evd_var rfl (.int (x : Int))) evds_nil) (Nat.le_of_ble_eq_true rfl)) rfl rfl fun r ws H5 hr e5 h5 f5 => hpre r ws H5 _ e5 h5 f5 ?_ ?_
  · rintro hn v H6 e6 f6
    obtain rfl := f6.non_of
    refine q_if (b := true) (et_test (evd_isN (d := .non) (evd_var rfl .non) rfl)) (fun _ H7 e7 => ?_) (fun z => by cases z)
    exact s_ret evd_non fun v H8 e8 f8 => k0 hn v H8 (((((e3.trans e4).trans e5).trans e6).trans e7).trans e8) f8
  · rintro l hl r' ys H6 hr' e6 h6 f6
    have hlone : lone w s c x = some (l.map fun k => (k, c)) := by unfold lone; rw [hl]; rfl
    have hll : l.length + 1 ≤ w.n := sway_len lstarts_nodup lstarts_lt (lsteps_lt W) hl
    refine q_if (b := false) (Evl.et_is (et_test (evd_isN (d := .adr r') (evd_var rfl (.adr _)) rfl)) dec_ref) (fun z => by cases z) (fun _ H7 e7 => ?_)
    have e07 := (((e3.trans e4).trans e5).trans e6).trans e7
    refine s_retN (EvN.eq (evn_lc (fun _ => true) (fun i => dRide (l.getD i 0, c)) (evi_seqL (evd_var rfl (.adr r')) ⟨ys, e7 _ _ h6, f6.mono (Kp.ex e7)⟩) (by rw [List.length_map]; have := W.n24; omega) fun i v H8 hi e8 f => ?_) (filt_all.trans ?_)) fun t zs H8 ht e8 h8 f8 => k1 _ hlone t zs H8 (fresh_back e07 ht) (e07.trans e8) h8 f8
    · rw [List.length_map] at hi
      rw [getD_dn hi] at f
      obtain rfl := f.int_of
      exact ⟨_, fun Q' q => q, rfl, fun H2 e2 Q q => q H2 (Ex.refl _), fun _ => evd_tup (evds_cons (evd_var rfl (.int _)) (evds_cons (evd_var rfl (.str _)) evds_nil)) (Nat.le_of_ble_eq_true rfl)⟩
    · rw [List.length_map, List.map_map]
      exact range_map (d := 0) rfl fun i hi => rfl
end
end TR
namespace TR
open PySem L2 PyProof.Rows
open Evl (Ex EvT fresh_back)
local macro_rules | `(tactic| walk_at "h") => `(tactic| first
  | assumption
  | (refine Ex.at (by assumption) ?_; walk_at "h")
  | (refine Kp.at (by assumption) ?_; walk_at "h")
  | (refine Fz.mono (Kp.ex (by assumption)) ?_; walk_at "h")
  | (refine Fz.mono (by assumption) ?_; walk_at "h")
  | (refine FzL.mono (Kp.ex (by assumption)) ?_; walk_at "h")
  | (refine FzL.mono (by assumption) ?_; walk_at "h")
  | (refine NetAt.mono (Kp.ex (by assumption)) ?_; walk_at "h")
  | (refine NetAt.mono (by assumption) ?_; walk_at "h")
  | (refine StaA.mono (Kp.ex (by assumption)) ?_; walk_at "h")
  | (refine StaA.mono (by assumption) ?_; walk_at "h")
  | (refine Sta.mono (Kp.ex (by assumption)) ?_; walk_at "h")
  | (refine Sta.mono (by assumption) ?_; walk_at "h")
  | (refine Lst.mono (by assumption) ?_; walk_at "h")
  | (refine Seq.mono (by assumption) ?_; walk_at "h"))
local macro_rules | `(tactic| walk_at "fz") => `(tactic| first
  | exact Fz.int _ | exact Fz.bl _ | exact Fz.str _ | exact Fz.non
  | walk_at "h"
  | exact Fz.adr _)
local macro_rules | `(tactic| walk_at "ix") => `(tactic| first
  | exact rfl
  | (refine atI_nat ?_; first | assumption | rfl | (simp; done)))
local macro_rules | `(tactic| walk_at "ev") => `(tactic| first
  | exact evd_int | exact evd_str | exact evd_bl | exact evd_non
  | (refine evd_var rfl ?_; walk_at "fz")
  | (refine evd_stations ?_ ?_; (walk_at "h"); (walk_at "ev"))
  | (refine evd_ropes ?_ ?_; (walk_at "h"); (walk_at "ev"))
  | (refine evd_net ?_ ?_; (walk_at "h"); (walk_at "ev"))
  | (refine evd_reds ?_ ?_; (walk_at "h"); (walk_at "ev"))
  | (refine evd_blues ?_ ?_; (walk_at "h"); (walk_at "ev"))
  | (refine evd_cars ?_ ?_; (walk_at "h"); (walk_at "ev"))
  | (refine evd_add ?_ ?_; (walk_at "ev"); (walk_at "ev"))
  | (refine evd_sub ?_ ?_; (walk_at "ev"); (walk_at "ev"))
  | (refine evd_lt ?_ ?_; (walk_at "ev"); (walk_at "ev"))
  | (refine evd_le ?_ ?_; (walk_at "ev"); (walk_at "ev"))
  | (refine evd_gt ?_ ?_; (walk_at "ev"); (walk_at "ev"))
  | (refine evd_ge ?_ ?_; (walk_at "ev"); (walk_at "ev"))
  | (refine evd_neg ?_; (walk_at "ev"))
  | (refine evd_eqI ?_ ?_; (walk_at "ev"); (walk_at "ev"))
  | (refine evd_neI ?_ ?_; (walk_at "ev"); (walk_at "ev"))
  | (refine evd_eqS ?_ ?_; (walk_at "ev"); (walk_at "ev"))
  | (refine evd_eqB ?_ ?_; (walk_at "ev"); (walk_at "ev"))
  | (refine evd_neB ?_ ?_; (walk_at "ev"); (walk_at "ev"))
  | (refine evd_isN ?_ ?_; (walk_at "ev"); exact rfl)
  | (refine evd_notN ?_ ?_; (walk_at "ev"); exact rfl)
  | (refine evd_ixT ?_ ?_ ?_; (walk_at "ev"); (walk_at "ev"); (walk_at "ix"))
  | (refine evd_ixL ?_ ?_ ?_ ?_ ?_; (walk_at "ev"); (walk_at "h"); (walk_at "h"); (walk_at "ev"); (walk_at "ix"))
  | (refine evd_tup ?_ ?_; (walk_at "evs"); exact Nat.le_of_ble_eq_true rfl)
  | (refine evd_lenD ?_; walk_at "ev")
  | (refine evd_lenL ?_ ?_; (walk_at "ev"); (walk_at "h"))
  | (refine evd_intI ?_; walk_at "ev")
  | (refine evd_intB ?_; walk_at "ev")
  | (refine evd_notV ?_; walk_at "ev"))
local macro_rules | `(tactic| walk_at "evs") => `(tactic| first
  | exact evds_nil
  | (refine evds_cons ?_ ?_; (walk_at "ev"); (walk_at "evs")))
local macro_rules | `(tactic| walk_at "et") => `(tactic| first
  | (refine et_test ?_; walk_at "ev")
  | (refine et_B ?_; walk_at "ev")
  | (refine et_tru ?_ ?_; (walk_at "ev"); (walk_at "h"))
  | (refine Evl.et_not ?_; walk_at "et")
  | (refine et_chain2 ?_ ?_ ?_; (walk_at "ev"); (walk_at "ev"); (walk_at "ev")))
section
variable {K : PySem.W.Frag} {mg : Str → Option Value} {σ : L2.St} {H : Hp} {te ta tb tv tx : TE} {tr : TA} {ds es fs : List D} {d d1 d2 : D} {E : Ends} {tz : TS}
theorem evn_callDND {sp : Sp} {X : XK} (h1 : EvD ta σ H d1) (h3 : EvN te σ H es) (h2 : EvD tb σ H d2) (f1 : d1.flat = true) (f2 : d2.flat = true)
    (k : ∀ p vs H1, Ex H H1 → H1 p = some (.lst vs) → FzL H1 vs es → ∀ Q : VK, RetN fs H1 Q → sp [d1.v, .ref p, d2.v] H1 Q X) : EvN (tCall sp [] X (tCons ta (tCons te (tCons tb tNil)))) σ H fs := fun H0 e0 Q q =>
  callDND (h1.mono e0) (fun H1 a Q k => h3 H1 (e0.trans a) Q k) (h2.mono e0) f1 f2 fun p vs H1 hp e h f => k p vs H1 (e0.trans e) h f Q fun r us H2 hr e2 hh ff => q r us H2 (fresh_back e hr) (e.trans e2) hh ff
theorem psteps_eq {w : Wd} : psteps w = (List.range w.rs.length).flatMap fun k => [(k, (rope w k).1, (rope w k).2), (k, (rope w k).2, (rope w k).1)] := rfl
theorem flat2_len {α : Type} {f : Nat → List α} (h : ∀ k, (f k).length = 2) : ∀ n, ((List.range n).flatMap f).length = 2 * n
  | 0 => rfl
  | n + 1 => by
    rw [List.range_succ, List.flatMap_append, List.length_append, flat2_len h n, List.flatMap_singleton, h]; omega
theorem psteps_len {w : Wd} : (psteps w).length = 2 * w.rs.length := flat2_len (fun _ => rfl) _
theorem foldl_take' {α β : Type} {f : β → α → β} {b : β} {l : List α} {i : Nat} {x : α} (h : l[i]? = some x) : (l.take (i + 1)).foldl f b = f ((l.take i).foldl f b) x := foldl_take h
theorem pure_pair_row (T : Txt K mg) (vs : List V) (H : Hp) (Q : VK) (E : XK) (h : sp_pair_row T vs H Q E) : Goes (t_pair_row T) N_pair_row vs H Q := by
  obtain ⟨a, w, s, g, gl, rfl, ⟨an, S⟩, ⟨gv, hg, fg⟩, hgn, hgl, hm, k⟩ := h
  obtain rfl := fg.nats_of
  have W := S.nt.ok
  have O := S.ok
  have hm40 := W.m40
  have hn24 := W.n24
  have hms := meets_starts O hm
  have M := met W O hms
  obtain ⟨l, hl, g0, hg0, hpc, hlr, hll⟩ := pway_some W M.lt hgn hgl
  have hpw : pway w s gl = l := by unfold pway; rw [hl]; rfl
  have hpr : pairRow w s gl = l.foldl (pstep w (rideAll w s (mrow w s))) (mrow w s, mplace w s) := by unfold pairRow; rw [hpw]
  refine q_asg (evd_net S (evd_var rfl (.adr a))) fun v H1 e1 f1 => ?_
  obtain rfl := f1.adr_of
  refine callF (evds_cons (evd_var rfl (.adr a)) evds_nil) rfl fun H2 e2 => ⟨a, w, s, rfl, ⟨an, S.mono (Kp.ex (e1.trans e2))⟩, fun z => absurd z hms, fun _ t q H3 hq e3 ht hq3 => ?_⟩
  have e03 := (e1.trans e2).trans e3
  have hqH : H q = none := fresh_back (e1.trans e2) hq
  obtain ⟨v1, v2, f1, f2, hgo⟩ := tg_2 (K := K) (i := 3) (j := 4) (v := .ref t) (d1 := dn (mstart w s)) (d2 := .adr q) (.tup ht (.cons (.int _) (.cons (.adr _) .nil)))
  obtain rfl := f1.int_of
  obtain rfl := f2.adr_of
  refine hgo _ _ ?_
  have hml : (mropes w s).length ≤ 24 := by have := M.len; omega
  have hrowlen : (mrow w s).length = (mropes w s).length := List.length_map _
  refine q_asgN (EvN.eq (es := (mrow w s).map dRide) (evn_lc (fun _ => true) (fun i => dRide ((mropes w s).getD i 0, true)) (evi_seqL (evd_var rfl (.adr q)) ⟨_, hq3, FzL.nats _⟩) (by rw [List.length_map]; omega) fun i v H8 hi e8 f => ?_) (filt_all.trans ?_)) fun pr vr H4 hpr4 e4 h4 f4 => ?_
  · rw [List.length_map] at hi
    rw [getD_dn hi] at f
    obtain rfl := f.int_of
    exact ⟨_, fun Q' q => q, rfl, fun H2 e2 Q q => q H2 (Ex.refl _), fun _ => evd_tup (evds_cons (evd_var rfl (.int _)) (evds_cons evd_str evds_nil)) (Nat.le_of_ble_eq_true rfl)⟩
  · rw [List.length_map]
    unfold mrow
    rw [List.map_map]
    exact range_map (d := 0) rfl fun i hi => rfl
  have hprH : H pr = none := fresh_back e03 hpr4
  have hpq : q ≠ pr := ne_of_none hq3 hpr4
  have S4 := S.mono (Kp.ex (e03.trans e4))
  refine ⟨_, rfl, _, rfl, pr, vr, rfl, .inr (SqL.of h4), a, w, s, vr, mrow w s, by rw [List.append_nil], ⟨an, S4⟩, f4, M.ok, by rw [hrowlen]; omega, fun b H5 e5 Sb => ?_⟩
  -- far ends of the meeting ropes
  have e05 := (e03.trans e4).trans e5
  refine q_forI (i_seqL (evd_var rfl (.adr q)) (e5 _ _ (e4 _ _ hq3)) fun J H6 e6 S6 => ?_)
  have hnl : (nats (mropes w s)).length = (mropes w s).length := List.length_map _
  refine q_for S6 (fun i σ' H' => ∃ x, σ' = [some (.ref a), some (.ref g), some (.ref an), some (vn (((mropes w s).take i).foldl (fun x k => far (rope w k) x) (mstart w s))), some (.ref q), some (.ref pr), some (.ref b), x, none, none, none] ∧ Ex H5 H')
    ⟨none, rfl, e6⟩ (fun i σ' H' _ ⟨_, _, e⟩ => e _ _ (e5 _ _ (e4 _ _ hq3))) ?_ ?_
  · rintro i v σ' H7 H8 hi ⟨x, rfl, e7⟩ e8 hv
    obtain ⟨kk, hk, rfl⟩ := map_get hv
    have S8 := S4.mono (Kp.ex ((e5.trans e7).trans e8))
    refine s_asg (evd_far_end S8.nt (evd_var rfl (.adr an)) (evd_var rfl (.int (kk : Int))) (evd_var rfl (.int _)) (M.rng kk (List.mem_of_getElem? hk))) fun v H9 e9 f9 => ?_
    obtain rfl := f9.int_of
    refine ⟨some (vn kk), ?_, (e7.trans e8).trans e9⟩
    rw [foldl_take' hk]; rfl
  rintro σ' H7 ⟨x, rfl, e7⟩
  rw [hnl, List.take_length]
  have hmp : (mropes w s).foldl (fun x k => far (rope w k) x) (mstart w s) = mplace w s := rfl
  rw [hmp]
  -- the steps
  refine q_asgN (evn_lst evds_nil (Nat.le_of_ble_eq_true rfl)) fun ps xs H8 hps e8 h8 f8 => ?_
  cases f8
  have e58 := e7.trans e8
  have S8 := S4.mono (Kp.ex (e5.trans e58))
  have hpsH : H5 ps = none := fresh_back e7 hps
  refine q_forI (i_enT (evd_ropes S8.nt (evd_var rfl (.adr an))) fun J H9 e9 S9 => ?_)
  have hrl : (w.rs.map dPair).length = w.rs.length := List.length_map _
  refine q_for S9 (fun i σ' H' => ∃ x y z vs', σ' = [some (.ref a), some (.ref g), some (.ref an), some (vn (mplace w s)), some (.ref q), some (.ref pr), some (.ref b), x, some (.ref ps), y, z] ∧ Ex H5 H' ∧ Kp H9 H' ∧ H' ps = some (.lst vs') ∧ FzL H' vs' (((List.range i).flatMap fun k => [((k, (rope w k).1, (rope w k).2) : Stp), (k, (rope w k).2, (rope w k).1)]).map dStp))
    ⟨x, none, none, [], rfl, e58.trans e9, Kp.refl _, e9 _ _ h8, .nil⟩ (fun i σ' H' _ ⟨_, _, _, _, _, _, k, _⟩ => k) ?_ ?_
  · rintro i v σ' H10 H11 hi ⟨x, y, z, vs', rfl, e10, k10, h10, f10⟩ e11 ⟨d, hd, fd⟩
    obtain ⟨r, hr, rfl⟩ := map_get hd
    have hrr : rope w i = r := getD_of hr
    obtain ⟨v1, v2, v3, f1, f2, f3, hgo⟩ := tg_12 (K := K) (i := 7) (j := 9) (k := 10) fd
    obtain rfl := f1.int_of
    obtain rfl := f2.int_of
    obtain rfl := f3.int_of
    refine hgo _ _ ?_
    have hlen : vs'.length = 2 * i := by
      rw [f10.len, List.length_map]
      exact flat2_len (fun _ => rfl) _
    rw [hrl] at hi
    refine q_app (e11 _ _ h10) (evd_var rfl (.adr ps)) (evd_tup (evds_cons (evd_var rfl (.int (i : Int))) (evds_cons (evd_var rfl (.int (r.1 : Int))) (evds_cons (evd_var rfl (.int (r.2 : Int))) evds_nil))) (Nat.le_of_ble_eq_true rfl)) (by omega) fun u1 H12 e12 f12 => ?_
    have k12 : Kp H12 (upd H12 ps (.lst (vs' ++ [u1]))) := Kp.set (e12 _ _ (e11 _ _ h10))
    have x12 : Ex H5 (upd H12 ps (.lst (vs' ++ [u1]))) := Ex.set ((e10.trans e11).trans e12) hpsH
    have h12 : (upd H12 ps (.lst (vs' ++ [u1]))) ps = some (.lst (vs' ++ [u1])) := upd_same
    have g12 := (f10.mono ((Kp.ex (e11.trans e12)).trans k12)).snoc (f12.mono k12)
    have kk12 := (k10.trans (Kp.ex (e11.trans e12))).trans k12
    generalize upd H12 ps (.lst (vs' ++ [u1])) = G12 at *
    refine s_app h12 (evd_var rfl (.adr ps)) (evd_tup (evds_cons (evd_var rfl (.int (i : Int))) (evds_cons (evd_var rfl (.int (r.2 : Int))) (evds_cons (evd_var rfl (.int (r.1 : Int))) evds_nil))) (Nat.le_of_ble_eq_true rfl)) (by rw [List.length_append]; simp; omega) fun u2 H13 e13 f13 => ?_
    have k13 : Kp H13 (upd H13 ps (.lst (vs' ++ [u1] ++ [u2]))) := Kp.set (e13 _ _ h12)
    refine ⟨_, _, _, vs' ++ [u1] ++ [u2], rfl, Ex.set (x12.trans e13) hpsH, (kk12.trans (Kp.ex e13)).trans k13, upd_same, ?_⟩
    have hfl : ((List.range (i + 1)).flatMap fun k => [((k, (rope w k).1, (rope w k).2) : Stp), (k, (rope w k).2, (rope w k).1)]) = ((List.range i).flatMap fun k => [(k, (rope w k).1, (rope w k).2), (k, (rope w k).2, (rope w k).1)]) ++ [(i, r.1, r.2)] ++ [(i, r.2, r.1)] := by
      rw [List.range_succ, List.flatMap_append, List.append_assoc]
      congr 1
      simp [hrr]
    rw [hfl, List.map_append, List.map_append]
    exact (g12.mono ((Kp.ex e13).trans k13)).snoc (f13.mono k13)
  rintro σ' H10 ⟨x, y, z, vs', rfl, e10, k10, h10, f10⟩
  rw [hrl] at f10
  have f10 : FzL H10 vs' ((psteps w).map dStp) := f10
  -- the pair's way
  have S10 := S4.mono (Kp.ex (e5.trans e10))
  have Sb10 := Sb.mono (Kp.ex e10)
  have e0A := e05.trans e10
  refine q_forI (i_seqN (evn_callDND (fs := l.map dn) (evd_var rfl (.adr ps)) (evn_lst (evds_cons (evd_var rfl (.int (mplace w s : Int))) evds_nil) (Nat.le_of_ble_eq_true rfl)) (evd_var rfl (.adr g)) rfl rfl fun r ws H11 e11 h11 f11 Q q => ?_) fun J pl vl H11 hpl e11 h11 f11 S11 => ?_)
  · refine ⟨ps, r, g, w.n, psteps w, [mplace w s], gl, rfl, ⟨vs', e11 _ _ h10, f10.mono (Kp.ex e11)⟩, ⟨ws, h11, f11⟩, ⟨_, (e0A.trans e11) _ _ hg, FzL.nats _⟩, by simp, fun x hx => ?_, psteps_lt W, hn24, by rw [psteps_len]; omega, (fun z => by rw [hl] at z; cases z), fun l' hl' => by rw [hl] at hl'; injection hl' with hl'; subst hl'; exact q⟩
    rw [List.mem_singleton] at hx
    rw [hx]; exact M.lt
  obtain rfl := f11.nats_of
  have hvl : (nats l).length = l.length := List.length_map _
  have hplr : pl ≠ pr := fun zz => by
    rw [zz, e10 _ _ (e5 _ _ h4)] at hpl; cases hpl
  refine q_for S11 (fun i σ' H' => ∃ x y z vs', σ' = [some (.ref a), some (.ref g), some (.ref an), some (vn ((l.take i).foldl (pstep w (rideAll w s (mrow w s))) (mrow w s, mplace w s)).2), some (.ref q), some (.ref pr), some (.ref b), x, some (.ref ps), y, z] ∧ Ex H H' ∧ Kp H11 H' ∧ H' pl = some (.lst (nats l)) ∧ H' pr = some (.lst vs') ∧ FzL H' vs' (((l.take i).foldl (pstep w (rideAll w s (mrow w s))) (mrow w s, mplace w s)).1.map dRide) ∧ vs'.length ≤ 100 + 2 * i)
    ⟨x, y, z, vr, rfl, e0A.trans e11, Kp.refl _, h11, e11 _ _ (e10 _ _ (e5 _ _ h4)), f4.mono (Kp.ex ((e5.trans e10).trans e11)), by rw [f4.len, List.length_map, hrowlen]; omega⟩ (fun i σ' H' _ ⟨_, _, _, _, _, _, _, e, _⟩ => e) ?_ ?_
  · rintro i v σ' H12 H13 hi ⟨x, y, z, vs', rfl, e12, k12, h12l, h12, f12, hb12⟩ e13 hv
    obtain ⟨kk, hk, rfl⟩ := map_get hv
    have hkm := (hlr kk (List.mem_of_getElem? hk)).1
    have hil : i < l.length := (List.getElem?_eq_some_iff.mp hk).1
    generalize hA : (l.take i).foldl (pstep w (rideAll w s (mrow w s))) (mrow w s, mplace w s) = A at *
    obtain ⟨rA, pA⟩ := A
    have kA := (Kp.ex e11).trans (k12.trans (Kp.ex e13))
    have S13 := S10.mono kA
    have Sb13 := Sb10.mono kA
    have fin : ∀ (c : Bool) (H14 : Hp), Ex H13 H14 → decide (redSt w (rideAll w s (mrow w s)) kk = pA) = c → ∀ vs2 H15, Ex H14 H15 → FzL H15 vs2 [dRide (kk, c), dRide (kk, !c)] →
        ∀ EE : Ends, EE.nx = (fun i σ' H' => ∃ x y z vs', σ' = [some (.ref a), some (.ref g), some (.ref an), some (vn ((l.take i).foldl (pstep w (rideAll w s (mrow w s))) (mrow w s, mplace w s)).2), some (.ref q), some (.ref pr), some (.ref b), x, some (.ref ps), y, z] ∧ Ex H H' ∧ Kp H11 H' ∧ H' pl = some (.lst (nats l)) ∧ H' pr = some (.lst vs') ∧ FzL H' vs' (((l.take i).foldl (pstep w (rideAll w s (mrow w s))) (mrow w s, mplace w s)).1.map dRide) ∧ vs'.length ≤ 100 + 2 * i) (i + 1) → tAsg (tCall (sp_far_end T) [] E0 (tCons (tVar 2) (tCons (tVar 7) (tCons (tVar 3) tNil)))) (gName 3) EE
          [some (.ref a), some (.ref g), some (.ref an), some (vn pA), some (.ref q), some (.ref pr), some (.ref b), some (vn kk), some (.ref ps), y, z] (upd H15 pr (.lst (vs' ++ vs2))) := fun c H14 e14 hc vs2 H15 e15 f15 EE hEE => by
      have h15 := e15 _ _ (e14 _ _ (e13 _ _ h12))
      have k15 : Kp H15 (upd H15 pr (.lst (vs' ++ vs2))) := Kp.set h15
      have S15 := S13.mono ((Kp.ex (e14.trans e15)).trans k15)
      refine s_asg (evd_far_end S15.nt (evd_var rfl (.adr an)) (evd_var rfl (.int (kk : Int))) (evd_var rfl (.int (pA : Int))) hkm) fun v H16 e16 f16 => ?_
      obtain rfl := f16.int_of
      rw [hEE]
      refine ⟨some (vn kk), y, z, vs' ++ vs2, ?_, (Ex.set (((e12.trans e13).trans e14).trans e15) hprH).trans e16, ((k12.trans (Kp.ex ((e13.trans e14).trans e15))).trans k15).trans (Kp.ex e16), e16 _ _ ((upd_ne hplr).trans (e15 _ _ (e14 _ _ (e13 _ _ h12l)))), e16 _ _ upd_same, ?_, ?_⟩
      · rw [foldl_take' hk, hA]; rfl
      · rw [foldl_take' hk, hA]
        have hp : pstep w (rideAll w s (mrow w s)) (rA, pA) kk = (rA ++ [(kk, c), (kk, !c)], far (rope w kk) pA) := by
          unfold pstep
          cases c with
          | true => rw [if_pos (of_decide_eq_true hc)]; rfl
          | false => rw [if_neg (of_decide_eq_false hc)]; rfl
        rw [hp, List.map_append]
        have kz := ((Kp.ex ((e13.trans e14).trans e15)).trans k15).trans (Kp.ex e16)
        exact (f12.mono kz).app (f15.mono (k15.trans (Kp.ex e16)))
      · rw [List.length_append, f15.len]; simp; omega
    refine q_if (Evl.et_is (et_test (evd_eqI (evd_red_car Sb13 (evd_var rfl (.adr b)) (evd_var rfl (.int (kk : Int))) hkm) (evd_var rfl (.int (pA : Int))))) (b := decide (redSt w (rideAll w s (mrow w s)) kk = pA)) (decide_eq_decide.mpr (by omega))) (fun hc H14 e14 => ?_) fun hc H14 e14 => ?_
    · exact s_ext (e14 _ _ (e13 _ _ h12)) (evd_var rfl (.adr pr)) (evn_lst (evds_cons (evd_tup (evds_cons (evd_var rfl (.int (kk : Int))) (evds_cons evd_str evds_nil)) (Nat.le_of_ble_eq_true rfl)) (evds_cons (evd_tup (evds_cons (evd_var rfl (.int (kk : Int))) (evds_cons evd_str evds_nil)) (Nat.le_of_ble_eq_true rfl)) evds_nil)) (Nat.le_of_ble_eq_true rfl)) (by simp; omega) fun vs2 H15 e15 f15 => fin true H14 e14 hc vs2 H15 e15 f15 _ rfl
    · exact s_ext (e14 _ _ (e13 _ _ h12)) (evd_var rfl (.adr pr)) (evn_lst (evds_cons (evd_tup (evds_cons (evd_var rfl (.int (kk : Int))) (evds_cons evd_str evds_nil)) (Nat.le_of_ble_eq_true rfl)) (evds_cons (evd_tup (evds_cons (evd_var rfl (.int (kk : Int))) (evds_cons evd_str evds_nil)) (Nat.le_of_ble_eq_true rfl)) evds_nil)) (Nat.le_of_ble_eq_true rfl)) (by simp; omega) fun vs2 H15 e15 f15 => fin false H14 e14 hc vs2 H15 e15 f15 _ rfl
  rintro σ' H12 ⟨x, y, z, vs', rfl, e12, k12, h12l, h12, f12, hb12⟩
  rw [hvl, List.take_length, ← hpr] at f12
  rw [hvl, List.take_length, ← hpr]
  refine s_ret (evd_tup (evds_cons (evd_var rfl (.adr pr)) (evds_cons (evd_var rfl (.int ((pairRow w s gl).2 : Int))) evds_nil)) (Nat.le_of_ble_eq_true rfl)) fun v H13 e13 f13 => ?_
  obtain ⟨t', ts, rfl, ht', ft⟩ := f13.tup_of
  obtain rfl := ft.flat_of rfl
  exact k t' pr vs' H13 hprH (e12.trans e13) ht' (e13 _ _ h12) (f12.mono (Kp.ex e13))
end
end TR
namespace TR
open PySem L2 PyProof.Rows
open Evl (Ex EvT fresh_back)
local macro_rules | `(tactic| walk_at "h") => `(tactic| first
  | assumption
  | (refine Ex.at (by assumption) ?_; walk_at "h")
  | (refine Kp.at (by assumption) ?_; walk_at "h")
  | (refine Fz.mono (Kp.ex (by assumption)) ?_; walk_at "h")
  | (refine Fz.mono (by assumption) ?_; walk_at "h")
  | (refine FzL.mono (Kp.ex (by assumption)) ?_; walk_at "h")
  | (refine FzL.mono (by assumption) ?_; walk_at "h")
  | (refine NetAt.mono (Kp.ex (by assumption)) ?_; walk_at "h")
  | (refine NetAt.mono (by assumption) ?_; walk_at "h")
  | (refine StaA.mono (Kp.ex (by assumption)) ?_; walk_at "h")
  | (refine StaA.mono (by assumption) ?_; walk_at "h")
  | (refine Sta.mono (Kp.ex (by assumption)) ?_; walk_at "h")
  | (refine Sta.mono (by assumption) ?_; walk_at "h")
  | (refine Lst.mono (by assumption) ?_; walk_at "h")
  | (refine Seq.mono (by assumption) ?_; walk_at "h"))
local macro_rules | `(tactic| walk_at "fz") => `(tactic| first
  | exact Fz.int _ | exact Fz.bl _ | exact Fz.str _ | exact Fz.non
  | walk_at "h"
  | exact Fz.adr _)
local macro_rules | `(tactic| walk_at "ix") => `(tactic| first
  | exact rfl
  | (refine atI_nat ?_; first | assumption | rfl | (simp; done)))
local macro_rules | `(tactic| walk_at "ev") => `(tactic| first
  | exact evd_int | exact evd_str | exact evd_bl | exact evd_non
  | (refine evd_var rfl ?_; walk_at "fz")
  | (refine evd_stations ?_ ?_; (walk_at "h"); (walk_at "ev"))
  | (refine evd_ropes ?_ ?_; (walk_at "h"); (walk_at "ev"))
  | (refine evd_net ?_ ?_; (walk_at "h"); (walk_at "ev"))
  | (refine evd_reds ?_ ?_; (walk_at "h"); (walk_at "ev"))
  | (refine evd_blues ?_ ?_; (walk_at "h"); (walk_at "ev"))
  | (refine evd_cars ?_ ?_; (walk_at "h"); (walk_at "ev"))
  | (refine evd_add ?_ ?_; (walk_at "ev"); (walk_at "ev"))
  | (refine evd_sub ?_ ?_; (walk_at "ev"); (walk_at "ev"))
  | (refine evd_lt ?_ ?_; (walk_at "ev"); (walk_at "ev"))
  | (refine evd_le ?_ ?_; (walk_at "ev"); (walk_at "ev"))
  | (refine evd_gt ?_ ?_; (walk_at "ev"); (walk_at "ev"))
  | (refine evd_ge ?_ ?_; (walk_at "ev"); (walk_at "ev"))
  | (refine evd_neg ?_; (walk_at "ev"))
  | (refine evd_eqI ?_ ?_; (walk_at "ev"); (walk_at "ev"))
  | (refine evd_neI ?_ ?_; (walk_at "ev"); (walk_at "ev"))
  | (refine evd_eqS ?_ ?_; (walk_at "ev"); (walk_at "ev"))
  | (refine evd_eqB ?_ ?_; (walk_at "ev"); (walk_at "ev"))
  | (refine evd_neB ?_ ?_; (walk_at "ev"); (walk_at "ev"))
  | (refine evd_isN ?_ ?_; (walk_at "ev"); exact rfl)
  | (refine evd_notN ?_ ?_; (walk_at "ev"); exact rfl)
  | (refine evd_ixT ?_ ?_ ?_; (walk_at "ev"); (walk_at "ev"); (walk_at "ix"))
  | (refine evd_ixL ?_ ?_ ?_ ?_ ?_; (walk_at "ev"); (walk_at "h"); (walk_at "h"); (walk_at "ev"); (walk_at "ix"))
  | (refine evd_tup ?_ ?_; (walk_at "evs"); exact Nat.le_of_ble_eq_true rfl)
  | (refine evd_lenD ?_; walk_at "ev")
  | (refine evd_lenL ?_ ?_; (walk_at "ev"); (walk_at "h"))
  | (refine evd_intI ?_; walk_at "ev")
  | (refine evd_intB ?_; walk_at "ev")
  | (refine evd_notV ?_; walk_at "ev"))
local macro_rules | `(tactic| walk_at "evs") => `(tactic| first
  | exact evds_nil
  | (refine evds_cons ?_ ?_; (walk_at "ev"); (walk_at "evs")))
local macro_rules | `(tactic| walk_at "et") => `(tactic| first
  | (refine et_test ?_; walk_at "ev")
  | (refine et_B ?_; walk_at "ev")
  | (refine et_tru ?_ ?_; (walk_at "ev"); (walk_at "h"))
  | (refine Evl.et_not ?_; walk_at "et")
  | (refine et_chain2 ?_ ?_ ?_; (walk_at "ev"); (walk_at "ev"); (walk_at "ev")))
section
variable {K : PySem.W.Frag} {mg : Str → Option Value} {σ : L2.St} {H : Hp} {te ta tb tv tx : TE} {tr : TA} {ds es fs : List D} {d d1 d2 : D} {E : Ends} {tz : TS}
theorem callDN {sp : Sp} {X : XK} {Q : VK} (h1 : EvD ta σ H d1) (h3 : EvN te σ H es) (f1 : d1.flat = true)
    (k : ∀ p vs H1, H p = none → Ex H H1 → H1 p = some (.lst vs) → FzL H1 vs es → sp [d1.v, .ref p] H1 Q X) : tCall sp [] X (tCons ta (tCons te tNil)) σ H Q :=
  h1 H (Ex.refl _) _ fun v1 H1 e1 g1 => h3 H1 e1 _ fun p vs H3 hp e3 h f => by
    show sp ([v1, .ref p] ++ []) H3 Q X
    rw [List.append_nil, g1.flat_of f1]
    exact k p vs H3 (fresh_back e1 hp) (e1.trans e3) h f
theorem s_raise {C : Addr} {f : Str} {X : XK} {i : Int} (h : EvD te σ H (.int i)) (hi : i.natAbs.log2 < 1920) (k : RaiseD C f i H X) : tRaiseE C f X (tCons te tNil) E σ H :=
  h H (Ex.refl _) _ fun v H1 e f => ⟨i, by rw [f.int_of], hi, fun d hd => k d H1 e hd⟩
theorem RaiseD.mono {C : Addr} {f : Str} {i : Int} {X : XK} {H1 : Hp} (k : RaiseD C f i H X) (e : Ex H H1) : RaiseD C f i H1 X := fun d H2 e2 hd => k d H2 (e.trans e2) hd
theorem pure_check_stationX (T : Txt K mg) (vs : List V) (H : Hp) (Q : VK) (E : XK) (h : sp_check_stationX T vs H Q E) : Goes (t_check_stationX T E) N_check_station vs H Q := by
  obtain ⟨a, w, i, rfl, N, hi, k, kx⟩ := h
  refine s_if (Evl.et_is (b := !decide (0 ≤ i ∧ i < w.n)) (Evl.et_not (et_chain2 (evd_int) (evd_var rfl (.int _)) (evd_stations N (evd_var rfl (.adr _))))) ?_) (fun q H1 e => ?_) fun q H1 e => ?_
  · congr 1
    rw [Bool.eq_iff_iff, Bool.and_eq_true, decide_eq_true_iff, decide_eq_true_iff, decide_eq_true_iff]
  · have q : ¬ (0 ≤ i ∧ i < w.n) := of_decide_eq_false (by simpa only [Bool.not_eq_true'] using q)
    exact s_raise (evd_var rfl (.int _)) hi ((kx q).mono e)
  · have q : (0 ≤ i ∧ i < w.n) := of_decide_eq_true (by simpa using q)
    exact k q _ _ e .non
theorem pure_check_ropeX (T : Txt K mg) (vs : List V) (H : Hp) (Q : VK) (E : XK) (h : sp_check_ropeX T vs H Q E) : Goes (t_check_ropeX T E) N_check_rope vs H Q := by
  obtain ⟨a, w, i, rfl, N, hi, k, kx⟩ := h
  refine s_if (Evl.et_is (b := !decide (0 ≤ i ∧ i < w.rs.length)) (Evl.et_not (et_chain2 (evd_int) (evd_var rfl (.int _)) (evd_lenD (evd_ropes N (evd_var rfl (.adr _)))))) ?_) (fun q H1 e => ?_) fun q H1 e => ?_
  · congr 1
    rw [Bool.eq_iff_iff, Bool.and_eq_true, decide_eq_true_iff, decide_eq_true_iff, decide_eq_true_iff, List.length_map]
  · have q : ¬ (0 ≤ i ∧ i < w.rs.length) := of_decide_eq_false (by simpa only [Bool.not_eq_true'] using q)
    exact s_raise (evd_var rfl (.int _)) hi ((kx q).mono e)
  · have q : (0 ≤ i ∧ i < w.rs.length) := of_decide_eq_true (by simpa using q)
    exact k q _ _ e .non
theorem pure_visit_row (T : Txt K mg) (vs : List V) (H : Hp) (Q : VK) (E : XK) (h : sp_visit_row T vs H Q E) : Goes (t_visit_row T E) N_visit_row vs H Q := by
  obtain ⟨a, w, s, i, rfl, ⟨an, S⟩, hi, kx, kv⟩ := h
  have W := S.nt.ok
  have O := S.ok
  refine callF (evds_cons (evd_net S (evd_var rfl (.adr a))) (evds_cons (evd_var rfl (.int i)) evds_nil)) rfl fun H1 e1 => ⟨an, w, i, rfl, S.nt.mono (Kp.ex e1), hi, fun hin v H2 e2 f2 => ?_, fun hin => (kx hin).mono e1⟩
  obtain ⟨x, hx⟩ : ∃ x : Nat, i = x := ⟨i.toNat, by omega⟩
  subst hx
  have hxn : x < w.n := by omega
  obtain ⟨kn, ks⟩ := kv x hxn rfl
  have e12 := e1.trans e2
  have S2 := S.mono (Kp.ex e12)
  refine q_if (Evl.et_is (b := decide (0 < s.reds.getD x 0 + s.blues.getD x 0)) (et_test (evd_gt (evd_add (evd_ixT (evd_reds S2 (evd_var rfl (.adr a))) (evd_var rfl (.int (x : Int))) (at_dn (by rw [O.lr]; exact hxn))) (evd_ixT (evd_blues S2 (evd_var rfl (.adr a))) (evd_var rfl (.int (x : Int))) (at_dn (by rw [O.lb]; exact hxn)))) evd_int)) (decide_eq_decide.mpr (by omega))) (fun hb H3 e3 => ?_) fun hb H3 e3 => ?_
  · have hb := of_decide_eq_true hb
    refine s_retN (evn_lst evds_nil (Nat.le_of_ble_eq_true rfl)) fun p us H4 hp e4 h4 f4 => ?_
    exact ks [] (by unfold visitF; rw [if_pos hb]) p us H4 (fresh_back (e12.trans e3) hp) ((e12.trans e3).trans e4) h4 f4
  have hb := of_decide_eq_false hb
  have e13 := e12.trans e3
  refine q_forI (i_seqT (evd_tup (evds_cons evd_str (evds_cons evd_str evds_nil)) (Nat.le_of_ble_eq_true rfl)) fun J H4 e4 S4 => ?_)
  refine q_for S4 (fun j σ' H' => Ex H H' ∧ Kp H4 H' ∧ (1 ≤ j → lone w s true x = none) ∧ (2 ≤ j → lone w s false x = none) ∧ ∃ y z, σ' = [some (.ref a), some (vn x), y, z, none, none]) ⟨e13.trans e4, Kp.refl _, fun z => absurd z (by decide), fun z => absurd z (by decide), none, none, rfl⟩ (fun j σ' H' _ ⟨_, k, _⟩ => k) ?_ ?_
  · rintro j v σ' H5 H6 hj ⟨e5, k5, g1, g2, y, z, rfl⟩ e6 ⟨dd, hd, fd⟩
    have hj : j < 2 := hj
    have hcol : ∃ c : Bool, dd = .str (colS c) ∧ ((j = 0 ∧ c = true) ∨ (j = 1 ∧ c = false)) := by
      rcases (show j = 0 ∨ j = 1 by omega) with rfl | rfl
      · injection hd with hd; exact ⟨true, hd.symm, .inl ⟨rfl, rfl⟩⟩
      · injection hd with hd; exact ⟨false, hd.symm, .inr ⟨rfl, rfl⟩⟩
    obtain ⟨c, rfl, hc⟩ := hcol
    obtain rfl := fd.str_of
    have e56 := e5.trans e6
    refine callF (evds_cons (evd_var rfl (.adr a)) (evds_cons (evd_var rfl (.str (colS c))) (evds_cons (evd_var rfl (.int (x : Int))) evds_nil))) rfl fun H7 e7 => ⟨a, w, s, c, x, rfl, ⟨an, S.mono (Kp.ex (e56.trans e7))⟩, fun hn v H8 e8 f8 => ?_, fun l hl p us H8 hp e8 h8 f8 => ?_⟩
    · obtain rfl := f8.non_of
      refine s_if (b := false) (et_test (evd_notN (d := .non) (evd_var rfl .non) rfl)) (fun z => by cases z) fun _ H9 e9 => ?_
      refine ⟨((e56.trans e7).trans e8).trans e9, (k5.trans (Kp.ex e6)).trans (Kp.ex ((e7.trans e8).trans e9)), fun _ => ?_, fun h2 => ?_, _, _, rfl⟩
      · rcases hc with ⟨rfl, rfl⟩ | ⟨rfl, rfl⟩
        · exact hn
        · exact g1 (Nat.le_refl _)
      · rcases hc with ⟨rfl, rfl⟩ | ⟨rfl, rfl⟩
        · omega
        · exact hn
    · refine s_if (b := true) (Evl.et_is (et_test (evd_notN (d := .adr p) (evd_var rfl (.adr _)) rfl)) (by rw [dec_ref]; rfl)) (fun _ H9 e9 => ?_) fun z => by cases z
      refine s_ret (evd_var rfl (.adr p)) fun v H10 e10 f10 => ?_
      obtain rfl := f10.adr_of
      refine ks l ?_ p us H10 (fresh_back (e56.trans e7) hp) (((e56.trans e7).trans e8).trans (e9.trans e10)) ((e9.trans e10) _ _ h8) (f8.mono (Kp.ex (e9.trans e10)))
      unfold visitF
      rw [if_neg hb]
      rcases hc with ⟨rfl, rfl⟩ | ⟨rfl, rfl⟩
      · rw [hl]
      · rw [g1 (Nat.le_refl _), hl]
  rintro σ' H5 ⟨e5, k5, g1, g2, y, z, rfl⟩
  have l1 := g1 (Nat.le_of_ble_eq_true rfl)
  have l2 := g2 (Nat.le_of_ble_eq_true rfl)
  have hvis : visitF w s x = if meets w s then some (pairRow w s [x]).1 else none := by
    unfold visitF
    rw [if_neg hb, l1, l2]
  have S5 := S.mono (Kp.ex e5)
  refine q_if (Evl.et_not (et_B (evd_can_meet ⟨an, S5⟩ (evd_var rfl (.adr a))))) (fun hm H6 e6 => ?_) fun hm H6 e6 => ?_
  · have hm : meets w s = false := by simpa using hm
    exact s_raise (evd_var rfl (.int _)) hi ((kn (by rw [hvis, hm]; rfl)).mono (e5.trans e6))
  · have hm : meets w s = true := by simpa using hm
    have e06 := e5.trans e6
    refine callDN (evd_var rfl (.adr a)) (evn_lst (evds_cons (evd_var rfl (.int (x : Int))) evds_nil) (Nat.le_of_ble_eq_true rfl)) rfl fun g gv H8 hg e8 h8 f8 => ?_
    have e7 := Ex.refl H6
    refine ⟨a, w, s, g, [x], rfl, ⟨an, S.mono (Kp.ex ((e06.trans e7).trans e8))⟩, ⟨gv, h8, f8⟩, by simp, fun y hy => by rw [List.mem_singleton] at hy; subst hy; exact hxn, hm, fun t q vs' H9 hq e9 ht hq9 f9 => ?_⟩
    obtain ⟨v1, v2, f1, f2, hgo⟩ := tg_2 (K := K) (i := 4) (j := 5) (v := .ref t) (d1 := .adr q) (d2 := dn (pairRow w s [x]).2) (.tup ht (.cons (.adr _) (.cons (.int _) .nil)))
    obtain rfl := f1.adr_of
    obtain rfl := f2.int_of
    refine hgo _ _ ?_
    refine s_ret (evd_var rfl (.adr q)) fun v H10 e10 f10 => ?_
    obtain rfl := f10.adr_of
    exact ks _ (by rw [hvis, hm]; rfl) q vs' H10 (fresh_back ((e06.trans e7).trans e8) hq) (((e06.trans e7).trans e8).trans (e9.trans e10)) (e10 _ _ hq9) (f9.mono (Kp.ex e10))
theorem pure_run_rope (T : Txt K mg) (vs : List V) (H : Hp) (Q : VK) (E : XK) (h : sp_run_rope T vs H Q E) : Goes (t_run_rope T E) N_run_rope vs H Q := by
  obtain ⟨a, w, s, i, rfl, ⟨an, S⟩, hi, kx, kv⟩ := h
  have W := S.nt.ok
  have O := S.ok
  refine callF (evds_cons (evd_net S (evd_var rfl (.adr a))) (evds_cons (evd_var rfl (.int i)) evds_nil)) rfl fun H1 e1 => ⟨an, w, i, rfl, S.nt.mono (Kp.ex e1), hi, fun hin v H2 e2 f2 => ?_, fun hin => (kx hin).mono e1⟩
  obtain ⟨x, hx⟩ : ∃ x : Nat, i = x := ⟨i.toNat, by omega⟩
  subst hx
  have hxn : x < w.rs.length := by omega
  obtain ⟨kn, ks⟩ := kv x hxn rfl
  have e12 := e1.trans e2
  have S2 := S.mono (Kp.ex e12)
  refine q_asg (evd_red_car ⟨an, S2⟩ (evd_var rfl (.adr a)) (evd_var rfl (.int (x : Int))) hxn) fun v H3 e3 f3 => ?_
  obtain rfl := f3.int_of
  have S3 := S2.mono (Kp.ex e3)
  refine q_asg (evd_blue_car ⟨an, S3⟩ (evd_var rfl (.adr a)) (evd_var rfl (.int (x : Int))) hxn) fun v H4 e4 f4 => ?_
  obtain rfl := f4.int_of
  have e14 := (e12.trans e3).trans e4
  refine q_forI (i_seqT (evd_tup (evds_cons (evd_tup (evds_cons evd_str (evds_cons (evd_var rfl (.int (redSt w s x : Int))) evds_nil)) (Nat.le_of_ble_eq_true rfl)) (evds_cons (evd_tup (evds_cons evd_str (evds_cons (evd_var rfl (.int (bluSt w s x : Int))) evds_nil)) (Nat.le_of_ble_eq_true rfl)) evds_nil)) (Nat.le_of_ble_eq_true rfl)) fun J H5 e5 S5 => ?_)
  refine q_for S5 (fun j σ' H' => Ex H H' ∧ Kp H5 H' ∧ (1 ≤ j → lone w s true (redSt w s x) = none) ∧ (2 ≤ j → lone w s false (bluSt w s x) = none) ∧ ∃ y z u, σ' = [some (.ref a), some (vn x), some (vn (redSt w s x)), some (vn (bluSt w s x)), y, z, u, none]) ⟨e14.trans e5, Kp.refl _, fun z => absurd z (by decide), fun z => absurd z (by decide), none, none, none, rfl⟩ (fun j σ' H' _ ⟨_, k, _⟩ => k) ?_ ?_
  · rintro j v σ' H6 H7 hj ⟨e6, k6, g1, g2, y, z, u, rfl⟩ e7 ⟨dd, hd, fd⟩
    have hj : j < 2 := hj
    have hcol : ∃ c : Bool, dd = .tup [.str (colS c), dn (carSt w s x c)] ∧ ((j = 0 ∧ c = true) ∨ (j = 1 ∧ c = false)) := by
      rcases (show j = 0 ∨ j = 1 by omega) with rfl | rfl
      · injection hd with hd; exact ⟨true, hd.symm, .inl ⟨rfl, rfl⟩⟩
      · injection hd with hd; exact ⟨false, hd.symm, .inr ⟨rfl, rfl⟩⟩
    obtain ⟨c, rfl, hc⟩ := hcol
    obtain ⟨v1, v2, f1, f2, hgo⟩ := tg_2 (K := K) (i := 4) (j := 5) fd
    obtain rfl := f1.str_of
    obtain rfl := f2.int_of
    refine hgo _ _ ?_
    have e67 := e6.trans e7
    refine callF (evds_cons (evd_var rfl (.adr a)) (evds_cons (evd_var rfl (.str (colS c))) (evds_cons (evd_var rfl (.int (carSt w s x c : Int))) evds_nil))) rfl fun H8 e8 => ⟨a, w, s, c, carSt w s x c, rfl, ⟨an, S.mono (Kp.ex (e67.trans e8))⟩, fun hn v H9 e9 f9 => ?_, fun l hl p us H9 hp e9 h9 f9 => ?_⟩
    · obtain rfl := f9.non_of
      refine s_if (b := false) (et_test (evd_notN (d := .non) (evd_var rfl .non) rfl)) (fun z => by cases z) fun _ H10 e10 => ?_
      refine ⟨((e67.trans e8).trans e9).trans e10, (k6.trans (Kp.ex e7)).trans (Kp.ex ((e8.trans e9).trans e10)), fun _ => ?_, fun h2 => ?_, _, _, _, rfl⟩
      · rcases hc with ⟨rfl, rfl⟩ | ⟨rfl, rfl⟩
        · exact hn
        · exact g1 (Nat.le_refl _)
      · rcases hc with ⟨rfl, rfl⟩ | ⟨rfl, rfl⟩
        · omega
        · exact hn
    · refine s_if (b := true) (Evl.et_is (et_test (evd_notN (d := .adr p) (evd_var rfl (.adr _)) rfl)) (by rw [dec_ref]; rfl)) (fun _ H10 e10 => ?_) fun z => by cases z
      have hll : l.length ≤ 100 := by
        obtain ⟨l', x0, rfl, _, _, _, _, h⟩ := lone_some W O hl
        rw [chain_map_len]; have := W.n24; omega
      refine s_retN (EvN.eq (es := (l ++ [(x, c)]).map dRide) (evn_catN (ds := l.map dRide) (es := [dRide (x, c)]) (evd_var rfl (.adr p)) (evn_lst (evds_cons (evd_tup (evds_cons (evd_var rfl (.int (x : Int))) (evds_cons (evd_var rfl (.str (colS c))) evds_nil)) (Nat.le_of_ble_eq_true rfl)) evds_nil) (Nat.le_of_ble_eq_true rfl)) ⟨us, e10 _ _ h9, f9.mono (Kp.ex e10)⟩ (by rw [List.length_map]; simp; omega)) (by rw [List.map_append]; rfl)) fun q ws H11 hq e11 h11 f11 => ?_
      have e0 := ((e67.trans e8).trans e9).trans e10
      refine ks _ ?_ q ws H11 (fresh_back e0 hq) (e0.trans e11) h11 f11
      unfold runF
      rcases hc with ⟨rfl, rfl⟩ | ⟨rfl, rfl⟩
      · have hl : lone w s true (redSt w s x) = some l := hl
        rw [hl]
      · have hl : lone w s false (bluSt w s x) = some l := hl
        rw [g1 (Nat.le_refl _), hl]
  rintro σ' H6 ⟨e6, k6, g1, g2, y, z, u, rfl⟩
  have l1 := g1 (Nat.le_of_ble_eq_true rfl)
  have l2 := g2 (Nat.le_of_ble_eq_true rfl)
  have hrun : runF w s x = if meets w s then some ((pairRow w s [redSt w s x, bluSt w s x]).1 ++ [(x, decide ((pairRow w s [redSt w s x, bluSt w s x]).2 = redSt w s x))]) else none := by
    unfold runF
    rw [l1, l2]
  have S6 := S.mono (Kp.ex e6)
  refine q_if (Evl.et_not (et_B (evd_can_meet ⟨an, S6⟩ (evd_var rfl (.adr a))))) (fun hm H7 e7 => ?_) fun hm H7 e7 => ?_
  · have hm : meets w s = false := by simpa using hm
    exact s_raise (evd_var rfl (.int _)) hi ((kn (by rw [hrun, hm]; rfl)).mono (e6.trans e7))
  · have hm : meets w s = true := by simpa using hm
    have e07 := e6.trans e7
    have hgl : ∀ y ∈ [redSt w s x, bluSt w s x], y < w.n := fun y hy => by
      simp at hy
      rcases hy with rfl | rfl
      · exact redSt_lt W hxn
      · exact bluSt_lt W hxn
    obtain ⟨_, _, _, _, hplen, _⟩ := pairRow_ok (gl := [redSt w s x, bluSt w s x]) W O hm (by simp) hgl
    refine callDN (evd_var rfl (.adr a)) (evn_lst (evds_cons (evd_var rfl (.int (redSt w s x : Int))) (evds_cons (evd_var rfl (.int (bluSt w s x : Int))) evds_nil)) (Nat.le_of_ble_eq_true rfl)) rfl fun g gv H9 hg e9 h9 f9 => ?_
    have e8 := Ex.refl H7
    refine ⟨a, w, s, g, [redSt w s x, bluSt w s x], rfl, ⟨an, S.mono (Kp.ex ((e07.trans e8).trans e9))⟩, ⟨gv, h9, f9⟩, by simp, hgl, hm, fun t q vs' H10 hq e10 ht hq10 f10 => ?_⟩
    obtain ⟨v1, v2, f1, f2, hgo⟩ := tg_2 (K := K) (i := 7) (j := 5) (v := .ref t) (d1 := .adr q) (d2 := dn (pairRow w s [redSt w s x, bluSt w s x]).2) (.tup ht (.cons (.adr _) (.cons (.int _) .nil)))
    obtain rfl := f1.adr_of
    obtain rfl := f2.int_of
    refine hgo _ _ ?_
    have e0 := ((e07.trans e8).trans e9).trans e10
    have fin : ∀ (c : Bool) (H11 : Hp), Ex H10 H11 → decide ((pairRow w s [redSt w s x, bluSt w s x]).2 = redSt w s x) = c → ∀ (tc : TE), EvD tc [some (.ref a), some (vn x), some (vn (redSt w s x)), some (vn (bluSt w s x)), y, some (vn (pairRow w s [redSt w s x, bluSt w s x]).2), u, some (.ref q)] H11 (.str (colS c)) → ∀ EE : Ends, EE.rt = Q →
        tRet (tOp rCat (tVar 7) (tLst (tCons (tTup (tCons (tVar 1) (tCons tc tNil))) tNil))) EE [some (.ref a), some (vn x), some (vn (redSt w s x)), some (vn (bluSt w s x)), y, some (vn (pairRow w s [redSt w s x, bluSt w s x]).2), u, some (.ref q)] H11 := fun c H11 e11 hc tc htc EE hEE => by
      refine s_retN (EvN.eq (es := ((pairRow w s [redSt w s x, bluSt w s x]).1 ++ [(x, c)]).map dRide) (evn_catN (ds := (pairRow w s [redSt w s x, bluSt w s x]).1.map dRide) (es := [dRide (x, c)]) (evd_var rfl (.adr q)) (evn_lst (evds_cons (evd_tup (evds_cons (evd_var rfl (.int (x : Int))) (evds_cons htc evds_nil)) (Nat.le_of_ble_eq_true rfl)) evds_nil) (Nat.le_of_ble_eq_true rfl)) ⟨vs', e11 _ _ hq10, f10.mono (Kp.ex e11)⟩ (by rw [List.length_map]; have := W.n24; simp; omega)) (by rw [List.map_append]; rfl)) fun q2 ws H12 hq2 e12 h12 f12 => ?_
      rw [hEE]
      exact ks _ (by rw [hrun, hm, hc]; rfl) q2 ws H12 (fresh_back (e0.trans e11) hq2) ((e0.trans e11).trans e12) h12 f12
    refine q_if (Evl.et_is (et_test (evd_eqI (evd_var rfl (.int _)) (evd_var rfl (.int _)))) (b := decide ((pairRow w s [redSt w s x, bluSt w s x]).2 = redSt w s x)) (decide_eq_decide.mpr (by omega))) (fun hc H11 e11 => ?_) fun hc H11 e11 => ?_
    · exact fin true H11 e11 hc _ evd_str _ rfl
    · exact fin false H11 e11 hc _ evd_str _ rfl
end
end TR
namespace TR
open PySem L2 PyProof.Rows
open Evl (Ex EvT fresh_back)
local macro_rules | `(tactic| walk_at "h") => `(tactic| first
  | assumption
  | (refine Ex.at (by assumption) ?_; walk_at "h")
  | (refine Kp.at (by assumption) ?_; walk_at "h")
  | (refine Fz.mono (Kp.ex (by assumption)) ?_; walk_at "h")
  | (refine Fz.mono (by assumption) ?_; walk_at "h")
  | (refine FzL.mono (Kp.ex (by assumption)) ?_; walk_at "h")
  | (refine FzL.mono (by assumption) ?_; walk_at "h")
  | (refine NetAt.mono (Kp.ex (by assumption)) ?_; walk_at "h")
  | (refine NetAt.mono (by assumption) ?_; walk_at "h")
  | (refine StaA.mono (Kp.ex (by assumption)) ?_; walk_at "h")
  | (refine StaA.mono (by assumption) ?_; walk_at "h")
  | (refine Sta.mono (Kp.ex (by assumption)) ?_; walk_at "h")
  | (refine Sta.mono (by assumption) ?_; walk_at "h")
  | (refine Lst.mono (by assumption) ?_; walk_at "h")
  | (refine Seq.mono (by assumption) ?_; walk_at "h"))
local macro_rules | `(tactic| walk_at "fz") => `(tactic| first
  | exact Fz.int _ | exact Fz.bl _ | exact Fz.str _ | exact Fz.non
  | walk_at "h"
  | exact Fz.adr _)
local macro_rules | `(tactic| walk_at "ix") => `(tactic| first
  | exact rfl
  | (refine atI_nat ?_; first | assumption | rfl | (simp; done)))
local macro_rules | `(tactic| walk_at "ev") => `(tactic| first
  | exact evd_int | exact evd_str | exact evd_bl | exact evd_non
  | (refine evd_var rfl ?_; walk_at "fz")
  | (refine evd_stations ?_ ?_; (walk_at "h"); (walk_at "ev"))
  | (refine evd_ropes ?_ ?_; (walk_at "h"); (walk_at "ev"))
  | (refine evd_net ?_ ?_; (walk_at "h"); (walk_at "ev"))
  | (refine evd_reds ?_ ?_; (walk_at "h"); (walk_at "ev"))
  | (refine evd_blues ?_ ?_; (walk_at "h"); (walk_at "ev"))
  | (refine evd_cars ?_ ?_; (walk_at "h"); (walk_at "ev"))
  | (refine evd_add ?_ ?_; (walk_at "ev"); (walk_at "ev"))
  | (refine evd_sub ?_ ?_; (walk_at "ev"); (walk_at "ev"))
  | (refine evd_lt ?_ ?_; (walk_at "ev"); (walk_at "ev"))
  | (refine evd_le ?_ ?_; (walk_at "ev"); (walk_at "ev"))
  | (refine evd_gt ?_ ?_; (walk_at "ev"); (walk_at "ev"))
  | (refine evd_ge ?_ ?_; (walk_at "ev"); (walk_at "ev"))
  | (refine evd_neg ?_; (walk_at "ev"))
  | (refine evd_eqI ?_ ?_; (walk_at "ev"); (walk_at "ev"))
  | (refine evd_neI ?_ ?_; (walk_at "ev"); (walk_at "ev"))
  | (refine evd_eqS ?_ ?_; (walk_at "ev"); (walk_at "ev"))
  | (refine evd_eqB ?_ ?_; (walk_at "ev"); (walk_at "ev"))
  | (refine evd_neB ?_ ?_; (walk_at "ev"); (walk_at "ev"))
  | (refine evd_isN ?_ ?_; (walk_at "ev"); exact rfl)
  | (refine evd_notN ?_ ?_; (walk_at "ev"); exact rfl)
  | (refine evd_ixT ?_ ?_ ?_; (walk_at "ev"); (walk_at "ev"); (walk_at "ix"))
  | (refine evd_ixL ?_ ?_ ?_ ?_ ?_; (walk_at "ev"); (walk_at "h"); (walk_at "h"); (walk_at "ev"); (walk_at "ix"))
  | (refine evd_tup ?_ ?_; (walk_at "evs"); exact Nat.le_of_ble_eq_true rfl)
  | (refine evd_lenD ?_; walk_at "ev")
  | (refine evd_lenL ?_ ?_; (walk_at "ev"); (walk_at "h"))
  | (refine evd_intI ?_; walk_at "ev")
  | (refine evd_intB ?_; walk_at "ev")
  | (refine evd_notV ?_; walk_at "ev"))
local macro_rules | `(tactic| walk_at "evs") => `(tactic| first
  | exact evds_nil
  | (refine evds_cons ?_ ?_; (walk_at "ev"); (walk_at "evs")))
local macro_rules | `(tactic| walk_at "et") => `(tactic| first
  | (refine et_test ?_; walk_at "ev")
  | (refine et_B ?_; walk_at "ev")
  | (refine et_tru ?_ ?_; (walk_at "ev"); (walk_at "h"))
  | (refine Evl.et_not ?_; walk_at "et")
  | (refine et_chain2 ?_ ?_ ?_; (walk_at "ev"); (walk_at "ev"); (walk_at "ev")))
section
variable {K : PySem.W.Frag} {mg : Str → Option Value} {σ : L2.St} {H : Hp} {te ta tb tv tx : TE} {tr : TA} {ds es fs : List D} {d d1 d2 : D} {E : Ends} {tz : TS}
theorem evd_isiI {i : Int} {n : String} {b : Bool} (ha : EvD ta σ H (.int i)) (hk : kitB "int" n = some b) : EvD (tCB (rIsi K) (tCons ta (tCons (tC (.ty n)) tNil))) σ H (.bl b) := fun H1 e Q q =>
  ha H1 e _ fun v H2 e2 fv => by
    rw [fv.int_of]
    exact ⟨_, _, _, _, b, rfl, .ty n, .base (.int i), kit_ty hk, q _ H2 e2 (.bl _)⟩
theorem pure_l_integer (T : Txt K mg) (vs : List V) (H : Hp) (Q : VK) (E : XK) (h : sp_l_integer T vs H Q E) : Goes (t_l_integer T) N_l_integer vs H Q := by
  obtain ⟨i, rfl, k⟩ := h
  exact s_ret (evd_andV (a := true) (b := true) (evd_isiI (evd_var rfl (.int i)) (by decide +kernel)) fun _ => evd_notV (a := false) (evd_isiI (evd_var rfl (.int i)) (by decide +kernel))) k
theorem FzL.ints {zs : List Int} : FzL H (zs.map V.int) (zs.map D.int) := by
  induction zs with
  | nil => exact .nil
  | cons a l ih => exact .cons (.int _) ih
theorem at_int {zs : List Int} {i : Nat} (h : i < zs.length) : atI (zs.map D.int) (i : Int) = some (.int (zs.getD i 0)) :=
  atI_nat (by rw [List.getElem?_map, List.getElem?_eq_getElem h, List.getD_eq_getElem?_getD, List.getElem?_eq_getElem h]; rfl)
theorem cutV_ints {zs : List Int} {lo hi : Option Int} : ∃ ys : List Int, cutV (zs.map V.int) lo hi = ys.map V.int ∧ ys.length ≤ zs.length := by
  unfold cutV
  refine ⟨(zs.drop (HT.sIx (zs.map V.int).length 0 lo)).take (HT.sIx (zs.map V.int).length (zs.map V.int).length hi - HT.sIx (zs.map V.int).length 0 lo), by rw [List.map_take, List.map_drop], ?_⟩
  rw [List.length_take, List.length_drop]
  omega
theorem sq_ex {p : Addr} {xs : List V} {H' : Hp} (h : SqL K H p xs) (e : Ex H H') : SqL K H' p xs := h.imp (fun r => r.imp (fun r => e _ _ r) fun ⟨o, r⟩ => ⟨o, e _ _ r⟩) id
theorem evd_lenQ {p : Addr} {xs : List V} (ha : EvD ta σ H (.adr p)) (h : SqL K H p xs) : EvD (tCB (Evl.rLenS K) (tCons ta tNil)) σ H (.int (xs.length : Int)) := fun H1 e Q q =>
  ha H1 e _ fun v H2 e2 fv => ⟨p, xs, by rw [fv.adr_of], Or.inl (sq_ex h (e.trans e2)), q _ H2 e2 (.int _)⟩
theorem evd_ixQ {i : Int} {p : Addr} {vs : List V} (ha : EvD ta σ H (.adr p)) (hp : SqL K H p vs) (f : FzL H vs ds) (hb : EvD tb σ H (.int i)) (h : atI ds i = some d) : EvD (tOp (rIx K) ta tb) σ H d := fun H1 e Q q =>
  ha H1 e _ fun v H2 e2 fv => hb H2 (e.trans e2) _ fun w H3 e3 fw => by
    obtain ⟨v, hv, g⟩ := atI_D (f.mono (Kp.ex ((e.trans e2).trans e3))) h
    exact .inl ⟨p, vs, i, v, fv.adr_of, fw.int_of, sq_ex hp ((e.trans e2).trans e3), hv, q v H3 (e2.trans e3) g⟩
theorem evn_slice {p : Addr} {zs : List Int} {n : Int} (ha : EvD ta σ H (.adr p)) (hp : SqL K H p (zs.map V.int)) (hb : EvD tb σ H (.int n)) : ∃ ys : List Int, ys.length ≤ zs.length ∧ EvN (tSl (rSlL K) ta tNoPart (tPart tb)) σ H (ys.map D.int) := by
  obtain ⟨ys, hys, hyl⟩ := cutV_ints (zs := zs) (lo := none) (hi := some n)
  refine ⟨ys, hyl, fun H1 e Q k => ha H1 e _ fun v H2 e2 f2 => hb H2 (e.trans e2) _ fun u H3 e3 f3 => ?_⟩
  refine ⟨n, f3.int_of, p, _, f2.adr_of, sq_ex hp ((e.trans e2).trans e3), fun q hq => ?_⟩
  rw [hys]
  exact k q _ _ (fresh_back (e2.trans e3) hq) ((e2.trans e3).trans (Ex.new hq)) upd_same FzL.ints
theorem pure_l_bag (T : Txt K mg) (vs : List V) (H : Hp) (Q : VK) (E : XK) (h : sp_l_bag T vs H Q E) : Goes (t_l_bag T) N_l_bag vs H Q := by
  obtain ⟨p, kk, zs, rfl, hp, hk, hz, k⟩ := h
  refine q_asg (evd_add evd_int (evd_mul evd_int (evd_var rfl (.int _)) (.inl ⟨by decide, by decide⟩))) fun v H1 e1 f1 => ?_
  obtain ⟨ys, hyl, hsl⟩ := evn_slice (K := K) (σ := [some (.ref p), some (vn kk), some v, none]) (H := H1) (ta := tVar 0) (tb := tC (.int 63)) (evd_var rfl (.adr p)) (sq_ex hp e1) evd_int
  refine q_forI (i_seqN hsl fun J q us G hq eG h4 f4 S4 => ?_)
  have e4 := e1.trans eG
  obtain rfl := f1.int_of
  refine q_for S4 (fun i σ' H' => ∃ (s : Int) (x : Option V), σ' = [some (.ref p), some (vn kk), some (.int s), x] ∧ Ex G H') ⟨_, none, rfl, Ex.refl _⟩ (fun i σ' H' _ ⟨_, _, _, e⟩ => e _ _ h4) ?_ ?_
  · rintro i v σ' H5 H6 hi ⟨s, x, rfl, e5⟩ e6 hv
    obtain ⟨d, hd, fd⟩ := f4.getV hv
    obtain ⟨y, hy, rfl⟩ := map_get hd
    obtain rfl := fd.int_of
    refine s_asg (evd_mod (evd_intI (evd_add (evd_mul (evd_var rfl (.int _)) evd_int (.inr ⟨by decide, by decide⟩)) (evd_var rfl (.int _)))) evd_int (by decide)) fun v H7 e7 f7 => ?_
    obtain rfl := f7.int_of
    exact ⟨_, _, rfl, (e5.trans e6).trans e7⟩
  rintro σ' H5 ⟨s, x, rfl, e5⟩
  have e05 := e4.trans e5
  have fin : ∀ (H6 : Hp) (tc : TE) (z : Int), Ex H5 H6 → EvD tc [some (.ref p), some (vn kk), some (.int s), x] H6 (.int z) → ∀ EE : Ends, EE.rt = Q → tRet (tLst (tCons tc (tCons (tVar 2) (tCons (tC (.int 0)) tNil)))) EE [some (.ref p), some (vn kk), some (.int s), x] H6 := fun H6 tc z e6 htc EE hEE => by
    refine s_retN (evn_lst (evds_cons htc (evds_cons (evd_var rfl (.int s)) (evds_cons evd_int evds_nil))) (Nat.le_of_ble_eq_true rfl)) fun b us H7 hb e7 h7 f7 => ?_
    obtain rfl := f7.flat_of rfl
    rw [hEE]
    exact k b H7 (fresh_back (e05.trans e6) hb) ((e05.trans e6).trans e7) ⟨_, _, _, h7⟩
  refine q_if (b := decide ((kk : Int) < zs.length) && decide (((10 : Int) ^ (18 : Int).toNat) ≤ zs.getD kk 0)) (Evl.et_and (Evl.et_is (et_test (evd_lt (evd_var rfl (.int _)) (evd_lenQ (evd_var rfl (.adr p)) (sq_ex hp e05)))) (by rw [List.length_map])) fun hb => ?_) (fun hb H6 e6 => ?_) fun hb H6 e6 => ?_
  · have hb := of_decide_eq_true hb
    exact et_test (evd_ge (evd_ixQ (evd_var rfl (.adr p)) (sq_ex hp e05) FzL.ints (evd_var rfl (.int _)) (at_int (by omega))) (evd_pow evd_int evd_int ⟨by decide, by decide, by decide⟩))
  · rw [Bool.and_eq_true] at hb
    have hb := of_decide_eq_true hb.1
    exact fin H6 _ _ e6 (evd_ixQ (evd_var rfl (.adr p)) (sq_ex hp (e05.trans e6)) FzL.ints (evd_var rfl (.int _)) (at_int (by omega))) _ rfl
  · exact fin H6 _ _ e6 evd_int _ rfl
theorem Bag.fz {x y z : Int} : FzL H [.int x, .int y, .int z] [.int x, .int y, .int z] := .cons (.int _) (.cons (.int _) (.cons (.int _) .nil))
theorem ExB.of_ex {b : Addr} {H' : Hp} (e : Ex H H') : ExB b H H' := fun a o _ h => e a o h
theorem ExB.trans {b : Addr} {H1 H2 : Hp} (e : ExB b H H1) (f : ExB b H1 H2) : ExB b H H2 := fun a o n h => f a o n (e a o n h)
theorem ExB.upd {b : Addr} {o : HO} : ExB b H (upd H b o) := fun a u n h => by rw [upd_ne n]; exact h
theorem nat_mod {i : Int} {m : Nat} (hm : 0 < m) : ∃ r : Nat, i % (m : Int) = r ∧ r < m := by
  have h1 := Int.emod_nonneg i (show (m : Int) ≠ 0 by omega)
  have h2 := Int.emod_lt_of_pos i (show (0 : Int) < m by omega)
  exact ⟨(i % (m : Int)).toNat, by omega, by omega⟩
theorem pure_l_take (T : Txt K mg) (vs : List V) (H : Hp) (Q : VK) (E : XK) (h : sp_l_take T vs H Q E) : Goes (t_l_take T) N_l_take vs H Q := by
  obtain ⟨b, m, rfl, ⟨x, y, z, hb⟩, hm, hm2, k⟩ := h
  refine q_if (et_test (evd_gt (evd_ixL (evd_var rfl (.adr b)) hb Bag.fz evd_int (d := .int x) rfl) evd_int)) (fun _ H1 e1 => ?_) fun _ H1 e1 => ?_
  · have hb1 := e1 _ _ hb
    refine q_asg (evd_mod (evd_intI (evd_ixL (evd_var rfl (.adr b)) hb1 Bag.fz evd_int (d := .int x) rfl)) (evd_var rfl (.int (m : Int))) (by omega)) fun v H2 e2 f2 => ?_
    obtain rfl := f2.int_of
    obtain ⟨r, hr, hrm⟩ := nat_mod (i := x) hm
    have hb2 := e2 _ _ hb1
    refine q_setL (j := 0) hb2 (evd_div (evd_ixL (evd_var rfl (.adr b)) hb2 Bag.fz evd_int (d := .int x) rfl) (evd_var rfl (.int (m : Int))) ⟨by omega, by omega⟩) (evd_var rfl (.adr b)) evd_int (Nat.le_of_ble_eq_true rfl) fun v H3 e3 f3 => ?_
    obtain rfl := f3.int_of
    refine s_ret (evd_var rfl (.int (x % (m : Int)))) fun v H4 e4 f4 => ?_
    obtain rfl := f4.int_of
    rw [hr]
    exact k r H4 hrm ((ExB.of_ex ((e1.trans e2).trans e3)).trans (ExB.upd.trans (ExB.of_ex e4))) ⟨_, _, _, e4 _ _ upd_same⟩
  · have hb1 := e1 _ _ hb
    refine q_setL (j := 2) hb1 (evd_add (evd_ixL (evd_var rfl (.adr b)) hb1 Bag.fz evd_int (d := .int z) rfl) evd_int) (evd_var rfl (.adr b)) evd_int (Nat.le_of_ble_eq_true rfl) fun v H2 e2 f2 => ?_
    obtain rfl := f2.int_of
    have hbb : (upd H2 b (.lst ([V.int x, .int y, .int z].set 2 (.int (z + 1))))) b = some (.lst [.int x, .int y, .int (z + 1)]) := upd_same
    have eB : ExB b H (upd H2 b (.lst ([V.int x, .int y, .int z].set 2 (.int (z + 1))))) := (ExB.of_ex (e1.trans e2)).trans ExB.upd
    generalize upd H2 b (.lst ([V.int x, .int y, .int z].set 2 (.int (z + 1)))) = G at *
    refine q_asg (evd_mod (evd_intI (evd_add (evd_mul (evd_ixL (evd_var rfl (.adr b)) hbb Bag.fz evd_int (d := .int y) rfl) evd_int (.inr ⟨by decide, by decide⟩)) (evd_mul (evd_ixL (evd_var rfl (.adr b)) hbb Bag.fz evd_int (d := .int (z + 1)) rfl) evd_int (.inr ⟨by decide, by decide⟩)))) evd_int (by decide)) fun v H3 e3 f3 => ?_
    obtain rfl := f3.int_of
    generalize hw : (y * 48271 + (z + 1) * 69621) % 2147483647 = one
    have hb3 := e3 _ _ hbb
    have h1 := Int.emod_nonneg one (show (65521 : Int) ≠ 0 by decide)
    have h2 := Int.emod_lt_of_pos one (show (0 : Int) < 65521 by decide)
    refine q_asg (evd_mod (evd_intI (evd_mul (evd_add (evd_div (evd_var rfl (.int one)) evd_int ⟨by decide, by decide⟩) (evd_ixL (evd_var rfl (.adr b)) hb3 Bag.fz evd_int (d := .int (z + 1)) rfl)) (evd_add (evd_mod (evd_var rfl (.int one)) evd_int (by decide)) evd_int) (.inr ⟨by omega, by omega⟩))) evd_int (by decide)) fun v H4 e4 f4 => ?_
    obtain rfl := f4.int_of
    generalize (one / 64 + (z + 1)) * (one % 65521 + 16807) % 1000000007 = two
    refine s_ret (evd_mod (evd_div (evd_var rfl (.int two)) evd_int ⟨by decide, by decide⟩) (evd_var rfl (.int (m : Int))) (by omega)) fun v H5 e5 f5 => ?_
    obtain rfl := f5.int_of
    obtain ⟨r, hr, hrm⟩ := nat_mod (i := two / 16) hm
    rw [hr]
    exact k r H5 hrm (eB.trans (ExB.of_ex ((e3.trans e4).trans e5))) ⟨_, _, _, ((e3.trans e4).trans e5) _ _ hbb⟩
end
end TR
namespace TR
open PySem L2 PyProof.Rows
open Evl (Ex EvT fresh_back)
local macro_rules | `(tactic| walk_at "h") => `(tactic| first
  | assumption
  | (refine Ex.at (by assumption) ?_; walk_at "h")
  | (refine Kp.at (by assumption) ?_; walk_at "h")
  | (refine Fz.mono (Kp.ex (by assumption)) ?_; walk_at "h")
  | (refine Fz.mono (by assumption) ?_; walk_at "h")
  | (refine FzL.mono (Kp.ex (by assumption)) ?_; walk_at "h")
  | (refine FzL.mono (by assumption) ?_; walk_at "h")
  | (refine NetAt.mono (Kp.ex (by assumption)) ?_; walk_at "h")
  | (refine NetAt.mono (by assumption) ?_; walk_at "h")
  | (refine StaA.mono (Kp.ex (by assumption)) ?_; walk_at "h")
  | (refine StaA.mono (by assumption) ?_; walk_at "h")
  | (refine Sta.mono (Kp.ex (by assumption)) ?_; walk_at "h")
  | (refine Sta.mono (by assumption) ?_; walk_at "h")
  | (refine Lst.mono (by assumption) ?_; walk_at "h")
  | (refine Seq.mono (by assumption) ?_; walk_at "h"))
local macro_rules | `(tactic| walk_at "fz") => `(tactic| first
  | exact Fz.int _ | exact Fz.bl _ | exact Fz.str _ | exact Fz.non
  | walk_at "h"
  | exact Fz.adr _)
local macro_rules | `(tactic| walk_at "ix") => `(tactic| first
  | exact rfl
  | (refine atI_nat ?_; first | assumption | rfl | (simp; done)))
local macro_rules | `(tactic| walk_at "ev") => `(tactic| first
  | exact evd_int | exact evd_str | exact evd_bl | exact evd_non
  | (refine evd_var rfl ?_; walk_at "fz")
  | (refine evd_stations ?_ ?_; (walk_at "h"); (walk_at "ev"))
  | (refine evd_ropes ?_ ?_; (walk_at "h"); (walk_at "ev"))
  | (refine evd_net ?_ ?_; (walk_at "h"); (walk_at "ev"))
  | (refine evd_reds ?_ ?_; (walk_at "h"); (walk_at "ev"))
  | (refine evd_blues ?_ ?_; (walk_at "h"); (walk_at "ev"))
  | (refine evd_cars ?_ ?_; (walk_at "h"); (walk_at "ev"))
  | (refine evd_add ?_ ?_; (walk_at "ev"); (walk_at "ev"))
  | (refine evd_sub ?_ ?_; (walk_at "ev"); (walk_at "ev"))
  | (refine evd_lt ?_ ?_; (walk_at "ev"); (walk_at "ev"))
  | (refine evd_le ?_ ?_; (walk_at "ev"); (walk_at "ev"))
  | (refine evd_gt ?_ ?_; (walk_at "ev"); (walk_at "ev"))
  | (refine evd_ge ?_ ?_; (walk_at "ev"); (walk_at "ev"))
  | (refine evd_neg ?_; (walk_at "ev"))
  | (refine evd_eqI ?_ ?_; (walk_at "ev"); (walk_at "ev"))
  | (refine evd_neI ?_ ?_; (walk_at "ev"); (walk_at "ev"))
  | (refine evd_eqS ?_ ?_; (walk_at "ev"); (walk_at "ev"))
  | (refine evd_eqB ?_ ?_; (walk_at "ev"); (walk_at "ev"))
  | (refine evd_neB ?_ ?_; (walk_at "ev"); (walk_at "ev"))
  | (refine evd_isN ?_ ?_; (walk_at "ev"); exact rfl)
  | (refine evd_notN ?_ ?_; (walk_at "ev"); exact rfl)
  | (refine evd_ixT ?_ ?_ ?_; (walk_at "ev"); (walk_at "ev"); (walk_at "ix"))
  | (refine evd_ixL ?_ ?_ ?_ ?_ ?_; (walk_at "ev"); (walk_at "h"); (walk_at "h"); (walk_at "ev"); (walk_at "ix"))
  | (refine evd_tup ?_ ?_; (walk_at "evs"); exact Nat.le_of_ble_eq_true rfl)
  | (refine evd_lenD ?_; walk_at "ev")
  | (refine evd_lenL ?_ ?_; (walk_at "ev"); (walk_at "h"))
  | (refine evd_intI ?_; walk_at "ev")
  | (refine evd_intB ?_; walk_at "ev")
  | (refine evd_notV ?_; walk_at "ev"))
local macro_rules | `(tactic| walk_at "evs") => `(tactic| first
  | exact evds_nil
  | (refine evds_cons ?_ ?_; (walk_at "ev"); (walk_at "evs")))
local macro_rules | `(tactic| walk_at "et") => `(tactic| first
  | (refine et_test ?_; walk_at "ev")
  | (refine et_B ?_; walk_at "ev")
  | (refine et_tru ?_ ?_; (walk_at "ev"); (walk_at "h"))
  | (refine Evl.et_not ?_; walk_at "et")
  | (refine et_chain2 ?_ ?_ ?_; (walk_at "ev"); (walk_at "ev"); (walk_at "ev")))
def insL {α : Type} (l : List α) (r : Nat) (x : α) : List α := l.take r ++ [x] ++ l.drop r
theorem mem_insL {α : Type} {l : List α} {r : Nat} {x y : α} : y ∈ insL l r x ↔ y ∈ l ∨ y = x := by
  unfold insL
  rw [List.mem_append, List.mem_append, List.mem_singleton]
  have : y ∈ l ↔ y ∈ l.take r ∨ y ∈ l.drop r := by rw [← List.mem_append, List.take_append_drop]
  rw [this]
  constructor
  · rintro ((h | h) | h)
    · exact .inl (.inl h)
    · exact .inr h
    · exact .inl (.inr h)
  · rintro ((h | h) | h)
    · exact .inl (.inl h)
    · exact .inr h
    · exact .inl (.inr h)
theorem insL_len {α : Type} {l : List α} {r : Nat} {x : α} : (insL l r x).length = l.length + 1 := by
  unfold insL
  rw [List.length_append, List.length_append, List.length_take, List.length_drop]
  show min r l.length + 1 + (l.length - r) = l.length + 1
  omega
theorem insL_map {α β : Type} {f : α → β} {l : List α} {r : Nat} {x : α} : insL (l.map f) r (f x) = (insL l r x).map f := by
  unfold insL
  rw [List.map_append, List.map_append, List.map_take, List.map_drop]; rfl
theorem insL_nodup {α : Type} {l : List α} {r : Nat} {x : α} (h : l.Nodup) (hx : x ∉ l) : (insL l r x).Nodup := by
  have hp : (insL l r x).Perm (x :: l) := by
    unfold insL
    rw [List.append_assoc]
    have h1 : (l.take r ++ ([x] ++ l.drop r)).Perm ([x] ++ (l.take r ++ l.drop r)) := by
      rw [← List.append_assoc, ← List.append_assoc]
      exact (List.perm_append_comm).append_right _
    rw [List.take_append_drop] at h1
    exact h1
  rw [hp.nodup_iff, List.nodup_cons]
  exact ⟨hx, h⟩
section
variable {K : PySem.W.Frag} {mg : Str → Option Value} {σ : L2.St} {H : Hp} {te ta tb tv tx : TE} {tr : TA} {ds es fs : List D} {d d1 d2 : D} {E : Ends} {tz : TS}
theorem FzL.ins {vs : List V} {v : V} (h : FzL H vs ds) (f : Fz H v d) (r : Nat) : FzL H (insL vs r v) (insL ds r d) := ((h.take r).app (.cons f .nil)).app (h.drop r)
theorem s_insert {l : Addr} {xs : List V} {r : Nat} (hl : H l = some (.lst xs)) (ha : EvD ta σ H (.adr l)) (hi : EvD tb σ H (.int (r : Int))) (hv : EvD te σ H d) (hr : r < 100000) (hz : xs.length < 100000)
    (k : ∀ v H1, Ex H H1 → Fz H1 v d → E.nx σ (upd H1 l (.lst (insL xs r v)))) : tDrop (tBM K "list" rInsert ta (tCons tb (tCons te tNil))) E σ H := ha H (Ex.refl _) _ fun v H1 e1 fv => by
  rw [fv.adr_of]
  exact ⟨Or.inl ⟨rfl, xs, SqL.of (e1 l _ hl)⟩, hi H1 e1 _ fun u H2 e2 fu => hv H2 (e1.trans e2) _ fun y H3 e3 fy => ⟨l, xs, (r : Int), y, rfl, by rw [fu.int_of], e3 _ _ (e2 _ _ (e1 _ _ hl)), Evl.sz_lt hz, by omega, by omega, k y H3 ((e1.trans e2).trans e3) fy⟩⟩
theorem q_insert {l : Addr} {xs : List V} {r : Nat} (hl : H l = some (.lst xs)) (ha : EvD ta σ H (.adr l)) (hi : EvD tb σ H (.int (r : Int))) (hv : EvD te σ H d) (hr : r < 100000) (hz : xs.length < 100000)
    (k : ∀ v H1, Ex H H1 → Fz H1 v d → tz E σ (upd H1 l (.lst (insL xs r v)))) : tSeq (tDrop (tBM K "list" rInsert ta (tCons tb (tCons te tNil)))) tz E σ H := s_insert (E := { E with nx := tz E }) hl ha hi hv hr hz k
theorem evd_ixN {i : Int} (ha : EvN ta σ H ds) (hb : EvD tb σ H (.int i)) (h : atI ds i = some d) : EvD (tOp (rIx K) ta tb) σ H d := fun H1 e Q q =>
  ha H1 e _ fun p vs H2 hp e2 h2 f2 => hb H2 (e.trans e2) _ fun w H3 e3 fw => by
    obtain ⟨v, hv, g⟩ := atI_D (f2.mono (Kp.ex e3)) h
    exact .inl ⟨p, vs, i, v, rfl, fw.int_of, SqL.of (e3 p _ h2), hv, q v H3 (e2.trans e3) g⟩
theorem ExS.of_ex {S : List Addr} {H' : Hp} (e : Ex H H') : ExS S H H' := fun a o _ h => e a o h
theorem ExS.trans {S : List Addr} {H1 H2 : Hp} (e : ExS S H H1) (f : ExS S H1 H2) : ExS S H H2 := fun a o n h => f a o n (e a o n h)
theorem ExS.upd {S : List Addr} {b : Addr} {o : HO} (hb : b ∈ S) : ExS S H (upd H b o) := fun a u n h => by
  have z : a ≠ b := fun z => n (z ▸ hb)
  rw [upd_ne z]; exact h
theorem ExS.of_b {S : List Addr} {b : Addr} {H' : Hp} (e : ExB b H H') (hb : b ∈ S) : ExS S H H' := fun a o n h => e a o (fun z => n (z ▸ hb)) h
theorem pure_l_order (T : Txt K mg) (vs : List V) (H : Hp) (Q : VK) (E : XK) (h : sp_l_order T vs H Q E) : Goes (t_l_order T) N_l_order vs H Q := by
  obtain ⟨b, m, rfl, hb, hm, k⟩ := h
  refine q_asgN (evn_lst evds_nil (Nat.le_of_ble_eq_true rfl)) fun p xs H1 hp e1 h1 f1 => ?_
  cases f1
  have hbp : b ≠ p := fun z => by
    obtain ⟨x, y, w, hb⟩ := hb
    rw [z, hp] at hb; cases hb
  have hb1 : Bag H1 b := by
    obtain ⟨x, y, z, hb⟩ := hb
    exact ⟨x, y, z, e1 _ _ hb⟩
  refine q_forI (i_rng (evd_var rfl (.int (m : Int))) (by omega) fun J H2 e2 S2 => ?_)
  refine q_for S2 (fun i σ' H' => ∃ l x y, σ' = [some (.ref b), some (vn m), some (.ref p), x, y] ∧ ExB b H H' ∧ Bag H' b ∧ H' p = some (.lst (nats l)) ∧ l.length = i ∧ l.Nodup ∧ ∀ x, x ∈ l ↔ x < i)
    ⟨[], none, none, rfl, ExB.of_ex (e1.trans e2), ?_, e2 _ _ h1, rfl, List.nodup_nil, fun x => by simp⟩ (fun i σ' H' _ _ => trivial) ?_ ?_
  · obtain ⟨x, y, z, hb1⟩ := hb1
    exact ⟨x, y, z, e2 _ _ hb1⟩
  · rintro i v σ' H3 H4 hi ⟨l, x, y, rfl, e3, b3, h3, hl, hn, hx⟩ e4 rfl
    have b4 : Bag H4 b := by
      obtain ⟨x, y, z, hb1⟩ := b3
      exact ⟨x, y, z, e4 _ _ hb1⟩
    refine callF (evds_cons (evd_var rfl (.adr b)) (evds_cons (evd_add (evd_var rfl (.int (i : Int))) evd_int) evds_nil)) rfl fun H5 e5 => ⟨b, i + 1, rfl, ?_, Nat.succ_pos _, by omega, fun r H6 hr e6 b6 => ?_⟩
    · obtain ⟨x, y, z, hb1⟩ := b4
      exact ⟨x, y, z, e5 _ _ hb1⟩
    · have h6 := e6 _ _ (Ne.symm hbp) (e5 _ _ (e4 _ _ h3))
      refine s_insert (r := r) h6 (evd_var rfl (.adr p)) (evd_var rfl (.int (r : Int))) (evd_var rfl (.int (i : Int))) (by omega) (by rw [List.length_map]; omega) fun v H7 e7 f7 => ?_
      obtain rfl := f7.int_of
      have hii : insL (nats l) r (V.int (i : Int)) = nats (insL l r i) := insL_map (f := vn)
      rw [hii]
      refine ⟨insL l r i, _, _, rfl, fun a o n h => ?_, ?_, upd_same, by rw [insL_len, hl], insL_nodup hn (fun z => absurd ((hx i).mp z) (Nat.lt_irrefl _)), fun x => ?_⟩
      · have h7 := e7 _ _ (e6 _ _ n (e5 _ _ (e4 _ _ (e3 _ _ n h))))
        rw [upd_ne (ne_of_none h hp)]
        exact h7
      · obtain ⟨x, y, z, hb1⟩ := b6
        exact ⟨x, y, z, by rw [upd_ne hbp]; exact e7 _ _ hb1⟩
      · rw [mem_insL, hx]; omega
  rintro σ' H3 ⟨l, x, y, rfl, e3, b3, h3, hl, hn, hx⟩
  refine s_ret (evd_var rfl (.adr p)) fun v H4 e4 f4 => ?_
  obtain rfl := f4.adr_of
  refine k p l H4 hp (e3.trans (ExB.of_ex e4)) ?_ (e4 _ _ h3) hl hn hx
  obtain ⟨x, y, z, hb1⟩ := b3
  exact ⟨x, y, z, e4 _ _ hb1⟩
theorem Bag.mono {b : Addr} {H' : Hp} (h : Bag H b) (e : Ex H H') : Bag H' b := by
  obtain ⟨x, y, z, hb⟩ := h
  exact ⟨x, y, z, e _ _ hb⟩
theorem Bag.other {b c : Addr} {o : HO} (h : Bag H b) (hc : b ≠ c) : Bag (upd H c o) b := by
  obtain ⟨x, y, z, hb⟩ := h
  exact ⟨x, y, z, by rw [upd_ne hc]; exact hb⟩
theorem Bag.lst {b : Addr} (h : Bag H b) : ∃ xs, H b = some (.lst xs) := by
  obtain ⟨x, y, z, hb⟩ := h
  exact ⟨_, hb⟩
/-- tuples are kept where only lists are written -/
theorem ExS.tk {S : List Addr} {H' : Hp} (e : ExS S H H') (h : ∀ a ∈ S, ∃ xs, H a = some (.lst xs)) : Kp H H' := fun a o ha hs => by
  refine e a o (fun z => ?_) ha
  obtain ⟨xs, hx⟩ := h a z
  rw [hx] at ha; cases ha; cases hs
theorem ExB.kp {b : Addr} {H' : Hp} (e : ExB b H H') (h : ∃ xs, H b = some (.lst xs)) : Kp H H' := fun a o ha hs => by
  refine e a o (fun z => ?_) ha
  obtain ⟨xs, hx⟩ := h
  rw [z, hx] at ha; cases ha; cases hs
/-- a draw -/
theorem take {b : Addr} {m : Nat} {Q : VK} {X : XK} {T : Txt K mg} (hb : Bag H b) (h0 : EvD ta σ H (.adr b)) (h : EvD te σ H (dn m)) (hm : 0 < m) (hm2 : m < 1073741824) (k : ∀ (r : Nat) H', r < m → ExB b H H' → Bag H' b → Q (vn r) H') : tCall (sp_l_take T) [] X (tCons ta (tCons te tNil)) σ H Q :=
  callF (evds_cons h0 (evds_cons h evds_nil)) rfl fun H1 e => ⟨b, m, rfl, hb.mono e, hm, hm2, fun r H2 hr e2 b2 => k r H2 hr ((ExB.of_ex e).trans e2) b2⟩
theorem Draw.mono {np r0 r1 : Addr} {rs : List (Nat × Nat)} {ts : List Nat} {H' : Hp} (h : Draw H np r0 r1 rs ts) (e : Ex H H') : Draw H' np r0 r1 rs ts := by
  obtain ⟨h1, ⟨us, h2, h3⟩, h4, h5⟩ := h
  exact ⟨e _ _ h1, ⟨us, e _ _ h2, h3.mono (Kp.ex e)⟩, e _ _ h4, h5⟩
theorem Draw.exb {np r0 r1 b : Addr} {rs : List (Nat × Nat)} {ts : List Nat} {H' : Hp} (h : Draw H np r0 r1 rs ts) (e : ExB b H H') (hb : Bag H b) (n0 : b ≠ np) (n1 : b ≠ r0) (n2 : b ≠ r1) : Draw H' np r0 r1 rs ts := by
  obtain ⟨h1, ⟨us, h2, h3⟩, h4, h5⟩ := h
  exact ⟨e _ _ n0.symm h1, ⟨us, e _ _ n1.symm h2, h3.mono (e.kp hb.lst)⟩, e _ _ n2.symm h4, h5⟩
theorem FzL.pair {a c : Addr} : FzL H [.ref a, .ref c] [.adr a, .adr c] := .cons (.adr _) (.cons (.adr _) .nil)
theorem pure_l_add_rope (T : Txt K mg) (vs : List V) (H : Hp) (Q : VK) (E : XK) (h : sp_l_add_rope T vs H Q E) : Goes (t_l_add_rope T) N_l_add_rope vs H Q := by
  obtain ⟨b, np, r0, r1, x, y, rs, ts, rfl, hb, hd, hrl, n0, n1, n2, n3, n4, n5, k⟩ := h
  obtain ⟨us, hu, fu⟩ := id hd.2.1
  have hul : us.length = rs.length := by rw [fu.len, List.length_map]
  refine take hb (evd_var rfl (.adr b)) (EvD.eq (evd_add (evd_lenL (evd_ixL (evd_var rfl (.adr np)) hd.1 FzL.pair evd_int (d := .adr r0) rfl) hu) evd_int) (e := dn (rs.length + 1)) (by rw [hul]; rfl)) (Nat.succ_pos _) (by omega) fun r H1 hr e1 b1 => ?_
  have d1 := hd.exb e1 hb n0 n1 n2
  refine take b1 (evd_var rfl (.adr b)) (evd_int (i := ((2 : Nat) : Int))) (by decide) (by decide) fun t H2 ht e2 b2 => ?_
  have d2 := d1.exb e2 b1 n0 n1 n2
  have e12 := e1.trans e2
  obtain ⟨h2n, ⟨us2, hu2, fu2⟩, ht2, htl, hts⟩ := id d2
  have hul2 : us2.length = rs.length := by rw [fu2.len, List.length_map]
  obtain ⟨pp, hpp, hppe⟩ : ∃ p : Nat × Nat, atI [dPair (x, y), dPair (y, x)] (t : Int) = some (dPair p) ∧ (p = (x, y) ∨ p = (y, x)) := by
    rcases (show t = 0 ∨ t = 1 by omega) with rfl | rfl
    · exact ⟨_, rfl, .inl rfl⟩
    · exact ⟨_, rfl, .inr rfl⟩
  refine q_insert (r := r) hu2 (evd_ixL (evd_var rfl (.adr np)) h2n FzL.pair evd_int (d := .adr r0) rfl) (evd_var rfl (.int (r : Int))) (evd_ixN (evn_lst (evds_cons (evd_tup (evds_cons (evd_var rfl (.int (x : Int))) (evds_cons (evd_var rfl (.int (y : Int))) evds_nil)) (Nat.le_of_ble_eq_true rfl)) (evds_cons (evd_tup (evds_cons (evd_var rfl (.int (y : Int))) (evds_cons (evd_var rfl (.int (x : Int))) evds_nil)) (Nat.le_of_ble_eq_true rfl)) evds_nil)) (Nat.le_of_ble_eq_true rfl)) (evd_var rfl (.int (t : Int))) hpp) (by omega) (by omega) fun v H3 e3 f3 => ?_
  have hu3 := e3 _ _ hu2
  have k3 : Kp H3 (upd H3 r0 (.lst (insL us2 r v))) := Kp.set hu3
  have b3 : Bag (upd H3 r0 (.lst (insL us2 r v))) b := (b2.mono e3).other n1
  have x3 : ExS [b, r0, r1] H (upd H3 r0 (.lst (insL us2 r v))) := ((ExS.of_b e12 (by simp)).trans (ExS.of_ex e3)).trans (ExS.upd (by simp))
  have f3' : FzL (upd H3 r0 (.lst (insL us2 r v))) (insL us2 r v) ((insL rs r pp).map dPair) := by
    rw [← insL_map]
    exact ((fu2.mono (Kp.ex e3)).mono k3).ins (f3.mono k3) r
  have g0 : (upd H3 r0 (.lst (insL us2 r v))) r0 = some (.lst (insL us2 r v)) := upd_same
  have g1 : (upd H3 r0 (.lst (insL us2 r v))) r1 = some (.lst (nats ts)) := by rw [upd_ne n5.symm]; exact e3 _ _ ht2
  have gn : (upd H3 r0 (.lst (insL us2 r v))) np = some (.lst [.ref r0, .ref r1]) := by rw [upd_ne n3]; exact e3 _ _ h2n
  generalize upd H3 r0 (.lst (insL us2 r v)) = G3 at *
  refine s_insert (r := r) g1 (evd_ixL (evd_var rfl (.adr np)) gn FzL.pair evd_int (d := .adr r1) rfl) (evd_var rfl (.int (r : Int))) (evd_var rfl (.int (t : Int))) (by omega) (by rw [List.length_map]; omega) fun v4 H4 e4 f4 => ?_
  obtain rfl := f4.int_of
  have hii : insL (nats ts) r (V.int (t : Int)) = nats (insL ts r t) := insL_map (f := vn)
  rw [hii]
  have k4 : Kp H4 (upd H4 r1 (.lst (nats (insL ts r t)))) := Kp.set (e4 _ _ g1)
  refine k _ (insL rs r pp) (insL ts r t) pp ((x3.trans (ExS.of_ex e4)).trans (ExS.upd (by simp))) ((b3.mono e4).other n2) ⟨?_, ⟨_, ?_, (f3'.mono (Kp.ex e4)).mono k4⟩, upd_same, by rw [insL_len, insL_len, htl], fun z hz => ?_⟩ insL_len (fun q => mem_insL) hppe
  · rw [upd_ne n4]; exact e4 _ _ gn
  · rw [upd_ne n5]; exact e4 _ _ g0
  · rcases mem_insL.mp hz with h | rfl
    · exact hts z h
    · omega
end
end TR
namespace TR
open PySem L2 PyProof.Rows
open Evl (Ex EvT fresh_back)
local macro_rules | `(tactic| walk_at "h") => `(tactic| first
  | assumption
  | (refine Ex.at (by assumption) ?_; walk_at "h")
  | (refine Kp.at (by assumption) ?_; walk_at "h")
  | (refine Fz.mono (Kp.ex (by assumption)) ?_; walk_at "h")
  | (refine Fz.mono (by assumption) ?_; walk_at "h")
  | (refine FzL.mono (Kp.ex (by assumption)) ?_; walk_at "h")
  | (refine FzL.mono (by assumption) ?_; walk_at "h")
  | (refine NetAt.mono (Kp.ex (by assumption)) ?_; walk_at "h")
  | (refine NetAt.mono (by assumption) ?_; walk_at "h")
  | (refine StaA.mono (Kp.ex (by assumption)) ?_; walk_at "h")
  | (refine StaA.mono (by assumption) ?_; walk_at "h")
  | (refine Sta.mono (Kp.ex (by assumption)) ?_; walk_at "h")
  | (refine Sta.mono (by assumption) ?_; walk_at "h")
  | (refine Lst.mono (by assumption) ?_; walk_at "h")
  | (refine Seq.mono (by assumption) ?_; walk_at "h"))
local macro_rules | `(tactic| walk_at "fz") => `(tactic| first
  | exact Fz.int _ | exact Fz.bl _ | exact Fz.str _ | exact Fz.non
  | walk_at "h"
  | exact Fz.adr _)
local macro_rules | `(tactic| walk_at "ix") => `(tactic| first
  | exact rfl
  | (refine atI_nat ?_; first | assumption | rfl | (simp; done)))
local macro_rules | `(tactic| walk_at "ev") => `(tactic| first
  | exact evd_int | exact evd_str | exact evd_bl | exact evd_non
  | (refine evd_var rfl ?_; walk_at "fz")
  | (refine evd_stations ?_ ?_; (walk_at "h"); (walk_at "ev"))
  | (refine evd_ropes ?_ ?_; (walk_at "h"); (walk_at "ev"))
  | (refine evd_net ?_ ?_; (walk_at "h"); (walk_at "ev"))
  | (refine evd_reds ?_ ?_; (walk_at "h"); (walk_at "ev"))
  | (refine evd_blues ?_ ?_; (walk_at "h"); (walk_at "ev"))
  | (refine evd_cars ?_ ?_; (walk_at "h"); (walk_at "ev"))
  | (refine evd_add ?_ ?_; (walk_at "ev"); (walk_at "ev"))
  | (refine evd_sub ?_ ?_; (walk_at "ev"); (walk_at "ev"))
  | (refine evd_lt ?_ ?_; (walk_at "ev"); (walk_at "ev"))
  | (refine evd_le ?_ ?_; (walk_at "ev"); (walk_at "ev"))
  | (refine evd_gt ?_ ?_; (walk_at "ev"); (walk_at "ev"))
  | (refine evd_ge ?_ ?_; (walk_at "ev"); (walk_at "ev"))
  | (refine evd_neg ?_; (walk_at "ev"))
  | (refine evd_eqI ?_ ?_; (walk_at "ev"); (walk_at "ev"))
  | (refine evd_neI ?_ ?_; (walk_at "ev"); (walk_at "ev"))
  | (refine evd_eqS ?_ ?_; (walk_at "ev"); (walk_at "ev"))
  | (refine evd_eqB ?_ ?_; (walk_at "ev"); (walk_at "ev"))
  | (refine evd_neB ?_ ?_; (walk_at "ev"); (walk_at "ev"))
  | (refine evd_isN ?_ ?_; (walk_at "ev"); exact rfl)
  | (refine evd_notN ?_ ?_; (walk_at "ev"); exact rfl)
  | (refine evd_ixT ?_ ?_ ?_; (walk_at "ev"); (walk_at "ev"); (walk_at "ix"))
  | (refine evd_ixL ?_ ?_ ?_ ?_ ?_; (walk_at "ev"); (walk_at "h"); (walk_at "h"); (walk_at "ev"); (walk_at "ix"))
  | (refine evd_tup ?_ ?_; (walk_at "evs"); exact Nat.le_of_ble_eq_true rfl)
  | (refine evd_lenD ?_; walk_at "ev")
  | (refine evd_lenL ?_ ?_; (walk_at "ev"); (walk_at "h"))
  | (refine evd_intI ?_; walk_at "ev")
  | (refine evd_intB ?_; walk_at "ev")
  | (refine evd_notV ?_; walk_at "ev"))
local macro_rules | `(tactic| walk_at "evs") => `(tactic| first
  | exact evds_nil
  | (refine evds_cons ?_ ?_; (walk_at "ev"); (walk_at "evs")))
local macro_rules | `(tactic| walk_at "et") => `(tactic| first
  | (refine et_test ?_; walk_at "ev")
  | (refine et_B ?_; walk_at "ev")
  | (refine et_tru ?_ ?_; (walk_at "ev"); (walk_at "h"))
  | (refine Evl.et_not ?_; walk_at "et")
  | (refine et_chain2 ?_ ?_ ?_; (walk_at "ev"); (walk_at "ev"); (walk_at "ev")))
theorem PathTo.sub {ps ps' : List (Nat × Nat)} {st : Nat → Prop} {x : Nat} (h : PathTo ps st x) (hs : ∀ q ∈ ps, q ∈ ps') : PathTo ps' st x := h.closed (P := PathTo ps' st) (fun y hy => .base hy) fun q hq h1 => .step h1 (hs q hq)
def both (rs : List (Nat × Nat)) : List (Nat × Nat) := rs ++ rs.map swapP
theorem mem_both {rs : List (Nat × Nat)} {a b : Nat} : (a, b) ∈ both rs ↔ (a, b) ∈ rs ∨ (b, a) ∈ rs := by
  unfold both
  rw [List.mem_append, List.mem_map]
  refine or_congr Iff.rfl ⟨?_, fun h => ⟨(b, a), h, rfl⟩⟩
  rintro ⟨⟨c, d⟩, h, e⟩
  unfold swapP at e
  injection e with e1 e2
  subst e1 e2
  exact h
theorem PathTo.trans {ps : List (Nat × Nat)} {a b c : Nat} (h : PathTo ps (fun y => y = a) b) (g : PathTo ps (fun y => y = b) c) : PathTo ps (fun y => y = a) c := g.closed (P := PathTo ps fun y => y = a) (fun y hy => by rw [hy]; exact h) fun q hq h1 => .step h1 hq
theorem PathTo.rev {rs : List (Nat × Nat)} {a b : Nat} (h : PathTo (both rs) (fun y => y = a) b) : PathTo (both rs) (fun y => y = b) a := by
  induction h with
  | base h => exact .base h.symm
  | @step x y hx hm ih =>
    have : PathTo (both rs) (fun z => z = y) x := .step (.base rfl) (mem_both.mpr ((mem_both.mp hm).symm))
    exact this.trans ih
/-- the net so far: the first j + 1 stations of the order hang together -/
structure NI (n : Nat) (l : List Nat) (rs : List (Nat × Nat)) (j : Nat) : Prop where
  ends : ∀ p ∈ rs, p.1 < n ∧ p.2 < n ∧ p.1 ≠ p.2
  conn : ∀ i, i ≤ j → i < n → PathTo (both rs) (fun y => y = l.getD 0 0) (l.getD i 0)
theorem NI.zero {n : Nat} {l : List Nat} : NI n l [] 0 := ⟨fun p hp => (by cases hp), fun i h1 h2 => by
  have : i = 0 := by omega
  subst this
  exact .base rfl⟩
theorem both_sub {rs rs' : List (Nat × Nat)} (h : ∀ q ∈ rs, q ∈ rs') : ∀ q ∈ both rs, q ∈ both rs' := fun ⟨a, b⟩ hq => mem_both.mpr ((mem_both.mp hq).imp (h _) (h _))
theorem NI.add {n : Nat} {l : List Nat} {rs rs' : List (Nat × Nat)} {j x y : Nat} {p : Nat × Nat} (N : NI n l rs j) (hm : ∀ q, q ∈ rs' ↔ q ∈ rs ∨ q = p) (hp : p = (x, y) ∨ p = (y, x)) (hx : x < n) (hy : y < n) (hxy : x ≠ y) : NI n l rs' j := by
  refine ⟨fun q hq => ?_, fun i h1 h2 => (N.conn i h1 h2).sub (both_sub fun q hq => (hm q).mpr (.inl hq))⟩
  rcases (hm q).mp hq with h | rfl
  · exact N.ends q h
  · rcases hp with rfl | rfl
    · exact ⟨hx, hy, hxy⟩
    · exact ⟨hy, hx, hxy.symm⟩
theorem NI.grow {n : Nat} {l : List Nat} {rs rs' : List (Nat × Nat)} {j i : Nat} {p : Nat × Nat} (N : NI n l rs j) (hm : ∀ q, q ∈ rs' ↔ q ∈ rs ∨ q = p) (hp : p = (l.getD i 0, l.getD (j + 1) 0) ∨ p = (l.getD (j + 1) 0, l.getD i 0)) (hi : i ≤ j) (hj : j + 1 < n) (hx : l.getD i 0 < n) (hy : l.getD (j + 1) 0 < n) (hxy : l.getD i 0 ≠ l.getD (j + 1) 0) : NI n l rs' (j + 1) := by
  have A := N.add hm hp hx hy hxy
  refine ⟨A.ends, fun k h1 h2 => ?_⟩
  rcases Nat.lt_or_ge k (j + 1) with h | h
  · exact A.conn k (by omega) h2
  · have : k = j + 1 := by omega
    subst this
    refine .step (A.conn i hi (by omega)) (mem_both.mpr ?_)
    rcases hp with hp | hp
    · exact .inl ((hm _).mpr (.inr hp.symm))
    · exact .inr ((hm _).mpr (.inr hp.symm))
theorem NI.wok {n : Nat} {l : List Nat} {rs : List (Nat × Nat)} {j : Nat} (N : NI n l rs j) (hj : n ≤ j + 1) (h1 : 1 ≤ n) (h24 : n ≤ 24) (h40 : rs.length ≤ 40) (hl : l.length = n) (hm : ∀ x, x ∈ l ↔ x < n) : WOk ⟨n, rs⟩ := by
  have hall : ∀ x, x < n → PathTo (both rs) (fun y => y = l.getD 0 0) x := fun x hx => by
    obtain ⟨i, hi⟩ := List.getElem?_of_mem ((hm x).mpr hx)
    have hil := (List.getElem?_eq_some_iff.mp hi).1
    have := N.conn i (by omega) (by omega)
    rw [getD_of hi] at this
    exact this
  exact ⟨h1, h24, h40, N.ends, fun x hx => (hall 0 h1).rev.trans (hall x hx)⟩
theorem nodup_getD {l : List Nat} (h : l.Nodup) {i j : Nat} (hi : i < l.length) (hj : j < l.length) (hij : i ≠ j) : l.getD i 0 ≠ l.getD j 0 := fun z => by
  have e1 : l[i]? = some (l.getD i 0) := by rw [List.getD_eq_getElem?_getD, List.getElem?_eq_getElem hi]; rfl
  have e2 : l[j]? = some (l.getD j 0) := by rw [List.getD_eq_getElem?_getD, List.getElem?_eq_getElem hj]; rfl
  exact hij ((List.getElem?_inj (i := i) (j := j) hi h).mp (by rw [e1, e2, z]))
def chain0 (n s : Nat) : Nat := if s = 1 ∨ s = 4 then n else 1
section
variable {K : PySem.W.Frag} {mg : Str → Option Value} {σ : L2.St} {H : Hp} {te ta tb tv tx : TE} {tr : TA} {ds es fs : List D} {d d1 d2 : D} {E : Ends} {tz : TS}
theorem add_rope {b np r0 r1 : Addr} {x y : Nat} {rs : List (Nat × Nat)} {ts : List Nat} {Q : VK} {X : XK} {T : Txt K mg} (hb : Bag H b) (hd : Draw H np r0 r1 rs ts) (hl : rs.length ≤ 1000) (n0 : b ≠ np) (n1 : b ≠ r0) (n2 : b ≠ r1) (n3 : np ≠ r0) (n4 : np ≠ r1) (n5 : r0 ≠ r1)
    (h0 : EvD ta σ H (.adr b)) (h1 : EvD tb σ H (.adr np)) (h2 : EvD tv σ H (dn x)) (h3 : EvD tx σ H (dn y))
    (k : ∀ v H' rs' ts' p, ExS [b, r0, r1] H H' → Bag H' b → Draw H' np r0 r1 rs' ts' → rs'.length = rs.length + 1 → (∀ q, q ∈ rs' ↔ q ∈ rs ∨ q = p) → (p = (x, y) ∨ p = (y, x)) → Q v H') : tCall (sp_l_add_rope T) [] X (tCons ta (tCons tb (tCons tv (tCons tx tNil)))) σ H Q :=
  callF (evds_cons h0 (evds_cons h1 (evds_cons h2 (evds_cons h3 evds_nil)))) rfl fun H1 e => ⟨b, np, r0, r1, x, y, rs, ts, rfl, hb.mono e, hd.mono e, hl, n0, n1, n2, n3, n4, n5, fun H2 rs' ts' p e2 b2 d2 hh hm hp => k _ H2 rs' ts' p ((ExS.of_ex e).trans e2) b2 d2 hh hm hp⟩
theorem takeAdd {b : Addr} {m : Nat} {c : Int} {Q : VK} {X : XK} {T : Txt K mg} (hb : Bag H b) (h0 : EvD ta σ H (.adr b)) (h : EvD te σ H (dn m)) (hm : 0 < m) (hm2 : m < 1073741824) (k : ∀ (r : Nat) H', r < m → ExB b H H' → Bag H' b → Q (.int (c + r)) H') : tOp kAdd (tC (.int c)) (tCall (sp_l_take T) [] X (tCons ta (tCons te tNil))) σ H Q :=
  take (Q := fun y H2 => kAdd (.int c) y H2 Q) hb h0 h hm hm2 fun r H' hr e b' => ⟨c, r, rfl, rfl, k r H' hr e b'⟩
theorem pure_l_net (T : Txt K mg) (vs : List V) (H : Hp) (Q : VK) (E : XK) (h : sp_l_net T vs H Q E) : Goes (t_l_net T) N_l_net vs H Q := by
  obtain ⟨b, n, m, rfl, hb, hn1, hn24, hm17, k⟩ := h
  refine callF (evds_cons (evd_var rfl (.adr b)) (evds_cons (evd_var rfl (.int (n : Int))) evds_nil)) rfl fun H1 e1 => ⟨b, n, rfl, hb.mono e1, hn24, fun po l H2 hpo e2 b2 h2 hl hnd hmem => ?_⟩
  have hbpo : b ≠ po := fun z => by
    obtain ⟨xs, hx⟩ := (hb.mono e1).lst
    rw [z, hpo] at hx; cases hx
  refine take b2 (evd_var rfl (.adr b)) (evd_int (i := ((5 : Nat) : Int))) (by decide) (by decide) fun s H3 hs e3 b3 => ?_
  have x3 : ExB b H H3 := ((ExB.of_ex e1).trans e2).trans e3
  have h3 := e3 _ _ hbpo.symm h2
  have hch : atI [D.int 1, dn n, .int 1, .int 1, dn n] (s : Int) = some (dn (chain0 n s)) := by
    rcases (show s = 0 ∨ s = 1 ∨ s = 2 ∨ s = 3 ∨ s = 4 by omega) with rfl | rfl | rfl | rfl | rfl <;> rfl
  refine q_asg (evd_ixN (evn_lst (evds_cons evd_int (evds_cons (evd_var rfl (.int (n : Int))) (evds_cons evd_int (evds_cons evd_int (evds_cons (evd_var rfl (.int (n : Int))) evds_nil))))) (Nat.le_of_ble_eq_true rfl)) (evd_var rfl (.int (s : Int))) hch) fun v H4 e4 f4 => ?_
  obtain rfl := f4.int_of
  -- from here on: the chain is c
  have go : ∀ (c : Nat) (H5 : Hp), ExB b H H5 → Bag H5 b → H5 po = some (.lst (nats l)) → 1 ≤ c → c ≤ n → ((s = 1 ∨ s = 3) → 1 < n → 2 ≤ c) →
      (tSeq (tAsg (tLst (tCons (tLst tNil) (tCons (tLst tNil) tNil))) (gName 6))
    (tSeq (tFor (iRng2 (tCons (tC (.int 1)) (tCons (tVar 1) tNil))) (gName 7)
    (tSeq (tAsg (tOp kSub (tVar 7) (tC (.int 1))) (gName 8))
    (tSeq (tIfS (tTest (tOp kGe (tVar 7) (tVar 5))) (tAsg (tCall (sp_l_take T) [] E0 (tCons (tVar 0) (tCons (tVar 7) tNil))) (gName 8))
    tNext)
    (tDrop (tCall (sp_l_add_rope T) [] E0 (tCons (tVar 0) (tCons (tVar 6) (tCons (tOp (rIx K) (tVar 3) (tVar 8)) (tCons (tOp (rIx K) (tVar 3) (tVar 7)) tNil)))))))))
    (tSeq (tIfS (tAnd (tTest (tOp kGt (tVar 1) (tC (.int 1)))) (tOr (tTest (tOp rEq (tVar 4) (tC (.int 1)))) (tTest (tOp rEq (tVar 4) (tC (.int 3)))))) (tDrop (tCall (sp_l_add_rope T) [] E0 (tCons (tVar 0) (tCons (tVar 6) (tCons (tOp (rIx K) (tVar 3) (tOp kSub (tVar 5) (tC (.int 1)))) (tCons (tOp (rIx K) (tVar 3) (tC (.int 0))) tNil))))))
    tNext)
    (tSeq (tIfS (tAnd (tTest (tOp kGt (tVar 1) (tC (.int 1)))) (tTest (tOp rEq (tVar 4) (tC (.int 2))))) (tFor (iRng1 (tCons (tCall (sp_l_take T) [] E0 (tCons (tVar 0) (tCons (tOp kAdd (tVar 2) (tC (.int 1))) tNil))) tNil)) (gName 7)
    (tSeq (tAsg (tCall (sp_l_take T) [] E0 (tCons (tVar 0) (tCons (tVar 1) tNil))) (gName 9))
    (tSeq (tAsg (tOp kAdd (tC (.int 1)) (tCall (sp_l_take T) [] E0 (tCons (tVar 0) (tCons (tOp kSub (tVar 1) (tC (.int 1))) tNil)))) (gName 10))
    (tDrop (tCall (sp_l_add_rope T) [] E0 (tCons (tVar 0) (tCons (tVar 6) (tCons (tVar 9) (tCons (tOp kMod (tCB rInt1 (tCons (tOp kAdd (tVar 9) (tVar 10)) tNil)) (tVar 1)) tNil)))))))))
    tNext)
    (tRet (tLst (tCons (tVar 3) (tCons (tOp (rIx K) (tVar 6) (tC (.int 0))) (tCons (tOp (rIx K) (tVar 6) (tC (.int 1))) tNil)))))))))
      { nx := fun _ H' => Q .non H', rt := Q } [some (.ref b), some (vn n), some (vn m), some (.ref po), some (vn s), some (vn c), none, none, none, none, none] H5 := fun c H5 x5 b5 h5 hc1 hcn hc2 => by
    -- the two lists
    refine ⟨Nat.zero_le _, fun r0 hr0 => ⟨Nat.zero_le _, fun r1 hr1 => ⟨(by show 2 ≤ sizeLine; decide), fun np hnp => ?_⟩⟩⟩
    have hx0 : Ex H5 (upd H5 r0 (.lst [])) := Ex.new hr0
    have hx1 := hx0.trans (Ex.new (o := .lst []) hr1)
    have hx2 := hx1.trans (Ex.new (o := .lst [V.ref r0, .ref r1]) hnp)
    have n5 : r0 ≠ r1 := ne_of_none (upd_same (H := H5) (a := r0)) hr1
    have g1 : (upd (upd H5 r0 (.lst [])) r1 (.lst [])) r1 = some (.lst []) := upd_same
    have g0 : (upd (upd H5 r0 (.lst [])) r1 (.lst [])) r0 = some (.lst []) := by rw [upd_ne n5]; exact upd_same
    have n3 : np ≠ r0 := (ne_of_none g0 hnp).symm
    have n4 : np ≠ r1 := (ne_of_none g1 hnp).symm
    have D0 : Draw (upd (upd (upd H5 r0 (.lst [])) r1 (.lst [])) np (.lst [V.ref r0, .ref r1])) np r0 r1 [] [] := ⟨upd_same, ⟨[], by rw [upd_ne n3.symm]; exact g0, .nil⟩, by rw [upd_ne n4.symm]; exact g1, rfl, fun t ht => by cases ht⟩
    obtain ⟨bx, hbx⟩ := b5.lst
    have n1 : b ≠ r0 := ne_of_none hbx hr0
    have n2 : b ≠ r1 := ne_of_none (hx0 _ _ hbx) hr1
    have n0 : b ≠ np := ne_of_none (hx1 _ _ hbx) hnp
    have p0 : po ≠ r0 := ne_of_none h5 hr0
    have p1 : po ≠ r1 := ne_of_none (hx0 _ _ h5) hr1
    have pn : po ≠ np := ne_of_none (hx1 _ _ h5) hnp
    have bD := b5.mono hx2
    have hpo5 := hx2 _ _ h5
    generalize upd (upd (upd H5 r0 (.lst [])) r1 (.lst [])) np (.lst [V.ref r0, .ref r1]) = G at *
    have hG : ∀ {H' : Hp}, ExS [b, r0, r1] G H' → H' po = some (.lst (nats l)) := fun e => e _ _ (by simp [hbpo.symm, p0, p1]) hpo5
    have hback : ∀ {H' : Hp}, ExS [b, r0, r1] G H' → ExB b H H' := fun {H'} e a o n h => by
      have h5a := x5 _ _ n h
      exact e _ _ (by
        simp only [List.mem_cons, List.not_mem_nil, or_false, not_or]
        exact ⟨n, ne_of_none h5a hr0, ne_of_none (hx0 _ _ h5a) hr1⟩) (hx2 _ _ h5a)
    have hgl : ∀ i, i < n → l.getD i 0 < n := fun i hi => (hmem _).mp (getD_mem (by omega))
    -- the tree
    refine q_forI (i_rng2 (a := 1) (n := n) (evd_int (i := ((1 : Nat) : Int))) (evd_var rfl (.int (n : Int))) (by omega) (by omega) fun J H6 e6 S6 => ?_)
    refine q_for S6 (fun i σ' H' => ∃ (rs : List (Nat × Nat)) (ts : List Nat) (x y : Option V), σ' = [some (.ref b), some (vn n), some (vn m), some (.ref po), some (vn s), some (vn c), some (.ref np), x, y, none, none] ∧ ExS [b, r0, r1] G H' ∧ Bag H' b ∧ Draw H' np r0 r1 rs ts ∧ rs.length = i ∧ NI n l rs i)
      ⟨[], [], none, none, rfl, ExS.of_ex e6, bD.mono e6, D0.mono e6, rfl, NI.zero⟩ (fun i σ' H' _ _ => trivial) ?_ ?_
    · rintro i v σ' H7 H8 hi ⟨rs, ts, x, y, rfl, x7, b7, d7, hrl, N⟩ e8 rfl
      have hin : 1 + i < n := by omega
      have hvi : vn (1 + i) = vn (i + 1) := by rw [Nat.add_comm]
      rw [hvi]
      refine q_asg (EvD.eq (evd_sub (evd_var rfl (.int ((i + 1 : Nat) : Int))) evd_int) (e := dn i) (by show D.int _ = D.int _; congr 1; omega)) fun v H9 e9 f9 => ?_
      obtain rfl := f9.int_of
      have x9 := (x7.trans (ExS.of_ex e8)).trans (ExS.of_ex e9)
      have b9 := (b7.mono e8).mono e9
      have d9 := (d7.mono e8).mono e9
      have fin : ∀ (near : Nat) (H10 : Hp), near ≤ i → ExS [b, r0, r1] G H10 → Bag H10 b → Draw H10 np r0 r1 rs ts → ∀ EE : Ends, (∀ σ2 H2, (∃ (rs : List (Nat × Nat)) (ts : List Nat) (x y : Option V), σ2 = [some (.ref b), some (vn n), some (vn m), some (.ref po), some (vn s), some (vn c), some (.ref np), x, y, none, none] ∧ ExS [b, r0, r1] G H2 ∧ Bag H2 b ∧ Draw H2 np r0 r1 rs ts ∧ rs.length = i + 1 ∧ NI n l rs (i + 1)) → EE.nx σ2 H2) →
          tDrop (tCall (sp_l_add_rope T) [] E0 (tCons (tVar 0) (tCons (tVar 6) (tCons (tOp (rIx K) (tVar 3) (tVar 8)) (tCons (tOp (rIx K) (tVar 3) (tVar 7)) tNil))))) EE [some (.ref b), some (vn n), some (vn m), some (.ref po), some (vn s), some (vn c), some (.ref np), some (vn (i + 1)), some (vn near), none, none] H10 := fun near H10 hni x10 b10 d10 EE hEE => by
        have h10 := hG x10
        refine add_rope (x := l.getD near 0) (y := l.getD (i + 1) 0) b10 d10 (by omega) n0 n1 n2 n3 n4 n5 (evd_var rfl (.adr b)) (evd_var rfl (.adr np)) (evd_ixL (evd_var rfl (.adr po)) h10 (FzL.nats _) (evd_var rfl (.int (near : Int))) (at_dn (by omega))) (evd_ixL (evd_var rfl (.adr po)) h10 (FzL.nats _) (evd_var rfl (.int ((i + 1 : Nat) : Int))) (at_dn (by omega))) fun v H11 rs' ts' p x11 b11 d11 hrl' hm' hp' => ?_
        exact hEE _ _ ⟨rs', ts', _, _, rfl, x10.trans x11, b11, d11, by omega, N.grow hm' hp' hni (by omega) (hgl _ (by omega)) (hgl _ (by omega)) (nodup_getD hnd (by omega) (by omega) (by omega))⟩
      refine q_if (et_test (evd_ge (evd_var rfl (.int _)) (evd_var rfl (.int _)))) (fun hb' H10 e10 => ?_) fun hb' H10 e10 => ?_
      · refine take (m := i + 1) (b9.mono e10) (evd_var rfl (.adr b)) (evd_var rfl (.int ((i + 1 : Nat) : Int))) (Nat.succ_pos _) (by omega) fun r H11 hr e11 b11 => ?_
        exact fin r H11 (by omega) ((x9.trans (ExS.of_ex e10)).trans (ExS.of_b e11 (by simp))) b11 ((d9.mono e10).exb e11 (b9.mono e10) n0 n1 n2) _ fun σ2 H2 z => z
      · exact fin i H10 (Nat.le_refl _) (x9.trans (ExS.of_ex e10)) (b9.mono e10) (d9.mono e10) _ fun σ2 H2 z => z
    rintro σ' H7 ⟨rs, ts, x, y, rfl, x7, b7, d7, hrl, N⟩
    -- the end
    have last : ∀ (H8 : Hp) (rs : List (Nat × Nat)) (ts : List Nat) (x y z u : Option V), ExS [b, r0, r1] G H8 → Bag H8 b → Draw H8 np r0 r1 rs ts → rs.length ≤ 40 → NI n l rs (n - 1) → ∀ EE : Ends, EE.rt = Q →
        tRet (tLst (tCons (tVar 3) (tCons (tOp (rIx K) (tVar 6) (tC (.int 0))) (tCons (tOp (rIx K) (tVar 6) (tC (.int 1))) tNil)))) EE [some (.ref b), some (vn n), some (vn m), some (.ref po), some (vn s), some (vn c), some (.ref np), x, y, z, u] H8 := fun H8 rs ts x y z u x8 b8 d8 hr N EE hEE => by
      refine s_retN (evn_lst (evds_cons (evd_var rfl (.adr po)) (evds_cons (evd_ixL (evd_var rfl (.adr np)) d8.1 FzL.pair evd_int (d := .adr r0) rfl) (evds_cons (evd_ixL (evd_var rfl (.adr np)) d8.1 FzL.pair evd_int (d := .adr r1) rfl) evds_nil))) (Nat.le_of_ble_eq_true rfl)) fun q xs H9 hq e9 h9 f9 => ?_
      obtain rfl := f9.flat_of rfl
      rw [hEE]
      obtain ⟨_, ⟨us, hu, fu⟩, ht, htl, hts⟩ := d8
      obtain ⟨xs8, hx8⟩ := b8.lst
      exact k q po r0 r1 l rs ts us H9 ((hback x8).trans (ExB.of_ex e9)) (b8.mono e9) (ne_of_none hx8 hq) hbpo n1 n2 h9 (e9 _ _ (hG x8)) hl (fun x hx => (hmem x).mp hx) (e9 _ _ hu) (fu.mono (Kp.ex e9)) (e9 _ _ ht) htl hts (N.wok (by omega) hn1 hn24 hr hl hmem)
    have bq : ∀ a : Nat, decide ((s : Int) = a) = decide (s = a) := fun a => decide_eq_decide.mpr (by omega)
    refine q_if (b := decide (1 < n) && (decide (s = 1) || decide (s = 3))) (Evl.et_and (Evl.et_is (et_test (evd_gt (evd_var rfl (.int _)) evd_int)) (decide_eq_decide.mpr (by omega))) fun _ => Evl.et_or (Evl.et_is (et_test (evd_eqI (evd_var rfl (.int _)) evd_int)) (bq 1)) fun _ => Evl.et_is (et_test (evd_eqI (evd_var rfl (.int _)) evd_int)) (bq 3)) (fun hb' H8 e8 => ?_) fun hb' H8 e8 => ?_
    · rw [Bool.and_eq_true, Bool.or_eq_true, decide_eq_true_iff, decide_eq_true_iff, decide_eq_true_iff] at hb'
      have h2c := hc2 hb'.2 hb'.1
      have x8 := x7.trans (ExS.of_ex e8)
      have h8 := hG x8
      refine add_rope (x := l.getD (c - 1) 0) (y := l.getD 0 0) (b7.mono e8) (d7.mono e8) (by omega) n0 n1 n2 n3 n4 n5 (evd_var rfl (.adr b)) (evd_var rfl (.adr np)) (evd_ixL (evd_var rfl (.adr po)) h8 (FzL.nats _) (EvD.eq (evd_sub (evd_var rfl (.int (c : Int))) evd_int) (e := dn (c - 1)) (by show D.int _ = D.int _; congr 1; omega)) (at_dn (by omega))) (evd_ixL (evd_var rfl (.adr po)) h8 (FzL.nats _) (evd_int (i := ((0 : Nat) : Int))) (at_dn (by omega))) fun v H9 rs' ts' p x9 b9 d9 hrl' hm' hp' => ?_
      have N9 := N.add hm' hp' (hgl _ (by omega)) (hgl _ (by omega)) (nodup_getD hnd (by omega) (by omega) (by omega))
      refine q_if (b := false) (Evl.et_is (a := decide (1 < n) && decide (s = 2)) (Evl.et_and (Evl.et_is (et_test (evd_gt (evd_var rfl (.int _)) evd_int)) (decide_eq_decide.mpr (by omega))) fun _ => Evl.et_is (et_test (evd_eqI (evd_var rfl (.int _)) evd_int)) (bq 2)) (by rw [decide_eq_false (show ¬ s = 2 by omega), Bool.and_false])) (fun z => by cases z) fun _ H10 e10 => ?_
      exact last H10 rs' ts' _ _ _ _ ((x8.trans x9).trans (ExS.of_ex e10)) (b9.mono e10) (d9.mono e10) (by omega) N9 _ rfl
    · have x8 := x7.trans (ExS.of_ex e8)
      refine q_if (b := decide (1 < n) && decide (s = 2)) (Evl.et_and (Evl.et_is (et_test (evd_gt (evd_var rfl (.int _)) evd_int)) (decide_eq_decide.mpr (by omega))) fun _ => Evl.et_is (et_test (evd_eqI (evd_var rfl (.int _)) evd_int)) (bq 2)) (fun hb2 H9 e9 => ?_) fun hb2 H9 e9 => ?_
      · rw [Bool.and_eq_true, decide_eq_true_iff, decide_eq_true_iff] at hb2
        refine take (m := m + 1) ((b7.mono e8).mono e9) (evd_var rfl (.adr b)) (EvD.eq (evd_add (evd_var rfl (.int (m : Int))) evd_int) rfl) (Nat.succ_pos _) (by omega) fun r H10 hr e10 b10 => ?_
        have x10 := (x8.trans (ExS.of_ex e9)).trans (ExS.of_b e10 (by simp))
        have d10 := ((d7.mono e8).mono e9).exb e10 ((b7.mono e8).mono e9) n0 n1 n2
        refine ⟨(r : Int), rfl, by omega, by omega, ?_⟩
        rw [Int.toNat_natCast]
        refine s_for src_r (fun i σ' H' => ∃ (rs : List (Nat × Nat)) (ts : List Nat) (x y z u : Option V), σ' = [some (.ref b), some (vn n), some (vn m), some (.ref po), some (vn s), some (vn c), some (.ref np), x, y, z, u] ∧ ExS [b, r0, r1] G H' ∧ Bag H' b ∧ Draw H' np r0 r1 rs ts ∧ rs.length = (n - 1) + i ∧ NI n l rs (n - 1))
          ⟨rs, ts, _, _, _, _, rfl, x10, b10, d10, by omega, N⟩ (fun i σ' H' _ _ => trivial) ?_ ?_
        · rintro i v σ' H11 H12 hi ⟨rs, ts, x, y, z, u, rfl, x11, b11, d11, hrl', N'⟩ e12 rfl
          refine take (m := n) (b11.mono e12) (evd_var rfl (.adr b)) (evd_var rfl (.int (n : Int))) (by omega) (by omega) fun one H13 hone e13 b13 => ?_
          have x13 := (x11.trans (ExS.of_ex e12)).trans (ExS.of_b e13 (by simp))
          have d13 := (d11.mono e12).exb e13 (b11.mono e12) n0 n1 n2
          have e14 := Ex.refl H13
          refine takeAdd (m := n - 1) b13 (evd_var rfl (.adr b)) (EvD.eq (evd_sub (evd_var rfl (.int (n : Int))) evd_int) (by show D.int _ = D.int _; congr 1; omega)) (by omega) (by omega) fun gap H15 hgap e15 b15 => ?_
          have x15 := x13.trans (ExS.of_b e15 (by simp))
          have d15 := d13.exb e15 b13 n0 n1 n2
          have hmod : ((one : Int) + (1 + (gap : Int))) % (n : Int) = (((one + 1 + gap) % n : Nat) : Int) := by
            rw [show ((one : Int) + (1 + (gap : Int))) = ((one + 1 + gap : Nat) : Int) by omega]; rfl
          have hlt : (one + 1 + gap) % n < n := Nat.mod_lt _ (by omega)
          have hne : one ≠ (one + 1 + gap) % n := fun z => by
            rcases Nat.lt_or_ge (one + 1 + gap) n with h | h
            · rw [Nat.mod_eq_of_lt h] at z; omega
            · rw [Nat.mod_eq_sub_mod h, Nat.mod_eq_of_lt (by omega)] at z; omega
          refine add_rope (x := one) (y := (one + 1 + gap) % n) b15 d15 (by omega) n0 n1 n2 n3 n4 n5 (evd_var rfl (.adr b)) (evd_var rfl (.adr np)) (evd_var rfl (.int (one : Int))) (EvD.eq (evd_mod (evd_intI (evd_add (evd_var rfl (.int (one : Int))) (evd_var rfl (.int (1 + (gap : Int)))))) (evd_var rfl (.int (n : Int))) (by omega)) (by rw [hmod])) fun v H16 rs' ts' p x16 b16 d16 hrl'' hm'' hp'' => ?_
          exact ⟨rs', ts', _, _, _, _, rfl, x15.trans x16, b16, d16, by omega, N'.add hm'' hp'' hone hlt hne⟩
        · rintro σ' H11 ⟨rs, ts, x, y, z, u, rfl, x11, b11, d11, hrl', N'⟩
          exact last H11 rs ts _ _ _ _ x11 b11 d11 (by omega) N' _ rfl
      · exact last H9 rs ts _ _ _ _ (x8.trans (ExS.of_ex e9)) ((b7.mono e8).mono e9) ((d7.mono e8).mono e9) (by omega) N _ rfl
  have x4 := x3.trans (ExB.of_ex e4)
  have h4 := e4 _ _ h3
  have b4 := b3.mono e4
  refine q_if (b := decide (1 < n) && decide (s = 3)) (Evl.et_and (Evl.et_is (et_test (evd_gt (evd_var rfl (.int _)) evd_int)) (decide_eq_decide.mpr (by omega))) fun _ => Evl.et_is (et_test (evd_eqI (evd_var rfl (.int _)) evd_int)) (decide_eq_decide.mpr (by omega))) (fun hb' H5 e5 => ?_) fun hb' H5 e5 => ?_
  · rw [Bool.and_eq_true, decide_eq_true_iff, decide_eq_true_iff] at hb'
    refine takeAdd (m := n - 1) (b4.mono e5) (evd_var rfl (.adr b)) (EvD.eq (evd_sub (evd_var rfl (.int (n : Int))) evd_int) (by show D.int _ = D.int _; congr 1; omega)) (by omega) (by omega) fun r H7 hr e7 b7 => ?_
    exact go (2 + r) H7 ((x4.trans (ExB.of_ex e5)).trans e7) b7 (e7 _ _ hbpo.symm (e5 _ _ h4)) (by omega) (by omega) (fun _ _ => by omega)
  · rw [Bool.and_eq_false_iff, decide_eq_false_iff_not, decide_eq_false_iff_not] at hb'
    refine go (chain0 n s) H5 (x4.trans (ExB.of_ex e5)) (b4.mono e5) (e5 _ _ h4) ?_ ?_ ?_
    · unfold chain0; split <;> omega
    · unfold chain0; split <;> omega
    · intro h1 h2
      have : s = 1 := by omega
      unfold chain0
      rw [if_pos (.inl this)]; omega
end
end TR
namespace TR
open PySem L2 PyProof.Rows
open Evl (Ex EvT fresh_back)
local macro_rules | `(tactic| walk_at "h") => `(tactic| first
  | assumption
  | (refine Ex.at (by assumption) ?_; walk_at "h")
  | (refine Kp.at (by assumption) ?_; walk_at "h")
  | (refine Fz.mono (Kp.ex (by assumption)) ?_; walk_at "h")
  | (refine Fz.mono (by assumption) ?_; walk_at "h")
  | (refine FzL.mono (Kp.ex (by assumption)) ?_; walk_at "h")
  | (refine FzL.mono (by assumption) ?_; walk_at "h")
  | (refine NetAt.mono (Kp.ex (by assumption)) ?_; walk_at "h")
  | (refine NetAt.mono (by assumption) ?_; walk_at "h")
  | (refine StaA.mono (Kp.ex (by assumption)) ?_; walk_at "h")
  | (refine StaA.mono (by assumption) ?_; walk_at "h")
  | (refine Sta.mono (Kp.ex (by assumption)) ?_; walk_at "h")
  | (refine Sta.mono (by assumption) ?_; walk_at "h")
  | (refine Lst.mono (by assumption) ?_; walk_at "h")
  | (refine Seq.mono (by assumption) ?_; walk_at "h"))
local macro_rules | `(tactic| walk_at "fz") => `(tactic| first
  | exact Fz.int _ | exact Fz.bl _ | exact Fz.str _ | exact Fz.non
  | walk_at "h"
  | exact Fz.adr _)
local macro_rules | `(tactic| walk_at "ix") => `(tactic| first
  | exact rfl
  | (refine atI_nat ?_; first | assumption | rfl | (simp; done)))
local macro_rules | `(tactic| walk_at "ev") => `(tactic| first
  | exact evd_int | exact evd_str | exact evd_bl | exact evd_non
  | (refine evd_var rfl ?_; walk_at "fz")
  | (refine evd_stations ?_ ?_; (walk_at "h"); (walk_at "ev"))
  | (refine evd_ropes ?_ ?_; (walk_at "h"); (walk_at "ev"))
  | (refine evd_net ?_ ?_; (walk_at "h"); (walk_at "ev"))
  | (refine evd_reds ?_ ?_; (walk_at "h"); (walk_at "ev"))
  | (refine evd_blues ?_ ?_; (walk_at "h"); (walk_at "ev"))
  | (refine evd_cars ?_ ?_; (walk_at "h"); (walk_at "ev"))
  | (refine evd_add ?_ ?_; (walk_at "ev"); (walk_at "ev"))
  | (refine evd_sub ?_ ?_; (walk_at "ev"); (walk_at "ev"))
  | (refine evd_lt ?_ ?_; (walk_at "ev"); (walk_at "ev"))
  | (refine evd_le ?_ ?_; (walk_at "ev"); (walk_at "ev"))
  | (refine evd_gt ?_ ?_; (walk_at "ev"); (walk_at "ev"))
  | (refine evd_ge ?_ ?_; (walk_at "ev"); (walk_at "ev"))
  | (refine evd_neg ?_; (walk_at "ev"))
  | (refine evd_eqI ?_ ?_; (walk_at "ev"); (walk_at "ev"))
  | (refine evd_neI ?_ ?_; (walk_at "ev"); (walk_at "ev"))
  | (refine evd_eqS ?_ ?_; (walk_at "ev"); (walk_at "ev"))
  | (refine evd_eqB ?_ ?_; (walk_at "ev"); (walk_at "ev"))
  | (refine evd_neB ?_ ?_; (walk_at "ev"); (walk_at "ev"))
  | (refine evd_isN ?_ ?_; (walk_at "ev"); exact rfl)
  | (refine evd_notN ?_ ?_; (walk_at "ev"); exact rfl)
  | (refine evd_ixT ?_ ?_ ?_; (walk_at "ev"); (walk_at "ev"); (walk_at "ix"))
  | (refine evd_ixL ?_ ?_ ?_ ?_ ?_; (walk_at "ev"); (walk_at "h"); (walk_at "h"); (walk_at "ev"); (walk_at "ix"))
  | (refine evd_tup ?_ ?_; (walk_at "evs"); exact Nat.le_of_ble_eq_true rfl)
  | (refine evd_lenD ?_; walk_at "ev")
  | (refine evd_lenL ?_ ?_; (walk_at "ev"); (walk_at "h"))
  | (refine evd_intI ?_; walk_at "ev")
  | (refine evd_intB ?_; walk_at "ev")
  | (refine evd_notV ?_; walk_at "ev"))
local macro_rules | `(tactic| walk_at "evs") => `(tactic| first
  | exact evds_nil
  | (refine evds_cons ?_ ?_; (walk_at "ev"); (walk_at "evs")))
local macro_rules | `(tactic| walk_at "et") => `(tactic| first
  | (refine et_test ?_; walk_at "ev")
  | (refine et_B ?_; walk_at "ev")
  | (refine et_tru ?_ ?_; (walk_at "ev"); (walk_at "h"))
  | (refine Evl.et_not ?_; walk_at "et")
  | (refine et_chain2 ?_ ?_ ?_; (walk_at "ev"); (walk_at "ev"); (walk_at "ev")))
section
variable {K : PySem.W.Frag} {mg : Str → Option Value} {σ : L2.St} {H : Hp} {te ta tb tv tx : TE} {tr : TA} {ds es fs : List D} {d d1 d2 : D} {E : Ends} {tz : TS}
/-- a list of two new lists -/
theorem lst2N {Q : VK} (ha : EvN ta σ H ds) (hb : EvN tb σ H es)
    (k : ∀ q p0 p1 vs0 vs1 H', H q = none → H p0 = none → H p1 = none → Ex H H' → p0 ≠ p1 → q ≠ p0 → q ≠ p1 → H' q = some (.lst [.ref p0, .ref p1]) → H' p0 = some (.lst vs0) → FzL H' vs0 ds → H' p1 = some (.lst vs1) → FzL H' vs1 es → Q (.ref q) H') :
    tLst (tCons ta (tCons tb tNil)) σ H Q := ha H (Ex.refl _) _ fun p0 vs0 H1 hp0 e1 h1 f1 => hb H1 e1 _ fun p1 vs1 H2 hp1 e2 h2 f2 => ⟨(by show 2 ≤ sizeLine; decide), fun q hq => by
  have e3 : Ex H2 (upd H2 q (.lst [.ref p0, .ref p1])) := Ex.new hq
  have h01 : p0 ≠ p1 := ne_of_none h1 hp1
  exact k q p0 p1 vs0 vs1 _ (fresh_back (e1.trans e2) hq) hp0 (fresh_back e1 hp1) ((e1.trans e2).trans e3) h01 (ne_of_none (e2 _ _ h1) hq).symm (ne_of_none h2 hq).symm upd_same (e3 _ _ (e2 _ _ h1)) (f1.mono (Kp.ex (e2.trans e3))) (e3 _ _ h2) (f2.mono (Kp.ex e3))⟩
theorem q_lst2N {i : Nat} (ha : EvN ta σ H ds) (hb : EvN tb σ H es)
    (k : ∀ q p0 p1 vs0 vs1 H', H q = none → H p0 = none → H p1 = none → Ex H H' → p0 ≠ p1 → q ≠ p0 → q ≠ p1 → H' q = some (.lst [.ref p0, .ref p1]) → H' p0 = some (.lst vs0) → FzL H' vs0 ds → H' p1 = some (.lst vs1) → FzL H' vs1 es → tz E (σ.set i (some (.ref q))) H') :
    tSeq (tAsg (tLst (tCons ta (tCons tb tNil))) (gName i)) tz E σ H := by
  show tLst (tCons ta (tCons tb tNil)) σ H (fun v H1 => tz E (σ.set i (some v)) H1)
  exact lst2N (Q := fun v H1 => tz E (σ.set i (some v)) H1) ha hb k
theorem getD_set_sum {l : List Nat} {a : Nat} (h : a < l.length) : (l.set a (l.getD a 0 + 1)).sum = l.sum + 1 := by
  have := sum_setN (l := l) (a := a) (x := l.getD a 0 + 1) h
  omega
theorem nats_rep {n : Nat} : List.replicate n (D.int 0) = (List.replicate n 0).map dn := by rw [List.map_replicate]; rfl
theorem pure_l_guests (T : Txt K mg) (vs : List V) (H : Hp) (Q : VK) (E : XK) (h : sp_l_guests T vs H Q E) : Goes (t_l_guests T) N_l_guests vs H Q := by
  obtain ⟨b, po, l, n, m, rfl, hb, hbp, hpo, hl, hlt, hn1, hn24, hm1, hm30, k⟩ := h
  have hlen : ∀ {H1 : Hp} {σ : L2.St}, Ex H H1 → σ[1]? = some (some (.ref po)) → EvD (tCB (Evl.rLenS K) (tCons (tVar 1) tNil)) σ H1 (dn n) := fun {H1 σ} e hs => EvD.eq (evd_lenL (evd_var hs (.adr po)) (e _ _ hpo)) (by rw [List.length_map, hl])
  refine q_lst2N (evn_rep1 (k := n) (evd_int (i := 0)) rfl (hlen (σ := start N_l_guests [.ref b, .ref po, vn m]) (Ex.refl _) rfl) (by omega)) (evn_rep1 (k := n) (evd_int (i := 0)) rfl (hlen (σ := start N_l_guests [.ref b, .ref po, vn m]) (Ex.refl _) rfl) (by omega)) fun q g0 g1 v0 v1 H1 hq hg0 hg1 e1 n01 nq0 nq1 h1q h10 f10 h11 f11 => ?_
  rw [nats_rep] at f10 f11
  obtain rfl := f10.nats_of
  obtain rfl := f11.nats_of
  obtain ⟨bx, hbx⟩ := hb.lst
  have nbq : b ≠ q := ne_of_none hbx hq
  have nb0 : b ≠ g0 := ne_of_none hbx hg0
  have nb1 : b ≠ g1 := ne_of_none hbx hg1
  have np0 : po ≠ g0 := ne_of_none hpo hg0
  have np1 : po ≠ g1 := ne_of_none hpo hg1
  refine take (hb.mono e1) (evd_var rfl (.adr b)) (evd_int (i := ((8 : Nat) : Int))) (by decide) (by decide) fun s H2 hs e2 b2 => ?_
  refine takeAdd (m := m) b2 (evd_var rfl (.adr b)) (evd_var rfl (.int (m : Int))) (by omega) (by omega) fun r H3 hr e3 b3 => ?_
  have x3 : ExB b H1 H3 := e2.trans e3
  -- the turns
  have go : ∀ (many : Nat) (H4 : Hp), many ≤ 30 → Ex H3 H4 →
      (tSeq (tFor (iRng1 (tCons (tVar 5) tNil)) (gName 6)
    (tSeq (tAsg (tCall (sp_l_take T) [] E0 (tCons (tVar 0) (tCons (tCB (Evl.rLenS K) (tCons (tVar 1) tNil)) tNil))) (gName 7))
    (tSeq (tAsg (tCall (sp_l_take T) [] E0 (tCons (tVar 0) (tCons (tC (.int 2)) tNil))) (gName 8))
    (tSeq (tIfS (tOr (tTest (tOp rEq (tVar 4) (tC (.int 1)))) (tTest (tOp rEq (tVar 4) (tC (.int 2))))) (tAsg (tOp kSub (tVar 4) (tC (.int 1))) (gName 8))
    tNext)
    (tSeq (tIfS (tOr (tTest (tOp rEq (tVar 4) (tC (.int 3)))) (tTest (tOp rEq (tVar 4) (tC (.int 4))))) (tAsg (tOp (rIx K) (tVar 1) (tOp (rIx K) (tLst (tCons (tC (.int 0)) (tCons (tOp kSub (tCB (Evl.rLenS K) (tCons (tVar 1) tNil)) (tC (.int 1))) tNil))) (tOp kMod (tCB rInt1 (tCons (tOp kAdd (tVar 4) (tVar 8)) tNil)) (tC (.int 2))))) (gName 7))
    tNext)
    (tSeq (tAsg (tOp (rIx K) (tVar 3) (tVar 8)) (gName 9))
    (tAsg (tOp kAdd (tOp (rIx K) (tVar 9) (tVar 7)) (tC (.int 1))) (gSub (tVar 9) (tVar 7) rSetL))))))))
    (tRet (tVar 3))) { nx := fun _ H' => Q .non H', rt := Q } [some (.ref b), some (.ref po), some (vn m), some (.ref q), some (vn s), some (vn many), none, none, none, none] H4 := fun many H4 hmany e4 => by
    have x4 : ExB b H1 H4 := x3.trans (ExB.of_ex e4)
    refine q_forI (i_rng (evd_var rfl (.int (many : Int))) (by omega) fun J H5 e5 S5 => ?_)
    refine q_for S5 (fun i σ' H' => ∃ (l0 l1 : List Nat) (x y z u : Option V), σ' = [some (.ref b), some (.ref po), some (vn m), some (.ref q), some (vn s), some (vn many), x, y, z, u] ∧ ExS [b, g0, g1] H1 H' ∧ Bag H' b ∧ H' g0 = some (.lst (nats l0)) ∧ H' g1 = some (.lst (nats l1)) ∧ l0.length = n ∧ l1.length = n ∧ l0.sum + l1.sum = i)
      ⟨_, _, none, none, none, none, rfl, (ExS.of_b x4 (by simp)).trans (ExS.of_ex e5), (b3.mono e4).mono e5, e5 _ _ (x4 _ _ nb0.symm h10), e5 _ _ (x4 _ _ nb1.symm h11), List.length_replicate, List.length_replicate, by rw [List.sum_replicate_nat]; simp⟩ (fun i σ' H' _ _ => trivial) ?_ ?_
    · rintro i v σ' H6 H7 hi ⟨l0, l1, x, y, z, u, rfl, x6, b6, h60, h61, hl0, hl1, hsum⟩ e7 rfl
      have x7 := x6.trans (ExS.of_ex e7)
      have hq1 : ∀ {H' : Hp}, ExS [b, g0, g1] H1 H' → H' q = some (.lst [.ref g0, .ref g1]) := fun e => e _ _ (by simp [nbq.symm, nq0, nq1]) h1q
      have hpo1 : ∀ {H' : Hp}, ExS [b, g0, g1] H1 H' → H' po = some (.lst (nats l)) := fun e => e _ _ (by simp [hbp.symm, np0, np1]) (e1 _ _ hpo)
      have hlen' : ∀ {H' : Hp} {σ : L2.St}, ExS [b, g0, g1] H1 H' → σ[1]? = some (some (.ref po)) → EvD (tCB (Evl.rLenS K) (tCons (tVar 1) tNil)) σ H' (dn n) := fun {H' σ} e hs => EvD.eq (evd_lenL (evd_var hs (.adr po)) (hpo1 e)) (by rw [List.length_map, hl])
      refine take (m := n) (b6.mono e7) (evd_var rfl (.adr b)) (hlen' x7 rfl) (by omega) (by omega) fun at0 H8 hat e8 b8 => ?_
      have x8 := x7.trans (ExS.of_b e8 (by simp))
      refine take (m := 2) b8 (evd_var rfl (.adr b)) (evd_int (i := ((2 : Nat) : Int))) (by decide) (by decide) fun dr H9 hdr e9 b9 => ?_
      have x9 := x8.trans (ExS.of_b e9 (by simp))
      have h90 : H9 g0 = some (.lst (nats l0)) := e9 _ _ nb0.symm (e8 _ _ nb0.symm (e7 _ _ h60))
      have h91 : H9 g1 = some (.lst (nats l1)) := e9 _ _ nb1.symm (e8 _ _ nb1.symm (e7 _ _ h61))
      -- the last two statements
      have fin : ∀ (a dd : Nat) (H10 : Hp), a < n → dd < 2 → Ex H9 H10 → ∀ EE : Ends, (∀ σ2 H2, (∃ (l0 l1 : List Nat) (x y z u : Option V), σ2 = [some (.ref b), some (.ref po), some (vn m), some (.ref q), some (vn s), some (vn many), x, y, z, u] ∧ ExS [b, g0, g1] H1 H2 ∧ Bag H2 b ∧ H2 g0 = some (.lst (nats l0)) ∧ H2 g1 = some (.lst (nats l1)) ∧ l0.length = n ∧ l1.length = n ∧ l0.sum + l1.sum = i + 1) → EE.nx σ2 H2) →
          (tSeq (tAsg (tOp (rIx K) (tVar 3) (tVar 8)) (gName 9))
    (tAsg (tOp kAdd (tOp (rIx K) (tVar 9) (tVar 7)) (tC (.int 1))) (gSub (tVar 9) (tVar 7) rSetL))) EE [some (.ref b), some (.ref po), some (vn m), some (.ref q), some (vn s), some (vn many), some (vn i), some (vn a), some (vn dd), u] H10 := fun a dd H10 ha hdd e10 EE hEE => by
        have x10 := x9.trans (ExS.of_ex e10)
        have b10 := b9.mono e10
        have h100 := e10 _ _ h90
        have h101 := e10 _ _ h91
        rcases (show dd = 0 ∨ dd = 1 by omega) with rfl | rfl
        · refine q_asg (evd_ixL (evd_var rfl (.adr q)) (hq1 x10) FzL.pair (evd_var rfl (.int ((0 : Nat) : Int))) (d := .adr g0) rfl) fun v H11 e11 f11 => ?_
          obtain rfl := f11.adr_of
          have h110 := e11 _ _ h100
          refine s_setL (j := a) h110 (EvD.eq (evd_add (evd_ixL (evd_var rfl (.adr g0)) h110 (FzL.nats _) (evd_var rfl (.int (a : Int))) (at_dn (by omega))) evd_int) (e := dn (l0.getD a 0 + 1)) rfl) (evd_var rfl (.adr g0)) (evd_var rfl (.int (a : Int))) (by rw [List.length_map]; omega) fun v H12 e12 f12 => ?_
          obtain rfl := f12.int_of
          have hs2 : (nats l0).set a (V.int ((l0.getD a 0 + 1 : Nat) : Int)) = nats (l0.set a (l0.getD a 0 + 1)) := nats_set
          rw [hs2]
          exact hEE _ _ ⟨_, l1, _, _, _, _, rfl, ((x10.trans (ExS.of_ex (e11.trans e12))).trans (ExS.upd (by simp))), ((b10.mono e11).mono e12).other nb0, upd_same, by rw [upd_ne n01.symm]; exact e12 _ _ (e11 _ _ h101), by rw [List.length_set, hl0], hl1, by rw [getD_set_sum (by omega)]; omega⟩
        · refine q_asg (evd_ixL (evd_var rfl (.adr q)) (hq1 x10) FzL.pair (evd_var rfl (.int ((1 : Nat) : Int))) (d := .adr g1) rfl) fun v H11 e11 f11 => ?_
          obtain rfl := f11.adr_of
          have h111 := e11 _ _ h101
          refine s_setL (j := a) h111 (EvD.eq (evd_add (evd_ixL (evd_var rfl (.adr g1)) h111 (FzL.nats _) (evd_var rfl (.int (a : Int))) (at_dn (by omega))) evd_int) (e := dn (l1.getD a 0 + 1)) rfl) (evd_var rfl (.adr g1)) (evd_var rfl (.int (a : Int))) (by rw [List.length_map]; omega) fun v H12 e12 f12 => ?_
          obtain rfl := f12.int_of
          have hs2 : (nats l1).set a (V.int ((l1.getD a 0 + 1 : Nat) : Int)) = nats (l1.set a (l1.getD a 0 + 1)) := nats_set
          rw [hs2]
          exact hEE _ _ ⟨l0, _, _, _, _, _, rfl, ((x10.trans (ExS.of_ex (e11.trans e12))).trans (ExS.upd (by simp))), ((b10.mono e11).mono e12).other nb1, by rw [upd_ne n01]; exact e12 _ _ (e11 _ _ h100), upd_same, hl0, by rw [List.length_set, hl1], by rw [getD_set_sum (by omega)]; omega⟩
      have fin2 : ∀ (dd : Nat) (H10 : Hp), dd < 2 → Ex H9 H10 → ∀ EE : Ends, (∀ σ2 H2, (∃ (l0 l1 : List Nat) (x y z u : Option V), σ2 = [some (.ref b), some (.ref po), some (vn m), some (.ref q), some (vn s), some (vn many), x, y, z, u] ∧ ExS [b, g0, g1] H1 H2 ∧ Bag H2 b ∧ H2 g0 = some (.lst (nats l0)) ∧ H2 g1 = some (.lst (nats l1)) ∧ l0.length = n ∧ l1.length = n ∧ l0.sum + l1.sum = i + 1) → EE.nx σ2 H2) →
          (tSeq (tIfS (tOr (tTest (tOp rEq (tVar 4) (tC (.int 3)))) (tTest (tOp rEq (tVar 4) (tC (.int 4))))) (tAsg (tOp (rIx K) (tVar 1) (tOp (rIx K) (tLst (tCons (tC (.int 0)) (tCons (tOp kSub (tCB (Evl.rLenS K) (tCons (tVar 1) tNil)) (tC (.int 1))) tNil))) (tOp kMod (tCB rInt1 (tCons (tOp kAdd (tVar 4) (tVar 8)) tNil)) (tC (.int 2))))) (gName 7))
    tNext)
    (tSeq (tAsg (tOp (rIx K) (tVar 3) (tVar 8)) (gName 9))
    (tAsg (tOp kAdd (tOp (rIx K) (tVar 9) (tVar 7)) (tC (.int 1))) (gSub (tVar 9) (tVar 7) rSetL)))) EE [some (.ref b), some (.ref po), some (vn m), some (.ref q), some (vn s), some (vn many), some (vn i), some (vn at0), some (vn dd), u] H10 := fun dd H10 hdd e10 EE hEE => by
        have x10 := x9.trans (ExS.of_ex e10)
        refine q_if (Evl.et_or (et_test (evd_eqI (evd_var rfl (.int _)) evd_int)) fun _ => et_test (evd_eqI (evd_var rfl (.int _)) evd_int)) (fun _ H11 e11 => ?_) fun _ H11 e11 => ?_
        · have x11 := x10.trans (ExS.of_ex e11)
          obtain ⟨c, hc, hc2⟩ := nat_mod (i := (s : Int) + (dd : Int)) (m := 2) (by decide)
          have hix : ∃ j, j < n ∧ atI [D.int 0, dn (n - 1)] (((s : Int) + (dd : Int)) % 2) = some (dn j) := by
            have hc' : ((s : Int) + (dd : Int)) % 2 = (c : Int) := hc
            rw [hc']
            rcases (show c = 0 ∨ c = 1 by omega) with rfl | rfl
            · exact ⟨0, by omega, rfl⟩
            · exact ⟨n - 1, by omega, rfl⟩
          obtain ⟨j, hj, hix⟩ := hix
          refine s_asg (evd_ixL (evd_var rfl (.adr po)) (hpo1 x11) (FzL.nats _) (evd_ixN (evn_lst (evds_cons evd_int (evds_cons (EvD.eq (evd_sub (hlen' x11 rfl) evd_int) (e := dn (n - 1)) (by show D.int _ = D.int _; congr 1; omega)) evds_nil)) (Nat.le_of_ble_eq_true rfl)) (evd_mod (evd_intI (evd_add (evd_var rfl (.int (s : Int))) (evd_var rfl (.int (dd : Int))))) evd_int (by decide)) hix) (at_dn (by omega))) fun v H12 e12 f12 => ?_
          obtain rfl := f12.int_of
          exact fin (l.getD j 0) dd H12 (hlt _ (getD_mem (by omega))) hdd ((e10.trans e11).trans e12) EE hEE
        · exact fin at0 dd H11 hat hdd (e10.trans e11) EE hEE
      refine q_if (b := decide (s = 1) || decide (s = 2)) (Evl.et_or (Evl.et_is (et_test (evd_eqI (evd_var rfl (.int _)) evd_int)) (decide_eq_decide.mpr (by omega))) fun _ => Evl.et_is (et_test (evd_eqI (evd_var rfl (.int _)) evd_int)) (decide_eq_decide.mpr (by omega))) (fun hb' H10 e10 => ?_) fun hb' H10 e10 => ?_
      · rw [Bool.or_eq_true, decide_eq_true_iff, decide_eq_true_iff] at hb'
        refine s_asg (EvD.eq (evd_sub (evd_var rfl (.int (s : Int))) evd_int) (e := dn (s - 1)) (by show D.int _ = D.int _; congr 1; omega)) fun v H11 e11 f11 => ?_
        obtain rfl := f11.int_of
        exact fin2 (s - 1) H11 (by omega) (e10.trans e11) _ fun σ2 H2 z => z
      · exact fin2 dr H10 hdr e10 _ fun σ2 H2 z => z
    rintro σ' H6 ⟨l0, l1, x, y, z, u, rfl, x6, b6, h60, h61, hl0, hl1, hsum⟩
    refine s_ret (evd_var rfl (.adr q)) fun v H7 e7 f7 => ?_
    obtain rfl := f7.adr_of
    refine k q g0 g1 l0 l1 H7 hq (fun a o na h => ?_) (b6.mono e7) nbq nb0 nb1 (e7 _ _ (x6 _ _ (by simp [nbq.symm, nq0, nq1]) h1q)) (e7 _ _ h60) (e7 _ _ h61) hl0 hl1 (by omega)
    exact e7 _ _ (x6 _ _ (by
      simp only [List.mem_cons, List.not_mem_nil, or_false, not_or]
      exact ⟨na, ne_of_none h hg0, ne_of_none h hg1⟩) (e1 _ _ h))
  refine q_if (b := decide (s = 0)) (Evl.et_is (et_test (evd_eqI (evd_var rfl (.int _)) evd_int)) (decide_eq_decide.mpr (by omega))) (fun hb' H4 e4 => ?_) fun hb' H4 e4 => ?_
  · refine s_asg (evd_int (i := ((0 : Nat) : Int))) fun v H5 e5 f5 => ?_
    obtain rfl := f5.int_of
    exact go 0 H5 (by omega) (e4.trans e5)
  · have := go (1 + r) H4 (by omega) e4
    exact this
end
end TR
namespace TR
open PySem L2 PyProof.Rows
open Evl (Ex EvT fresh_back)
local macro_rules | `(tactic| walk_at "h") => `(tactic| first
  | assumption
  | (refine Ex.at (by assumption) ?_; walk_at "h")
  | (refine Kp.at (by assumption) ?_; walk_at "h")
  | (refine Fz.mono (Kp.ex (by assumption)) ?_; walk_at "h")
  | (refine Fz.mono (by assumption) ?_; walk_at "h")
  | (refine FzL.mono (Kp.ex (by assumption)) ?_; walk_at "h")
  | (refine FzL.mono (by assumption) ?_; walk_at "h")
  | (refine NetAt.mono (Kp.ex (by assumption)) ?_; walk_at "h")
  | (refine NetAt.mono (by assumption) ?_; walk_at "h")
  | (refine StaA.mono (Kp.ex (by assumption)) ?_; walk_at "h")
  | (refine StaA.mono (by assumption) ?_; walk_at "h")
  | (refine Sta.mono (Kp.ex (by assumption)) ?_; walk_at "h")
  | (refine Sta.mono (by assumption) ?_; walk_at "h")
  | (refine Lst.mono (by assumption) ?_; walk_at "h")
  | (refine Seq.mono (by assumption) ?_; walk_at "h"))
local macro_rules | `(tactic| walk_at "fz") => `(tactic| first
  | exact Fz.int _ | exact Fz.bl _ | exact Fz.str _ | exact Fz.non
  | walk_at "h"
  | exact Fz.adr _)
local macro_rules | `(tactic| walk_at "ix") => `(tactic| first
  | exact rfl
  | (refine atI_nat ?_; first | assumption | rfl | (simp; done)))
local macro_rules | `(tactic| walk_at "ev") => `(tactic| first
  | exact evd_int | exact evd_str | exact evd_bl | exact evd_non
  | (refine evd_var rfl ?_; walk_at "fz")
  | (refine evd_stations ?_ ?_; (walk_at "h"); (walk_at "ev"))
  | (refine evd_ropes ?_ ?_; (walk_at "h"); (walk_at "ev"))
  | (refine evd_net ?_ ?_; (walk_at "h"); (walk_at "ev"))
  | (refine evd_reds ?_ ?_; (walk_at "h"); (walk_at "ev"))
  | (refine evd_blues ?_ ?_; (walk_at "h"); (walk_at "ev"))
  | (refine evd_cars ?_ ?_; (walk_at "h"); (walk_at "ev"))
  | (refine evd_add ?_ ?_; (walk_at "ev"); (walk_at "ev"))
  | (refine evd_sub ?_ ?_; (walk_at "ev"); (walk_at "ev"))
  | (refine evd_lt ?_ ?_; (walk_at "ev"); (walk_at "ev"))
  | (refine evd_le ?_ ?_; (walk_at "ev"); (walk_at "ev"))
  | (refine evd_gt ?_ ?_; (walk_at "ev"); (walk_at "ev"))
  | (refine evd_ge ?_ ?_; (walk_at "ev"); (walk_at "ev"))
  | (refine evd_neg ?_; (walk_at "ev"))
  | (refine evd_eqI ?_ ?_; (walk_at "ev"); (walk_at "ev"))
  | (refine evd_neI ?_ ?_; (walk_at "ev"); (walk_at "ev"))
  | (refine evd_eqS ?_ ?_; (walk_at "ev"); (walk_at "ev"))
  | (refine evd_eqB ?_ ?_; (walk_at "ev"); (walk_at "ev"))
  | (refine evd_neB ?_ ?_; (walk_at "ev"); (walk_at "ev"))
  | (refine evd_isN ?_ ?_; (walk_at "ev"); exact rfl)
  | (refine evd_notN ?_ ?_; (walk_at "ev"); exact rfl)
  | (refine evd_ixT ?_ ?_ ?_; (walk_at "ev"); (walk_at "ev"); (walk_at "ix"))
  | (refine evd_ixL ?_ ?_ ?_ ?_ ?_; (walk_at "ev"); (walk_at "h"); (walk_at "h"); (walk_at "ev"); (walk_at "ix"))
  | (refine evd_tup ?_ ?_; (walk_at "evs"); exact Nat.le_of_ble_eq_true rfl)
  | (refine evd_lenD ?_; walk_at "ev")
  | (refine evd_lenL ?_ ?_; (walk_at "ev"); (walk_at "h"))
  | (refine evd_intI ?_; walk_at "ev")
  | (refine evd_intB ?_; walk_at "ev")
  | (refine evd_notV ?_; walk_at "ev"))
local macro_rules | `(tactic| walk_at "evs") => `(tactic| first
  | exact evds_nil
  | (refine evds_cons ?_ ?_; (walk_at "ev"); (walk_at "evs")))
local macro_rules | `(tactic| walk_at "et") => `(tactic| first
  | (refine et_test ?_; walk_at "ev")
  | (refine et_B ?_; walk_at "ev")
  | (refine et_tru ?_ ?_; (walk_at "ev"); (walk_at "h"))
  | (refine Evl.et_not ?_; walk_at "et")
  | (refine et_chain2 ?_ ?_ ?_; (walk_at "ev"); (walk_at "ev"); (walk_at "ev")))
section
variable {K : PySem.W.Frag} {mg : Str → Option Value} {σ : L2.St} {H : Hp} {te ta tb tv tx : TE} {tr : TA} {ds es fs : List D} {d d1 d2 : D} {E : Ends} {tz : TS}
theorem pure_l_cars (T : Txt K mg) (vs : List V) (H : Hp) (Q : VK) (E : XK) (h : sp_l_cars T vs H Q E) : Goes (t_l_cars T) N_l_cars vs H Q := by
  obtain ⟨b, p0, p1, q, g0, g1, n, rs, ts, l0, l1, us, rfl, hb, nb0, nb1, nbq, nbg0, nbg1, hp0, fus, hp1, htl, hts, hq, hg0, hg1, hl0, hl1, hends, hrl, k⟩ := h
  have hul : us.length = rs.length := by rw [fus.len, List.length_map]
  refine take hb (evd_var rfl (.adr b)) (evd_int (i := ((6 : Nat) : Int))) (by decide) (by decide) fun way H1 hway e1 b1 => ?_
  refine q_asgN (evn_lst evds_nil (Nat.le_of_ble_eq_true rfl)) fun pc xs H2 hpc e2 h2 f2 => ?_
  cases f2
  have x2 : ExB b H H2 := e1.trans (ExB.of_ex e2)
  have b2 := b1.mono e2
  have hpcH : H pc = none := by
    cases hh : H pc with
    | none => rfl
    | some o =>
      by_cases hpb : pc = b
      · obtain ⟨bx, hbx⟩ := b1.lst
        rw [hpb, hbx] at hpc; cases hpc
      · rw [e1 _ _ hpb hh] at hpc; cases hpc
  obtain ⟨bx, hbx⟩ := b2.lst
  have hbpc : b ≠ pc := fun z => by
    rw [z] at hb
    obtain ⟨bx, hbx⟩ := hb.lst
    rw [hpcH] at hbx; cases hbx
  refine q_forI (i_rng (n := rs.length) (EvD.eq (evd_lenL (evd_var rfl (.adr p0)) (x2 _ _ nb0.symm hp0)) (by rw [hul])) (by omega) fun J H3 e3 S3 => ?_)
  refine q_for S3 (fun i σ' H' => ∃ (cs : List Nat) (x y z : Option V), σ' = [some (.ref b), some (.ref p0), some (.ref p1), some (.ref q), some (vn way), some (.ref pc), x, y, z] ∧ ExB b H H' ∧ Bag H' b ∧ H' pc = some (.lst (nats cs)) ∧ cs.length = i ∧ ∀ c ∈ cs, c ≤ 1)
    ⟨[], none, none, none, rfl, x2.trans (ExB.of_ex e3), b2.mono e3, e3 _ _ h2, rfl, fun c hc => (by cases hc)⟩ (fun i σ' H' _ _ => trivial) ?_ ?_
  · rintro i v σ' H4 H5 hi ⟨cs, x, y, z, rfl, x4, b4, h4, hcl, hcs⟩ e5 rfl
    have x5 := x4.trans (ExB.of_ex e5)
    have kp : ∀ {H' : Hp}, ExB b H H' → Kp H H' := fun e => e.kp hb.lst
    obtain ⟨r, hr⟩ : ∃ r, rs[i]? = some r := ⟨_, List.getElem?_eq_getElem hi⟩
    have hrr : rs.getD i (0, 0) = r := getD_of hr
    obtain ⟨r1, r2⟩ := hends r (List.mem_of_getElem? hr)
    refine q_asg (evd_ixL (evd_var rfl (.adr p0)) (x5 _ _ nb0.symm hp0) (fus.mono (kp x5)) (evd_var rfl (.int (i : Int))) (d := dPair r) (by rw [← hrr]; exact at_dPair hi)) fun v6 H6 e6 f6 => ?_
    obtain ⟨tp, ty, rfl, htp, fty⟩ := f6.tup_of
    obtain rfl := fty.flat_of rfl
    have x6 := x5.trans (ExB.of_ex e6)
    refine take (m := 2) ((b4.mono e5).mono e6) (evd_var rfl (.adr b)) (evd_int (i := ((2 : Nat) : Int))) (by decide) (by decide) fun c0 H7 hc0 e7 b7 => ?_
    have x7 := x6.trans e7
    have htp7 : H7 tp = some (.tup [vn r.1, vn r.2]) := (e7.kp ((b4.mono e5).mono e6).lst).at htp
    have h7 : H7 pc = some (.lst (nats cs)) := e7 _ _ hbpc.symm ((e5.trans e6) _ _ h4)
    -- a test of the counts
    have cnt : ∀ {H' : Hp} {c : Nat} {w : Nat} {l : List Nat} {g : Addr}, Ex H7 H' → H g = some (.lst (nats l)) → b ≠ g → l.length = n → (∀ G : Hp, FzL G [.ref g0, .ref g1] [.adr g0, .adr g1]) → atI [D.adr g0, .adr g1] (w : Int) = some (.adr g) → ∀ (j : Nat) (e : Nat), atI [dn r.1, dn r.2] (j : Int) = some (dn e) → e < n →
        EvD (tOp kGt (tOp (rIx K) (tOp (rIx K) (tVar 3) (tC (.int w))) (tOp (rIx K) (tVar 7) (tC (.int j)))) (tC (.int 0))) [some (.ref b), some (.ref p0), some (.ref p1), some (.ref q), some (vn way), some (.ref pc), some (vn i), some (.ref tp), some (vn c)] H' (.bl (decide (0 < l.getD e 0))) := fun {H' c w l g} e8 hg nbg hll _ hw j e hj hen => by
      have x8 := x7.trans (ExB.of_ex e8)
      refine EvD.eq (evd_gt (evd_ixL (evd_ixL (evd_var rfl (.adr q)) (x8 _ _ nbq.symm hq) FzL.pair evd_int hw) (x8 _ _ nbg.symm hg) (FzL.nats _) (evd_ixT (evd_var rfl (.tup (e8 _ _ htp7) (.cons (.int _) (.cons (.int _) .nil)))) evd_int hj) (at_dn (by omega))) evd_int) ?_
      congr 1
      exact decide_eq_decide.mpr (by omega)
    have fin : ∀ (c : Nat) (H8 : Hp), c ≤ 1 → Ex H7 H8 → ∀ EE : Ends, (∀ σ2 H2, (∃ (cs : List Nat) (x y z : Option V), σ2 = [some (.ref b), some (.ref p0), some (.ref p1), some (.ref q), some (vn way), some (.ref pc), x, y, z] ∧ ExB b H H2 ∧ Bag H2 b ∧ H2 pc = some (.lst (nats cs)) ∧ cs.length = i + 1 ∧ ∀ c ∈ cs, c ≤ 1) → EE.nx σ2 H2) →
        tDrop (tBM K "list" rAppend (tVar 5) (tCons (tVar 8) tNil)) EE [some (.ref b), some (.ref p0), some (.ref p1), some (.ref q), some (vn way), some (.ref pc), some (vn i), some (.ref tp), some (vn c)] H8 := fun c H8 hc e8 EE hEE => by
      refine s_app (e8 _ _ h7) (evd_var rfl (.adr pc)) (evd_var rfl (.int (c : Int))) (by rw [List.length_map]; omega) fun v9 H9 e9 f9 => ?_
      obtain rfl := f9.int_of
      refine hEE _ _ ⟨cs ++ [c], _, _, _, rfl, fun a o na h => ?_, ((b7.mono e8).mono e9).other hbpc, by rw [upd_same, nats_append]; rfl, by rw [List.length_append, hcl]; rfl, fun c' hc' => ?_⟩
      · rw [upd_ne (ne_of_none h hpcH)]
        exact (e8.trans e9) _ _ (x7 _ _ na h)
      · rw [List.mem_append, List.mem_singleton] at hc'
        rcases hc' with h | rfl
        · exact hcs _ h
        · exact hc
    have fin3 : ∀ (c : Nat) (H8 : Hp), c ≤ 1 → Ex H7 H8 → ∀ EE : Ends, (∀ σ2 H2, (∃ (cs : List Nat) (x y z : Option V), σ2 = [some (.ref b), some (.ref p0), some (.ref p1), some (.ref q), some (vn way), some (.ref pc), x, y, z] ∧ ExB b H H2 ∧ Bag H2 b ∧ H2 pc = some (.lst (nats cs)) ∧ cs.length = i + 1 ∧ ∀ c ∈ cs, c ≤ 1) → EE.nx σ2 H2) →
        tSeq (tIfS (tAnd (tTest (tOp rEq (tVar 4) (tC (.int 2)))) (tTest (tOp rNe (tOp kGt (tOp (rIx K) (tOp (rIx K) (tVar 3) (tC (.int 0))) (tOp (rIx K) (tVar 7) (tC (.int 0)))) (tC (.int 0))) (tOp kGt (tOp (rIx K) (tOp (rIx K) (tVar 3) (tC (.int 0))) (tOp (rIx K) (tVar 7) (tC (.int 1)))) (tC (.int 0)))))) (tAsg (tCB rInt1 (tCons (tOp kGt (tOp (rIx K) (tOp (rIx K) (tVar 3) (tC (.int 0))) (tOp (rIx K) (tVar 7) (tC (.int 0)))) (tC (.int 0))) tNil)) (gName 8))  tNext)  (tDrop (tBM K "list" rAppend (tVar 5) (tCons (tVar 8) tNil))) EE [some (.ref b), some (.ref p0), some (.ref p1), some (.ref q), some (vn way), some (.ref pc), some (vn i), some (.ref tp), some (vn c)] H8 := fun c H8 hc e8 EE hEE => by
      refine q_if (Evl.et_and (et_test (evd_eqI (evd_var rfl (.int _)) evd_int)) fun _ => et_test (evd_neB (cnt (w := 0) e8 hg0 nbg0 hl0 (fun _ => FzL.pair) rfl 0 r.1 rfl r1) (cnt (w := 0) e8 hg0 nbg0 hl0 (fun _ => FzL.pair) rfl 1 r.2 rfl r2))) (fun _ H9 e9 => ?_) fun _ H9 e9 => ?_
      · refine s_asg (evd_intB (cnt (w := 0) (e8.trans e9) hg0 nbg0 hl0 (fun _ => FzL.pair) rfl 0 r.1 rfl r1)) fun v H10 e10 f10 => ?_
        obtain rfl := f10.int_of
        have hz : (if decide (0 < l0.getD r.1 0) = true then (1 : Int) else 0) = ((if decide (0 < l0.getD r.1 0) = true then 1 else 0 : Nat) : Int) := by split <;> rfl
        rw [hz]
        exact fin _ H10 (by split <;> omega) ((e8.trans e9).trans e10) EE hEE
      · exact fin c H9 hc (e8.trans e9) EE hEE
    have fin2 : ∀ (c : Nat) (H8 : Hp), c ≤ 1 → Ex H7 H8 → ∀ EE : Ends, (∀ σ2 H2, (∃ (cs : List Nat) (x y z : Option V), σ2 = [some (.ref b), some (.ref p0), some (.ref p1), some (.ref q), some (vn way), some (.ref pc), x, y, z] ∧ ExB b H H2 ∧ Bag H2 b ∧ H2 pc = some (.lst (nats cs)) ∧ cs.length = i + 1 ∧ ∀ c ∈ cs, c ≤ 1) → EE.nx σ2 H2) →
        tSeq (tIfS (tAnd (tTest (tOp rEq (tVar 4) (tC (.int 2)))) (tTest (tOp rNe (tOp kGt (tOp (rIx K) (tOp (rIx K) (tVar 3) (tC (.int 1))) (tOp (rIx K) (tVar 7) (tC (.int 0)))) (tC (.int 0))) (tOp kGt (tOp (rIx K) (tOp (rIx K) (tVar 3) (tC (.int 1))) (tOp (rIx K) (tVar 7) (tC (.int 1)))) (tC (.int 0)))))) (tAsg (tCB rInt1 (tCons (tOp kGt (tOp (rIx K) (tOp (rIx K) (tVar 3) (tC (.int 1))) (tOp (rIx K) (tVar 7) (tC (.int 1)))) (tC (.int 0))) tNil)) (gName 8))  tNext) (tSeq (tIfS (tAnd (tTest (tOp rEq (tVar 4) (tC (.int 2)))) (tTest (tOp rNe (tOp kGt (tOp (rIx K) (tOp (rIx K) (tVar 3) (tC (.int 0))) (tOp (rIx K) (tVar 7) (tC (.int 0)))) (tC (.int 0))) (tOp kGt (tOp (rIx K) (tOp (rIx K) (tVar 3) (tC (.int 0))) (tOp (rIx K) (tVar 7) (tC (.int 1)))) (tC (.int 0)))))) (tAsg (tCB rInt1 (tCons (tOp kGt (tOp (rIx K) (tOp (rIx K) (tVar 3) (tC (.int 0))) (tOp (rIx K) (tVar 7) (tC (.int 0)))) (tC (.int 0))) tNil)) (gName 8))  tNext)  (tDrop (tBM K "list" rAppend (tVar 5) (tCons (tVar 8) tNil)))) EE [some (.ref b), some (.ref p0), some (.ref p1), some (.ref q), some (vn way), some (.ref pc), some (vn i), some (.ref tp), some (vn c)] H8 := fun c H8 hc e8 EE hEE => by
      refine q_if (Evl.et_and (et_test (evd_eqI (evd_var rfl (.int _)) evd_int)) fun _ => et_test (evd_neB (cnt (w := 1) e8 hg1 nbg1 hl1 (fun _ => FzL.pair) rfl 0 r.1 rfl r1) (cnt (w := 1) e8 hg1 nbg1 hl1 (fun _ => FzL.pair) rfl 1 r.2 rfl r2))) (fun _ H9 e9 => ?_) fun _ H9 e9 => ?_
      · refine s_asg (evd_intB (cnt (w := 1) (e8.trans e9) hg1 nbg1 hl1 (fun _ => FzL.pair) rfl 1 r.2 rfl r2)) fun v H10 e10 f10 => ?_
        obtain rfl := f10.int_of
        have hz : (if decide (0 < l1.getD r.2 0) = true then (1 : Int) else 0) = ((if decide (0 < l1.getD r.2 0) = true then 1 else 0 : Nat) : Int) := by split <;> rfl
        rw [hz]
        exact fin3 _ H10 (by split <;> omega) ((e8.trans e9).trans e10) EE hEE
      · exact fin3 c H9 hc (e8.trans e9) EE hEE
    refine q_if (b := decide (way < 2)) (Evl.et_is (et_test (evd_lt (evd_var rfl (.int _)) evd_int)) (decide_eq_decide.mpr (by omega))) (fun hb' H8 e8 => ?_) fun _ H8 e8 => ?_
    · have hb' := of_decide_eq_true hb'
      have x8 := x7.trans (ExB.of_ex e8)
      have ht1 : ts.getD i 0 ≤ 1 := hts _ (getD_mem (by omega))
      have hix : ∃ c, c ≤ 1 ∧ atI [dn (ts.getD i 0), dn (1 - ts.getD i 0)] (way : Int) = some (dn c) := by
        rcases (show way = 0 ∨ way = 1 by omega) with rfl | rfl
        · exact ⟨_, ht1, rfl⟩
        · exact ⟨1 - ts.getD i 0, by omega, rfl⟩
      obtain ⟨c, hc, hix⟩ := hix
      refine s_asg (evd_ixN (evn_lst (evds_cons (evd_ixL (evd_var rfl (.adr p1)) (x8 _ _ nb1.symm hp1) (FzL.nats _) (evd_var rfl (.int (i : Int))) (at_dn (by omega))) (evds_cons (EvD.eq (evd_sub evd_int (evd_ixL (evd_var rfl (.adr p1)) (x8 _ _ nb1.symm hp1) (FzL.nats _) (evd_var rfl (.int (i : Int))) (at_dn (by omega)))) (e := dn (1 - ts.getD i 0)) (by show D.int _ = D.int _; congr 1; omega)) evds_nil)) (Nat.le_of_ble_eq_true rfl)) (evd_var rfl (.int (way : Int))) hix) fun v H9 e9 f9 => ?_
      obtain rfl := f9.int_of
      exact fin2 c H9 hc (e8.trans e9) _ fun σ2 H2 z => z
    · exact fin2 c0 H8 (by omega) e8 _ fun σ2 H2 z => z
  rintro σ' H4 ⟨cs, x, y, z, rfl, x4, b4, h4, hcl, hcs⟩
  refine s_ret (evd_var rfl (.adr pc)) fun v H5 e5 f5 => ?_
  obtain rfl := f5.adr_of
  exact k pc cs H5 hpcH (x4.trans (ExB.of_ex e5)) (b4.mono e5) (e5 _ _ h4) hcl hcs
end
end TR
namespace TR
open PySem L2 PyProof.Rows
open Evl (Ex EvT fresh_back)
local macro_rules | `(tactic| walk_at "h") => `(tactic| first
  | assumption
  | (refine Ex.at (by assumption) ?_; walk_at "h")
  | (refine Kp.at (by assumption) ?_; walk_at "h")
  | (refine Fz.mono (Kp.ex (by assumption)) ?_; walk_at "h")
  | (refine Fz.mono (by assumption) ?_; walk_at "h")
  | (refine FzL.mono (Kp.ex (by assumption)) ?_; walk_at "h")
  | (refine FzL.mono (by assumption) ?_; walk_at "h")
  | (refine NetAt.mono (Kp.ex (by assumption)) ?_; walk_at "h")
  | (refine NetAt.mono (by assumption) ?_; walk_at "h")
  | (refine StaA.mono (Kp.ex (by assumption)) ?_; walk_at "h")
  | (refine StaA.mono (by assumption) ?_; walk_at "h")
  | (refine Sta.mono (Kp.ex (by assumption)) ?_; walk_at "h")
  | (refine Sta.mono (by assumption) ?_; walk_at "h")
  | (refine Lst.mono (by assumption) ?_; walk_at "h")
  | (refine Seq.mono (by assumption) ?_; walk_at "h"))
local macro_rules | `(tactic| walk_at "fz") => `(tactic| first
  | exact Fz.int _ | exact Fz.bl _ | exact Fz.str _ | exact Fz.non
  | walk_at "h"
  | exact Fz.adr _)
local macro_rules | `(tactic| walk_at "ix") => `(tactic| first
  | exact rfl
  | (refine atI_nat ?_; first | assumption | rfl | (simp; done)))
local macro_rules | `(tactic| walk_at "ev") => `(tactic| first
  | exact evd_int | exact evd_str | exact evd_bl | exact evd_non
  | (refine evd_var rfl ?_; walk_at "fz")
  | (refine evd_stations ?_ ?_; (walk_at "h"); (walk_at "ev"))
  | (refine evd_ropes ?_ ?_; (walk_at "h"); (walk_at "ev"))
  | (refine evd_net ?_ ?_; (walk_at "h"); (walk_at "ev"))
  | (refine evd_reds ?_ ?_; (walk_at "h"); (walk_at "ev"))
  | (refine evd_blues ?_ ?_; (walk_at "h"); (walk_at "ev"))
  | (refine evd_cars ?_ ?_; (walk_at "h"); (walk_at "ev"))
  | (refine evd_add ?_ ?_; (walk_at "ev"); (walk_at "ev"))
  | (refine evd_sub ?_ ?_; (walk_at "ev"); (walk_at "ev"))
  | (refine evd_lt ?_ ?_; (walk_at "ev"); (walk_at "ev"))
  | (refine evd_le ?_ ?_; (walk_at "ev"); (walk_at "ev"))
  | (refine evd_gt ?_ ?_; (walk_at "ev"); (walk_at "ev"))
  | (refine evd_ge ?_ ?_; (walk_at "ev"); (walk_at "ev"))
  | (refine evd_neg ?_; (walk_at "ev"))
  | (refine evd_eqI ?_ ?_; (walk_at "ev"); (walk_at "ev"))
  | (refine evd_neI ?_ ?_; (walk_at "ev"); (walk_at "ev"))
  | (refine evd_eqS ?_ ?_; (walk_at "ev"); (walk_at "ev"))
  | (refine evd_eqB ?_ ?_; (walk_at "ev"); (walk_at "ev"))
  | (refine evd_neB ?_ ?_; (walk_at "ev"); (walk_at "ev"))
  | (refine evd_isN ?_ ?_; (walk_at "ev"); exact rfl)
  | (refine evd_notN ?_ ?_; (walk_at "ev"); exact rfl)
  | (refine evd_ixT ?_ ?_ ?_; (walk_at "ev"); (walk_at "ev"); (walk_at "ix"))
  | (refine evd_ixL ?_ ?_ ?_ ?_ ?_; (walk_at "ev"); (walk_at "h"); (walk_at "h"); (walk_at "ev"); (walk_at "ix"))
  | (refine evd_tup ?_ ?_; (walk_at "evs"); exact Nat.le_of_ble_eq_true rfl)
  | (refine evd_lenD ?_; walk_at "ev")
  | (refine evd_lenL ?_ ?_; (walk_at "ev"); (walk_at "h"))
  | (refine evd_intI ?_; walk_at "ev")
  | (refine evd_intB ?_; walk_at "ev")
  | (refine evd_notV ?_; walk_at "ev"))
local macro_rules | `(tactic| walk_at "evs") => `(tactic| first
  | exact evds_nil
  | (refine evds_cons ?_ ?_; (walk_at "ev"); (walk_at "evs")))
local macro_rules | `(tactic| walk_at "et") => `(tactic| first
  | (refine et_test ?_; walk_at "ev")
  | (refine et_B ?_; walk_at "ev")
  | (refine et_tru ?_ ?_; (walk_at "ev"); (walk_at "h"))
  | (refine Evl.et_not ?_; walk_at "et")
  | (refine et_chain2 ?_ ?_ ?_; (walk_at "ev"); (walk_at "ev"); (walk_at "ev")))
section
variable {K : PySem.W.Frag} {mg : Str → Option Value} {σ : L2.St} {H : Hp} {te ta tb tv tx : TE} {tr : TA} {ds es fs : List D} {d d1 d2 : D} {E : Ends} {tz : TS}
theorem WorldAt.mono {a : Addr} {w : Wd} {s : Sd} {H' : Hp} (h : WorldAt H a w s) (e : Ex H H') : WorldAt H' a w s := by
  obtain ⟨pr, us, ps, h1, h2, h3, h4, h5⟩ := h
  exact ⟨pr, us, ps, e _ _ h1, e _ _ h2, h3.mono (Kp.ex e), h4.mono (Kp.ex e), h5⟩
theorem q_takeIx {b : Addr} {i m : Nat} {tl : TE} {X : XK} {T : Txt K mg} {P : Nat → Prop} (hl : EvN tl σ H ds) (hb : Bag H b) (h0 : EvD ta σ H (.adr b)) (h : EvD te σ H (dn m)) (hm : 0 < m) (hm2 : m < 1073741824) (hat : ∀ r : Nat, r < m → ∃ n0, atI ds (r : Int) = some (dn n0) ∧ P n0)
    (k : ∀ n0 H', P n0 → ExB b H H' → Bag H' b → tz E (σ.set i (some (vn n0))) H') : tSeq (tAsg (tOp (rIx K) tl (tCall (sp_l_take T) [] X (tCons ta (tCons te tNil)))) (gName i)) tz E σ H := by
  show tl σ H _
  refine hl H (Ex.refl _) _ fun pz xs H1 hpz e1 h1 f1 => ?_
  obtain ⟨bx, hbx⟩ := hb.lst
  have nz : b ≠ pz := ne_of_none hbx hpz
  refine take (m := m) (hb.mono e1) (h0.mono e1) (h.mono e1) hm hm2 fun r H2 hr e2 b2 => ?_
  obtain ⟨n0, hn0, hP⟩ := hat r hr
  have h2 := e2 _ _ nz.symm h1
  obtain ⟨v, hv, fv⟩ := atI_D (f1.mono (e2.kp (hb.mono e1).lst)) hn0
  obtain rfl := fv.int_of
  exact .inl ⟨pz, _, (r : Int), _, rfl, rfl, SqL.of h2, hv, k n0 H2 hP ((ExB.of_ex e1).trans e2) b2⟩
/-- the number of stations by a draw -/
def sizes : List Nat := [1, 2, 3, 4, 4, 5, 5, 6]
theorem pure_l_world (T : Txt K mg) (vs : List V) (H : Hp) (Q : VK) (E : XK) (h : sp_l_world T vs H Q E) : Goes (t_l_world T) N_l_world vs H Q := by
  obtain ⟨b, rfl, hb, k⟩ := h
  obtain ⟨bx, hbx⟩ := hb.lst
  -- stations
  refine q_takeIx (m := 8) (P := fun n0 => 1 ≤ n0 ∧ n0 ≤ 24) (evn_lst (evds_cons (evd_int (i := 1)) (evds_cons (evd_int (i := 2)) (evds_cons (evd_int (i := 3)) (evds_cons (evd_int (i := 4)) (evds_cons (evd_int (i := 4)) (evds_cons (evd_int (i := 5)) (evds_cons (evd_int (i := 5)) (evds_cons (evd_int (i := 6)) evds_nil)))))))) (Nat.le_of_ble_eq_true rfl)) hb (evd_var rfl (.adr b)) (evd_int (i := ((8 : Nat) : Int))) (by decide) (by decide) (fun r hr => ?_) fun n0 H2 hn0 x2 b2 => ?_
  · rcases (show r = 0 ∨ r = 1 ∨ r = 2 ∨ r = 3 ∨ r = 4 ∨ r = 5 ∨ r = 6 ∨ r = 7 by omega) with rfl | rfl | rfl | rfl | rfl | rfl | rfl | rfl
    · exact ⟨1, rfl, by omega, by omega⟩
    · exact ⟨2, rfl, by omega, by omega⟩
    · exact ⟨3, rfl, by omega, by omega⟩
    · exact ⟨4, rfl, by omega, by omega⟩
    · exact ⟨4, rfl, by omega, by omega⟩
    · exact ⟨5, rfl, by omega, by omega⟩
    · exact ⟨5, rfl, by omega, by omega⟩
    · exact ⟨6, rfl, by omega, by omega⟩
  obtain ⟨h01, h024⟩ := hn0
  refine q_asgN (evn_lst (evds_cons (evd_int (i := 2)) (evds_cons (evd_int (i := 6)) evds_nil)) (Nat.le_of_ble_eq_true rfl)) fun pm xs H3 hpm e3 h3 f3 => ?_
  obtain rfl := f3.flat_of rfl
  have b3 := b2.mono e3
  have x3 := x2.trans (ExB.of_ex e3)
  obtain ⟨bx3, hbx3⟩ := b2.lst
  have nm : b ≠ pm := ne_of_none hbx3 hpm
  -- the rest
  have go : ∀ (n m0 m1 : Nat) (pm : Addr) (H4 : Hp), 1 ≤ n → n ≤ 24 → m0 ≤ 17 → 1 ≤ m1 → m1 ≤ 30 → ExB b H H4 → Bag H4 b → b ≠ pm → H4 pm = some (.lst [vn m0, vn m1]) →
      (tSeq (tAsg (tCall (sp_l_net T) [] E0 (tCons (tVar 0) (tCons (tVar 1) (tCons (tOp (rIx K) (tVar 2) (tC (.int 0))) tNil)))) (gName 3))  (tSeq (tAsg (tCall (sp_l_guests T) [] E0 (tCons (tVar 0) (tCons (tOp (rIx K) (tVar 3) (tC (.int 0))) (tCons (tOp (rIx K) (tVar 2) (tC (.int 1))) tNil)))) (gName 4))  (tSeq (tAsg (tCall (sp_l_cars T) [] E0 (tCons (tVar 0) (tCons (tOp (rIx K) (tVar 3) (tC (.int 1))) (tCons (tOp (rIx K) (tVar 3) (tC (.int 2))) (tCons (tVar 4) tNil))))) (gName 5))  (tRet (tLst (tCons (tVar 1) (tCons (tOp (rIx K) (tVar 3) (tC (.int 1))) (tCons (tTup (tCons (tCB (rTupOf K) (tCons (tOp (rIx K) (tVar 4) (tC (.int 0))) tNil)) (tCons (tCB (rTupOf K) (tCons (tOp (rIx K) (tVar 4) (tC (.int 1))) tNil)) (tCons (tCB (rTupOf K) (tCons (tVar 5) tNil)) tNil)))) tNil)))))))) { nx := fun _ H' => Q .non H', rt := Q } [some (.ref b), some (vn n), some (.ref pm), none, none, none] H4 := fun n m0 m1 pm H4 hn1 hn24 hm0 hm1 hm30 x4 b4 npm h4 => by
    have fm : ∀ G : Hp, FzL G [vn m0, vn m1] [dn m0, dn m1] := fun G => .cons (.int _) (.cons (.int _) .nil)
    refine callF (evds_cons (evd_var rfl (.adr b)) (evds_cons (evd_var rfl (.int (n : Int))) (evds_cons (evd_ixL (evd_var rfl (.adr pm)) h4 (fm _) evd_int (d := dn m0) rfl) evds_nil))) rfl fun H5 e5 => ⟨b, n, m0, rfl, b4.mono e5, hn1, hn24, hm0, fun qn po p0 p1 l rs ts us H6 x6 b6 nqn npo np0 np1 hqn hpo hl hlt hp0 fus hp1 htl hts hW => ?_⟩
    have x46 : ExB b H4 H6 := (ExB.of_ex e5).trans x6
    have f3 : ∀ G : Hp, FzL G [V.ref po, .ref p0, .ref p1] [.adr po, .adr p0, .adr p1] := fun G => .cons (.adr _) (.cons (.adr _) (.cons (.adr _) .nil))
    refine callF (evds_cons (evd_var rfl (.adr b)) (evds_cons (evd_ixL (evd_var rfl (.adr qn)) hqn (f3 _) evd_int (d := .adr po) rfl) (evds_cons (evd_ixL (evd_var rfl (.adr pm)) (x46 _ _ npm.symm h4) (fm _) evd_int (d := dn m1) rfl) evds_nil))) rfl fun H7 e7 => ⟨b, po, l, n, m1, rfl, b6.mono e7, npo, e7 _ _ hpo, hl, hlt, hn1, hn24, hm1, hm30, fun qg g0 g1 l0 l1 H8 hqgn x8 b8 nqg ng0 ng1 hqg hg0 hg1 hl0 hl1 hsum => ?_⟩
    have x68 : ExB b H6 H8 := (ExB.of_ex e7).trans x8
    have hqn8 := x68 _ _ nqn.symm hqn
    have fus8 := fus.mono (x68.kp b6.lst)
    refine callF (evds_cons (evd_var rfl (.adr b)) (evds_cons (evd_ixL (evd_var rfl (.adr qn)) hqn8 (f3 _) evd_int (d := .adr p0) rfl) (evds_cons (evd_ixL (evd_var rfl (.adr qn)) hqn8 (f3 _) evd_int (d := .adr p1) rfl) (evds_cons (evd_var rfl (.adr qg)) evds_nil)))) rfl fun H9 e9 => ⟨b, p0, p1, qg, g0, g1, n, rs, ts, l0, l1, us, rfl, b8.mono e9, np0, np1, nqg, ng0, ng1, e9 _ _ (x68 _ _ np0.symm hp0), fus8.mono (Kp.ex e9), e9 _ _ (x68 _ _ np1.symm hp1), htl, hts, e9 _ _ hqg, e9 _ _ hg0, e9 _ _ hg1, hl0, hl1, fun p hp => ⟨(hW.ends p hp).1, (hW.ends p hp).2.1⟩, by have := hW.m40; simp at this; omega, fun pc cs HA hpc xA bA hpcA hcl hcs => ?_⟩
    have x8A : ExB b H8 HA := (ExB.of_ex e9).trans xA
    have hqnA := x8A _ _ nqn.symm hqn8
    have hqgA := x8A _ _ nqg.symm hqg
    have hg0A := x8A _ _ ng0.symm hg0
    have hg1A := x8A _ _ ng1.symm hg1
    have fusA := fus8.mono (x8A.kp b8.lst)
    have hp0A := x8A _ _ np0.symm (x68 _ _ np0.symm hp0)
    refine s_retN (evn_lst (evds_cons (evd_var rfl (.int (n : Int))) (evds_cons (evd_ixL (evd_var rfl (.adr qn)) hqnA (f3 _) evd_int (d := .adr p0) rfl) (evds_cons (evd_tup (evds_cons (evd_tupL (evd_ixL (evd_var rfl (.adr qg)) hqgA FzL.pair evd_int (d := .adr g0) rfl) hg0A (FzL.nats l0)) (evds_cons (evd_tupL (evd_ixL (evd_var rfl (.adr qg)) hqgA FzL.pair evd_int (d := .adr g1) rfl) hg1A (FzL.nats l1)) (evds_cons (evd_tupL (evd_var rfl (.adr pc)) hpcA (FzL.nats cs)) evds_nil))) (Nat.le_of_ble_eq_true rfl)) evds_nil))) (Nat.le_of_ble_eq_true rfl)) fun q ys HB hq eB hB fB => ?_
    cases fB with
    | cons fa fB =>
      cases fB with
      | cons fb fB =>
        cases fB with
        | cons fc fB =>
          cases fB
          obtain rfl := fa.int_of
          obtain rfl := fb.adr_of
          exact k q ⟨n, rs⟩ ⟨l0, l1, cs⟩ HB ((((x4.trans x46).trans x68).trans x8A).trans (ExB.of_ex eB)) ⟨p0, us, _, hB, eB _ _ hp0A, fusA.mono (Kp.ex eB), fc, hW, ⟨hl0, hl1, hcl, hcs, hsum⟩⟩
  -- the size
  have hx : (tTest (tOp rEq (tCall (sp_l_take T) [] E0 (tCons (tVar 0) (tCons (tC (.int 8)) tNil))) (tC (.int 0)))) [some (.ref b), some (vn n0), some (.ref pm), none, none, none] H3 (fun bb H4 => if bb = true then
      (tSeq (tAsg (tOp kAdd (tC (.int 1)) (tCall (sp_l_take T) [] E0 (tCons (tVar 0) (tCons (tC (.int 24)) tNil)))) (gName 1)) (tAsg (tLst (tCons (tC (.int 17)) (tCons (tC (.int 30)) tNil))) (gName 2))) { nx := fun σ' H' => (tSeq (tAsg (tCall (sp_l_net T) [] E0 (tCons (tVar 0) (tCons (tVar 1) (tCons (tOp (rIx K) (tVar 2) (tC (.int 0))) tNil)))) (gName 3))  (tSeq (tAsg (tCall (sp_l_guests T) [] E0 (tCons (tVar 0) (tCons (tOp (rIx K) (tVar 3) (tC (.int 0))) (tCons (tOp (rIx K) (tVar 2) (tC (.int 1))) tNil)))) (gName 4))  (tSeq (tAsg (tCall (sp_l_cars T) [] E0 (tCons (tVar 0) (tCons (tOp (rIx K) (tVar 3) (tC (.int 1))) (tCons (tOp (rIx K) (tVar 3) (tC (.int 2))) (tCons (tVar 4) tNil))))) (gName 5))  (tRet (tLst (tCons (tVar 1) (tCons (tOp (rIx K) (tVar 3) (tC (.int 1))) (tCons (tTup (tCons (tCB (rTupOf K) (tCons (tOp (rIx K) (tVar 4) (tC (.int 0))) tNil)) (tCons (tCB (rTupOf K) (tCons (tOp (rIx K) (tVar 4) (tC (.int 1))) tNil)) (tCons (tCB (rTupOf K) (tCons (tVar 5) tNil)) tNil)))) tNil)))))))) { nx := fun _ H' => Q .non H', rt := Q } σ' H', rt := Q } [some (.ref b), some (vn n0), some (.ref pm), none, none, none] H4
      else (tSeq (tAsg (tCall (sp_l_net T) [] E0 (tCons (tVar 0) (tCons (tVar 1) (tCons (tOp (rIx K) (tVar 2) (tC (.int 0))) tNil)))) (gName 3))  (tSeq (tAsg (tCall (sp_l_guests T) [] E0 (tCons (tVar 0) (tCons (tOp (rIx K) (tVar 3) (tC (.int 0))) (tCons (tOp (rIx K) (tVar 2) (tC (.int 1))) tNil)))) (gName 4))  (tSeq (tAsg (tCall (sp_l_cars T) [] E0 (tCons (tVar 0) (tCons (tOp (rIx K) (tVar 3) (tC (.int 1))) (tCons (tOp (rIx K) (tVar 3) (tC (.int 2))) (tCons (tVar 4) tNil))))) (gName 5))  (tRet (tLst (tCons (tVar 1) (tCons (tOp (rIx K) (tVar 3) (tC (.int 1))) (tCons (tTup (tCons (tCB (rTupOf K) (tCons (tOp (rIx K) (tVar 4) (tC (.int 0))) tNil)) (tCons (tCB (rTupOf K) (tCons (tOp (rIx K) (tVar 4) (tC (.int 1))) tNil)) (tCons (tCB (rTupOf K) (tCons (tVar 5) tNil)) tNil)))) tNil)))))))) { nx := fun _ H' => Q .non H', rt := Q } [some (.ref b), some (vn n0), some (.ref pm), none, none, none] H4) := by
    refine take (m := 8) b3 (evd_var rfl (.adr b)) (evd_int (i := ((8 : Nat) : Int))) (by decide) (by decide) fun r2 H4 hr2 x4 b4 => ?_
    have x34 := x3.trans x4
    refine ⟨rfl, _, rfl, ?_⟩
    generalize decide (V.int (r2 : Int) = V.int 0) = bb
    cases bb with
    | true =>
      refine (?_ : if true = true then _ else _)
      rw [if_pos rfl]
      refine takeAdd (m := 24) b4 (evd_var rfl (.adr b)) (evd_int (i := ((24 : Nat) : Int))) (by decide) (by decide) fun r3 H5 hr3 x5 b5 => ?_
      obtain ⟨bx5, hbx5⟩ := b5.lst
      refine s_asgN (evn_lst (evds_cons (evd_int (i := 17)) (evds_cons (evd_int (i := 30)) evds_nil)) (Nat.le_of_ble_eq_true rfl)) fun pm2 xs H6 hpm2 e6 h6 f6 => ?_
      obtain rfl := f6.flat_of rfl
      exact go (1 + r3) 17 30 pm2 H6 (by omega) (by omega) (by omega) (by omega) (by omega) ((x34.trans x5).trans (ExB.of_ex e6)) (b5.mono e6) (ne_of_none hbx5 hpm2) h6
    | false =>
      refine (?_ : if false = true then _ else _)
      rw [if_neg (by decide)]
      exact go n0 2 6 pm H4 h01 h024 (by omega) (by omega) (by omega) x34 b4 nm (x4 _ _ nm.symm h3)
  exact hx
end
end TR
namespace TR
open PySem L2 PyProof.Rows
open Evl (Ex EvT fresh_back)
local macro_rules | `(tactic| walk_at "h") => `(tactic| first
  | assumption
  | (refine Ex.at (by assumption) ?_; walk_at "h")
  | (refine Kp.at (by assumption) ?_; walk_at "h")
  | (refine Fz.mono (Kp.ex (by assumption)) ?_; walk_at "h")
  | (refine Fz.mono (by assumption) ?_; walk_at "h")
  | (refine FzL.mono (Kp.ex (by assumption)) ?_; walk_at "h")
  | (refine FzL.mono (by assumption) ?_; walk_at "h")
  | (refine NetAt.mono (Kp.ex (by assumption)) ?_; walk_at "h")
  | (refine NetAt.mono (by assumption) ?_; walk_at "h")
  | (refine StaA.mono (Kp.ex (by assumption)) ?_; walk_at "h")
  | (refine StaA.mono (by assumption) ?_; walk_at "h")
  | (refine Sta.mono (Kp.ex (by assumption)) ?_; walk_at "h")
  | (refine Sta.mono (by assumption) ?_; walk_at "h")
  | (refine Lst.mono (by assumption) ?_; walk_at "h")
  | (refine Seq.mono (by assumption) ?_; walk_at "h"))
local macro_rules | `(tactic| walk_at "fz") => `(tactic| first
  | exact Fz.int _ | exact Fz.bl _ | exact Fz.str _ | exact Fz.non
  | walk_at "h"
  | exact Fz.adr _)
local macro_rules | `(tactic| walk_at "ix") => `(tactic| first
  | exact rfl
  | (refine atI_nat ?_; first | assumption | rfl | (simp; done)))
local macro_rules | `(tactic| walk_at "ev") => `(tactic| first
  | exact evd_int | exact evd_str | exact evd_bl | exact evd_non
  | (refine evd_var rfl ?_; walk_at "fz")
  | (refine evd_stations ?_ ?_; (walk_at "h"); (walk_at "ev"))
  | (refine evd_ropes ?_ ?_; (walk_at "h"); (walk_at "ev"))
  | (refine evd_net ?_ ?_; (walk_at "h"); (walk_at "ev"))
  | (refine evd_reds ?_ ?_; (walk_at "h"); (walk_at "ev"))
  | (refine evd_blues ?_ ?_; (walk_at "h"); (walk_at "ev"))
  | (refine evd_cars ?_ ?_; (walk_at "h"); (walk_at "ev"))
  | (refine evd_add ?_ ?_; (walk_at "ev"); (walk_at "ev"))
  | (refine evd_sub ?_ ?_; (walk_at "ev"); (walk_at "ev"))
  | (refine evd_lt ?_ ?_; (walk_at "ev"); (walk_at "ev"))
  | (refine evd_le ?_ ?_; (walk_at "ev"); (walk_at "ev"))
  | (refine evd_gt ?_ ?_; (walk_at "ev"); (walk_at "ev"))
  | (refine evd_ge ?_ ?_; (walk_at "ev"); (walk_at "ev"))
  | (refine evd_neg ?_; (walk_at "ev"))
  | (refine evd_eqI ?_ ?_; (walk_at "ev"); (walk_at "ev"))
  | (refine evd_neI ?_ ?_; (walk_at "ev"); (walk_at "ev"))
  | (refine evd_eqS ?_ ?_; (walk_at "ev"); (walk_at "ev"))
  | (refine evd_eqB ?_ ?_; (walk_at "ev"); (walk_at "ev"))
  | (refine evd_neB ?_ ?_; (walk_at "ev"); (walk_at "ev"))
  | (refine evd_isN ?_ ?_; (walk_at "ev"); exact rfl)
  | (refine evd_notN ?_ ?_; (walk_at "ev"); exact rfl)
  | (refine evd_ixT ?_ ?_ ?_; (walk_at "ev"); (walk_at "ev"); (walk_at "ix"))
  | (refine evd_ixL ?_ ?_ ?_ ?_ ?_; (walk_at "ev"); (walk_at "h"); (walk_at "h"); (walk_at "ev"); (walk_at "ix"))
  | (refine evd_tup ?_ ?_; (walk_at "evs"); exact Nat.le_of_ble_eq_true rfl)
  | (refine evd_lenD ?_; walk_at "ev")
  | (refine evd_lenL ?_ ?_; (walk_at "ev"); (walk_at "h"))
  | (refine evd_intI ?_; walk_at "ev")
  | (refine evd_intB ?_; walk_at "ev")
  | (refine evd_notV ?_; walk_at "ev"))
local macro_rules | `(tactic| walk_at "evs") => `(tactic| first
  | exact evds_nil
  | (refine evds_cons ?_ ?_; (walk_at "ev"); (walk_at "evs")))
local macro_rules | `(tactic| walk_at "et") => `(tactic| first
  | (refine et_test ?_; walk_at "ev")
  | (refine et_B ?_; walk_at "ev")
  | (refine et_tru ?_ ?_; (walk_at "ev"); (walk_at "h"))
  | (refine Evl.et_not ?_; walk_at "et")
  | (refine et_chain2 ?_ ?_ ?_; (walk_at "ev"); (walk_at "ev"); (walk_at "ev")))
section
variable {K : PySem.W.Frag} {mg : Str → Option Value} {σ : L2.St} {H : Hp} {te ta tb tc tv tx : TE} {tr : TA} {ds es fs : List D} {d d1 d2 : D} {E : Ends} {tz : TS}
theorem make_net {T : Txt K mg} {w : Wd} {Q : VK} {X : XK} (W : WOk w) (ha : EvD ta σ H (dn w.n)) (hb : EvN tb σ H (w.rs.map dPair)) (k : ∀ p H', Ex H H' → NetAt T H' p w → Q (.ref p) H') : tMake T.Net.C (sp_Net_init T) [] X (tCons ta (tCons tb tNil)) σ H Q :=
  ha H (Ex.refl _) _ fun v H1 e1 f1 => hb H1 e1 _ fun p vs H2 hp e2 h2 f2 x dx nx ndx ne => by
    rw [f1.int_of]
    have e3 : Ex H2 (upd (upd H2 dx (.own x)) x (.ins T.Net.C dx [])) := (Ex.new ndx).trans (Ex.new (by rw [upd_ne (Ne.symm ne)]; exact nx))
    refine ⟨x, p, dx, w, rfl, upd_same, ⟨vs, e3 _ _ h2, f2.mono (Kp.ex e3)⟩, W, fun H' b N => ⟨rfl, k x H' (fun c o hc => ?_) N⟩⟩
    have h2c := e2 _ _ (e1 _ _ hc)
    exact b c o (ne_of_none h2c nx) (e3 _ _ h2c)
theorem q_makeNet {T : Txt K mg} {w : Wd} {X : XK} {i : Nat} (W : WOk w) (ha : EvD ta σ H (dn w.n)) (hb : EvN tb σ H (w.rs.map dPair)) (k : ∀ p H', Ex H H' → NetAt T H' p w → tz E (σ.set i (some (.ref p))) H') : tSeq (tAsg (tMake T.Net.C (sp_Net_init T) [] X (tCons ta (tCons tb tNil))) (gName i)) tz E σ H := by
  show tMake T.Net.C (sp_Net_init T) [] X (tCons ta (tCons tb tNil)) σ H (fun v H1 => tz E (σ.set i (some v)) H1)
  exact make_net (Q := fun v H1 => tz E (σ.set i (some v)) H1) W ha hb k
theorem make_staN {T : Txt K mg} {an : Addr} {w : Wd} {s : Sd} {Q : VK} {X : XK} (N : NetAt T H an w) (O : SOk w s) (h0 : EvD ta σ H (.adr an)) (h1 : EvN tb σ H (s.reds.map dn)) (h2 : EvN tc σ H (s.blues.map dn)) (h3 : EvN tv σ H (s.cars.map dn)) (k : ∀ p H', Ex H H' → StaA T H' p an w s → Q (.ref p) H') :
    tMake T.Standing.C (sp_Standing_init T) [] X (tCons ta (tCons tb (tCons tc (tCons tv tNil)))) σ H Q :=
  h0 H (Ex.refl _) _ fun v H1 e1 f1 => h1 H1 e1 _ fun p1 vs1 H2 _ e2 g1 fa => h2 H2 (e1.trans e2) _ fun p2 vs2 H3 _ e3 g2 fb => h3 H3 ((e1.trans e2).trans e3) _ fun p3 vs3 H4 _ e4 g3 fc x dx nx ndx ne => by
    rw [f1.adr_of]
    have e5 : Ex H4 (upd (upd H4 dx (.own x)) x (.ins T.Standing.C dx [])) := (Ex.new ndx).trans (Ex.new (by rw [upd_ne (Ne.symm ne)]; exact nx))
    have e04 := ((e1.trans e2).trans e3).trans e4
    have s1 : Seq H2 p1 (s.reds.map dn) := ⟨vs1, .inl g1, fa⟩
    have s2 : Seq H3 p2 (s.blues.map dn) := ⟨vs2, .inl g2, fb⟩
    have s3 : Seq H4 p3 (s.cars.map dn) := ⟨vs3, .inl g3, fc⟩
    refine ⟨x, an, p1, p2, p3, dx, w, s, rfl, upd_same, N.mono (Kp.ex (e04.trans e5)), s1.mono ((e3.trans e4).trans e5), s2.mono (e4.trans e5), s3.mono e5, O, fun H' b S => ⟨rfl, k x H' (fun c o hc => ?_) S⟩⟩
    have h4c := e04 _ _ hc
    exact b c o (ne_of_none h4c nx) (e5 _ _ h4c)
/-- reading the world -/
theorem WorldAt.evn {a : Addr} {w : Wd} {s : Sd} (h : WorldAt H a w s) (ha : EvD ta σ H (.adr a)) : EvD (tOp (rIx K) ta (tC (.int 0))) σ H (dn w.n) := by
  obtain ⟨pr, us, ps, h1, h2, h3, h4, h5⟩ := h
  obtain ⟨tp, ty, rfl, ht, fy⟩ := h4.tup_of
  exact evd_ixL ha h1 (.cons (.int _) (.cons (.adr _) (.cons (.adr _) .nil))) evd_int (ds := [dn w.n, .adr pr, .adr tp]) rfl
theorem WorldAt.evr {a : Addr} {w : Wd} {s : Sd} (h : WorldAt H a w s) (ha : EvD ta σ H (.adr a)) : ∃ pr, EvD (tOp (rIx K) ta (tC (.int 1))) σ H (.adr pr) ∧ Lst H pr (w.rs.map dPair) := by
  obtain ⟨pr, us, ps, h1, h2, h3, h4, h5⟩ := h
  obtain ⟨tp, ty, rfl, ht, fy⟩ := h4.tup_of
  exact ⟨pr, evd_ixL ha h1 (.cons (.int _) (.cons (.adr _) (.cons (.adr _) .nil))) evd_int (ds := [dn w.n, .adr pr, .adr tp]) rfl, us, h2, h3⟩
theorem WorldAt.evs {a : Addr} {w : Wd} {s : Sd} (h : WorldAt H a w s) (ha : EvD ta σ H (.adr a)) : EvD (tOp (rIx K) ta (tC (.int 2))) σ H (dSt s) := by
  obtain ⟨pr, us, ps, h1, h2, h3, h4, h5⟩ := h
  exact evd_ixL ha h1 (.cons (.int _) (.cons (.adr _) (.cons h4 .nil))) evd_int (ds := [dn w.n, .adr pr, dSt s]) rfl
theorem WorldAt.wok {a : Addr} {w : Wd} {s : Sd} (h : WorldAt H a w s) : WOk w := h.choose_spec.choose_spec.choose_spec.2.2.2.2.1
theorem WorldAt.sok {a : Addr} {w : Wd} {s : Sd} (h : WorldAt H a w s) : SOk w s := h.choose_spec.choose_spec.choose_spec.2.2.2.2.2
theorem evn_lstL {p : Addr} (ha : EvD ta σ H (.adr p)) (h : Lst H p ds) : EvN (tCB (Evl.rListS K) (tCons ta tNil)) σ H ds := by
  obtain ⟨vs, h1, f⟩ := h
  exact evn_listL ha h1 f
theorem pure_l_standing (T : Txt K mg) (vs : List V) (H : Hp) (Q : VK) (E : XK) (h : sp_l_standing T vs H Q E) : Goes (t_l_standing T) N_l_standing vs H Q := by
  obtain ⟨p, v, w, s, rfl, Wa, fv, k⟩ := h
  have W := Wa.wok
  have O0 := Wa.sok
  obtain ⟨pr, hpr, hL⟩ := Wa.evr (K := K) (σ := start N_l_standing [.ref p, v]) (ta := tVar 0) (evd_var (i := 0) rfl (.adr p))
  refine q_makeNet (T := T) W (Wa.evn (K := K) (evd_var (i := 0) rfl (.adr p))) (evn_lstL hpr hL) fun an H1 e1 N1 => ?_
  have f1 := fv.mono (Kp.ex e1)
  have hv : ∀ i : Nat, ∀ d, atI [D.tup (s.reds.map dn), .tup (s.blues.map dn), .tup (s.cars.map dn)] (i : Int) = some d → EvD (tOp (rIx K) (tVar 1) (tC (.int i))) [some (.ref p), some v, some (.ref an)] H1 d := fun i d h => evd_ixT (evd_var rfl f1) evd_int h
  exact make_staN N1 O0 (evd_var rfl (.adr an)) (evn_listD (hv 0 _ rfl)) (evn_listD (hv 1 _ rfl)) (evn_listD (hv 2 _ rfl)) fun a H2 e2 S2 => k a H2 (e1.trans e2) ⟨an, S2⟩
theorem evd_isiT {n : String} {b : Bool} (ha : EvD ta σ H (.tup ds)) (hk : kitB "tuple" n = some b) : EvD (tCB (rIsi K) (tCons ta (tCons (tC (.ty n)) tNil))) σ H (.bl b) := fun H1 e Q q =>
  ha H1 e _ fun v H2 e2 fv => by
    obtain ⟨a, xs, rfl, h1, f⟩ := fv.tup_of
    exact ⟨_, _, _, _, b, rfl, .ty n, .base (.tup h1), kit_ty hk, q _ H2 e2 (.bl _)⟩
theorem evd_isiL {n : String} {b : Bool} {p : Addr} {xs : List V} (ha : EvD ta σ H (.adr p)) (hp : H p = some (.lst xs)) (hk : kitB "list" n = some b) : EvD (tCB (rIsi K) (tCons ta (tCons (tC (.ty n)) tNil))) σ H (.bl b) := fun H1 e Q q =>
  ha H1 e _ fun v H2 e2 fv => by
    rw [fv.adr_of]
    exact ⟨_, _, _, _, b, rfl, .ty n, .base (.lst ((e.trans e2) _ _ hp)), kit_ty hk, q _ H2 e2 (.bl _)⟩
theorem evd_isiS {n : String} {b : Bool} {x : Str} (ha : EvD ta σ H (.str x)) (hk : kitB "str" n = some b) : EvD (tCB (rIsi K) (tCons ta (tCons (tC (.ty n)) tNil))) σ H (.bl b) := fun H1 e Q q =>
  ha H1 e _ fun v H2 e2 fv => by
    rw [fv.str_of]
    exact ⟨_, _, _, _, b, rfl, .ty n, .base (.str x), kit_ty hk, q _ H2 e2 (.bl _)⟩
theorem evd_isiSt {T : Txt K mg} {a an : Addr} {w : Wd} {s : Sd} (S : StaA T H a an w s) (ha : EvD ta σ H (.adr a)) : EvD (tCB (rIsi K) (tCons ta (tCons (tC (.ref T.Standing.C)) tNil))) σ H (.bl true) := fun H1 e Q q =>
  ha H1 e _ fun v H2 e2 fv => by
    rw [fv.adr_of]
    obtain ⟨o, n, dx, tr, tb, tc, h1, h2, h3, h4⟩ := S
    exact ⟨_, _, _, _, true, rfl, .own _, .base (.ins ((e.trans e2) _ _ h1) T.Standing.cl T.Standing.ha T.Standing.hn T.Standing.htk T.Standing.hm), T.Standing.kit, q _ H2 e2 (.bl _)⟩
theorem evd_linteger {T : Txt K mg} {i : Int} (ha : EvD ta σ H (.int i)) : EvD (tCall (sp_l_integer T) [] E0 (tCons ta tNil)) σ H (.bl true) := evd_callF (evds_cons ha evds_nil) rfl fun H1 e Q q => ⟨i, rfl, q⟩
def part (s : Sd) (k : Nat) : List Nat := if k = 0 then s.reds else if k = 1 then s.blues else s.cars
theorem at_part {s : Sd} {k : Nat} (hk : k < 3) : atI [D.tup (s.reds.map dn), .tup (s.blues.map dn), .tup (s.cars.map dn)] (k : Int) = some (.tup ((part s k).map dn)) := by
  rcases (show k = 0 ∨ k = 1 ∨ k = 2 by omega) with rfl | rfl | rfl <;> rfl
theorem part_len {w : Wd} {s : Sd} (W : WOk w) (O : SOk w s) {k : Nat} : (part s k).length ≤ 40 := by
  unfold part
  have := W.n24
  have := W.m40
  split
  · rw [O.lr]; omega
  · split
    · rw [O.lb]; omega
    · rw [O.lc]; omega
theorem pure_l_shows (T : Txt K mg) (vs : List V) (H : Hp) (Q : VK) (E : XK) (h : sp_l_shows T vs H Q E) : Goes (t_l_shows T) N_l_shows vs H Q := by
  obtain ⟨a, v, w, s, rfl, ⟨an, S⟩, fv, k⟩ := h
  have W := S.nt.ok
  have O := S.ok
  refine q_if (b := false) (Evl.et_is (Evl.et_not (et_B (evd_isiSt S (evd_var rfl (.adr a))))) rfl) (fun z => by cases z) fun _ H1 e1 => ?_
  have S1 := S.mono (Kp.ex e1)
  refine q_asgN (evn_lst (evds_cons (evd_reds S1 (evd_var rfl (.adr a))) (evds_cons (evd_blues S1 (evd_var rfl (.adr a))) (evds_cons (evd_cars S1 (evd_var rfl (.adr a))) evds_nil))) (Nat.le_of_ble_eq_true rfl)) fun p xs H2 hp e2 h2 f2 => ?_
  have e12 := e1.trans e2
  refine q_forI (i_rng (n := 3) (evd_int (i := ((3 : Nat) : Int))) (by decide) fun J H3 e3 S3 => ?_)
  refine q_for S3 (fun i σ' H' => ∃ x y, σ' = [some (.ref a), some v, some (.ref p), x, y] ∧ Ex H2 H') ⟨none, none, rfl, e3⟩ (fun i σ' H' _ _ => trivial) ?_ ?_
  · rintro i u σ' H4 H5 hi ⟨x, y, rfl, e4⟩ e5 rfl
    have e45 := e4.trans e5
    have ft : ∀ {H' : Hp} {y : Option V}, Ex H5 H' → EvD (tOp (rIx K) (tVar 2) (tVar 3)) [some (.ref a), some v, some (.ref p), some (vn i), y] H' (.tup ((part s i).map dn)) := fun e => evd_ixL (evd_var rfl (.adr p)) ((e45.trans e) _ _ h2) (f2.mono (Kp.ex (e45.trans e))) (evd_var rfl (.int (i : Int))) (at_part hi)
    have fs : ∀ {H' : Hp} {y : Option V}, Ex H5 H' → EvD (tOp (rIx K) (tVar 1) (tVar 3)) [some (.ref a), some v, some (.ref p), some (vn i), y] H' (.tup ((part s i).map dn)) := fun e => evd_ixT (evd_var rfl (fv.mono (Kp.ex (e12.trans (e45.trans e))))) (evd_var rfl (.int (i : Int))) (at_part hi)
    refine q_if (b := false) (Evl.et_is (Evl.et_or (Evl.et_not (et_B (evd_isiT (b := true) (ft (Ex.refl _)) (by decide +kernel)))) fun _ => et_test (evd_neI (evd_lenD (ft (Ex.refl _))) (evd_lenD (fs (Ex.refl _))))) (by simp)) (fun z => by cases z) fun _ H6 e6 => ?_
    have hpl := part_len W O (k := i)
    refine for_intro (i_rng (n := (part s i).length) (EvD.eq (evd_lenD (fs e6)) (by rw [List.length_map])) (by omega) fun J7 H7 e7 S7 => ?_)
    refine s_for S7 (fun j σ' H' => ∃ y, σ' = [some (.ref a), some v, some (.ref p), some (vn i), y] ∧ Ex H5 H') ⟨y, rfl, e6.trans e7⟩ (fun i σ' H' _ _ => trivial) ?_ fun σ' H8 ⟨y, hσ, e8⟩ => ⟨_, _, hσ, e45.trans e8⟩
    rintro j u σ' H8 H9 hj ⟨y, rfl, e8⟩ e9 rfl
    have e89 := e8.trans e9
    have g1 := evd_ixT (K := K) (ft (y := some (vn j)) e89) (evd_var (i := 4) (v := vn j) rfl (.int _)) (at_dn hj)
    have g2 := evd_ixT (K := K) (fs (y := some (vn j)) e89) (evd_var (i := 4) (v := vn j) rfl (.int _)) (at_dn hj)
    refine s_if (b := false) (Evl.et_is (Evl.et_or (Evl.et_not (et_B (evd_linteger g1))) fun _ => et_test (evd_neI g1 g2)) (by simp)) (fun z => by cases z) fun _ H10 e10 => ⟨_, rfl, e89.trans e10⟩
  rintro σ' H4 ⟨x, y, rfl, e4⟩
  exact s_ret evd_bl fun v H5 e5 f5 => k v H5 ((e12.trans e4).trans e5) f5
theorem pure_l_arrows (T : Txt K mg) (vs : List V) (H : Hp) (Q : VK) (E : XK) (h : sp_l_arrows T vs H Q E) : Goes (t_l_arrows T) N_l_arrows vs H Q := by
  obtain ⟨p, v, w, s, rfl, ⟨us, hp, fp⟩, fv, W, O, k⟩ := h
  have hul : us.length = w.rs.length := by rw [fp.len, List.length_map]
  refine s_retN (EvN.eq (evn_lc (fun _ => true) (fun k => dPair (redSt w s k, bluSt w s k)) (evi_rng (n := w.rs.length) (EvD.eq (evd_lenL (evd_var rfl (.adr p)) hp) (by rw [hul])) (by have := W.m40; omega)) (by have := W.m40; omega) fun i v' H1 hi e f => ?_) ?_) k
  · obtain rfl := f.int_of
    have hc : car s i ≤ 1 := car_le O
    have hr : ∀ {σ : L2.St}, σ[0]? = some (some (.ref p)) → σ[2]? = some (some (vn i)) → EvD (tOp (rIx K) (tVar 0) (tVar 2)) σ H1 (dPair (rope w i)) := fun h0 h2 => evd_ixL (evd_var h0 (.adr p)) (e _ _ hp) (fp.mono (Kp.ex e)) (evd_var h2 (.int (i : Int))) (at_dPair hi)
    have hcr : ∀ {σ : L2.St}, σ[1]? = some (some v) → σ[2]? = some (some (vn i)) → EvD (tOp (rIx K) (tVar 1) (tVar 2)) σ H1 (dn (car s i)) := fun h1 h2 => evd_ixT (evd_var h1 (fv.mono (Kp.ex e))) (evd_var h2 (.int (i : Int))) (at_dn (by rw [O.lc]; exact hi))
    exact ⟨[some (.ref p), some v, some (vn i)], fun Q' q => q, rfl, fun H2 e2 Q q => q H2 (Ex.refl _), fun _ => evd_tup (evds_cons (evd_ixT (hr rfl rfl) (hcr rfl rfl) (at_pick hc)) (evds_cons (evd_ixT (hr rfl rfl) (evd_sub evd_int (hcr rfl rfl)) (at_pick1 hc)) evds_nil)) (Nat.le_of_ble_eq_true rfl)⟩
  · unfold arrows
    rw [List.filter_eq_self.mpr (fun _ _ => rfl), List.map_map]; rfl
theorem lrides_succ {w : Wd} {s : Sd} {i : Nat} : ((List.range (i + 1)).flatMap fun k => (if can w s (k, true) then [((k, true) : Ride)] else []) ++ (if can w s (k, false) then [(k, false)] else [])) = ((List.range i).flatMap fun k => (if can w s (k, true) then [(k, true)] else []) ++ (if can w s (k, false) then [(k, false)] else [])) ++ (if can w s (i, true) then [(i, true)] else []) ++ (if can w s (i, false) then [(i, false)] else []) := by
  rw [List.range_succ, List.flatMap_append, List.flatMap_singleton, List.append_assoc]
theorem ite_len {α : Type} {c : Bool} {x : α} : (if c then [x] else []).length ≤ 1 := by cases c <;> simp
theorem lrides_len {w : Wd} {s : Sd} : ∀ i : Nat, ((List.range i).flatMap fun k => (if can w s (k, true) then [((k, true) : Ride)] else []) ++ (if can w s (k, false) then [(k, false)] else [])).length ≤ 2 * i
  | 0 => Nat.le_refl _
  | i + 1 => by
    rw [lrides_succ, List.length_append, List.length_append]
    have h0 := lrides_len (w := w) (s := s) i
    have h1 := ite_len (c := can w s (i, true)) (x := ((i, true) : Ride))
    have h2 := ite_len (c := can w s (i, false)) (x := ((i, false) : Ride))
    omega
theorem evn_callD {sp : Sp} {X : XK} {es : List D} (h : EvDs tr σ H ds) (hs : ∀ vs H1, Ex H H1 → FzL H1 vs ds → ∀ Q : VK, RetN es H1 Q → sp vs H1 Q X) : EvN (tCall sp [] X tr) σ H es := fun H1 e Q q =>
  h H1 e _ fun vs H2 e2 f => by
    rw [List.append_nil]
    exact hs vs H2 (e.trans e2) f Q fun p us H3 hp e3 h3 g => q p us H3 (fresh_back e2 hp) (e2.trans e3) h3 g
theorem evd_callD {sp : Sp} {X : XK} (h : EvDs tr σ H ds) (hs : ∀ vs H1, Ex H H1 → FzL H1 vs ds → ∀ Q : VK, RetD d H1 Q → sp vs H1 Q X) : EvD (tCall sp [] X tr) σ H d := fun H1 e Q q =>
  h H1 e _ fun vs H2 e2 f => by
    rw [List.append_nil]
    exact hs vs H2 (e.trans e2) f Q fun v H3 e3 g => q v H3 (e2.trans e3) g
theorem callD {sp : Sp} {X : XK} {Q : VK} (h : EvDs tr σ H ds) (k : ∀ vs H1, Ex H H1 → FzL H1 vs ds → sp vs H1 Q X) : tCall sp [] X tr σ H Q :=
  h H (Ex.refl _) _ fun vs H1 e f => by
    rw [List.append_nil]
    exact k vs H1 e f
theorem FzL.two {vs : List V} (f : FzL H vs [d1, d2]) : ∃ v1 v2, vs = [v1, v2] ∧ Fz H v1 d1 ∧ Fz H v2 d2 := by
  cases f with
  | cons f1 f =>
    cases f with
    | cons f2 f =>
      cases f
      exact ⟨_, _, rfl, f1, f2⟩
theorem FzL.three {vs : List V} {d3 : D} (f : FzL H vs [d1, d2, d3]) : ∃ v1 v2 v3, vs = [v1, v2, v3] ∧ Fz H v1 d1 ∧ Fz H v2 d2 ∧ Fz H v3 d3 := by
  cases f with
  | cons f1 f =>
    obtain ⟨v2, v3, rfl, f2, f3⟩ := f.two
    exact ⟨_, _, _, rfl, f1, f2, f3⟩
/-- parts of a state -/
theorem evd_st {s : Sd} {i : Nat} {d : D} (ha : EvD ta σ H (dSt s)) (h : atI [D.tup (s.reds.map dn), .tup (s.blues.map dn), .tup (s.cars.map dn)] (i : Int) = some d) : EvD (tOp (rIx K) ta (tC (.int i))) σ H d := evd_ixT ha evd_int h
theorem evn_larrows {T : Txt K mg} {p : Addr} {w : Wd} {s : Sd} (ha : EvD ta σ H (.adr p)) (hL : Lst H p (w.rs.map dPair)) (hb : EvD tb σ H (.tup (s.cars.map dn))) (W : WOk w) (O : SOk w s) : EvN (tCall (sp_l_arrows T) [] E0 (tCons ta (tCons tb tNil))) σ H ((arrows w s).map dPair) :=
  evn_callD (evds_cons ha (evds_cons hb evds_nil)) fun vs H1 e f Q q => by
    obtain ⟨v1, v2, rfl, f1, f2⟩ := f.two
    obtain rfl := f1.adr_of
    exact ⟨p, v2, w, s, rfl, hL.mono e, f2, W, O, q⟩
theorem evn_lrides {T : Txt K mg} {p : Addr} {w : Wd} {s : Sd} (ha : EvD ta σ H (.adr p)) (hL : Lst H p (w.rs.map dPair)) (hb : EvD tb σ H (dSt s)) (W : WOk w) (O : SOk w s) : EvN (tCall (sp_l_rides T) [] E0 (tCons ta (tCons tb tNil))) σ H ((lrides w s).map dRide) :=
  evn_callD (evds_cons ha (evds_cons hb evds_nil)) fun vs H1 e f Q q => by
    obtain ⟨v1, v2, rfl, f1, f2⟩ := f.two
    obtain rfl := f1.adr_of
    exact ⟨p, v2, w, s, rfl, hL.mono e, f2, W, O, q⟩
theorem pure_l_rides (T : Txt K mg) (vs : List V) (H : Hp) (Q : VK) (E : XK) (h : sp_l_rides T vs H Q E) : Goes (t_l_rides T) N_l_rides vs H Q := by
  obtain ⟨p, v, w, s, rfl, hL, fv, W, O, k⟩ := h
  have hm := W.m40
  refine q_asgN (evn_larrows (evd_var (i := 0) rfl (.adr p)) hL (evd_st (i := 2) (evd_var (i := 1) rfl fv) rfl) W O) fun pa xs H1 hpa e1 h1 f1 => ?_
  refine q_asgN (evn_lst evds_nil (Nat.le_of_ble_eq_true rfl)) fun pf xs2 H2 hpf e2 h2 f2 => ?_
  cases f2
  have e12 := e1.trans e2
  obtain ⟨us, hp, fp⟩ := id hL
  have hul : us.length = w.rs.length := by rw [fp.len, List.length_map]
  have hpfH : H pf = none := fresh_back e1 hpf
  refine q_forI (i_rng (n := w.rs.length) (EvD.eq (evd_lenL (evd_var rfl (.adr p)) (e12 _ _ hp)) (by rw [hul])) (by omega) fun J H3 e3 S3 => ?_)
  refine q_for S3 (fun i σ' H' => ∃ x vs', σ' = [some (.ref p), some v, some (.ref pa), some (.ref pf), x] ∧ Ex H1 H' ∧ H' pf = some (.lst vs') ∧ FzL H' vs' (((List.range i).flatMap fun k => (if can w s (k, true) then [((k, true) : Ride)] else []) ++ (if can w s (k, false) then [(k, false)] else [])).map dRide))
    ⟨none, [], rfl, e2.trans e3, e3 _ _ h2, .nil⟩ (fun i σ' H' _ _ => trivial) ?_ ?_
  · rintro i u σ' H4 H5 hi ⟨x, vs', rfl, e4, h4, f4⟩ e5 rfl
    have hlen : vs'.length ≤ 2 * i := by rw [f4.len, List.length_map]; exact lrides_len i
    have e45 := e4.trans e5
    -- a test
    have tst : ∀ {H' : Hp} (c : Bool), Ex H1 H' → EvT (tTest (tOp kGt (tOp (rIx K) (tOp (rIx K) (tVar 1) (tC (.int (if c then 0 else 1 : Nat)))) (tOp (rIx K) (tOp (rIx K) (tVar 2) (tVar 4)) (tC (.int (if c then 0 else 1 : Nat))))) (tC (.int 0)))) [some (.ref p), some v, some (.ref pa), some (.ref pf), some (vn i)] H' (can w s (i, c)) := fun {H'} c e => by
      have eH := e1.trans e
      have fv' := fv.mono (Kp.ex eH)
      have ga : EvD (tOp (rIx K) (tVar 2) (tVar 4)) [some (.ref p), some v, some (.ref pa), some (.ref pf), some (vn i)] H' (dPair (redSt w s i, bluSt w s i)) := EvD.eq (evd_ixL (evd_var rfl (.adr pa)) (e _ _ h1) (f1.mono (Kp.ex e)) (evd_var rfl (.int (i : Int))) (at_dPair (by rw [arrows_len]; exact hi))) (by rw [arr_get hi])
      refine Evl.et_is (et_test (evd_gt (i := ((gAt s c (carSt w s i c) : Nat) : Int)) (j := 0) ?_ evd_int)) (show decide _ = decide (0 < gAt s c (carSt w s i c)) from decide_eq_decide.mpr (by omega))
      cases c with
      | true => exact evd_ixT (evd_st (i := 0) (evd_var rfl fv') rfl) (evd_ixT ga evd_int (d := dn (redSt w s i)) rfl) (at_dn (by rw [O.lr]; exact redSt_lt W hi))
      | false => exact evd_ixT (evd_st (i := 1) (evd_var rfl fv') rfl) (evd_ixT ga evd_int (d := dn (bluSt w s i)) rfl) (at_dn (by rw [O.lb]; exact bluSt_lt W hi))
    -- the second
    have fin : ∀ (vs2 : List V) (H6 : Hp), Ex H1 H6 → Kp H5 H6 → H6 pf = some (.lst vs2) → vs2.length ≤ 2 * i + 1 → FzL H6 vs2 (((((List.range i).flatMap fun k => (if can w s (k, true) then [((k, true) : Ride)] else []) ++ (if can w s (k, false) then [(k, false)] else []))) ++ (if can w s (i, true) then [(i, true)] else [])).map dRide) → EvT (tTest (tOp kGt (tOp (rIx K) (tOp (rIx K) (tVar 1) (tC (.int 1))) (tOp (rIx K) (tOp (rIx K) (tVar 2) (tVar 4)) (tC (.int 1)))) (tC (.int 0)))) [some (.ref p), some v, some (.ref pa), some (.ref pf), some (vn i)] H6 (can w s (i, false)) → ∀ EE : Ends, (∀ σ2 H2, (∃ x vs', σ2 = [some (.ref p), some v, some (.ref pa), some (.ref pf), x] ∧ Ex H1 H2 ∧ H2 pf = some (.lst vs') ∧ FzL H2 vs' (((List.range (i + 1)).flatMap fun k => (if can w s (k, true) then [((k, true) : Ride)] else []) ++ (if can w s (k, false) then [(k, false)] else [])).map dRide)) → EE.nx σ2 H2) →
        tIfS (tTest (tOp kGt (tOp (rIx K) (tOp (rIx K) (tVar 1) (tC (.int 1))) (tOp (rIx K) (tOp (rIx K) (tVar 2) (tVar 4)) (tC (.int 1)))) (tC (.int 0)))) (tDrop (tBM K "list" rAppend (tVar 3) (tCons (tTup (tCons (tVar 4) (tCons (tC (.str "blue")) tNil))) tNil))) tNext EE [some (.ref p), some v, some (.ref pa), some (.ref pf), some (vn i)] H6 := fun vs2 H6 e6 k6 h6 hl6 f6 ht EE hEE => by
      refine s_if ht (fun hc H7 e7 => ?_) fun hc H7 e7 => ?_
      · refine s_app (e7 _ _ h6) (evd_var rfl (.adr pf)) (evd_tup (evds_cons (evd_var rfl (.int (i : Int))) (evds_cons evd_str evds_nil)) (Nat.le_of_ble_eq_true rfl)) (by omega) fun v8 H8 e8 f8 => ?_
        have kk : Kp H8 (upd H8 pf (.lst (vs2 ++ [v8]))) := Kp.set (e8 _ _ (e7 _ _ h6))
        refine hEE _ _ ⟨_, vs2 ++ [v8], rfl, Ex.set ((e6.trans e7).trans e8) hpf, upd_same, ?_⟩
        have hz : (if can w s (i, false) then [((i, false) : Ride)] else []) = [(i, false)] := by rw [hc]; rfl
        rw [lrides_succ, hz, List.map_append]
        exact (f6.mono ((Kp.ex (e7.trans e8)).trans kk)).snoc (f8.mono kk)
      · refine hEE _ _ ⟨_, vs2, rfl, e6.trans e7, e7 _ _ h6, ?_⟩
        have hz : (if can w s (i, false) then [((i, false) : Ride)] else []) = [] := by rw [hc]; rfl
        rw [lrides_succ, hz, List.append_nil]
        exact f6.mono (Kp.ex e7)
    refine q_if (tst true e45) (fun hc H6 e6 => ?_) fun hc H6 e6 => ?_
    · refine s_app (e6 _ _ (e5 _ _ h4)) (evd_var rfl (.adr pf)) (evd_tup (evds_cons (evd_var rfl (.int (i : Int))) (evds_cons evd_str evds_nil)) (Nat.le_of_ble_eq_true rfl)) (by omega) fun v7 H7 e7 f7 => ?_
      have h7 := e7 _ _ (e6 _ _ (e5 _ _ h4))
      have kk : Kp H7 (upd H7 pf (.lst (vs' ++ [v7]))) := Kp.set h7
      have x7 : Ex H1 (upd H7 pf (.lst (vs' ++ [v7]))) := Ex.set ((e45.trans e6).trans e7) hpf
      refine fin (vs' ++ [v7]) _ x7 ((Kp.ex (e6.trans e7)).trans kk) upd_same (by rw [List.length_append]; simp; omega) ?_ ?_ _ fun σ2 H2 z => z
      · rw [hc, if_pos rfl, List.map_append]
        exact (f4.mono ((Kp.ex ((e5.trans e6).trans e7)).trans kk)).snoc (f7.mono kk)
      · exact tst false x7
    · refine fin vs' H6 (e45.trans e6) (Kp.ex e6) (e6 _ _ (e5 _ _ h4)) (by omega) ?_ (tst false (e45.trans e6)) _ fun σ2 H2 z => z
      rw [hc, if_neg (by decide), List.append_nil]
      exact f4.mono (Kp.ex (e5.trans e6))
  rintro σ' H4 ⟨x, vs', rfl, e4, h4, f4⟩
  refine s_ret (evd_var rfl (.adr pf)) fun v5 H5 e5 f5 => ?_
  obtain rfl := f5.adr_of
  exact k pf vs' H5 hpfH ((e1.trans e4).trans e5) (e5 _ _ h4) (f4.mono (Kp.ex e5))
end
end TR
namespace TR
open PySem L2 PyProof.Rows
open Evl (Ex EvT fresh_back)
local macro_rules | `(tactic| walk_at "h") => `(tactic| first
  | assumption
  | (refine Ex.at (by assumption) ?_; walk_at "h")
  | (refine Kp.at (by assumption) ?_; walk_at "h")
  | (refine Fz.mono (Kp.ex (by assumption)) ?_; walk_at "h")
  | (refine Fz.mono (by assumption) ?_; walk_at "h")
  | (refine FzL.mono (Kp.ex (by assumption)) ?_; walk_at "h")
  | (refine FzL.mono (by assumption) ?_; walk_at "h")
  | (refine NetAt.mono (Kp.ex (by assumption)) ?_; walk_at "h")
  | (refine NetAt.mono (by assumption) ?_; walk_at "h")
  | (refine StaA.mono (Kp.ex (by assumption)) ?_; walk_at "h")
  | (refine StaA.mono (by assumption) ?_; walk_at "h")
  | (refine Sta.mono (Kp.ex (by assumption)) ?_; walk_at "h")
  | (refine Sta.mono (by assumption) ?_; walk_at "h")
  | (refine Lst.mono (by assumption) ?_; walk_at "h")
  | (refine Seq.mono (by assumption) ?_; walk_at "h"))
local macro_rules | `(tactic| walk_at "fz") => `(tactic| first
  | exact Fz.int _ | exact Fz.bl _ | exact Fz.str _ | exact Fz.non
  | walk_at "h"
  | exact Fz.adr _)
local macro_rules | `(tactic| walk_at "ix") => `(tactic| first
  | exact rfl
  | (refine atI_nat ?_; first | assumption | rfl | (simp; done)))
local macro_rules | `(tactic| walk_at "ev") => `(tactic| first
  | exact evd_int | exact evd_str | exact evd_bl | exact evd_non
  | (refine evd_var rfl ?_; walk_at "fz")
  | (refine evd_stations ?_ ?_; (walk_at "h"); (walk_at "ev"))
  | (refine evd_ropes ?_ ?_; (walk_at "h"); (walk_at "ev"))
  | (refine evd_net ?_ ?_; (walk_at "h"); (walk_at "ev"))
  | (refine evd_reds ?_ ?_; (walk_at "h"); (walk_at "ev"))
  | (refine evd_blues ?_ ?_; (walk_at "h"); (walk_at "ev"))
  | (refine evd_cars ?_ ?_; (walk_at "h"); (walk_at "ev"))
  | (refine evd_add ?_ ?_; (walk_at "ev"); (walk_at "ev"))
  | (refine evd_sub ?_ ?_; (walk_at "ev"); (walk_at "ev"))
  | (refine evd_lt ?_ ?_; (walk_at "ev"); (walk_at "ev"))
  | (refine evd_le ?_ ?_; (walk_at "ev"); (walk_at "ev"))
  | (refine evd_gt ?_ ?_; (walk_at "ev"); (walk_at "ev"))
  | (refine evd_ge ?_ ?_; (walk_at "ev"); (walk_at "ev"))
  | (refine evd_neg ?_; (walk_at "ev"))
  | (refine evd_eqI ?_ ?_; (walk_at "ev"); (walk_at "ev"))
  | (refine evd_neI ?_ ?_; (walk_at "ev"); (walk_at "ev"))
  | (refine evd_eqS ?_ ?_; (walk_at "ev"); (walk_at "ev"))
  | (refine evd_eqB ?_ ?_; (walk_at "ev"); (walk_at "ev"))
  | (refine evd_neB ?_ ?_; (walk_at "ev"); (walk_at "ev"))
  | (refine evd_isN ?_ ?_; (walk_at "ev"); exact rfl)
  | (refine evd_notN ?_ ?_; (walk_at "ev"); exact rfl)
  | (refine evd_ixT ?_ ?_ ?_; (walk_at "ev"); (walk_at "ev"); (walk_at "ix"))
  | (refine evd_ixL ?_ ?_ ?_ ?_ ?_; (walk_at "ev"); (walk_at "h"); (walk_at "h"); (walk_at "ev"); (walk_at "ix"))
  | (refine evd_tup ?_ ?_; (walk_at "evs"); exact Nat.le_of_ble_eq_true rfl)
  | (refine evd_lenD ?_; walk_at "ev")
  | (refine evd_lenL ?_ ?_; (walk_at "ev"); (walk_at "h"))
  | (refine evd_intI ?_; walk_at "ev")
  | (refine evd_intB ?_; walk_at "ev")
  | (refine evd_notV ?_; walk_at "ev"))
local macro_rules | `(tactic| walk_at "evs") => `(tactic| first
  | exact evds_nil
  | (refine evds_cons ?_ ?_; (walk_at "ev"); (walk_at "evs")))
local macro_rules | `(tactic| walk_at "et") => `(tactic| first
  | (refine et_test ?_; walk_at "ev")
  | (refine et_B ?_; walk_at "ev")
  | (refine et_tru ?_ ?_; (walk_at "ev"); (walk_at "h"))
  | (refine Evl.et_not ?_; walk_at "et")
  | (refine et_chain2 ?_ ?_ ?_; (walk_at "ev"); (walk_at "ev"); (walk_at "ev")))
section
variable {K : PySem.W.Frag} {mg : Str → Option Value} {σ : L2.St} {H : Hp} {te ta tb tc tv tx : TE} {tr : TA} {ds es fs : List D} {d d1 d2 : D} {E : Ends} {tz : TS}
def sideOf (w : Wd) (s : Sd) (k : Nat) (c : Bool) : Nat := if c then car s k else 1 - car s k
theorem pick_side {w : Wd} {s : Sd} {k : Nat} {c : Bool} : pick (rope w k) (sideOf w s k c) = carSt w s k c := by cases c <;> rfl
theorem pick_side1 {w : Wd} {s : Sd} {k : Nat} {c : Bool} (O : SOk w s) : pick (rope w k) (1 - sideOf w s k c) = carSt w s k (!c) := by
  have hc := car_le O (k := k)
  cases c
  · show pick (rope w k) (1 - (1 - car s k)) = pick (rope w k) (car s k)
    rw [sub_sub1 hc]
  · rfl
theorem side_le {w : Wd} {s : Sd} {k : Nat} {c : Bool} (O : SOk w s) : sideOf w s k c ≤ 1 := by
  have hc := car_le O (k := k)
  unfold sideOf; split <;> omega
theorem pure_l_ride (T : Txt K mg) (vs : List V) (H : Hp) (Q : VK) (E : XK) (h : sp_l_ride T vs H Q E) : Goes (t_l_ride T) N_l_ride vs H Q := by
  obtain ⟨p, v, u, w, s, ⟨kk, c⟩, rfl, hL, fv, fu, W, O, hk, hcan, k⟩ := h
  obtain ⟨us, hp, fp⟩ := id hL
  have hcar : car s kk ≤ 1 := car_le O
  have hk : kk < w.rs.length := hk
  have hpos := can_iff.mp hcan
  have hcl : carSt w s kk c < (gs s c).length := by rw [gs_len O]; exact carSt_lt W hk
  have hfl : carSt w s kk (!c) < (gs s c).length := by rw [gs_len O]; exact carSt_lt W hk
  -- the parts of the ride, of the state
  have hr0 : ∀ {σ : L2.St} {H' : Hp}, Ex H H' → σ[2]? = some (some u) → EvD (tOp (rIx K) (tVar 2) (tC (.int 0))) σ H' (dn kk) := fun e h => evd_ixT (evd_var h (fu.mono (Kp.ex e))) evd_int (ds := [dn kk, .str (colS c)]) rfl
  have hr1 : ∀ {σ : L2.St} {H' : Hp}, Ex H H' → σ[2]? = some (some u) → EvD (tOp (rIx K) (tVar 2) (tC (.int 1))) σ H' (.str (colS c)) := fun e h => evd_ixT (evd_var h (fu.mono (Kp.ex e))) evd_int (ds := [dn kk, .str (colS c)]) rfl
  have hs2 : ∀ {σ : L2.St} {H' : Hp}, Ex H H' → σ[1]? = some (some v) → EvD (tOp (rIx K) (tVar 1) (tC (.int 2))) σ H' (.tup (s.cars.map dn)) := fun e h => evd_st (i := 2) (evd_var h (fv.mono (Kp.ex e))) rfl
  refine q_asg (evd_ixL (evd_var (i := 0) rfl (.adr p)) hp fp (hr0 (Ex.refl _) rfl) (at_dPair hk)) fun v3 H1 e1 f1 => ?_
  obtain ⟨tp, ty, rfl, htp, fty⟩ := f1.tup_of
  obtain rfl := fty.flat_of rfl
  have hpair : ∀ {σ : L2.St} {H' : Hp}, Ex H1 H' → σ[3]? = some (some (.ref tp)) → EvD (tVar 3) σ H' (.tup [dn (rope w kk).1, dn (rope w kk).2]) := fun e h => evd_var h (.tup (e _ _ htp) (.cons (.int _) (.cons (.int _) .nil)))
  refine q_asg (evd_ixT (hs2 e1 rfl) (hr0 e1 rfl) (at_dn (by rw [O.lc]; exact hk))) fun v4 H2 e2 f2 => ?_
  obtain rfl := f2.int_of
  have e12 := e1.trans e2
  -- from here on: the side is known
  have go : ∀ H3 : Hp, Ex H2 H3 →
      tSeq (tAsg (tLst (tCons (tCB (Evl.rListS K) (tCons (tOp (rIx K) (tVar 1) (tC (.int 0))) tNil)) (tCons (tCB (Evl.rListS K) (tCons (tOp (rIx K) (tVar 1) (tC (.int 1))) tNil)) tNil))) (gName 5)) (tSeq (tAsg (tOp (rIx K) (tVar 5) (tCB rInt1 (tCons (tOp rEq (tOp (rIx K) (tVar 2) (tC (.int 1))) (tC (.str "blue"))) tNil))) (gName 6)) (tSeq (tAsg (tOp kSub (tOp (rIx K) (tVar 6) (tOp (rIx K) (tVar 3) (tVar 4))) (tC (.int 1))) (gSub (tVar 6) (tOp (rIx K) (tVar 3) (tVar 4)) rSetL)) (tSeq (tAsg (tOp kAdd (tOp (rIx K) (tVar 6) (tOp (rIx K) (tVar 3) (tOp kSub (tC (.int 1)) (tVar 4)))) (tC (.int 1))) (gSub (tVar 6) (tOp (rIx K) (tVar 3) (tOp kSub (tC (.int 1)) (tVar 4))) rSetL)) (tSeq (tAsg (tCB (Evl.rListS K) (tCons (tOp (rIx K) (tVar 1) (tC (.int 2))) tNil)) (gName 7)) (tSeq (tAsg (tOp kSub (tC (.int 1)) (tOp (rIx K) (tVar 7) (tOp (rIx K) (tVar 2) (tC (.int 0))))) (gSub (tVar 7) (tOp (rIx K) (tVar 2) (tC (.int 0))) rSetL)) (tRet (tTup (tCons (tCB (rTupOf K) (tCons (tOp (rIx K) (tVar 5) (tC (.int 0))) tNil)) (tCons (tCB (rTupOf K) (tCons (tOp (rIx K) (tVar 5) (tC (.int 1))) tNil)) (tCons (tCB (rTupOf K) (tCons (tVar 7) tNil)) tNil)))))))))) { nx := fun _ H' => Q .non H', rt := Q } [some (.ref p), some v, some u, some (.ref tp), some (vn (sideOf w s kk c)), none, none, none] H3 := fun H3 e3 => by
    have e13 := e12.trans e3
    have hs : ∀ (i : Nat) (d : D), atI [D.tup (s.reds.map dn), .tup (s.blues.map dn), .tup (s.cars.map dn)] (i : Int) = some d → EvD (tOp (rIx K) (tVar 1) (tC (.int i))) [some (.ref p), some v, some u, some (.ref tp), some (vn (sideOf w s kk c)), none, none, none] H3 d := fun i d h => evd_st (i := i) (evd_var rfl (fv.mono (Kp.ex e13))) h
    refine q_lst2N (evn_listD (hs 0 _ rfl)) (evn_listD (hs 1 _ rfl)) fun q p0 p1 vs0 vs1 H4 hq0 hp00 hp10 e4 n01 nq0 nq1 hq h0 f0 h1 f1 => ?_
    obtain rfl := f0.nats_of
    obtain rfl := f1.nats_of
    have e14 := e13.trans e4
    obtain ⟨pg, hpg, hgl, hpgn, hpq⟩ : ∃ pg, atI [D.adr p0, .adr p1] (if decide (colS c = ("blue" : Str)) then (1 : Int) else 0) = some (.adr pg) ∧ H4 pg = some (.lst (nats (gs s c))) ∧ H3 pg = none ∧ pg = (if c then p0 else p1) := by
      rw [colS_blue]
      cases c
      · exact ⟨p1, rfl, h1, hp10, rfl⟩
      · exact ⟨p0, rfl, h0, hp00, rfl⟩
    refine q_asg (evd_ixL (evd_var rfl (.adr q)) hq FzL.pair (evd_intB (evd_eqS (hr1 e14 rfl) evd_str)) hpg) fun v6 H5 e5 f5 => ?_
    obtain rfl := f5.adr_of
    have e15 := e14.trans e5
    have hgl5 := e5 _ _ hgl
    have hx1 : ∀ {σ : L2.St} {H' : Hp}, Ex H1 H' → σ[3]? = some (some (.ref tp)) → σ[4]? = some (some (vn (sideOf w s kk c))) → EvD (tOp (rIx K) (tVar 3) (tVar 4)) σ H' (dn (carSt w s kk c)) := fun e h3 h4 => EvD.eq (evd_ixT (hpair e h3) (evd_var h4 (.int _)) (at_pick (p := rope w kk) (side_le O))) (by rw [pick_side])
    have hx2 : ∀ {σ : L2.St} {H' : Hp}, Ex H1 H' → σ[3]? = some (some (.ref tp)) → σ[4]? = some (some (vn (sideOf w s kk c))) → EvD (tOp (rIx K) (tVar 3) (tOp kSub (tC (.int 1)) (tVar 4))) σ H' (dn (carSt w s kk (!c))) := fun e h3 h4 => EvD.eq (evd_ixT (hpair e h3) (evd_sub evd_int (evd_var h4 (.int _))) (at_pick1 (p := rope w kk) (side_le O))) (by rw [pick_side1 O])
    have e25 := ((e2.trans e3).trans e4).trans e5
    refine q_setL (j := carSt w s kk c) hgl5 (EvD.eq (evd_sub (evd_ixL (evd_var rfl (.adr pg)) hgl5 (FzL.nats _) (hx1 e25 rfl rfl) (at_dn hcl)) evd_int) (e := dn ((gs s c).getD (carSt w s kk c) 0 - 1)) (by show D.int _ = D.int _; congr 1; unfold gAt at hpos; omega)) (evd_var rfl (.adr pg)) (hx1 e25 rfl rfl) (by rw [List.length_map]; exact hcl) fun v7 H6 e6 f6 => ?_
    obtain rfl := f6.int_of
    have hz6 : (nats (gs s c)).set (carSt w s kk c) (V.int (((gs s c).getD (carSt w s kk c) 0 - 1 : Nat) : Int)) = nats ((gs s c).set (carSt w s kk c) ((gs s c).getD (carSt w s kk c) 0 - 1)) := nats_set
    rw [hz6]
    have x6 : Ex H3 (upd H6 pg (.lst (nats ((gs s c).set (carSt w s kk c) ((gs s c).getD (carSt w s kk c) 0 - 1))))) := Ex.set ((e4.trans e5).trans e6) hpgn
    have npq : q ≠ pg := by rw [hpq]; cases c; exact nq1; exact nq0
    have hq6 : (upd H6 pg (.lst (nats ((gs s c).set (carSt w s kk c) ((gs s c).getD (carSt w s kk c) 0 - 1))))) q = some (.lst [.ref p0, .ref p1]) := (upd_ne npq).trans ((e5.trans e6) _ _ hq)
    have ho6 : ∀ a l, a ≠ pg → H4 a = some (.lst l) → (upd H6 pg (.lst (nats ((gs s c).set (carSt w s kk c) ((gs s c).getD (carSt w s kk c) 0 - 1))))) a = some (.lst l) := fun a l n h => (upd_ne n).trans ((e5.trans e6) _ _ h)
    have h6 : (upd H6 pg (.lst (nats ((gs s c).set (carSt w s kk c) ((gs s c).getD (carSt w s kk c) 0 - 1))))) pg = _ := upd_same
    generalize upd H6 pg (.lst (nats ((gs s c).set (carSt w s kk c) ((gs s c).getD (carSt w s kk c) 0 - 1)))) = G6 at *
    have e1G := (e2.trans e3).trans x6
    refine q_setL (j := carSt w s kk (!c)) h6 (EvD.eq (evd_add (evd_ixL (evd_var rfl (.adr pg)) h6 (FzL.nats _) (hx2 e1G rfl rfl) (at_dn (by rw [List.length_set]; exact hfl))) evd_int) (e := dn (((gs s c).set (carSt w s kk c) ((gs s c).getD (carSt w s kk c) 0 - 1)).getD (carSt w s kk (!c)) 0 + 1)) rfl) (evd_var rfl (.adr pg)) (hx2 e1G rfl rfl) (by rw [List.length_map, List.length_set]; exact hfl) fun v8 H7 e7 f7 => ?_
    obtain rfl := f7.int_of
    have hz7 : (nats ((gs s c).set (carSt w s kk c) ((gs s c).getD (carSt w s kk c) 0 - 1))).set (carSt w s kk (!c)) (V.int ((((gs s c).set (carSt w s kk c) ((gs s c).getD (carSt w s kk c) 0 - 1)).getD (carSt w s kk (!c)) 0 + 1 : Nat) : Int)) = nats (shift (gs s c) (carSt w s kk c) (carSt w s kk (!c))) := nats_set
    rw [hz7]
    have x7 : Ex H3 (upd H7 pg (.lst (nats (shift (gs s c) (carSt w s kk c) (carSt w s kk (!c)))))) := Ex.set (x6.trans e7) hpgn
    have hq7 : (upd H7 pg (.lst (nats (shift (gs s c) (carSt w s kk c) (carSt w s kk (!c)))))) q = some (.lst [.ref p0, .ref p1]) := (upd_ne npq).trans (e7 _ _ hq6)
    have ho7 : ∀ a l, a ≠ pg → H4 a = some (.lst l) → (upd H7 pg (.lst (nats (shift (gs s c) (carSt w s kk c) (carSt w s kk (!c)))))) a = some (.lst l) := fun a l n h => (upd_ne n).trans (e7 _ _ (ho6 a l n h))
    have h7 : (upd H7 pg (.lst (nats (shift (gs s c) (carSt w s kk c) (carSt w s kk (!c)))))) pg = _ := upd_same
    generalize upd H7 pg (.lst (nats (shift (gs s c) (carSt w s kk c) (carSt w s kk (!c))))) = G7 at *
    have e0G := e13.trans x7
    refine q_asgN (evn_listD (hs2 e0G rfl)) fun pc vc H8 hpc e8 h8 f8 => ?_
    obtain rfl := f8.nats_of
    refine q_setL (j := kk) h8 (EvD.eq (evd_sub evd_int (evd_ixL (evd_var rfl (.adr pc)) h8 (FzL.nats _) (hr0 (e0G.trans e8) rfl) (at_dn (by rw [O.lc]; exact hk)))) (e := dn (1 - car s kk)) (by show D.int _ = D.int _; congr 1; unfold car at *; omega)) (evd_var rfl (.adr pc)) (hr0 (e0G.trans e8) rfl) (by rw [List.length_map, O.lc]; exact hk) fun v9 H9 e9 f9 => ?_
    obtain rfl := f9.int_of
    have hz9 : (nats s.cars).set kk (V.int ((1 - car s kk : Nat) : Int)) = nats (s.cars.set kk (1 - car s kk)) := nats_set
    rw [hz9]
    have x9 : Ex G7 (upd H9 pc (.lst (nats (s.cars.set kk (1 - car s kk))))) := Ex.set (e8.trans e9) hpc
    have h9 : (upd H9 pc (.lst (nats (s.cars.set kk (1 - car s kk))))) pc = _ := upd_same
    generalize upd H9 pc (.lst (nats (s.cars.set kk (1 - car s kk)))) = G9 at *
    have gP : ∃ l0 l1, G9 p0 = some (.lst (nats l0)) ∧ G9 p1 = some (.lst (nats l1)) ∧ ride w s (kk, c) = ⟨l0, l1, s.cars.set kk (1 - car s kk)⟩ := by
      have hfar := far_car W O hk (c := c)
      subst hpq
      cases c
      · refine ⟨s.reds, _, x9 _ _ (ho7 p0 _ n01 h0), x9 _ _ h7, ?_⟩
        show (⟨s.reds, shift s.blues (carSt w s kk false) (far (rope w kk) (carSt w s kk false)), _⟩ : Sd) = _
        rw [hfar]; rfl
      · refine ⟨_, s.blues, x9 _ _ h7, x9 _ _ (ho7 p1 _ n01.symm h1), ?_⟩
        show (⟨shift s.reds (carSt w s kk true) (far (rope w kk) (carSt w s kk true)), s.blues, _⟩ : Sd) = _
        rw [hfar]; rfl
    obtain ⟨l0, l1, g0, g1, hride⟩ := gP
    have hq9 := x9 _ _ hq7
    refine s_ret (d := dSt (ride w s (kk, c))) (EvD.eq (evd_tup (evds_cons (evd_tupL (evd_ixL (evd_var rfl (.adr q)) hq9 FzL.pair evd_int (d := .adr p0) rfl) g0 (FzL.nats l0)) (evds_cons (evd_tupL (evd_ixL (evd_var rfl (.adr q)) hq9 FzL.pair evd_int (d := .adr p1) rfl) g1 (FzL.nats l1)) (evds_cons (evd_tupL (evd_var rfl (.adr pc)) h9 (FzL.nats (s.cars.set kk (1 - car s kk)))) evds_nil))) (Nat.le_of_ble_eq_true rfl)) (by rw [hride]; rfl)) fun v10 HA eA fA => k v10 HA ((e0G.trans x9).trans eA) fA
  refine q_if (et_test (evd_eqS (hr1 e12 rfl) evd_str)) (fun hb H3 e3 => ?_) fun hb H3 e3 => ?_
  · rw [colS_blue] at hb
    refine s_asg (EvD.eq (evd_sub evd_int (evd_var rfl (.int _))) (e := dn (sideOf w s kk c)) ?_) fun v5 H4 e4 f4 => ?_
    · show D.int _ = D.int _
      congr 1
      cases c
      · show (1 : Int) - ((s.cars.getD kk 0 : Nat) : Int) = ((1 - car s kk : Nat) : Int)
        unfold car at hcar ⊢; omega
      · cases hb
    obtain rfl := f4.int_of
    exact go H4 (e3.trans e4)
  · rw [colS_blue] at hb
    have : sideOf w s kk c = car s kk := by cases c; cases hb; rfl
    have g := go H3 e3
    rw [this] at g
    exact g
theorem pure_l_is_list (T : Txt K mg) (vs : List V) (H : Hp) (Q : VK) (E : XK) (h : sp_l_is_list T vs H Q E) : Goes (t_l_is_list T) N_l_is_list vs H Q := by
  obtain ⟨p, q, l, rfl, hp, hq, hl, k⟩ := h
  refine q_if (b := false) (Evl.et_is (Evl.et_or (Evl.et_not (et_B (evd_isiL (b := true) (evd_var rfl (.adr p)) hp (by decide +kernel)))) fun _ => et_test (evd_neI (evd_lenL (evd_var rfl (.adr p)) hp) (evd_lenL (evd_var rfl (.adr q)) hq))) (by simp)) (fun z => by cases z) fun _ H1 e1 => ?_
  refine q_forI (i_rng (n := l.length) (EvD.eq (evd_lenL (evd_var rfl (.adr q)) (e1 _ _ hq)) (by rw [List.length_map])) (by omega) fun J H2 e2 S2 => ?_)
  refine q_for S2 (fun i σ' H' => ∃ x, σ' = [some (.ref p), some (.ref q), x] ∧ Ex H H') ⟨none, rfl, e1.trans e2⟩ (fun i σ' H' _ _ => trivial) ?_ ?_
  · rintro i u σ' H3 H4 hi ⟨x, rfl, e3⟩ e4 rfl
    have e34 := e3.trans e4
    have g1 := evd_ixL (K := K) (σ := [some (.ref p), some (.ref q), some (vn i)]) (ta := tVar 0) (tb := tVar 2) (evd_var rfl (.adr p)) (e34 _ _ hp) (FzL.nats _) (evd_var rfl (.int (i : Int))) (at_dn hi)
    have g2 := evd_ixL (K := K) (σ := [some (.ref p), some (.ref q), some (vn i)]) (ta := tVar 1) (tb := tVar 2) (evd_var rfl (.adr q)) (e34 _ _ hq) (FzL.nats _) (evd_var rfl (.int (i : Int))) (at_dn hi)
    exact s_if (b := false) (Evl.et_is (Evl.et_or (Evl.et_not (et_B (evd_linteger g1))) fun _ => et_test (evd_neI g1 g2)) (by simp)) (fun z => by cases z) fun _ H5 e5 => ⟨_, rfl, e34.trans e5⟩
  rintro σ' H3 ⟨x, rfl, e3⟩
  exact s_ret evd_bl fun v H4 e4 f4 => k v H4 (e3.trans e4) f4
theorem pure_l_are_rides (T : Txt K mg) (vs : List V) (H : Hp) (Q : VK) (E : XK) (h : sp_l_are_rides T vs H Q E) : Goes (t_l_are_rides T) N_l_are_rides vs H Q := by
  obtain ⟨p, q, w, rs, rfl, ⟨us, hp, fp⟩, ⟨ws, hq, fq⟩, hr, k⟩ := h
  have hwl : ws.length = w.rs.length := by rw [fq.len, List.length_map]
  refine q_if (b := false) (Evl.et_is (Evl.et_not (et_B (evd_isiL (b := true) (evd_var rfl (.adr p)) hp (by decide +kernel)))) rfl) (fun z => by cases z) fun _ H1 e1 => ?_
  refine q_forI (i_seqL (evd_var rfl (.adr p)) (e1 _ _ hp) fun J H2 e2 S2 => ?_)
  refine q_for S2 (fun i σ' H' => ∃ x, σ' = [some (.ref p), some (.ref q), x] ∧ Ex H H') ⟨none, rfl, e1.trans e2⟩ (fun i σ' H' _ ⟨_, _, e⟩ => e _ _ hp) ?_ ?_
  · rintro i u σ' H3 H4 hi ⟨x, rfl, e3⟩ e4 hu
    have e34 := e3.trans e4
    obtain ⟨d, hd, fd⟩ := fp.getV hu
    obtain ⟨⟨kk, c⟩, hrr, rfl⟩ := map_get hd
    have hkk := hr _ (List.mem_of_getElem? hrr)
    have f4 := fd.mono (Kp.ex e34)
    have hv : ∀ {H' : Hp}, Ex H4 H' → EvD (tVar 2) [some (.ref p), some (.ref q), some u] H' (.tup [dn kk, .str (colS c)]) := fun e => evd_var rfl (f4.mono (Kp.ex e))
    have h0 : ∀ {H' : Hp}, Ex H4 H' → EvD (tOp (rIx K) (tVar 2) (tC (.int 0))) [some (.ref p), some (.ref q), some u] H' (dn kk) := fun e => evd_ixT (hv e) evd_int rfl
    have h1 : ∀ {H' : Hp}, Ex H4 H' → EvD (tOp (rIx K) (tVar 2) (tC (.int 1))) [some (.ref p), some (.ref q), some u] H' (.str (colS c)) := fun e => evd_ixT (hv e) evd_int rfl
    refine q_if (b := false) (Evl.et_is (Evl.et_or (Evl.et_not (et_B (evd_isiT (b := true) (hv (Ex.refl _)) (by decide +kernel)))) fun _ => Evl.et_or (et_test (evd_neI (evd_lenD (hv (Ex.refl _))) evd_int)) fun _ => Evl.et_not (et_B (evd_linteger (h0 (Ex.refl _))))) rfl) (fun z => by cases z) fun _ H5 e5 => ?_
    refine q_if (b := false) (Evl.et_is (Evl.et_or (Evl.et_not (et_B (evd_isiS (b := true) (h1 e5) (by decide +kernel)))) fun _ => et_test (evd_inN (neg := true) (d := .str (colS c)) (ds := [.str "red", .str "blue"]) (h1 e5) rfl rfl (evn_lst (evds_cons evd_str (evds_cons evd_str evds_nil)) (Nat.le_of_ble_eq_true rfl)) rfl rfl)) (by cases c <;> decide +kernel)) (fun z => by cases z) fun _ H6 e6 => ?_
    refine s_if (b := false) (Evl.et_is (Evl.et_or (et_test (evd_lt (h0 (e5.trans e6)) evd_int)) fun _ => et_test (evd_ge (h0 (e5.trans e6)) (evd_lenL (evd_var rfl (.adr q)) ((e34.trans (e5.trans e6)) _ _ hq)))) ?_) (fun z => by cases z) fun _ H7 e7 => ⟨_, rfl, ((e34.trans e5).trans e6).trans e7⟩
    have hkk : kk < w.rs.length := hkk
    rw [decide_eq_false (show ¬ ((kk : Int) < 0) by omega), decide_eq_false (show ¬ ((ws.length : Int) ≤ kk) by omega)]; rfl
  rintro σ' H3 ⟨x, rfl, e3⟩
  exact s_ret evd_bl fun v H4 e4 f4 => k v H4 (e3.trans e4) f4
end
end TR
namespace TR
open PySem L2 PyProof.Rows
open Evl (Ex EvT fresh_back)
local macro_rules | `(tactic| walk_at "h") => `(tactic| first
  | assumption
  | (refine Ex.at (by assumption) ?_; walk_at "h")
  | (refine Kp.at (by assumption) ?_; walk_at "h")
  | (refine Fz.mono (Kp.ex (by assumption)) ?_; walk_at "h")
  | (refine Fz.mono (by assumption) ?_; walk_at "h")
  | (refine FzL.mono (Kp.ex (by assumption)) ?_; walk_at "h")
  | (refine FzL.mono (by assumption) ?_; walk_at "h")
  | (refine NetAt.mono (Kp.ex (by assumption)) ?_; walk_at "h")
  | (refine NetAt.mono (by assumption) ?_; walk_at "h")
  | (refine StaA.mono (Kp.ex (by assumption)) ?_; walk_at "h")
  | (refine StaA.mono (by assumption) ?_; walk_at "h")
  | (refine Sta.mono (Kp.ex (by assumption)) ?_; walk_at "h")
  | (refine Sta.mono (by assumption) ?_; walk_at "h")
  | (refine Lst.mono (by assumption) ?_; walk_at "h")
  | (refine Seq.mono (by assumption) ?_; walk_at "h"))
local macro_rules | `(tactic| walk_at "fz") => `(tactic| first
  | exact Fz.int _ | exact Fz.bl _ | exact Fz.str _ | exact Fz.non
  | walk_at "h"
  | exact Fz.adr _)
local macro_rules | `(tactic| walk_at "ix") => `(tactic| first
  | exact rfl
  | (refine atI_nat ?_; first | assumption | rfl | (simp; done)))
local macro_rules | `(tactic| walk_at "ev") => `(tactic| first
  | exact evd_int | exact evd_str | exact evd_bl | exact evd_non
  | (refine evd_var rfl ?_; walk_at "fz")
  | (refine evd_stations ?_ ?_; (walk_at "h"); (walk_at "ev"))
  | (refine evd_ropes ?_ ?_; (walk_at "h"); (walk_at "ev"))
  | (refine evd_net ?_ ?_; (walk_at "h"); (walk_at "ev"))
  | (refine evd_reds ?_ ?_; (walk_at "h"); (walk_at "ev"))
  | (refine evd_blues ?_ ?_; (walk_at "h"); (walk_at "ev"))
  | (refine evd_cars ?_ ?_; (walk_at "h"); (walk_at "ev"))
  | (refine evd_add ?_ ?_; (walk_at "ev"); (walk_at "ev"))
  | (refine evd_sub ?_ ?_; (walk_at "ev"); (walk_at "ev"))
  | (refine evd_lt ?_ ?_; (walk_at "ev"); (walk_at "ev"))
  | (refine evd_le ?_ ?_; (walk_at "ev"); (walk_at "ev"))
  | (refine evd_gt ?_ ?_; (walk_at "ev"); (walk_at "ev"))
  | (refine evd_ge ?_ ?_; (walk_at "ev"); (walk_at "ev"))
  | (refine evd_neg ?_; (walk_at "ev"))
  | (refine evd_eqI ?_ ?_; (walk_at "ev"); (walk_at "ev"))
  | (refine evd_neI ?_ ?_; (walk_at "ev"); (walk_at "ev"))
  | (refine evd_eqS ?_ ?_; (walk_at "ev"); (walk_at "ev"))
  | (refine evd_eqB ?_ ?_; (walk_at "ev"); (walk_at "ev"))
  | (refine evd_neB ?_ ?_; (walk_at "ev"); (walk_at "ev"))
  | (refine evd_isN ?_ ?_; (walk_at "ev"); exact rfl)
  | (refine evd_notN ?_ ?_; (walk_at "ev"); exact rfl)
  | (refine evd_ixT ?_ ?_ ?_; (walk_at "ev"); (walk_at "ev"); (walk_at "ix"))
  | (refine evd_ixL ?_ ?_ ?_ ?_ ?_; (walk_at "ev"); (walk_at "h"); (walk_at "h"); (walk_at "ev"); (walk_at "ix"))
  | (refine evd_tup ?_ ?_; (walk_at "evs"); exact Nat.le_of_ble_eq_true rfl)
  | (refine evd_lenD ?_; walk_at "ev")
  | (refine evd_lenL ?_ ?_; (walk_at "ev"); (walk_at "h"))
  | (refine evd_intI ?_; walk_at "ev")
  | (refine evd_intB ?_; walk_at "ev")
  | (refine evd_notV ?_; walk_at "ev"))
local macro_rules | `(tactic| walk_at "evs") => `(tactic| first
  | exact evds_nil
  | (refine evds_cons ?_ ?_; (walk_at "ev"); (walk_at "evs")))
local macro_rules | `(tactic| walk_at "et") => `(tactic| first
  | (refine et_test ?_; walk_at "ev")
  | (refine et_B ?_; walk_at "ev")
  | (refine et_tru ?_ ?_; (walk_at "ev"); (walk_at "h"))
  | (refine Evl.et_not ?_; walk_at "et")
  | (refine et_chain2 ?_ ?_ ?_; (walk_at "ev"); (walk_at "ev"); (walk_at "ev")))
def pRide (r : Ride) : PyData := .tuple [.int r.1, .str (colS r.2)]
theorem colS_inj {a b : Bool} : (colS a == colS b) = (a == b) := by cases a <;> cases b <;> decide +kernel
theorem eqv_ride {a b : Ride} : PyData.eqv (pRide a) (pRide b) = decide (a = b) := by
  obtain ⟨i, c⟩ := a
  obtain ⟨j, e⟩ := b
  show (((i : Int) == (j : Int)) && ((colS c == colS e) && true)) = _
  rw [colS_inj, Bool.and_true, Bool.eq_iff_iff, Bool.and_eq_true, decide_eq_true_iff, beq_iff_eq, beq_iff_eq]
  constructor
  · rintro ⟨h1, h2⟩
    have h1 : i = j := by omega
    rw [h1, h2]
  · intro h
    injection h with h1 h2
    exact ⟨by rw [h1], h2⟩
theorem lay_col {c : Bool} : PyData.canLay0 (.str (colS c)) = true := by cases c <;> decide +kernel
theorem lay_ride {r : Ride} : PyData.canLay0 (pRide r) = true := by
  obtain ⟨k, c⟩ := r
  show (true && (PyData.canLay0 (.str (colS c)) && true)) = true
  rw [lay_col]; rfl
theorem dep_ride {r : Ride} : (pRide r).depth = 1 := by obtain ⟨k, c⟩ := r; rfl
theorem lay_rides : ∀ {l : List Ride}, PyData.canLayAll0 (l.map pRide) = true
  | [] => rfl
  | r :: l => by
    show (PyData.canLay0 (pRide r) && PyData.canLayAll0 (l.map pRide)) = true
    rw [lay_ride, lay_rides]; rfl
theorem dep_rides : ∀ {l : List Ride}, PyData.depthAll (l.map pRide) ≤ 1
  | [] => Nat.zero_le _
  | r :: l => by
    show max (pRide r).depth (PyData.depthAll (l.map pRide)) ≤ 1
    rw [dep_ride]
    have := dep_rides (l := l)
    omega
theorem shaped_ride {r : Ride} : SeqAt.shaped (pRide r) = true := by
  show (PyData.canLay0 (pRide r) && decide ((pRide r).depth ≤ 64)) = true
  rw [lay_ride, dep_ride]; rfl
theorem shaped_rides {l : List Ride} : SeqAt.shaped (.list (l.map pRide)) = true := by
  show (PyData.canLayAll0 (l.map pRide) && decide (PyData.depthAll (l.map pRide) + 1 ≤ 64)) = true
  rw [lay_rides, decide_eq_true (by have := dep_rides (l := l); omega)]; rfl
theorem any_ride {l : List Ride} {r : Ride} : ((l.map pRide).any fun z => PyData.eqv z (pRide r)) = decide (r ∈ l) := by
  rw [List.any_map, Bool.eq_iff_iff, List.any_eq_true, decide_eq_true_iff]
  constructor
  · rintro ⟨x, hx, h⟩
    have h : PyData.eqv (pRide x) (pRide r) = true := h
    rw [eqv_ride] at h
    exact of_decide_eq_true h ▸ hx
  · exact fun h => ⟨r, h, by show PyData.eqv (pRide r) (pRide r) = true; rw [eqv_ride]; exact decide_eq_true rfl⟩
section
variable {K : PySem.W.Frag} {mg : Str → Option Value} {σ : L2.St} {H : Hp} {te ta tb tc tv tx : TE} {tr : TA} {ds es fs : List D} {d d1 d2 : D} {E : Ends} {tz : TS}
theorem dp_ride {v : V} {r : Ride} (f : Fz H v (dRide r)) : Dp K H v (pRide r) := by
  obtain ⟨a, xs, rfl, ha, fl⟩ := f.tup_of
  obtain ⟨v1, v2, rfl, f1, f2⟩ := fl.two
  obtain rfl := f1.int_of
  obtain rfl := f2.str_of
  exact .tup (SqT.of ha) (.cons (.int _) (.cons (.str _) .nil))
theorem dp_all : ∀ {l : List Ride} {vs : List V}, FzL H vs (l.map dRide) → DpAll K H vs (l.map pRide)
  | [], _, f => by cases f; exact .nil
  | r :: l, _, f => by
    cases f with
    | cons f1 f => exact .cons (dp_ride f1) (dp_all f)
theorem dp_rides {p : Addr} {vs : List V} {l : List Ride} (h : H p = some (.lst vs)) (f : FzL H vs (l.map dRide)) : Dp K H (.ref p) (.list (l.map pRide)) := .lst (SqL.of h) (dp_all f)
theorem et_notInD {r : Ride} {l : List Ride} (ha : EvD ta σ H (dRide r)) (hb : EvN tb σ H (l.map dRide)) : EvT (tTest (tOp (rNotInD K) ta tb)) σ H (!decide (r ∈ l)) := fun H1 e Q q =>
  ha H1 e _ fun v H2 e2 fv => hb H2 (e.trans e2) _ fun p vs H3 hp e3 h f =>
    ⟨pRide r, l.map pRide, dp_ride (fv.mono (Kp.ex e3)), dp_rides h f, shaped_ride, shaped_rides, _, by rw [any_ride], q H3 (e2.trans e3)⟩
theorem mem_lrides {w : Wd} {s : Sd} {r : Ride} : r ∈ lrides w s ↔ r.1 < w.rs.length ∧ can w s r = true := by
  obtain ⟨k, c⟩ := r
  unfold lrides
  rw [List.mem_flatMap]
  constructor
  · rintro ⟨k', hk', h⟩
    rw [List.mem_range] at hk'
    rw [List.mem_append] at h
    rcases h with h | h
    · split at h
      · rw [List.mem_singleton] at h
        injection h with h1 h2
        subst h1 h2
        exact ⟨hk', by assumption⟩
      · cases h
    · split at h
      · rw [List.mem_singleton] at h
        injection h with h1 h2
        subst h1 h2
        exact ⟨hk', by assumption⟩
      · cases h
  · rintro ⟨h1, h2⟩
    refine ⟨k, List.mem_range.mpr h1, ?_⟩
    rw [List.mem_append]
    cases c
    · exact .inr (by rw [if_pos h2]; simp)
    · exact .inl (by rw [if_pos h2]; simp)
theorem pure_l_end (T : Txt K mg) (vs : List V) (H : Hp) (Q : VK) (E : XK) (h : sp_l_end T vs H Q E) : Goes (t_l_end T) N_l_end vs H Q := by
  obtain ⟨p, q, v, w, s, rs, rfl, hL, fv, ⟨us, hq, fq⟩, W, O, ok, k⟩ := h
  have hul : us.length = rs.length := by rw [fq.len, List.length_map]
  refine q_forI (i_seqL (evd_var rfl (.adr q)) hq fun J H1 e1 S1 => ?_)
  refine q_for S1 (fun i σ' H' => ∃ u x, σ' = [some (.ref p), some u, some (.ref q), x] ∧ Ex H H' ∧ Fz H' u (dSt (rideAll w s (rs.take i)))) ⟨v, none, rfl, e1, fv.mono (Kp.ex e1)⟩ (fun i σ' H' _ ⟨_, _, _, e, _⟩ => e _ _ hq) ?_ ?_
  · rintro i x σ' H2 H3 hi ⟨u, y, rfl, e2, fu⟩ e3 hx
    obtain ⟨d, hd, fd⟩ := fq.getV hx
    obtain ⟨r, hr, rfl⟩ := map_get hd
    obtain ⟨hk, hc⟩ := Ok_get ok hr
    have e23 := e2.trans e3
    have O' : SOk w (rideAll w s (rs.take i)) := by
      refine rideAll_ok W O ?_
      have : rs = rs.take i ++ rs.drop i := (List.take_append_drop i rs).symm
      rw [this] at ok
      exact (Ok_append.mp ok).1
    have fu3 := fu.mono (Kp.ex e3)
    have fd3 := fd.mono (Kp.ex e23)
    refine q_if (b := false) (Evl.et_is (et_notInD (r := r) (evd_var (i := 3) (v := x) rfl fd3) (evn_lrides (evd_var (i := 0) (v := .ref p) rfl (.adr p)) (hL.mono e23) (evd_var (i := 1) (v := u) rfl fu3) W O')) (by rw [decide_eq_true (mem_lrides.mpr ⟨hk, hc⟩)]; rfl)) (fun z => by cases z) fun _ H4 e4 => ?_
    refine s_asg (evd_callD (d := dSt (ride w (rideAll w s (rs.take i)) r)) (evds_cons (evd_var (i := 0) (v := .ref p) rfl (.adr p)) (evds_cons (evd_var (i := 1) (v := u) rfl (fu3.mono (Kp.ex e4))) (evds_cons (evd_var (i := 3) (v := x) rfl (fd3.mono (Kp.ex e4))) evds_nil))) fun vs H5 e5 f Q q => ?_) fun v6 H6 e6 f6 => ?_
    · obtain ⟨v1, v2, v3, rfl, f1, f2, f3⟩ := f.three
      obtain rfl := f1.adr_of
      exact ⟨p, v2, v3, w, _, r, rfl, hL.mono ((e23.trans e4).trans e5), f2, f3, W, O', hk, hc, q⟩
    · refine ⟨v6, _, rfl, (e23.trans e4).trans e6, ?_⟩
      rw [rideAll_take hr]
      exact f6
  rintro σ' H2 ⟨u, y, rfl, e2, fu⟩
  rw [hul, List.take_length] at fu
  exact s_ret (evd_var rfl fu) fun v3 H3 e3 f3 => k v3 H3 (e2.trans e3) f3
theorem nf_zero {l : List Bool} (h : nf l = 0) {x : Nat} (hx : x < l.length) : mk l x = true := by
  cases hm : mk l x with
  | true => rfl
  | false =>
    have := nf_set_lt hx hm
    omega
open Classical in
theorem pure_l_reach (T : Txt K mg) (vs : List V) (H : Hp) (Q : VK) (E : XK) (h : sp_l_reach T vs H Q E) : Goes (t_l_reach T) N_l_reach vs H Q := by
  obtain ⟨p, v, n, ps, l, rfl, ⟨us, hp, fp⟩, fv, hl, hn, hps, k⟩ := h
  have hul : us.length = ps.length := by rw [fp.len, List.length_map]
  have hll : (l.map dn).length = n := by rw [List.length_map, hl]
  have hi0 := evi_seqT (K := K) (σ := start N_l_reach [vn n, .ref p, v]) (te := tVar 2) (evd_var (i := 2) rfl fv)
  rw [hll] at hi0
  refine q_asgN (EvN.eq (es := (((List.range n).map fun x => decide (0 < l.getD x 0))).map D.bl) (evn_lc (fun _ => true) (fun x => .bl (decide (0 < l.getD x 0))) hi0 (by omega) fun i v' H1 hi e f => ?_) (by rw [filt_all, List.map_map]; rfl)) fun pj xs H1 hpj e1 h1 f1 => ?_
  · rw [getD_dn (by omega)] at f
    obtain rfl := f.int_of
    refine ⟨_, fun Q' q => q, rfl, fun H2 e2 Q q => q H2 (Ex.refl _), fun _ => EvD.eq (evd_gt (evd_var (i := 7) (v := vn (l.getD i 0)) rfl (.int _)) evd_int) ?_⟩
    congr 1
    exact decide_eq_decide.mpr (by omega)
  obtain rfl := f1.bls_of
  -- the end
  have last : ∀ (jl : List Bool) (H2 : Hp) (x y z : Option V), Ex H H2 → H2 pj = some (.lst (bls jl)) → jl.length = n → (∀ x, 0 < l.getD x 0 → mk jl x = true) → (∀ x, mk jl x = true → PathTo ps (fun x => 0 < l.getD x 0) x) → (∀ q ∈ ps, mk jl q.1 = true → mk jl q.2 = true) → ∀ EE : Ends, EE.rt = Q →
      tRet (tLc (iRng1 (tCons (tVar 0) tNil)) (gName 8) (tB (tOp (rIx K) (tVar 3) (tVar 8))) (tVar 8) [8]) EE [some (vn n), some (.ref p), some v, some (.ref pj), x, y, z, none, none] H2 := fun jl H2 x y z e2 h2 hjl hs ht hc EE hEE => by
    have hiff : ∀ x, mk jl x = true ↔ PathTo ps (fun x => 0 < l.getD x 0) x := fun x => ⟨ht x, fun h => h.closed (P := fun x => mk jl x = true) hs hc⟩
    refine s_retN (EvN.eq (es := (reachL n ps fun x => 0 < l.getD x 0).map dn) (evn_lc (fun i => mk jl i) (fun i => dn i) (evi_rng (evd_var rfl (.int (n : Int))) (by omega)) (by omega) fun i v H4 hi e4 f => ?_) ?_) fun r xs H10 hr e10 h10 f10 => ?_
    · obtain rfl := f.int_of
      exact ⟨_, fun Q' q => q, rfl, et_B (evd_ixL (evd_var (i := 3) (v := .ref pj) rfl (.adr pj)) (e4 _ _ h2) (FzL.bls _) (evd_var (i := 8) (v := vn i) rfl (.int (i : Int))) (at_bl (by omega))), fun _ => evd_var (i := 8) (v := vn i) rfl (.int _)⟩
    · unfold reachL
      congr 1
      refine List.filter_congr fun i _ => ?_
      rw [Bool.eq_iff_iff, hiff i]; simp
    · rw [hEE]
      exact k r xs H10 (fresh_back e2 hr) (e2.trans e10) h10 f10
  refine q_forI (i_rng (n := n) (evd_var rfl (.int (n : Int))) (by omega) fun J H2 e2 S2 => ?_)
  have hst0 : ∀ x, 0 < l.getD x 0 → x < n := fun x hx => by rw [← hl]; exact getD_pos_lt hx
  refine q_for S2 (fun i σ' H' => ∃ (jl : List Bool) (x y z : Option V), σ' = [some (vn n), some (.ref p), some v, some (.ref pj), x, y, z, none, none] ∧ Ex H H' ∧ H' pj = some (.lst (bls jl)) ∧ jl.length = n ∧ (∀ x, 0 < l.getD x 0 → mk jl x = true) ∧ (∀ x, mk jl x = true → PathTo ps (fun x => 0 < l.getD x 0) x) ∧ nf jl + i ≤ n)
    ⟨_, none, none, none, rfl, e1.trans e2, e2 _ _ h1, by rw [List.length_map, List.length_range], fun x hx => by rw [mk_range (hst0 x hx)]; exact decide_eq_true hx, fun x hx => ?_, ?_⟩ (fun i σ' H' _ _ => trivial) ?_ ?_
  · have hxn := mk_lt hx
    rw [List.length_map, List.length_range] at hxn
    rw [mk_range hxn] at hx
    exact .base (of_decide_eq_true hx)
  · have : nf ((List.range n).map fun x => decide (0 < l.getD x 0)) ≤ ((List.range n).map fun x => decide (0 < l.getD x 0)).length := List.count_le_length
    rw [List.length_map, List.length_range] at this
    omega
  · rintro i u σ' H3 H4 hi ⟨jl, x, y, z, rfl, e3, h3, hjl, hs, ht, hnf⟩ e4 rfl
    refine q_asg evd_bl fun v5 H5 e5 f5 => ?_
    obtain rfl := f5.bl_of
    have e35 := (e3.trans e4).trans e5
    refine q_forI (i_seqL (evd_var rfl (.adr p)) (e35 _ _ hp) fun J6 H6 e6 S6 => ?_)
    refine q_for S6 (fun j σ' H' => ∃ (jl' : List Bool) (g : Bool) (z : Option V), σ' = [some (vn n), some (.ref p), some v, some (.ref pj), some (vn i), some (.bl g), z, none, none] ∧ Ex H H' ∧ H' pj = some (.lst (bls jl')) ∧ jl'.length = n ∧ (∀ x, 0 < l.getD x 0 → mk jl' x = true) ∧ (∀ x, mk jl' x = true → PathTo ps (fun x => 0 < l.getD x 0) x) ∧ (g = false → jl' = jl ∧ ∀ q ∈ ps.take j, mk jl' q.1 = true → mk jl' q.2 = true) ∧ (g = true → nf jl' < nf jl))
      ⟨jl, false, z, rfl, e35.trans e6, e6 _ _ (e5 _ _ (e4 _ _ h3)), hjl, hs, ht, fun _ => ⟨rfl, by simp⟩, (fun z => by cases z)⟩ (fun j σ' H' _ ⟨_, _, _, _, e, _⟩ => e _ _ hp) ?_ ?_
    · rintro j u σ' H7 H8 hj ⟨jl', g, z, rfl, e7, h7, hjl', hs', ht', hg0, hg1⟩ e8 hu
      obtain ⟨d, hd, fd⟩ := fp.getV hu
      obtain ⟨q, hq, rfl⟩ := map_get hd
      have hqm := List.mem_of_getElem? hq
      obtain ⟨q1, q2⟩ := hps q hqm
      have e78 := e7.trans e8
      have fu := fd.mono (Kp.ex e78)
      have h8 := e8 _ _ h7
      have hq1 : ∀ {H' : Hp}, Ex H8 H' → EvD (tOp (rIx K) (tVar 6) (tC (.int 0))) [some (vn n), some (.ref p), some v, some (.ref pj), some (vn i), some (.bl g), some u, none, none] H' (dn q.1) := fun e => evd_ixT (evd_var (i := 6) rfl (fu.mono (Kp.ex e))) evd_int (ds := [dn q.1, dn q.2]) rfl
      have hq2 : ∀ {H' : Hp}, Ex H8 H' → EvD (tOp (rIx K) (tVar 6) (tC (.int 1))) [some (vn n), some (.ref p), some v, some (.ref pj), some (vn i), some (.bl g), some u, none, none] H' (dn q.2) := fun e => evd_ixT (evd_var (i := 6) rfl (fu.mono (Kp.ex e))) evd_int (ds := [dn q.1, dn q.2]) rfl
      refine s_if (Evl.et_and (et_B (evd_ixL (evd_var (i := 3) rfl (.adr pj)) h8 (FzL.bls _) (hq1 (Ex.refl _)) (at_bl (by omega)))) fun _ => Evl.et_not (et_B (evd_ixL (evd_var (i := 3) rfl (.adr pj)) h8 (FzL.bls _) (hq2 (Ex.refl _)) (at_bl (by omega))))) (fun hb H9 e9 => ?_) fun hb H9 e9 => ?_
      · rw [Bool.and_eq_true, Bool.not_eq_true'] at hb
        refine q_setL (j := q.2) (e9 _ _ h8) evd_bl (evd_var (i := 3) rfl (.adr pj)) (hq2 e9) (by rw [List.length_map]; omega) fun v10 H10 e10 f10 => ?_
        obtain rfl := f10.bl_of
        rw [bls_set]
        refine s_asg evd_bl fun v11 H11 e11 f11 => ?_
        obtain rfl := f11.bl_of
        have hlt := nf_set_lt (l := jl') (i := q.2) (by omega) hb.2
        refine ⟨jl'.set q.2 true, true, _, rfl, (Ex.set ((e78.trans e9).trans e10) hpj).trans e11, e11 _ _ upd_same, by rw [List.length_set, hjl'], fun x hx => mk_keep (hs' x hx), fun x hx => ?_, (fun z => by cases z), fun _ => ?_⟩
        · rw [mk_set] at hx
          split at hx
          · rename_i hh
            rw [← hh.1]
            exact .step (ht' _ hb.1) hqm
          · exact ht' x hx
        · have hle : nf jl' ≤ nf jl := by
            cases g with
            | false => rw [(hg0 rfl).1]; exact Nat.le_refl _
            | true => exact Nat.le_of_lt (hg1 rfl)
          omega
      · refine ⟨jl', g, _, rfl, e78.trans e9, e9 _ _ h8, hjl', hs', ht', fun hz => ⟨(hg0 hz).1, fun r hr h1 => ?_⟩, hg1⟩
        rw [take_succ' hq, List.mem_append, List.mem_singleton] at hr
        rcases hr with hr | rfl
        · exact (hg0 hz).2 r hr h1
        · rw [h1] at hb
          simpa using hb
    · rintro σ' H7 ⟨jl', g, z, rfl, e7, h7, hjl', hs', ht', hg0, hg1⟩
      rw [hul, List.take_length] at hg0
      refine s_if (Evl.et_not (et_B (evd_var (i := 5) rfl (.bl g)))) (fun hb H8 e8 => ?_) fun hb H8 e8 => ?_
      · have hg : g = false := by simpa using hb
        exact last jl' H8 _ _ _ (e7.trans e8) (e8 _ _ h7) hjl' hs' ht' (hg0 hg).2 _ rfl
      · have hg : g = true := by simpa using hb
        have := hg1 hg
        exact ⟨jl', _, _, _, rfl, e7.trans e8, e8 _ _ h7, hjl', hs', ht', by omega⟩
  rintro σ' H3 ⟨jl, x, y, z, rfl, e3, h3, hjl, hs, ht, hnf⟩
  exact last jl H3 _ _ _ e3 h3 hjl hs ht (fun q hq _ => nf_zero (by omega) (by rw [hjl]; exact (hps q hq).2)) _ rfl
end
end TR
namespace TR
open PySem L2 PyProof.Rows
open Evl (Ex EvT fresh_back)
local macro_rules | `(tactic| walk_at "h") => `(tactic| first
  | assumption
  | (refine Ex.at (by assumption) ?_; walk_at "h")
  | (refine Kp.at (by assumption) ?_; walk_at "h")
  | (refine Fz.mono (Kp.ex (by assumption)) ?_; walk_at "h")
  | (refine Fz.mono (by assumption) ?_; walk_at "h")
  | (refine FzL.mono (Kp.ex (by assumption)) ?_; walk_at "h")
  | (refine FzL.mono (by assumption) ?_; walk_at "h")
  | (refine NetAt.mono (Kp.ex (by assumption)) ?_; walk_at "h")
  | (refine NetAt.mono (by assumption) ?_; walk_at "h")
  | (refine StaA.mono (Kp.ex (by assumption)) ?_; walk_at "h")
  | (refine StaA.mono (by assumption) ?_; walk_at "h")
  | (refine Sta.mono (Kp.ex (by assumption)) ?_; walk_at "h")
  | (refine Sta.mono (by assumption) ?_; walk_at "h")
  | (refine Lst.mono (by assumption) ?_; walk_at "h")
  | (refine Seq.mono (by assumption) ?_; walk_at "h"))
local macro_rules | `(tactic| walk_at "fz") => `(tactic| first
  | exact Fz.int _ | exact Fz.bl _ | exact Fz.str _ | exact Fz.non
  | walk_at "h"
  | exact Fz.adr _)
local macro_rules | `(tactic| walk_at "ix") => `(tactic| first
  | exact rfl
  | (refine atI_nat ?_; first | assumption | rfl | (simp; done)))
local macro_rules | `(tactic| walk_at "ev") => `(tactic| first
  | exact evd_int | exact evd_str | exact evd_bl | exact evd_non
  | (refine evd_var rfl ?_; walk_at "fz")
  | (refine evd_stations ?_ ?_; (walk_at "h"); (walk_at "ev"))
  | (refine evd_ropes ?_ ?_; (walk_at "h"); (walk_at "ev"))
  | (refine evd_net ?_ ?_; (walk_at "h"); (walk_at "ev"))
  | (refine evd_reds ?_ ?_; (walk_at "h"); (walk_at "ev"))
  | (refine evd_blues ?_ ?_; (walk_at "h"); (walk_at "ev"))
  | (refine evd_cars ?_ ?_; (walk_at "h"); (walk_at "ev"))
  | (refine evd_add ?_ ?_; (walk_at "ev"); (walk_at "ev"))
  | (refine evd_sub ?_ ?_; (walk_at "ev"); (walk_at "ev"))
  | (refine evd_lt ?_ ?_; (walk_at "ev"); (walk_at "ev"))
  | (refine evd_le ?_ ?_; (walk_at "ev"); (walk_at "ev"))
  | (refine evd_gt ?_ ?_; (walk_at "ev"); (walk_at "ev"))
  | (refine evd_ge ?_ ?_; (walk_at "ev"); (walk_at "ev"))
  | (refine evd_neg ?_; (walk_at "ev"))
  | (refine evd_eqI ?_ ?_; (walk_at "ev"); (walk_at "ev"))
  | (refine evd_neI ?_ ?_; (walk_at "ev"); (walk_at "ev"))
  | (refine evd_eqS ?_ ?_; (walk_at "ev"); (walk_at "ev"))
  | (refine evd_eqB ?_ ?_; (walk_at "ev"); (walk_at "ev"))
  | (refine evd_neB ?_ ?_; (walk_at "ev"); (walk_at "ev"))
  | (refine evd_isN ?_ ?_; (walk_at "ev"); exact rfl)
  | (refine evd_notN ?_ ?_; (walk_at "ev"); exact rfl)
  | (refine evd_ixT ?_ ?_ ?_; (walk_at "ev"); (walk_at "ev"); (walk_at "ix"))
  | (refine evd_ixL ?_ ?_ ?_ ?_ ?_; (walk_at "ev"); (walk_at "h"); (walk_at "h"); (walk_at "ev"); (walk_at "ix"))
  | (refine evd_tup ?_ ?_; (walk_at "evs"); exact Nat.le_of_ble_eq_true rfl)
  | (refine evd_lenD ?_; walk_at "ev")
  | (refine evd_lenL ?_ ?_; (walk_at "ev"); (walk_at "h"))
  | (refine evd_intI ?_; walk_at "ev")
  | (refine evd_intB ?_; walk_at "ev")
  | (refine evd_notV ?_; walk_at "ev"))
local macro_rules | `(tactic| walk_at "evs") => `(tactic| first
  | exact evds_nil
  | (refine evds_cons ?_ ?_; (walk_at "ev"); (walk_at "evs")))
local macro_rules | `(tactic| walk_at "et") => `(tactic| first
  | (refine et_test ?_; walk_at "ev")
  | (refine et_B ?_; walk_at "ev")
  | (refine et_tru ?_ ?_; (walk_at "ev"); (walk_at "h"))
  | (refine Evl.et_not ?_; walk_at "et")
  | (refine et_chain2 ?_ ?_ ?_; (walk_at "ev"); (walk_at "ev"); (walk_at "ev")))
theorem mk_ext {l : List Bool} {n : Nat} {f : Nat → Bool} (hl : l.length = n) (h : ∀ x, x < n → mk l x = f x) : l = (List.range n).map f := by
  refine List.ext_getElem? fun i => ?_
  rw [List.getElem?_map]
  rcases Nat.lt_or_ge i n with h1 | h1
  · rw [List.getElem?_range h1, List.getElem?_eq_getElem (by omega)]
    show some _ = some (f i)
    rw [← h i h1]
    unfold mk
    rw [List.getD_eq_getElem?_getD, List.getElem?_eq_getElem (by omega)]; rfl
  · rw [List.getElem?_eq_none (by omega), List.getElem?_eq_none (by simpa using h1)]; rfl
section
variable {K : PySem.W.Frag} {mg : Str → Option Value} {σ : L2.St} {H : Hp} {te ta tb tc tv tx : TE} {tr : TA} {ds es fs : List D} {d d1 d2 : D} {E : Ends} {tz : TS}
theorem s_retLst2 (ha : EvN ta σ H ds) (hb : EvN tb σ H es)
    (k : ∀ q p0 p1 vs0 vs1 H', H q = none → H p0 = none → H p1 = none → Ex H H' → p0 ≠ p1 → q ≠ p0 → q ≠ p1 → H' q = some (.lst [.ref p0, .ref p1]) → H' p0 = some (.lst vs0) → FzL H' vs0 ds → H' p1 = some (.lst vs1) → FzL H' vs1 es → E.rt (.ref q) H') :
    tRet (tLst (tCons ta (tCons tb tNil))) E σ H := by
  show tLst (tCons ta (tCons tb tNil)) σ H E.rt
  exact lst2N ha hb k
theorem evn_lreach {T : Txt K mg} {p : Addr} {n : Nat} {ps : List (Nat × Nat)} {l : List Nat} (h0 : EvD ta σ H (dn n)) (h1 : EvD tb σ H (.adr p)) (hL : Lst H p (ps.map dPair)) (h2 : EvD tc σ H (.tup (l.map dn))) (hl : l.length = n) (hn : n ≤ 24) (hps : ∀ q ∈ ps, q.1 < n ∧ q.2 < n) :
    EvN (tCall (sp_l_reach T) [] E0 (tCons ta (tCons tb (tCons tc tNil)))) σ H ((reachL n ps fun x => 0 < l.getD x 0).map dn) := evn_callD (evds_cons h0 (evds_cons h1 (evds_cons h2 evds_nil))) fun vs H1 e f Q q => by
  obtain ⟨v1, v2, v3, rfl, f1, f2, f3⟩ := f.three
  obtain rfl := f1.int_of
  obtain rfl := f2.adr_of
  exact ⟨p, v3, n, ps, l, rfl, hL.mono e, f3, hl, hn, hps, q⟩
theorem pure_l_reaches (T : Txt K mg) (vs : List V) (H : Hp) (Q : VK) (E : XK) (h : sp_l_reaches T vs H Q E) : Goes (t_l_reaches T) N_l_reaches vs H Q := by
  obtain ⟨p, v, w, s, rfl, Wa, fv, k⟩ := h
  have W := Wa.wok
  have O := Wa.sok
  obtain ⟨pr, hpr, hL⟩ := Wa.evr (K := K) (σ := start N_l_reaches [.ref p, v]) (ta := tVar 0) (evd_var (i := 0) rfl (.adr p))
  refine q_asgN (evn_larrows hpr hL (evd_st (i := 2) (evd_var (i := 1) rfl fv) rfl) W O) fun pa xa H1 hpa e1 h1 f1 => ?_
  have hal : ((arrows w s).map dPair).length = w.rs.length := by rw [List.length_map, arrows_len]
  have hi0 := evi_seqL (K := K) (σ := [some (.ref p), some v, some (.ref pa), none, none]) (H := H1) (te := tVar 2) (p := pa) (evd_var (i := 2) rfl (.adr pa)) ⟨xa, h1, f1⟩
  rw [hal] at hi0
  have hm := W.m40
  refine q_asgN (EvN.eq (es := ((arrows w s).map swapP).map dPair) (evn_lc (fun _ => true) (fun i => dPair (swapP ((arrows w s).getD i (0, 0)))) hi0 (by omega) fun i v' H2 hi e2 f => ?_) (filt_all.trans ?_)) fun pb xb H2 hpb e2 h2 f2 => ?_
  · rw [getD_dPair (by rw [arrows_len]; exact hi)] at f
    refine ⟨_, fun Q' q => q, rfl, fun H2 e2 Q q => q H2 (Ex.refl _), fun _ => evd_tup (evds_cons (evd_ixT (evd_var (i := 4) rfl f) evd_int (ds := [dn ((arrows w s).getD i (0, 0)).1, dn ((arrows w s).getD i (0, 0)).2]) rfl) (evds_cons (evd_ixT (evd_var (i := 4) rfl f) evd_int (ds := [dn ((arrows w s).getD i (0, 0)).1, dn ((arrows w s).getD i (0, 0)).2]) rfl) evds_nil)) (Nat.le_of_ble_eq_true rfl)⟩
  · rw [List.map_map]
    exact range_map (d := (0, 0)) arrows_len fun i hi => rfl
  have e12 := e1.trans e2
  have Wa2 := Wa.mono e12
  have fv2 := fv.mono (Kp.ex e12)
  refine s_retLst2 (evn_lreach (Wa2.evn (evd_var (i := 0) rfl (.adr p))) (evd_var (i := 2) rfl (.adr pa)) ⟨xa, e2 _ _ h1, f1.mono (Kp.ex e2)⟩ (evd_st (i := 0) (evd_var (i := 1) rfl fv2) rfl) O.lr W.n24 (arrows_lt W)) (evn_lreach (Wa2.evn (evd_var (i := 0) rfl (.adr p))) (evd_var (i := 3) rfl (.adr pb)) ⟨xb, h2, f2⟩ (evd_st (i := 1) (evd_var (i := 1) rfl fv2) rfl) O.lb W.n24 fun x hx => ?_) fun q p0 p1 vs0 vs1 H3 hq hp0 hp1 e3 n01 nq0 nq1 h3q h30 f30 h31 f31 => ?_
  · obtain ⟨y, hy, rfl⟩ := List.mem_map.mp hx
    exact (arrows_lt W y hy).symm
  · obtain rfl := f30.nats_of
    obtain rfl := f31.nats_of
    exact k q p0 p1 H3 (fresh_back e12 hq) (fresh_back e12 hp0) (fresh_back e12 hp1) (e12.trans e3) h3q h30 h31
theorem evd_lenN (h : EvN te σ H ds) : EvD (tCB (Evl.rLenS K) (tCons te tNil)) σ H (.int (ds.length : Int)) := fun H1 e Q q =>
  h H1 e _ fun p vs H2 hp e2 h2 f2 => ⟨p, vs, rfl, Or.inl (SqL.of h2), by rw [f2.len]; exact q _ H2 e2 (.int _)⟩
theorem meets_filter {w : Wd} {s : Sd} (W : WOk w) (O : SOk w s) : decide ((0 : Int) < ((((redL w s).filter fun x => decide (x ∈ bluL w s)).map dn).length : Nat)) = meets w s := by
  rw [List.length_map, Bool.eq_iff_iff, decide_eq_true_iff, meets_both O]
  have hp : ((0 : Int) < (((redL w s).filter fun x => decide (x ∈ bluL w s)).length : Nat)) ↔ 0 < ((redL w s).filter fun x => decide (x ∈ bluL w s)).length := by omega
  rw [hp, List.length_pos_iff_exists_mem]
  constructor
  · rintro ⟨x, hx⟩
    rw [List.mem_filter, decide_eq_true_iff] at hx
    exact ⟨x, (mem_reachL.mp hx.1).2, (mem_reachL.mp hx.2).2⟩
  · rintro ⟨x, hx1, hx2⟩
    have hxn : x < w.n := PathTo.closed (P := fun y => y < w.n) hx1 (fun z hz => by rw [← O.lr]; exact getD_pos_lt hz) fun q hq _ => (arrows_lt W q hq).2
    exact ⟨x, List.mem_filter.mpr ⟨mem_reachL.mpr ⟨hxn, hx1⟩, decide_eq_true (mem_reachL.mpr ⟨hxn, hx2⟩)⟩⟩
open Classical in
theorem aliveS_mem {w : Wd} {s : Sd} {x : Nat} (hx : x < w.n) : (meets w s || (decide (x ∈ redL w s) || decide (x ∈ bluL w s))) = aliveS w s x := by
  unfold aliveS redL bluL
  rw [Bool.eq_iff_iff]
  simp only [Bool.or_eq_true, decide_eq_true_iff, mem_reachL]
  unfold RedTo BluTo
  constructor
  · rintro (h | ⟨_, h⟩ | ⟨_, h⟩)
    · exact .inl (.inl h)
    · exact .inl (.inr h)
    · exact .inr h
  · rintro ((h | h) | h)
    · exact .inl h
    · exact .inr (.inl ⟨hx, h⟩)
    · exact .inr (.inr ⟨hx, h⟩)
open Classical in
theorem aliveR_mem {w : Wd} {s : Sd} {k : Nat} (W : WOk w) (hk : k < w.rs.length) : (meets w s || (decide (redSt w s k ∈ redL w s) || decide (bluSt w s k ∈ bluL w s))) = aliveR w s k := by
  unfold aliveR redL bluL
  rw [Bool.eq_iff_iff]
  simp only [Bool.or_eq_true, decide_eq_true_iff, mem_reachL]
  unfold RedTo BluTo
  constructor
  · rintro (h | ⟨_, h⟩ | ⟨_, h⟩)
    · exact .inl (.inl h)
    · exact .inl (.inr h)
    · exact .inr h
  · rintro ((h | h) | h)
    · exact .inl h
    · exact .inr (.inl ⟨redSt_lt W hk, h⟩)
    · exact .inr (.inr ⟨bluSt_lt W hk, h⟩)
/-- the two lists of the reaches -/
structure Rq (H : Hp) (q a b : Addr) (w : Wd) (s : Sd) : Prop where
  q : H q = some (.lst [.ref a, .ref b])
  a : H a = some (.lst (nats (redL w s)))
  b : H b = some (.lst (nats (bluL w s)))
theorem Rq.mono {q a b : Addr} {w : Wd} {s : Sd} {H' : Hp} (r : Rq H q a b w s) (e : Ex H H') : Rq H' q a b w s := ⟨e _ _ r.q, e _ _ r.a, e _ _ r.b⟩
theorem Rq.upd {q a b c : Addr} {w : Wd} {s : Sd} {o : HO} (r : Rq H q a b w s) (n1 : q ≠ c) (n2 : a ≠ c) (n3 : b ≠ c) : Rq (upd H c o) q a b w s := ⟨(upd_ne n1).trans r.q, (upd_ne n2).trans r.a, (upd_ne n3).trans r.b⟩
theorem Rq.in0 {q a b : Addr} {w : Wd} {s : Sd} {x : Nat} (r : Rq H q a b w s) (h : EvD tx σ H (.adr q)) (ht : EvD te σ H (dn x)) : EvD (tOp (rIn K false) te (tOp (rIx K) tx (tC (.int 0)))) σ H (.bl (decide (x ∈ redL w s))) :=
  EvD.eq (evd_inL (neg := false) (d := dn x) ht rfl rfl (evd_ixL h r.q FzL.pair evd_int (d := .adr a) rfl) r.a (nats_flat _)) (by rw [if_neg (by decide)]; show D.bl (inV (vn x) _) = _; rw [inV_nats])
theorem Rq.in1 {q a b : Addr} {w : Wd} {s : Sd} {x : Nat} (r : Rq H q a b w s) (h : EvD tx σ H (.adr q)) (ht : EvD te σ H (dn x)) : EvD (tOp (rIn K false) te (tOp (rIx K) tx (tC (.int 1)))) σ H (.bl (decide (x ∈ bluL w s))) :=
  EvD.eq (evd_inL (neg := false) (d := dn x) ht rfl rfl (evd_ixL h r.q FzL.pair evd_int (d := .adr b) rfl) r.b (nats_flat _)) (by rw [if_neg (by decide)]; show D.bl (inV (vn x) _) = _; rw [inV_nats])
open Classical in
theorem pure_l_alive (T : Txt K mg) (vs : List V) (H : Hp) (Q : VK) (E : XK) (h : sp_l_alive T vs H Q E) : Goes (t_l_alive T) N_l_alive vs H Q := by
  obtain ⟨p, v, f, w, s, rfl, Wa, fv, hf, k⟩ := h
  have W := Wa.wok
  have O := Wa.sok
  have hm := W.m40
  have hn24 := W.n24
  obtain ⟨pr, hpr, hL⟩ := Wa.evr (K := K) (σ := start N_l_alive [.ref p, v, f]) (ta := tVar 0) (evd_var (i := 0) rfl (.adr p))
  obtain ⟨us, hpu, fpu⟩ := id hL
  have hul : us.length = w.rs.length := by rw [fpu.len, List.length_map]
  -- the world, read later
  have gn : ∀ {H' : Hp} {σ : L2.St}, Ex H H' → σ[0]? = some (some (.ref p)) → EvD (tOp (rIx K) (tVar 0) (tC (.int 0))) σ H' (dn w.n) := fun e h => (Wa.mono e).evn (evd_var h (.adr p))
  refine q_asgN (EvN.eq (evn_rep1 (k := w.n) evd_bl rfl (gn (Ex.refl _) rfl) (by omega)) (show _ = (List.replicate w.n false).map D.bl by rw [List.map_replicate])) fun pa xs H1 hpa e1 h1 f1 => ?_
  obtain rfl := f1.bls_of
  obtain ⟨pr1, hpr1, hL1⟩ := (Wa.mono e1).evr (K := K) (σ := [some (.ref p), some v, some f, some (.ref pa), none, none, none, none, none, none, none, none]) (ta := tVar 0) (evd_var (i := 0) rfl (.adr p))
  obtain ⟨us1, hpu1, fpu1⟩ := id hL1
  have hul1 : us1.length = w.rs.length := by rw [fpu1.len, List.length_map]
  refine q_asgN (EvN.eq (evn_rep1 (k := w.rs.length) evd_bl rfl (EvD.eq (evd_lenL hpr1 hpu1) (by rw [hul1])) (by omega)) (show _ = (List.replicate w.rs.length false).map D.bl by rw [List.map_replicate])) fun pb xs H2 hpb e2 h2 f2 => ?_
  obtain rfl := f2.bls_of
  have e12 := e1.trans e2
  have hpbH : H pb = none := fresh_back e1 hpb
  have nab : pa ≠ pb := ne_of_none h1 hpb
  have h2a := e2 _ _ h1
  rcases hf with rfl | ⟨pf, fs, rfl, hF, FS, hfl, hSO⟩
  · -- by the reaches
    refine q_if (b := false) (et_test (evd_notN (d := .non) (evd_var (i := 2) rfl .non) rfl)) (fun z => by cases z) fun _ H3 e3 => ?_
    have e13 := e12.trans e3
    refine callD (evds_cons (evd_var (i := 0) (v := .ref p) rfl (.adr p)) (evds_cons (evd_var (i := 1) (v := v) rfl (fv.mono (Kp.ex e13))) evds_nil)) fun vs H4 e4 f4 => ?_
    obtain ⟨v1, v2, rfl, g1, g2⟩ := f4.two
    obtain rfl := g1.adr_of
    refine ⟨p, v2, w, s, rfl, Wa.mono (e13.trans e4), g2, fun q a b H5 hq ha hb e5 h5q h5a h5b => ?_⟩
    have R5 : Rq H5 q a b w s := ⟨h5q, h5a, h5b⟩
    have h4a := e4 _ _ (e3 _ _ h2a)
    have h4b := e4 _ _ (e3 _ _ h2)
    have nqa : q ≠ pa := (ne_of_none h4a hq).symm
    have naa : a ≠ pa := (ne_of_none h4a ha).symm
    have nba : b ≠ pa := (ne_of_none h4a hb).symm
    have nqb : q ≠ pb := (ne_of_none h4b hq).symm
    have nab' : a ≠ pb := (ne_of_none h4b ha).symm
    have nbb : b ≠ pb := (ne_of_none h4b hb).symm
    have e15 := (e13.trans e4).trans e5
    have hrl : (redL w s).length ≤ w.n := reachL_len
    have hdl : ((redL w s).map dn).length = (redL w s).length := List.length_map _
    have hi0 := evi_seqL (K := K) (σ := [some (.ref p), some v, some .non, some (.ref pa), some (.ref pb), none, none, none, some (.ref q), none, none, none]) (H := H5) (te := tOp (rIx K) (tVar 8) (tC (.int 0))) (p := a) (evd_ixL (evd_var (i := 8) rfl (.adr q)) h5q FzL.pair evd_int (d := .adr a) rfl) ⟨_, h5a, FzL.nats _⟩
    rw [hdl] at hi0
    have hlc : EvN (tLc (iSeq K (tOp (rIx K) (tVar 8) (tC (.int 0)))) (gName 6) (tTest (tOp (rIn K false) (tVar 6) (tOp (rIx K) (tVar 8) (tC (.int 1))))) (tVar 6) [6]) [some (.ref p), some v, some .non, some (.ref pa), some (.ref pb), none, none, none, some (.ref q), none, none, none] H5 (((redL w s).filter fun x => decide (x ∈ bluL w s)).map dn) := EvN.eq (evn_lc (fun i => decide ((redL w s).getD i 0 ∈ bluL w s)) (fun i => dn ((redL w s).getD i 0)) hi0 (by omega) fun i v' H6 hi e6 f => by
      rw [getD_dn hi] at f
      obtain rfl := f.int_of
      exact ⟨[some (.ref p), some v, some .non, some (.ref pa), some (.ref pb), none, some (vn ((redL w s).getD i 0)), none, some (.ref q), none, none, none], fun Q' q => q, rfl, et_test ((R5.mono e6).in1 (evd_var (i := 8) rfl (.adr q)) (evd_var (i := 6) rfl (.int _))), fun _ => evd_var (i := 6) rfl (.int _)⟩) (range_filter_map (l := redL w s) (d := 0) (g := fun x => decide (x ∈ bluL w s)) (e := dn))
    refine q_asg (EvD.eq (evd_gt (evd_lenN hlc) evd_int) (by rw [meets_filter W O])) fun v9 H6 e6 f6 => ?_
    obtain rfl := f6.bl_of
    have e16 := e15.trans e6
    refine q_forI (i_rng (n := w.n) (gn e16 rfl) (by omega) fun J7 H7 e7 S7 => ?_)
    refine q_for S7 (fun i σ' H' => ∃ (la : List Bool) (x : Option V), σ' = [some (.ref p), some v, some .non, some (.ref pa), some (.ref pb), none, x, none, some (.ref q), some (.bl (meets w s)), none, none] ∧ Ex H H' ∧ Rq H' q a b w s ∧ H' pa = some (.lst (bls la)) ∧ la.length = w.n ∧ (∀ x, x < i → mk la x = aliveS w s x) ∧ H' pb = some (.lst (bls (List.replicate w.rs.length false))))
      ⟨_, none, rfl, e16.trans e7, (R5.mono e6).mono e7, e7 _ _ (e6 _ _ (e5 _ _ h4a)), List.length_replicate, fun x hx => absurd hx (Nat.not_lt_zero _), e7 _ _ (e6 _ _ (e5 _ _ h4b))⟩ (fun i σ' H' _ _ => trivial) ?_ ?_
    · rintro i u σ' H8 H9 hi ⟨la, x, rfl, e8, R8, h8, hla, hal, h8b⟩ e9 rfl
      have R9 := R8.mono e9
      refine s_setL (j := i) (e9 _ _ h8) (EvD.eq (evd_orV (evd_var (i := 9) rfl (.bl (meets w s))) fun _ => evd_orV (R9.in0 (evd_var (i := 8) rfl (.adr q)) (evd_var (i := 6) (v := vn i) rfl (.int _))) fun _ => R9.in1 (evd_var (i := 8) rfl (.adr q)) (evd_var (i := 6) (v := vn i) rfl (.int _))) (by rw [aliveS_mem hi])) (evd_var (i := 3) rfl (.adr pa)) (evd_var (i := 6) (v := vn i) rfl (.int _)) (by rw [List.length_map]; omega) fun v10 H10 e10 f10 => ?_
      obtain rfl := f10.bl_of
      rw [bls_set]
      refine ⟨la.set i (aliveS w s i), _, rfl, Ex.set ((e8.trans e9).trans e10) hpa, (R9.mono e10).upd nqa naa nba, upd_same, by rw [List.length_set, hla], fun x hx => ?_, (upd_ne nab.symm).trans (e10 _ _ (e9 _ _ h8b))⟩
      rw [mk_set]
      by_cases hxi : i = x
      · subst hxi
        rw [if_pos ⟨rfl, by omega⟩]
      · rw [if_neg (fun z => hxi z.1)]
        exact hal x (by omega)
    rintro σ' H8 ⟨la, x, rfl, e8, R8, h8, hla, hal, h8b⟩
    have hLA := mk_ext hla hal
    subst hLA
    obtain ⟨pr8, hpr8, hL8⟩ := (Wa.mono e8).evr (K := K) (σ := [some (.ref p), some v, some .non, some (.ref pa), some (.ref pb), none, x, none, some (.ref q), some (.bl (meets w s)), none, none]) (ta := tVar 0) (evd_var (i := 0) rfl (.adr p))
    refine q_asgN (evn_larrows hpr8 hL8 (evd_st (i := 2) (evd_var (i := 1) rfl (fv.mono (Kp.ex e8))) rfl) W O) fun pc xc H9 hpc e9 h9 f9 => ?_
    have hxl : xc.length = w.rs.length := by rw [f9.len, List.length_map, arrows_len]
    have ncb : pc ≠ pb := (ne_of_none h8b hpc).symm
    refine q_forI (i_rng (n := w.rs.length) (EvD.eq (evd_lenL (evd_var (i := 10) rfl (.adr pc)) h9) (by rw [hxl])) (by omega) fun J10 H10 e10 S10 => ?_)
    refine q_for S10 (fun i σ' H' => ∃ (lb : List Bool) (y : Option V), σ' = [some (.ref p), some v, some .non, some (.ref pa), some (.ref pb), none, x, none, some (.ref q), some (.bl (meets w s)), some (.ref pc), y] ∧ Ex H H' ∧ Kp H9 H' ∧ Rq H' q a b w s ∧ H' pc = some (.lst xc) ∧ H' pa = some (.lst (bls ((List.range w.n).map (aliveS w s)))) ∧ H' pb = some (.lst (bls lb)) ∧ lb.length = w.rs.length ∧ ∀ x, x < i → mk lb x = aliveR w s x)
      ⟨_, none, rfl, (e8.trans e9).trans e10, Kp.ex e10, (R8.mono e9).mono e10, e10 _ _ h9, e10 _ _ (e9 _ _ h8), e10 _ _ (e9 _ _ h8b), List.length_replicate, fun x hx => absurd hx (Nat.not_lt_zero _)⟩ (fun i σ' H' _ _ => trivial) ?_ ?_
    · rintro i u σ' H11 H12 hi ⟨lb, y, rfl, e11, k11, R11, h11c, h11a, h11b, hlb, hbl⟩ e12' rfl
      have R12 := R11.mono e12'
      have ga : EvD (tOp (rIx K) (tVar 10) (tVar 11)) [some (.ref p), some v, some .non, some (.ref pa), some (.ref pb), none, x, none, some (.ref q), some (.bl (meets w s)), some (.ref pc), some (vn i)] H12 (dPair (redSt w s i, bluSt w s i)) := EvD.eq (evd_ixL (evd_var (i := 10) rfl (.adr pc)) (e12' _ _ h11c) (f9.mono (k11.trans (Kp.ex e12'))) (evd_var (i := 11) rfl (.int (i : Int))) (at_dPair (by rw [arrows_len]; exact hi))) (by rw [arr_get hi])
      refine s_setL (j := i) (e12' _ _ h11b) (EvD.eq (evd_orV (evd_var (i := 9) rfl (.bl (meets w s))) fun _ => evd_orV (R12.in0 (evd_var (i := 8) rfl (.adr q)) (evd_ixT ga evd_int (d := dn (redSt w s i)) rfl)) fun _ => R12.in1 (evd_var (i := 8) rfl (.adr q)) (evd_ixT ga evd_int (d := dn (bluSt w s i)) rfl)) (by rw [aliveR_mem W hi])) (evd_var (i := 4) rfl (.adr pb)) (evd_var (i := 11) (v := vn i) rfl (.int _)) (by rw [List.length_map]; omega) fun v13 H13 e13' f13 => ?_
      obtain rfl := f13.bl_of
      rw [bls_set]
      have kk : Kp H13 (upd H13 pb (.lst (bls (lb.set i (aliveR w s i))))) := Kp.set (e13' _ _ (e12' _ _ h11b))
      refine ⟨lb.set i (aliveR w s i), _, rfl, Ex.set ((e11.trans e12').trans e13') hpbH, (k11.trans (Kp.ex (e12'.trans e13'))).trans kk, (R12.mono e13').upd nqb nab' nbb, (upd_ne ncb).trans (e13' _ _ (e12' _ _ h11c)), (upd_ne nab).trans (e13' _ _ (e12' _ _ h11a)), upd_same, by rw [List.length_set, hlb], fun x hx => ?_⟩
      rw [mk_set]
      by_cases hxi : i = x
      · subst hxi
        rw [if_pos ⟨rfl, by omega⟩]
      · rw [if_neg (fun z => hxi z.1)]
        exact hbl x (by omega)
    rintro σ' H11 ⟨lb, y, rfl, e11, k11, R11, h11c, h11a, h11b, hlb, hbl⟩
    have hLB := mk_ext hlb hbl
    subst hLB
    refine s_retN (evn_lst (evds_cons (evd_var (i := 3) rfl (.adr pa)) (evds_cons (evd_var (i := 4) rfl (.adr pb)) evds_nil)) (Nat.le_of_ble_eq_true rfl)) fun r ys H12 hr e12' h12 f12 => ?_
    obtain rfl := f12.flat_of rfl
    exact k r pa pb H12 (fresh_back e11 hr) (e11.trans e12') h12 (e12' _ _ h11a) (e12' _ _ h11b)
  · -- by the states found
    have nfa : pf ≠ pa := by
      obtain ⟨xf, hxf, _⟩ := hF
      exact ne_of_none hxf hpa
    obtain ⟨xf, hxf, ff⟩ := id hF
    have hfl' : xf.length = fs.length := by rw [ff.len, List.length_map]
    refine q_if (b := true) (Evl.et_is (et_test (evd_notN (d := .adr pf) (evd_var (i := 2) rfl (.adr _)) rfl)) (by rw [dec_ref]; rfl)) (fun _ H3 e3 => ?_) (fun z => by cases z)
    have e13 := e12.trans e3
    refine q_forI (i_seqL (evd_var (i := 2) rfl (.adr pf)) (e13 _ _ hxf) fun J4 H4 e4 S4 => ?_)
    refine q_for S4 (fun i σ' H' => ∃ (la lb : List Bool) (x y z : Option V), σ' = [some (.ref p), some v, some (.ref pf), some (.ref pa), some (.ref pb), x, y, z, none, none, none, none] ∧ Ex H H' ∧ H' pa = some (.lst (bls la)) ∧ la.length = w.n ∧ (∀ x, x < w.n → (mk la x = true ↔ ∃ t ∈ fs.take i, 0 < t.reds.getD x 0 + t.blues.getD x 0)) ∧ H' pb = some (.lst (bls lb)) ∧ lb.length = w.rs.length ∧ (∀ k, k < w.rs.length → (mk lb k = true ↔ ∃ t ∈ fs.take i, ∃ c, can w t (k, c) = true)))
      ⟨_, _, none, none, none, rfl, e13.trans e4, e4 _ _ (e3 _ _ h2a), List.length_replicate, fun x hx => by rw [mk_rep]; simp, e4 _ _ (e3 _ _ h2), List.length_replicate, fun x hx => by rw [mk_rep]; simp⟩ (fun i σ' H' _ ⟨_, _, _, _, _, _, e, _⟩ => e _ _ hxf) ?_ ?_
    · rintro i u σ' H5 H6 hi ⟨la, lb, x, y, z, rfl, e5, h5a, hla, hal, h5b, hlb, hbl⟩ e6 hu
      obtain ⟨d, hd, fd⟩ := ff.getV hu
      obtain ⟨t, ht, rfl⟩ := map_get hd
      have htm := List.mem_of_getElem? ht
      have Ot := hSO t htm
      have e56 := e5.trans e6
      have hmem : ∀ t', t' ∈ fs.take (i + 1) ↔ t' ∈ fs.take i ∨ t' = t := fun t' => by rw [take_succ' ht, List.mem_append, List.mem_singleton]
      have fu : ∀ {H' : Hp}, Ex H H' → Fz H' u (dSt t) := fun e => fd.mono (Kp.ex e)
      refine q_forI (i_rng (n := w.n) (gn e56 rfl) (by omega) fun J7 H7 e7 S7 => ?_)
      refine q_for S7 (fun j σ' H' => ∃ (la' : List Bool) (y : Option V), σ' = [some (.ref p), some v, some (.ref pf), some (.ref pa), some (.ref pb), some u, y, z, none, none, none, none] ∧ Ex H H' ∧ H' pa = some (.lst (bls la')) ∧ la'.length = w.n ∧ (∀ x, x < w.n → (mk la' x = true ↔ mk la x = true ∨ (x < j ∧ 0 < t.reds.getD x 0 + t.blues.getD x 0))) ∧ H' pb = some (.lst (bls lb)))
        ⟨la, y, rfl, e56.trans e7, e7 _ _ (e6 _ _ h5a), hla, fun x hx => ⟨.inl, fun h => h.elim id fun h => absurd h.1 (Nat.not_lt_zero _)⟩, e7 _ _ (e6 _ _ h5b)⟩ (fun i σ' H' _ _ => trivial) ?_ ?_
      · rintro j u2 σ' H8 H9 hj ⟨la', y, rfl, e8, h8a, hla', hal', h8b⟩ e9 rfl
        have e89 := e8.trans e9
        refine s_if (Evl.et_is (b := decide (0 < t.reds.getD j 0 + t.blues.getD j 0)) (et_test (evd_gt (evd_add (evd_ixT (evd_st (i := 0) (evd_var (i := 5) rfl (fu e89)) rfl) (evd_var (i := 6) (v := vn j) rfl (.int _)) (at_dn (by rw [Ot.lr]; exact hj))) (evd_ixT (evd_st (i := 1) (evd_var (i := 5) rfl (fu e89)) rfl) (evd_var (i := 6) (v := vn j) rfl (.int _)) (at_dn (by rw [Ot.lb]; exact hj)))) evd_int)) (decide_eq_decide.mpr (by omega))) (fun hb H10 e10 => ?_) fun hb H10 e10 => ?_
        · have hb := of_decide_eq_true hb
          refine s_setL (j := j) (e10 _ _ (e9 _ _ h8a)) evd_bl (evd_var (i := 3) rfl (.adr pa)) (evd_var (i := 6) (v := vn j) rfl (.int _)) (by rw [List.length_map]; omega) fun v11 H11 e11 f11 => ?_
          obtain rfl := f11.bl_of
          rw [bls_set]
          refine ⟨la'.set j true, _, rfl, Ex.set ((e89.trans e10).trans e11) hpa, upd_same, by rw [List.length_set, hla'], fun x hx => ?_, (upd_ne nab.symm).trans ((e10.trans e11) _ _ (e9 _ _ h8b))⟩
          rw [mk_set]
          by_cases hxj : j = x
          · subst hxj
            rw [if_pos ⟨rfl, by omega⟩]
            exact ⟨fun _ => .inr ⟨Nat.lt_succ_self _, hb⟩, fun _ => rfl⟩
          · rw [if_neg (fun z => hxj z.1), hal' x hx]
            exact or_congr Iff.rfl (and_congr (by omega) Iff.rfl)
        · have hb := of_decide_eq_false hb
          refine ⟨la', _, rfl, e89.trans e10, e10 _ _ (e9 _ _ h8a), hla', fun x hx => ?_, e10 _ _ (e9 _ _ h8b)⟩
          rw [hal' x hx]
          refine or_congr Iff.rfl ⟨fun h => ⟨by omega, h.2⟩, fun h => ⟨?_, h.2⟩⟩
          rcases Nat.lt_or_ge x j with h1 | h1
          · exact h1
          · have : x = j := by omega
            subst this
            exact absurd h.2 hb
      rintro σ' H8 ⟨la', y, rfl, e8, h8a, hla', hal', h8b⟩
      obtain ⟨pr8, hpr8, hL8⟩ := (Wa.mono e8).evr (K := K) (σ := [some (.ref p), some v, some (.ref pf), some (.ref pa), some (.ref pb), some u, y, z, none, none, none, none]) (ta := tVar 0) (evd_var (i := 0) rfl (.adr p))
      refine for_intro (i_seqN (evn_lrides hpr8 hL8 (evd_var (i := 5) rfl (fu e8)) W Ot) fun J9 pl vl H9 hpl e9 h9 f9 S9 => ?_)
      have hvl : vl.length = (lrides w t).length := by rw [f9.len, List.length_map]
      have nlb : pl ≠ pb := (ne_of_none h8b hpl).symm
      refine s_for S9 (fun j σ' H' => ∃ (lb' : List Bool) (z : Option V), σ' = [some (.ref p), some v, some (.ref pf), some (.ref pa), some (.ref pb), some u, y, z, none, none, none, none] ∧ Ex H H' ∧ Kp H9 H' ∧ H' pl = some (.lst vl) ∧ H' pa = some (.lst (bls la')) ∧ H' pb = some (.lst (bls lb')) ∧ lb'.length = w.rs.length ∧ (∀ k, k < w.rs.length → (mk lb' k = true ↔ mk lb k = true ∨ ∃ c, (k, c) ∈ (lrides w t).take j)))
        ⟨lb, z, rfl, e8.trans e9, Kp.refl _, h9, e9 _ _ h8a, e9 _ _ h8b, hlb, fun k hk => by simp⟩ (fun i σ' H' _ ⟨_, _, _, _, _, h, _⟩ => h) ?_ ?_
      · rintro j u2 σ' H10 H11 hj ⟨lb', z, rfl, e10, k10, h10l, h10a, h10b, hlb', hbl'⟩ e11 hu2
        obtain ⟨d, hd, fd2⟩ := (f9.mono (k10.trans (Kp.ex e11))).getV hu2
        obtain ⟨⟨kk, c⟩, hr, rfl⟩ := map_get hd
        have hkk := (mem_lrides.mp (List.mem_of_getElem? hr)).1
        have hkk : kk < w.rs.length := hkk
        have e1011 := e10.trans e11
        refine s_setL (j := kk) (e11 _ _ h10b) evd_bl (evd_var (i := 4) rfl (.adr pb)) (evd_ixT (evd_var (i := 7) (v := u2) rfl fd2) evd_int (ds := [dn kk, .str (colS c)]) rfl) (by rw [List.length_map]; omega) fun v12 H12 e12' f12 => ?_
        obtain rfl := f12.bl_of
        rw [bls_set]
        have kz : Kp H12 (upd H12 pb (.lst (bls (lb'.set kk true)))) := Kp.set (e12' _ _ (e11 _ _ h10b))
        refine ⟨lb'.set kk true, _, rfl, Ex.set (e1011.trans e12') hpbH, (k10.trans (Kp.ex (e11.trans e12'))).trans kz, (upd_ne nlb).trans (e12' _ _ (e11 _ _ h10l)), (upd_ne nab).trans (e12' _ _ (e11 _ _ h10a)), upd_same, by rw [List.length_set, hlb'], fun k hk => ?_⟩
        rw [mk_set, take_succ' hr]
        by_cases hxi : kk = k
        · subst hxi
          rw [if_pos ⟨rfl, by omega⟩]
          exact ⟨fun _ => .inr ⟨c, by simp⟩, fun _ => rfl⟩
        · rw [if_neg (fun z => hxi z.1), hbl' k hk]
          refine or_congr Iff.rfl ⟨fun ⟨c', h⟩ => ⟨c', by simp [h]⟩, fun ⟨c', h⟩ => ⟨c', ?_⟩⟩
          rw [List.mem_append, List.mem_singleton] at h
          rcases h with h | h
          · exact h
          · injection h with h1 h2
            exact absurd h1.symm hxi
      · rintro σ' H10 ⟨lb', z, rfl, e10, k10, h10l, h10a, h10b, hlb', hbl'⟩
        rw [hvl, List.take_length] at hbl'
        refine ⟨la', lb', _, _, _, rfl, e10, h10a, hla', fun x hx => ?_, h10b, hlb', fun k hk => ?_⟩
        · rw [hal' x hx, hal x hx]
          constructor
          · rintro (⟨t', h1, h2⟩ | ⟨_, h2⟩)
            · exact ⟨t', (hmem t').mpr (.inl h1), h2⟩
            · exact ⟨t, (hmem t).mpr (.inr rfl), h2⟩
          · rintro ⟨t', h1, h2⟩
            rcases (hmem t').mp h1 with h1 | rfl
            · exact .inl ⟨t', h1, h2⟩
            · exact .inr ⟨hx, h2⟩
        · rw [hbl' k hk, hbl k hk]
          constructor
          · rintro (⟨t', h1, c, h2⟩ | ⟨c, h2⟩)
            · exact ⟨t', (hmem t').mpr (.inl h1), c, h2⟩
            · exact ⟨t, (hmem t).mpr (.inr rfl), c, (mem_lrides.mp h2).2⟩
          · rintro ⟨t', h1, c, h2⟩
            rcases (hmem t').mp h1 with h1 | rfl
            · exact .inl ⟨t', h1, c, h2⟩
            · exact .inr ⟨c, mem_lrides.mpr ⟨hk, h2⟩⟩
    rintro σ' H5 ⟨la, lb, x, y, z, rfl, e5, h5a, hla, hal, h5b, hlb, hbl⟩
    rw [hfl', List.take_length] at hal hbl
    have hLA := mk_ext hla (f := aliveS w s) fun x hx => by rw [Bool.eq_iff_iff, hal x hx, found_S W O FS hx]
    have hLB := mk_ext hlb (f := aliveR w s) fun k hk => by rw [Bool.eq_iff_iff, hbl k hk, found_R W O FS hk]
    subst hLA hLB
    refine s_retN (evn_lst (evds_cons (evd_var (i := 3) rfl (.adr pa)) (evds_cons (evd_var (i := 4) rfl (.adr pb)) evds_nil)) (Nat.le_of_ble_eq_true rfl)) fun r ys H12 hr e12' h12 f12 => ?_
    obtain rfl := f12.flat_of rfl
    exact k r pa pb H12 (fresh_back e5 hr) (e5.trans e12') h12 (e12' _ _ h5a) (e12' _ _ h5b)
end
end TR
namespace TR
open PySem L2 PyProof.Rows Evl
def EndB (D : Addr) (t : Sem (List (Str × Value))) (u : Value) (rest : List Value) : Prop :=
  ∃ (β γ : Type) (k1 : Option Value → Sem β) (k2 : β → Sem γ) (k3 : γ → Sem (List (Str × Value))) (a : Value → β), t = ((nsGet D "back" >>= k1) >>= k2) >>= k3 ∧ (∀ b, k1 (some b) = pure (a b)) ∧
    ∀ b, (k2 (a b) >>= k3) = (newTuple rest >>= fun t => pure ([("standing", u), ("back", b), ("rides", t)] : List (Str × Value)))
theorem end_of_bind {D : Addr} {doc pm : Value} {an : Option Addr} {cdv ct : Value} (u : Value) : ∀ (rest : List Value),
    EndB D (bindArgs (PySem.W.fnOf "end_of" "end_of" (defArgs s_end_of) (defBody s_end_of) (defScope s_end_of) .none (.ref D) doc pm an cdv ct) ⟨u :: rest, []⟩) u rest
  | [] => ⟨_, _, _, _, _, _, rfl, fun b => rfl, fun b => rfl⟩
  | r :: rs => ⟨_, _, _, _, _, _, rfl, fun b => rfl, fun b => rfl⟩
section
variable {w : World} {K : PySem.W.Frag} {mg : Str → Option Value} {base : Heap}
theorem ok_end_ofG (T : Txt K mg) (G_check_rides : FnOk PW w K mg base CX0 2 T.check_rides.f T.check_rides.fd P_check_rides (sp_check_rides T))
    (G_walk : FnOk PW w K mg base CX0 5 T.walk.f T.walk.fd P_walk (sp_walk T)) : FnR PW w K mg base CX0 6 T.end_of_f (sp_end_of T) := by
  intro A outer s H us vs Q E hr e0 r hsp
  obtain ⟨a, W, sd, vs1, rs, ev, ⟨an0, S⟩, fr, hok, hl, hq⟩ := hsp
  subst ev
  obtain ⟨oc, od, dV, kV, doc, pm, an, cdv, ct, osl, efd, lk, hcd, hD, hK⟩ := T.end_of_F.ex
  rw [efd] at lk
  have hdV : dV = Value.none := by
    rcases hD with ⟨_, h⟩ | ⟨h, _⟩
    · exact h
    · exact absurd rfl h
  subst hdV
  rcases hK with h | ⟨D, ekV, hns⟩
  · cases h
  subst ekV
  obtain ⟨ub, hub, rb⟩ := hns _ (List.mem_cons_self ..)
  rcases r with _ | ⟨ra, r2⟩
  rename_i u rest
  have hln : vs1.length = rs.length := by rw [fr.len, List.length_map]
  have hz : vs1.length ≤ sizeLine := by
    rw [hln]
    exact Nat.le_of_lt (small1000 hl)
  have hn : H s.heap.objs.size = Option.none := e0.hok.fresh (Nat.le_refl _)
  refine StX.run_bnd (k := 5) lk hcd sc_end_of hr e0 (G := fun xs H2 => ∃ p, H p = Option.none ∧ xs = [V.ref a, V.bl false, V.ref p] ∧ H2 = upd H p (.tup vs1)) (fun A' Ex Q' h => ?_) fun s2 H2 xs ⟨p, hp, ex, eH⟩ hr' => ?_
  · obtain ⟨β, γ, k1, k2, k3, a', e1, e2, e3⟩ := end_of_bind (D := D) (doc := doc) (pm := pm) (an := an) (cdv := cdv) (ct := ct) u rest
    have KX : K.In s.heap := e0.mod.kin.keeps fun b o e => (e0.bs b o e).1
    have l1 : PySem.W.Looks (model PW w) s.heap (nsGet D "back" >>= k1) (a' ub) := (PySem.W.looks_nsIn KX hub).andThen (PySem.W.Looks.of_pure (e2 ub))
    rw [e1, bind_assoc]
    refine wpAny_bind (l1.here ?_)
    rw [e3]
    refine wpAny_bind (wpAny_newTuple (wpAny_pure ?_) (by rw [← r2.length]; exact hz))
    have new : ObjOk PW w (upd H s.heap.objs.size (.tup vs1)) (s.heap.push ({ cls := .type "tuple", data := .seq rest.toArray } : Obj)) s.heap.objs.size (.tup vs1) := ⟨hz, rest, r2, ⟨_, Heap.get?_push_size _ rfl, rfl, _, rfl⟩⟩
    have un := StX.un_laid (fs := frs outer) (s := s) (o := ({ cls := .type "tuple", data := .seq rest.toArray } : Obj)) (u := .tup vs1) hn
    exact h _ _ [V.ref a, V.bl false, V.ref s.heap.objs.size] [u, ub, Value.ref s.heap.objs.size] (StX.env0_laid e0 new) un rfl (fun e s' z => False.elim z) (.cons ra (.cons rb (.cons rfl .nil))) rfl ⟨_, hn, rfl, rfl⟩
  · subst ex eH
    have ex : Ex H (upd H p (.tup vs1)) := Ex.new hp
    exact ⟨t_end_of T, (d_end_of T G_check_rides G_walk hr').nox, pure_end_of T a p _ Q W sd vs1 rs ⟨an0, S.mono (Kp.ex ex)⟩ upd_same (fr.mono (Kp.ex ex)) hok hl fun b H' e' => hq b H' (ex.trans e')⟩
end
end TR
namespace TR
open PySem L2 PyProof.Rows

section
variable {w : World} {K : PySem.W.Frag} {mg : Str → Option Value} {base : Heap}
theorem ok_check_station (T : Txt K mg) : FnOk PW w K mg base CX0 1 T.check_station.f T.check_station.fd P_check_station (sp_check_station T) :=
  T.check_station.F.ok sc_check_station (fun vs H Q E h => by
    obtain ⟨_, _, _, e, _⟩ := h
    rw [e]; rfl) (fun cdv A outer s H vs Q E hr h => ⟨t_check_station T, d_check_station T hr, pure_check_station T vs H Q E h⟩)
theorem ok_check_rope (T : Txt K mg) : FnOk PW w K mg base CX0 1 T.check_rope.f T.check_rope.fd P_check_rope (sp_check_rope T) :=
  T.check_rope.F.ok sc_check_rope (fun vs H Q E h => by
    obtain ⟨_, _, _, e, _⟩ := h
    rw [e]; rfl) (fun cdv A outer s H vs Q E hr h => ⟨t_check_rope T, d_check_rope T hr, pure_check_rope T vs H Q E h⟩)
theorem ok_check_colour (T : Txt K mg) : FnOk PW w K mg base CX0 1 T.check_colour.f T.check_colour.fd P_check_colour (sp_check_colour T) :=
  T.check_colour.F.ok sc_check_colour (fun vs H Q E h => by
    obtain ⟨_, e, _⟩ := h
    rw [e]; rfl) (fun cdv A outer s H vs Q E hr h => ⟨t_check_colour T, d_check_colour T hr, pure_check_colour T vs H Q E h⟩)
theorem ok_check_rides (T : Txt K mg) : FnOk PW w K mg base CX0 2 T.check_rides.f T.check_rides.fd P_check_rides (sp_check_rides T) :=
  T.check_rides.F.ok sc_check_rides (fun vs H Q E h => by
    obtain ⟨_, _, _, _, e, _⟩ := h
    rw [e]; rfl) (fun cdv A outer s H vs Q E hr h => ⟨t_check_rides T, d_check_rides T (ok_check_colour T) (ok_check_rope T) hr, pure_check_rides T vs H Q E h⟩)
theorem ok_check_cars (T : Txt K mg) : FnOk PW w K mg base CX0 1 T.check_cars.f T.check_cars.fd P_check_cars (sp_check_cars T) :=
  T.check_cars.F.ok sc_check_cars (fun vs H Q E h => by
    obtain ⟨_, _, _, _, e, _⟩ := h
    rw [e]; rfl) (fun cdv A outer s H vs Q E hr h => ⟨t_check_cars T, d_check_cars T hr, pure_check_cars T vs H Q E h⟩)
theorem ok_check_guests (T : Txt K mg) : FnOk PW w K mg base CX0 1 T.check_guests.f T.check_guests.fd P_check_guests (sp_check_guests T) :=
  T.check_guests.F.ok sc_check_guests (fun vs H Q E h => by
    obtain ⟨_, _, _, _, _, e, _⟩ := h
    rw [e]; rfl) (fun cdv A outer s H vs Q E hr h => ⟨t_check_guests T, d_check_guests T hr, pure_check_guests T vs H Q E h⟩)
theorem ok_Standing_init (T : Txt K mg) : FnOk PW w K mg base CX0 2 T.Standing.init.f T.Standing.init.fd P_Standing_init (sp_Standing_init T) :=
  T.Standing.init.F.ok sc_Standing_init (fun vs H Q E h => by
    obtain ⟨_, _, _, _, _, _, _, _, e, _⟩ := h
    rw [e]; rfl) (fun cdv A outer s H vs Q E hr h => ⟨t_Standing_init T, d_Standing_init T (ok_check_guests T) (ok_check_cars T) hr, pure_Standing_init T vs H Q E h⟩)
theorem ok_Standing_red_car (T : Txt K mg) : FnOk PW w K mg base CX0 2 T.Standing.red_car.f T.Standing.red_car.fd P_Standing_red_car (sp_Standing_red_car T) :=
  T.Standing.red_car.F.ok sc_Standing_red_car (fun vs H Q E h => by
    obtain ⟨_, _, _, _, e, _⟩ := h
    rw [e]; rfl) (fun cdv A outer s H vs Q E hr h => ⟨t_Standing_red_car T, d_Standing_red_car T (ok_check_rope T) hr, pure_Standing_red_car T vs H Q E h⟩)
theorem ok_Standing_blue_car (T : Txt K mg) : FnOk PW w K mg base CX0 2 T.Standing.blue_car.f T.Standing.blue_car.fd P_Standing_blue_car (sp_Standing_blue_car T) :=
  T.Standing.blue_car.F.ok sc_Standing_blue_car (fun vs H Q E h => by
    obtain ⟨_, _, _, _, e, _⟩ := h
    rw [e]; rfl) (fun cdv A outer s H vs Q E hr h => ⟨t_Standing_blue_car T, d_Standing_blue_car T (ok_check_rope T) hr, pure_Standing_blue_car T vs H Q E h⟩)
theorem ok_far_end (T : Txt K mg) : FnOk PW w K mg base CX0 1 T.far_end.f T.far_end.fd P_far_end (sp_far_end T) :=
  T.far_end.F.ok sc_far_end (fun vs H Q E h => by
    obtain ⟨_, _, _, _, e, _⟩ := h
    rw [e]; rfl) (fun cdv A outer s H vs Q E hr h => ⟨t_far_end T, d_far_end T hr, pure_far_end T vs H Q E h⟩)
theorem ok_car_station (T : Txt K mg) : FnOk PW w K mg base CX0 1 T.car_station.f T.car_station.fd P_car_station (sp_car_station T) :=
  T.car_station.F.ok sc_car_station (fun vs H Q E h => by
    obtain ⟨_, _, _, _, _, e, _⟩ := h
    rw [e]; rfl) (fun cdv A outer s H vs Q E hr h => ⟨t_car_station T, d_car_station T hr, pure_car_station T vs H Q E h⟩)
theorem ok_guests_of (T : Txt K mg) : FnOk PW w K mg base CX0 1 T.guests_of.f T.guests_of.fd P_guests_of (sp_guests_of T) :=
  T.guests_of.F.ok sc_guests_of (fun vs H Q E h => by
    obtain ⟨_, _, _, _, e, _⟩ := h
    rw [e]; rfl) (fun cdv A outer s H vs Q E hr h => ⟨t_guests_of T, d_guests_of T hr, pure_guests_of T vs H Q E h⟩)
theorem ok_moved (T : Txt K mg) : FnOk PW w K mg base CX0 4 T.moved.f T.moved.fd P_moved (sp_moved T) :=
  T.moved.F.ok sc_moved (fun vs H Q E h => by
    obtain ⟨_, _, _, _, _, e, _⟩ := h
    rw [e]; rfl) (fun cdv A outer s H vs Q E hr h => ⟨t_moved T, d_moved T (ok_Standing_init T) (ok_car_station T) (ok_far_end T) (ok_guests_of T) hr, pure_moved T vs H Q E h⟩)
theorem ok_is_possible (T : Txt K mg) : FnOk PW w K mg base CX0 2 T.is_possible.f T.is_possible.fd P_is_possible (sp_is_possible T) :=
  T.is_possible.F.ok sc_is_possible (fun vs H Q E h => by
    obtain ⟨_, _, _, _, _, e, _⟩ := h
    rw [e]; rfl) (fun cdv A outer s H vs Q E hr h => ⟨t_is_possible T, d_is_possible T (ok_car_station T) (ok_guests_of T) hr, pure_is_possible T vs H Q E h⟩)
theorem ok_walk (T : Txt K mg) : FnOk PW w K mg base CX0 5 T.walk.f T.walk.fd P_walk (sp_walk T) :=
  T.walk.F.ok sc_walk (fun vs H Q E h => by
    obtain ⟨_, _, _, _, _, e, _⟩ := h
    rw [e]; rfl) (fun cdv A outer s H vs Q E hr h => ⟨t_walk T, d_walk T (ok_is_possible T) (ok_check_rides T) (ok_moved T) hr, pure_walk T vs H Q E h⟩)
theorem ok_end_of (T : Txt K mg) : FnR PW w K mg base CX0 6 T.end_of_f (sp_end_of T) := ok_end_ofG T (ok_check_rides T) (ok_walk T)
theorem ok_arrows_of (T : Txt K mg) : FnOk PW w K mg base CX0 3 T.arrows_of.f T.arrows_of.fd P_arrows_of (sp_arrows_of T) :=
  T.arrows_of.F.ok sc_arrows_of (fun vs H Q E h => by
    obtain ⟨_, _, _, e, _⟩ := h
    rw [e]; rfl) (fun cdv A outer s H vs Q E hr h => ⟨t_arrows_of T, d_arrows_of T (ok_Standing_blue_car T) (ok_Standing_red_car T) hr, pure_arrows_of T vs H Q E h⟩)
theorem ok_reached_from (T : Txt K mg) : FnOk PW w K mg base CX0 1 T.reached_from.f T.reached_from.fd P_reached_from (sp_reached_from T) :=
  T.reached_from.F.ok sc_reached_from (fun vs H Q E h => by
    obtain ⟨_, _, _, _, _, e, _⟩ := h
    rw [e]; rfl) (fun cdv A outer s H vs Q E hr h => ⟨t_reached_from T, d_reached_from T hr, pure_reached_from T vs H Q E h⟩)
theorem ok_red_reach (T : Txt K mg) : FnOk PW w K mg base CX0 4 T.red_reach.f T.red_reach.fd P_red_reach (sp_red_reach T) :=
  T.red_reach.F.ok sc_red_reach (fun vs H Q E h => by
    obtain ⟨_, _, _, e, _⟩ := h
    rw [e]; rfl) (fun cdv A outer s H vs Q E hr h => ⟨t_red_reach T, d_red_reach T (ok_arrows_of T) (ok_reached_from T) hr, pure_red_reach T vs H Q E h⟩)
theorem ok_blue_reach (T : Txt K mg) : FnOk PW w K mg base CX0 4 T.blue_reach.f T.blue_reach.fd P_blue_reach (sp_blue_reach T) :=
  T.blue_reach.F.ok sc_blue_reach (fun vs H Q E h => by
    obtain ⟨_, _, _, e, _⟩ := h
    rw [e]; rfl) (fun cdv A outer s H vs Q E hr h => ⟨t_blue_reach T, d_blue_reach T (ok_arrows_of T) (ok_reached_from T) hr, pure_blue_reach T vs H Q E h⟩)
theorem ok_can_meet (T : Txt K mg) : FnOk PW w K mg base CX0 5 T.can_meet.f T.can_meet.fd P_can_meet (sp_can_meet T) :=
  T.can_meet.F.ok sc_can_meet (fun vs H Q E h => by
    obtain ⟨_, _, _, e, _⟩ := h
    rw [e]; rfl) (fun cdv A outer s H vs Q E hr h => ⟨t_can_meet T, d_can_meet T (ok_red_reach T) hr, pure_can_meet T vs H Q E h⟩)
theorem ok_lengths_to_blue (T : Txt K mg) : FnOk PW w K mg base CX0 1 T.lengths_to_blue.f T.lengths_to_blue.fd P_lengths_to_blue (sp_lengths_to_blue T) :=
  T.lengths_to_blue.F.ok sc_lengths_to_blue (fun vs H Q E h => by
    obtain ⟨_, _, _, _, e, _⟩ := h
    rw [e]; rfl) (fun cdv A outer s H vs Q E hr h => ⟨t_lengths_to_blue T, d_lengths_to_blue T hr, pure_lengths_to_blue T vs H Q E h⟩)
theorem ok_least_ropes (T : Txt K mg) : FnOk PW w K mg base CX0 1 T.least_ropes.f T.least_ropes.fd P_least_ropes (sp_least_ropes T) :=
  T.least_ropes.F.ok sc_least_ropes (fun vs H Q E h => by
    obtain ⟨_, _, _, _, _, _, _, _, e, _⟩ := h
    rw [e]; rfl) (fun cdv A outer s H vs Q E hr h => ⟨t_least_ropes T, d_least_ropes T hr, pure_least_ropes T vs H Q E h⟩)
theorem ok_meeting_way (T : Txt K mg) : FnOk PW w K mg base CX0 4 T.meeting_way.f T.meeting_way.fd P_meeting_way (sp_meeting_way T) :=
  T.meeting_way.F.ok sc_meeting_way (fun vs H Q E h => by
    obtain ⟨_, _, _, e, _⟩ := h
    rw [e]; rfl) (fun cdv A outer s H vs Q E hr h => ⟨t_meeting_way T, d_meeting_way T (ok_least_ropes T) (ok_lengths_to_blue T) (ok_arrows_of T) hr, pure_meeting_way T vs H Q E h⟩)
theorem ok_dead_stations (T : Txt K mg) : FnOk PW w K mg base CX0 6 T.dead_stations.f T.dead_stations.fd P_dead_stations (sp_dead_stations T) :=
  T.dead_stations.F.ok sc_dead_stations (fun vs H Q E h => by
    obtain ⟨_, _, _, e, _⟩ := h
    rw [e]; rfl) (fun cdv A outer s H vs Q E hr h => ⟨t_dead_stations T, d_dead_stations T (ok_blue_reach T) (ok_can_meet T) (ok_red_reach T) hr, pure_dead_stations T vs H Q E h⟩)
theorem ok_ropes_back (T : Txt K mg) : FnOk PW w K mg base CX0 1 T.ropes_back.f T.ropes_back.fd P_ropes_back (sp_ropes_back T) :=
  T.ropes_back.F.ok sc_ropes_back (fun vs H Q E h => by
    obtain ⟨_, _, _, _, e, _⟩ := h
    rw [e]; rfl) (fun cdv A outer s H vs Q E hr h => ⟨t_ropes_back T, d_ropes_back T hr, pure_ropes_back T vs H Q E h⟩)
theorem ok_shortest_way (T : Txt K mg) : FnOk PW w K mg base CX0 2 T.shortest_way.f T.shortest_way.fd P_shortest_way (sp_shortest_way T) :=
  T.shortest_way.F.ok sc_shortest_way (fun vs H Q E h => by
    obtain ⟨_, _, _, _, _, _, _, e, _⟩ := h
    rw [e]; rfl) (fun cdv A outer s H vs Q E hr h => ⟨t_shortest_way T, d_shortest_way T (ok_ropes_back T) hr, pure_shortest_way T vs H Q E h⟩)
theorem ok_lone_row (T : Txt K mg) : FnOk PW w K mg base CX0 4 T.lone_row.f T.lone_row.fd P_lone_row (sp_lone_row T) :=
  T.lone_row.F.ok sc_lone_row (fun vs H Q E h => by
    obtain ⟨_, _, _, _, _, e, _⟩ := h
    rw [e]; rfl) (fun cdv A outer s H vs Q E hr h => ⟨t_lone_row T, d_lone_row T (ok_shortest_way T) (ok_arrows_of T) (ok_guests_of T) hr, pure_lone_row T vs H Q E h⟩)
theorem ok_pair_row (T : Txt K mg) : FnOk PW w K mg base CX0 7 T.pair_row.f T.pair_row.fd P_pair_row (sp_pair_row T) :=
  T.pair_row.F.ok sc_pair_row (fun vs H Q E h => by
    obtain ⟨_, _, _, _, _, e, _⟩ := h
    rw [e]; rfl) (fun cdv A outer s H vs Q E hr h => ⟨t_pair_row T, d_pair_row T (ok_Standing_red_car T) (ok_shortest_way T) (ok_end_of T) (ok_far_end T) (ok_meeting_way T) hr, pure_pair_row T vs H Q E h⟩)
theorem ok_cut_off (T : Txt K mg) : FnOk PW w K mg base CX0 1 T.cut_off.f T.cut_off.fd P_cut_off (sp_cut_off T) :=
  T.cut_off.F.ok sc_cut_off (fun vs H Q E h => by
    obtain ⟨_, _, e, _⟩ := h
    rw [e]; rfl) (fun cdv A outer s H vs Q E hr h => ⟨t_cut_off T, d_cut_off T hr, pure_cut_off T vs H Q E h⟩)
theorem ok_check_size (T : Txt K mg) : FnOk PW w K mg base CX0 1 T.check_size.f T.check_size.fd P_check_size (sp_check_size T) :=
  T.check_size.F.ok sc_check_size (fun vs H Q E h => by
    obtain ⟨_, _, e, _⟩ := h
    rw [e]; rfl) (fun cdv A outer s H vs Q E hr h => ⟨t_check_size T, d_check_size T hr, pure_check_size T vs H Q E h⟩)
theorem ok_Net_init (T : Txt K mg) : FnOk PW w K mg base CX0 2 T.Net.init.f T.Net.init.fd P_Net_init (sp_Net_init T) :=
  T.Net.init.F.ok sc_Net_init (fun vs H Q E h => by
    obtain ⟨_, _, _, _, e, _⟩ := h
    rw [e]; rfl) (fun cdv A outer s H vs Q E hr h => ⟨t_Net_init T, d_Net_init T (ok_check_size T) (ok_cut_off T) hr, pure_Net_init T vs H Q E h⟩)
theorem ok_l_integer (T : Txt K mg) : FnOk PW w K mg base CX0 1 T.l_integer.f T.l_integer.fd P_l_integer (sp_l_integer T) :=
  T.l_integer.F.ok sc_l_integer (fun vs H Q E h => by
    obtain ⟨_, e, _⟩ := h
    rw [e]; rfl) (fun cdv A outer s H vs Q E hr h => ⟨t_l_integer T, d_l_integer T hr, pure_l_integer T vs H Q E h⟩)
theorem ok_l_bag (T : Txt K mg) : FnOk PW w K mg base CX0 1 T.l_bag.f T.l_bag.fd P_l_bag (sp_l_bag T) :=
  T.l_bag.F.ok sc_l_bag (fun vs H Q E h => by
    obtain ⟨_, _, _, e, _⟩ := h
    rw [e]; rfl) (fun cdv A outer s H vs Q E hr h => ⟨t_l_bag T, d_l_bag T hr, pure_l_bag T vs H Q E h⟩)
theorem ok_l_take (T : Txt K mg) : FnOk PW w K mg base CX0 1 T.l_take.f T.l_take.fd P_l_take (sp_l_take T) :=
  T.l_take.F.ok sc_l_take (fun vs H Q E h => by
    obtain ⟨_, _, e, _⟩ := h
    rw [e]; rfl) (fun cdv A outer s H vs Q E hr h => ⟨t_l_take T, d_l_take T hr, pure_l_take T vs H Q E h⟩)
theorem ok_l_order (T : Txt K mg) : FnOk PW w K mg base CX0 2 T.l_order.f T.l_order.fd P_l_order (sp_l_order T) :=
  T.l_order.F.ok sc_l_order (fun vs H Q E h => by
    obtain ⟨_, _, e, _⟩ := h
    rw [e]; rfl) (fun cdv A outer s H vs Q E hr h => ⟨t_l_order T, d_l_order T (ok_l_take T) hr, pure_l_order T vs H Q E h⟩)
theorem ok_l_add_rope (T : Txt K mg) : FnOk PW w K mg base CX0 2 T.l_add_rope.f T.l_add_rope.fd P_l_add_rope (sp_l_add_rope T) :=
  T.l_add_rope.F.ok sc_l_add_rope (fun vs H Q E h => by
    obtain ⟨_, _, _, _, _, _, _, _, e, _⟩ := h
    rw [e]; rfl) (fun cdv A outer s H vs Q E hr h => ⟨t_l_add_rope T, d_l_add_rope T (ok_l_take T) hr, pure_l_add_rope T vs H Q E h⟩)
theorem ok_l_net (T : Txt K mg) : FnOk PW w K mg base CX0 3 T.l_net.f T.l_net.fd P_l_net (sp_l_net T) :=
  T.l_net.F.ok sc_l_net (fun vs H Q E h => by
    obtain ⟨_, _, _, e, _⟩ := h
    rw [e]; rfl) (fun cdv A outer s H vs Q E hr h => ⟨t_l_net T, d_l_net T (ok_l_add_rope T) (ok_l_order T) (ok_l_take T) hr, pure_l_net T vs H Q E h⟩)
theorem ok_l_guests (T : Txt K mg) : FnOk PW w K mg base CX0 2 T.l_guests.f T.l_guests.fd P_l_guests (sp_l_guests T) :=
  T.l_guests.F.ok sc_l_guests (fun vs H Q E h => by
    obtain ⟨_, _, _, _, _, e, _⟩ := h
    rw [e]; rfl) (fun cdv A outer s H vs Q E hr h => ⟨t_l_guests T, d_l_guests T (ok_l_take T) hr, pure_l_guests T vs H Q E h⟩)
theorem ok_l_cars (T : Txt K mg) : FnOk PW w K mg base CX0 2 T.l_cars.f T.l_cars.fd P_l_cars (sp_l_cars T) :=
  T.l_cars.F.ok sc_l_cars (fun vs H Q E h => by
    obtain ⟨_, _, _, _, _, _, _, _, _, _, _, _, e, _⟩ := h
    rw [e]; rfl) (fun cdv A outer s H vs Q E hr h => ⟨t_l_cars T, d_l_cars T (ok_l_take T) hr, pure_l_cars T vs H Q E h⟩)
theorem ok_l_world (T : Txt K mg) : FnOk PW w K mg base CX0 4 T.l_world.f T.l_world.fd P_l_world (sp_l_world T) :=
  T.l_world.F.ok sc_l_world (fun vs H Q E h => by
    obtain ⟨_, e, _⟩ := h
    rw [e]; rfl) (fun cdv A outer s H vs Q E hr h => ⟨t_l_world T, d_l_world T (ok_l_cars T) (ok_l_guests T) (ok_l_net T) (ok_l_take T) hr, pure_l_world T vs H Q E h⟩)
theorem ok_l_standing (T : Txt K mg) : FnOk PW w K mg base CX0 4 T.l_standing.f T.l_standing.fd P_l_standing (sp_l_standing T) :=
  T.l_standing.F.ok sc_l_standing (fun vs H Q E h => by
    obtain ⟨_, _, _, _, e, _⟩ := h
    rw [e]; rfl) (fun cdv A outer s H vs Q E hr h => ⟨t_l_standing T, d_l_standing T (ok_Net_init T) (ok_Standing_init T) hr, pure_l_standing T vs H Q E h⟩)
theorem ok_l_shows (T : Txt K mg) : FnOk PW w K mg base CX0 2 T.l_shows.f T.l_shows.fd P_l_shows (sp_l_shows T) :=
  T.l_shows.F.ok sc_l_shows (fun vs H Q E h => by
    obtain ⟨_, _, _, _, e, _⟩ := h
    rw [e]; rfl) (fun cdv A outer s H vs Q E hr h => ⟨t_l_shows T, d_l_shows T (ok_l_integer T) hr, pure_l_shows T vs H Q E h⟩)
theorem ok_l_arrows (T : Txt K mg) : FnOk PW w K mg base CX0 1 T.l_arrows.f T.l_arrows.fd P_l_arrows (sp_l_arrows T) :=
  T.l_arrows.F.ok sc_l_arrows (fun vs H Q E h => by
    obtain ⟨_, _, _, _, e, _⟩ := h
    rw [e]; rfl) (fun cdv A outer s H vs Q E hr h => ⟨t_l_arrows T, d_l_arrows T hr, pure_l_arrows T vs H Q E h⟩)
theorem ok_l_rides (T : Txt K mg) : FnOk PW w K mg base CX0 2 T.l_rides.f T.l_rides.fd P_l_rides (sp_l_rides T) :=
  T.l_rides.F.ok sc_l_rides (fun vs H Q E h => by
    obtain ⟨_, _, _, _, e, _⟩ := h
    rw [e]; rfl) (fun cdv A outer s H vs Q E hr h => ⟨t_l_rides T, d_l_rides T (ok_l_arrows T) hr, pure_l_rides T vs H Q E h⟩)
theorem ok_l_ride (T : Txt K mg) : FnOk PW w K mg base CX0 1 T.l_ride.f T.l_ride.fd P_l_ride (sp_l_ride T) :=
  T.l_ride.F.ok sc_l_ride (fun vs H Q E h => by
    obtain ⟨_, _, _, _, _, _, e, _⟩ := h
    rw [e]; rfl) (fun cdv A outer s H vs Q E hr h => ⟨t_l_ride T, d_l_ride T hr, pure_l_ride T vs H Q E h⟩)
theorem ok_l_reach (T : Txt K mg) : FnOk PW w K mg base CX0 1 T.l_reach.f T.l_reach.fd P_l_reach (sp_l_reach T) :=
  T.l_reach.F.ok sc_l_reach (fun vs H Q E h => by
    obtain ⟨_, _, _, _, _, e, _⟩ := h
    rw [e]; rfl) (fun cdv A outer s H vs Q E hr h => ⟨t_l_reach T, d_l_reach T hr, pure_l_reach T vs H Q E h⟩)
theorem ok_l_reaches (T : Txt K mg) : FnOk PW w K mg base CX0 2 T.l_reaches.f T.l_reaches.fd P_l_reaches (sp_l_reaches T) :=
  T.l_reaches.F.ok sc_l_reaches (fun vs H Q E h => by
    obtain ⟨_, _, _, _, e, _⟩ := h
    rw [e]; rfl) (fun cdv A outer s H vs Q E hr h => ⟨t_l_reaches T, d_l_reaches T (ok_l_arrows T) (ok_l_reach T) hr, pure_l_reaches T vs H Q E h⟩)
theorem ok_l_alive (T : Txt K mg) : FnOk PW w K mg base CX0 3 T.l_alive.f T.l_alive.fd P_l_alive (sp_l_alive T) :=
  T.l_alive.F.ok sc_l_alive (fun vs H Q E h => by
    obtain ⟨_, _, _, _, _, e, _⟩ := h
    rw [e]; rfl) (fun cdv A outer s H vs Q E hr h => ⟨t_l_alive T, d_l_alive T (ok_l_arrows T) (ok_l_reaches T) (ok_l_rides T) hr, pure_l_alive T vs H Q E h⟩)
theorem ok_l_is_list (T : Txt K mg) : FnOk PW w K mg base CX0 2 T.l_is_list.f T.l_is_list.fd P_l_is_list (sp_l_is_list T) :=
  T.l_is_list.F.ok sc_l_is_list (fun vs H Q E h => by
    obtain ⟨_, _, _, e, _⟩ := h
    rw [e]; rfl) (fun cdv A outer s H vs Q E hr h => ⟨t_l_is_list T, d_l_is_list T (ok_l_integer T) hr, pure_l_is_list T vs H Q E h⟩)
theorem ok_l_are_rides (T : Txt K mg) : FnOk PW w K mg base CX0 2 T.l_are_rides.f T.l_are_rides.fd P_l_are_rides (sp_l_are_rides T) :=
  T.l_are_rides.F.ok sc_l_are_rides (fun vs H Q E h => by
    obtain ⟨_, _, _, _, e, _⟩ := h
    rw [e]; rfl) (fun cdv A outer s H vs Q E hr h => ⟨t_l_are_rides T, d_l_are_rides T (ok_l_integer T) hr, pure_l_are_rides T vs H Q E h⟩)
theorem ok_l_end (T : Txt K mg) : FnOk PW w K mg base CX0 3 T.l_end.f T.l_end.fd P_l_end (sp_l_end T) :=
  T.l_end.F.ok sc_l_end (fun vs H Q E h => by
    obtain ⟨_, _, _, _, _, _, e, _⟩ := h
    rw [e]; rfl) (fun cdv A outer s H vs Q E hr h => ⟨t_l_end T, d_l_end T (ok_l_ride T) (ok_l_rides T) hr, pure_l_end T vs H Q E h⟩)
end
end TR
namespace TR
open PySem L2 PyProof.Rows
section
variable {w : World} {K : PySem.W.Frag} {mg : Str → Option Value} {base : Heap}
theorem ok_check_stationX (T : Txt K mg) : FnOk PW w K mg base (L2.CX PW w) 2 T.check_station.f T.check_station.fd P_check_station (sp_check_stationX T) :=
  T.check_station.F.okX sc_check_station (fun vs H Q E h => by
    obtain ⟨_, _, _, e, _⟩ := h
    rw [e]; rfl) (fun cdv A outer s H vs Q E hr h => ⟨t_check_stationX T E, d_check_stationX T hr, pure_check_stationX T vs H Q E h⟩)
theorem ok_check_ropeX (T : Txt K mg) : FnOk PW w K mg base (L2.CX PW w) 2 T.check_rope.f T.check_rope.fd P_check_rope (sp_check_ropeX T) :=
  T.check_rope.F.okX sc_check_rope (fun vs H Q E h => by
    obtain ⟨_, _, _, e, _⟩ := h
    rw [e]; rfl) (fun cdv A outer s H vs Q E hr h => ⟨t_check_ropeX T E, d_check_ropeX T hr, pure_check_ropeX T vs H Q E h⟩)
theorem ok_visit_row (T : Txt K mg) : FnOk PW w K mg base (L2.CX PW w) 30 T.visit_row.f T.visit_row.fd P_visit_row (sp_visit_row T) :=
  T.visit_row.F.okX sc_visit_row (fun vs H Q E h => by
    obtain ⟨_, _, _, _, e, _⟩ := h
    rw [e]; rfl) (fun cdv A outer s H vs Q E hr h => ⟨t_visit_row T E, d_visit_row T (ok_lone_row T) (ok_pair_row T) (ok_can_meet T) (ok_check_stationX T) hr, pure_visit_row T vs H Q E h⟩)
theorem ok_run_rope (T : Txt K mg) : FnOk PW w K mg base (L2.CX PW w) 30 T.run_rope.f T.run_rope.fd P_run_rope (sp_run_rope T) :=
  T.run_rope.F.okX sc_run_rope (fun vs H Q E h => by
    obtain ⟨_, _, _, _, e, _⟩ := h
    rw [e]; rfl) (fun cdv A outer s H vs Q E hr h => ⟨t_run_rope T E, d_run_rope T (ok_Standing_blue_car T) (ok_Standing_red_car T) (ok_lone_row T) (ok_pair_row T) (ok_can_meet T) (ok_check_ropeX T) hr, pure_run_rope T vs H Q E h⟩)
end
end TR
namespace TR
open PySem L2 PyProof.Rows
mutual
def dKey : D → NestedKey
  | .non => .none
  | .bl b => .num (if b = true then 1 else 0)
  | .int i => .num i
  | .str s => .text s
  | .adr _ => .none
  | .tup ds => .tup (dKeys ds)
def dKeys : List D → List NestedKey
  | [] => []
  | d :: ds => dKey d :: dKeys ds
end
mutual
def noAdr : D → Bool
  | .adr _ => false
  | .tup ds => noAdrs ds
  | _ => true
def noAdrs : List D → Bool
  | [] => true
  | d :: ds => noAdr d && noAdrs ds
end
mutual
theorem nested_at {P : Program} {w : World} {H : Hp} {h : Heap} (ok : HOk P w H h) : ∀ {d : D} {v : V} {u : Value}, Fz H v d → RelV v u → noAdr d = true → NestedIs h (dKey d) u
  | .non, _, u, f, r, _ => by
    cases f
    cases (show u = Value.none from r)
    exact .none
  | .bl b, _, u, f, r, _ => by
    cases f
    cases (show u = Value.bool b from r)
    exact .bool rfl
  | .int i, _, u, f, r, _ => by
    cases f
    obtain ⟨t, e⟩ := (show ∃ t, u = Value.int i t from r)
    subst e
    exact .int i t
  | .str x, _, u, f, r, _ => by
    cases f
    obtain ⟨t, e⟩ := (show ∃ t, u = Value.str x t from r)
    subst e
    exact .text x t
  | .adr a, _, u, f, r, n => by cases n
  | .tup ds, _, u, f, r, n => by
    cases f with
    | @tup a xs _ e fl =>
      cases (show u = Value.ref a from r)
      obtain ⟨_, its, rv, o, h1, h2, m, h3⟩ := (show ObjOk P w H h a (.tup xs) from ok a _ e)
      refine .tup h1 h2 h3 ?_
      exact nested_all ok fl (by simpa using rv) n
theorem nested_all {P : Program} {w : World} {H : Hp} {h : Heap} (ok : HOk P w H h) : ∀ {ds : List D} {vs : List V} {us : List Value}, FzL H vs ds → Vals vs us → noAdrs ds = true → NestedAll h (dKeys ds) us
  | [], _, us, f, r, _ => by
    cases f
    cases r
    exact .nil
  | d :: ds, _, us, f, r, n => by
    cases f with
    | cons f1 f2 =>
      cases r with
      | cons r1 r2 =>
        have n' : (noAdr d && noAdrs ds) = true := n
        rw [Bool.and_eq_true] at n'
        exact .cons (nested_at ok f1 r1 n'.1) (nested_all ok f2 r2 n'.2)
end
/-- b holds the tuple d, a key -/
def NK (H : Hp) (b : Addr) (d : D) : Prop := Fz H (.ref b) d ∧ noAdr d = true ∧ (dKey d).depth ≤ 8
theorem NK.is {P : Program} {w : World} {H : Hp} {h : Heap} {b : Addr} {d : D} (k : NK H b d) (ok : HOk P w H h) : (nestedKind P w).is h (dKey d) b := ⟨nested_at ok k.1 rfl k.2.1, k.2.2⟩
theorem NK.mono {H H' : Hp} {b : Addr} {d : D} (k : NK H b d) (e : Kp H H') : NK H' b d := ⟨k.1.mono e, k.2⟩
abbrev NEs := List (NestedKey × Addr × Value)
def NDx (P : Program) (w : World) (a : Addr) (xs : NEs) : HO := .ext fun h => ∃ o es ep, h.get? a = some o ∧ o.ExactDict ∧ o.data = .dict es ep ∧ es.toList = xs.map (entryOfKey (nestedKind P w)) ∧ (xs.map (·.1)).Nodup
def NDo (P : Program) (w : World) (H : Hp) (a : Addr) (xs : NEs) : Prop := H a = some (NDx P w a xs) ∧ (a == sysModules) = false ∧ xs.length ≤ sizeLine ∧ ∀ x ∈ xs, ∃ d, x.1 = dKey d ∧ NK H x.2.1 d
theorem NDo.at {P : Program} {w : World} {H : Hp} {h : Heap} {a : Addr} {xs : NEs} (n : NDo P w H a xs) (ok : HOk P w H h) : h.DictOfH (nestedKind P w) a xs := by
  obtain ⟨e, _, _, hk⟩ := n
  obtain ⟨⟨o, es, ep, h1, h2, h3, h4, h5⟩, _⟩ := ok a _ e
  exact ⟨o, es, ep, h1, h2, h3, h4, fun x hx => by
    obtain ⟨d, e1, k⟩ := hk x hx
    rw [e1]
    exact k.is ok, h5⟩
theorem ndx_new {P : Program} {w : World} {H' : Hp} {h' : Heap} {a : Addr} {xs : NEs} (dd : h'.DictOfH (nestedKind P w) a xs) : ObjOk P w H' h' a (NDx P w a xs) := by
  obtain ⟨o, es, ep, h1, h2, h3, h4, _, h5⟩ := dd
  refine ⟨⟨o, es, ep, h1, h2, h3, h4, h5⟩, ⟨o, h1⟩, fun h1 h2 z k => ?_⟩
  obtain ⟨o, es, ep, a1, a2⟩ := z
  exact ⟨o, es, ep, k _ a1, a2⟩
theorem atKey_none {xs : NEs} {k : NestedKey} (h : k ∉ xs.map (·.1)) : atKey xs k = none := by
  unfold atKey
  rw [Option.map_eq_none_iff, List.find?_eq_none]
  intro x hx z
  have z' : x.1 = k := of_decide_eq_true z
  exact h (List.mem_map.mpr ⟨x, hx, z'⟩)
theorem atKey_isSome {xs : NEs} {k : NestedKey} : (atKey xs k).isSome = decide (k ∈ xs.map (·.1)) := by
  by_cases h : k ∈ xs.map (·.1)
  · rw [decide_eq_true h]
    obtain ⟨x, hx, e⟩ := List.mem_map.mp h
    unfold atKey
    rw [Option.isSome_map, List.find?_isSome]
    exact ⟨x, hx, decide_eq_true e⟩
  · rw [atKey_none h, decide_eq_false h]
    rfl
/-- {k: True}, k a nested tuple -/
def tDisp1 (P : Program) (w : World) (tk tv : TE) : TE := fun σ H Q => ∀ p, H p = none → (p == sysModules) = false → tk σ (upd H p (NDx P w p [])) fun y H1 => tv σ H1 fun v H2 => H2 p = some (NDx P w p []) ∧ ∃ b d, [(y, v)] = [(V.ref b, V.bl true)] ∧ NK H2 b d ∧
  Q (.ref p) (upd H2 p (NDx P w p [(dKey d, b, .bool true)]))
/-- k not in d -/
def rNotInN (P : Program) (w : World) : R2 := fun x y H Q => ∃ b d a xs, x = .ref b ∧ y = .ref a ∧ NK H b d ∧ NDo P w H a xs ∧ Q (.bl (!decide (dKey d ∈ xs.map (·.1)))) H
/-- d[k] = True, k new -/
def sDPutN (P : Program) (w : World) (td ty tv : TE) : TS := fun D σ H => tv σ H fun v H1 => td σ H1 fun x H2 => ty σ H2 fun y H3 => v = .bl true ∧ ∃ a xs b d, x = .ref a ∧ y = .ref b ∧ NK H3 b d ∧ NDo P w H3 a xs ∧ dKey d ∉ xs.map (·.1) ∧ xs.length < sizeLine ∧
  D.nx σ (upd H3 a (NDx P w a (xs ++ [(dKey d, b, .bool true)])))
section
variable {X : Cx}
theorem op_notInN (hu : X.A.units + 65 < cLine) : OpR X (compareOp .NotIn) (rNotInN X.prog X.w) := by
  intro pins s σ H x y v u Q I rx ry h
  obtain ⟨b, d, a, xs, rfl, rfl, k, n, q⟩ := h
  cases (show v = Value.ref b from rx)
  cases (show u = Value.ref a from ry)
  refine wpAny_notIn_heap (knd := nestedKind X.prog X.w) (show X.A.units + 1 + 8 < cLine by omega) (k.is I.hok) n.2.1 (n.at I.hok) ?_
  rw [atKey_isSome]
  exact ⟨.bl _, H, I.tok _, rfl, q⟩
theorem ps_dputN {o i value : Expr} {pos pos' : Pos} {td ty tv : TE} (hu : X.A.units + 65 < cLine) (ho : PE X o td) (hi : PE X i ty) (hv : PE X value tv) (hs : swapsWith value (some (.Subscript o i pos')) pos.line X.env = pure false) :
    PS X (.Assign [.Subscript o i pos'] value pos) (sDPutN X.prog X.w td ty tv) := by
  refine ⟨fun pins s σ H D I h => ?_⟩
  refine wpAny_Assign_Subscript (thn (hv.run pins s σ H _ I h) fun r s1 ⟨v, H1, I1, rv, q1⟩ => thn (ho.run pins s1 σ H1 _ I1 q1) fun u s2 ⟨x, H2, I2, rx, q2⟩ => thn (hi.run pins s2 σ H2 _ I2 q2) fun iv s3 ⟨y, H3, I3, ry, ev, a, xs, b, d, ex, ey, k, n, nk, hz, q3⟩ => ?_) hs
  subst ev ex ey
  cases (show u = Value.ref a from rx)
  cases (show iv = Value.ref b from ry)
  cases (show r = Value.bool true from rv)
  refine wpAny_setItem_heap (knd := nestedKind X.prog X.w) (hsz := Nat.le_of_lt hz) (show X.A.units + 1 + 8 < cLine by omega) (k.is I3.hok) (n.at I3.hok) fun h' dd' hs' => ⟨σ, _, ?_, q3⟩
  rw [storedH_new (atKey_none nk)] at dd'
  have he : ∃ q, h'.get? a = some q := let ⟨q, _, _, hq, _⟩ := dd'; ⟨q, hq⟩
  exact d_write I3 (by rw [n.1]; exact True.intro) hs' he (ndx_new dd')
theorem dict_displayN {prog : Program} {w : World} {A : Around} {E : Value → Shared → Prop} {s : Shared} {env : Env} {keys : List (Option Expr)} {values : List Expr} {pos : Pos} {pairs : List (Sem Value × Sem Value)} {Q : Value → Shared → Prop} (hu : (nestedKind prog w).room A)
    (hshape : (evalEachOpt keys env).zip ((evalEach values env).map fun v => do let x ← v; standAt pos; pure x) = pairs.map fun p => (some p.1, p.2)) (h0 : pairs ≠ []) (hlen : pairs.length ≤ 15)
    (h : wpAny (model prog w) A (evalPairs pairs) (fun vs s₁ => ∃ ps, CarriesH (nestedKind prog w) s₁.heap vs ps ∧ s₁.heap.DictOfH (nestedKind prog w) s.heap.objs.size [] ∧
      ∀ h' tk, h'.DictOfH (nestedKind prog w) s.heap.objs.size (storedAllH [] ps) → Heap.SameBut s.heap.objs.size s₁.heap h' → Q (.ref s.heap.objs.size) { s₁ with heap := h', toks := tk }) E
      { s with heap := s.heap.push { cls := .type "dict", data := .dict #[] } }) :
    wpAny (model prog w) A (eval (.Dict keys values pos) env) Q E s := by
  rw [arm_eval_Dict, hshape, dictDisplay_pairs pairs h0 (by omega)]
  refine wpAny_bind (wpAny_standAt (wpAny_bind (wpAny_subDictH (knd := nestedKind prog w) (Q := fun d s' => wpAny (model prog w) A (pure (Value.ref d)) Q E s') hu hlen (wpAny_mono h (fun vs s₁ h₁ => ?_) fun _ _ e => e))))
  obtain ⟨ps, hc, hm, hq⟩ := h₁
  exact ⟨ps, hc, hm, fun h' tk a b => wpAny_pure (hq h' tk a b)⟩
theorem pe_disp1 {k v : Expr} {pos : Pos} {tk tv : TE} (hu : X.A.units + 65 < cLine) (hk : PE X k tk) (hv : PE X v tv) : PE X (.Dict [some k] [v] pos) (tDisp1 X.prog X.w tk tv) := by
  refine ⟨fun pins s σ H Q I q => ?_⟩
  have hn := I.hok.fresh (Nat.le_refl s.heap.objs.size)
  have hsm : (s.heap.objs.size == sysModules) = false := beq_eq_false_iff_ne.mpr (Ne.symm (Nat.ne_of_lt I.big))
  have I1 := I.laid (a := s.heap.objs.size) (o := NDx X.prog X.w s.heap.objs.size []) (h' := s.heap.push { cls := .type "dict", data := .dict #[] }) (t' := s.toks) (fun _ _ q => Heap.get?_push_of_some _ q) (Nat.le_refl _) (ndx_new (Heap.DictOfH.new s.heap))
  have hp : PPs X pos [some k] [v] [(tk, tv)] := pps_cons hk hv pps_nil
  refine dict_displayN (pairs := [(eval k X.env, do let x ← eval v X.env; standAt pos; pure x)]) (show X.A.units + 8 < cLine by omega) rfl (by intro z; cases z) (by show 1 ≤ 15; decide) (thn (hp.run pins _ σ _ (fun ps H2 => H2 s.heap.objs.size = some (NDx X.prog X.w s.heap.objs.size []) ∧ ∃ b d, ps = [(.ref b, .bl true)] ∧ NK H2 b d ∧ Q (.ref s.heap.objs.size) (upd H2 s.heap.objs.size (NDx X.prog X.w s.heap.objs.size [(dKey d, b, .bool true)]))) I1 ?_) fun ws s2 ⟨ps, H2, I2, rel, e, b, d, ep, nk, q2⟩ => ?_)
  · show tk σ _ _
    exact q _ hn hsm
  · subst ep
    cases rel with
    | @cons p q ps qs h t =>
      cases t
      obtain ⟨kv, vv⟩ := q
      have e1 : kv = Value.ref b := h.1
      have e2 : vv = Value.bool true := h.2
      subst e1 e2
      have n0 : NDo X.prog X.w H2 s.heap.objs.size [] := ⟨e, hsm, Nat.zero_le _, fun x hx => nomatch hx⟩
      refine ⟨[(dKey d, b, .bool true)], ⟨rfl, rfl, nk.is I2.hok, True.intro⟩, n0.at I2.hok, fun h' tk' dd' hs' => ?_⟩
      have he : ∃ q, h'.get? s.heap.objs.size = some q := let ⟨q, _, _, hq, _⟩ := dd'; ⟨q, hq⟩
      exact ⟨.ref s.heap.objs.size, _, d_write I2 (by rw [e]; exact True.intro) hs' he (ndx_new dd'), rfl, q2⟩
end
end TR
namespace TR
open PySem L2 PyProof.Rows

section
variable {w : World} {K : PySem.W.Frag} {mg : Str → Option Value} {base : Heap}
def t_l_search (w : World) (T : Txt K mg) : TS := (tSeq (tIfS (tOr (tTest (tOp kGt (tOp (rIx K) (tVar 0) (tC (.int 0))) (tC (.int 6)))) (tOr (tTest (tOp kGt (tCB (Evl.rLenS K) (tCons (tOp (rIx K) (tVar 0) (tC (.int 1))) tNil)) (tC (.int 8)))) (tTest (tOp kGt (tOp kAdd (tCB (rSumS K) (tCons (tOp (rIx K) (tVar 1) (tC (.int 0))) tNil)) (tCB (rSumS K) (tCons (tOp (rIx K) (tVar 1) (tC (.int 1))) tNil))) (tC (.int 6)))))) (tRet (tC .non))
    tNext)
    (tSeq (tAsg (tLst (tCons (tVar 1) tNil)) (gName 3))
    (tSeq (tAsg (tDisp1 PW w (tVar 1) (tC (.bl true))) (gName 4))
    (tSeq (tFor (iRng1 (tCons (tVar 2) tNil)) (gName 5)
    (tSeq (tIfS (tTest (tOp rEq (tVar 5) (tCB (Evl.rLenS K) (tCons (tVar 3) tNil)))) tBreak
    tNext)
    (tSeq (tAsg (tOp (rIx K) (tVar 3) (tVar 5)) (gName 6))
    (tSeq (tFor (iSeq K (tCall (sp_l_rides T) [] E0 (tCons (tOp (rIx K) (tVar 0) (tC (.int 1))) (tCons (tVar 6) tNil)))) (gName 7)
    (tSeq (tAsg (tCall (sp_l_ride T) [] E0 (tCons (tOp (rIx K) (tVar 0) (tC (.int 1))) (tCons (tVar 6) (tCons (tVar 7) tNil)))) (gName 8))
    (tIfS (tTest (tOp (rNotInN PW w) (tVar 8) (tVar 4))) (tSeq (sDPutN PW w (tVar 4) (tVar 8) (tC (.bl true)))
    (tDrop (tBM K "list" rAppend (tVar 3) (tCons (tVar 8) tNil))))
    tNext)))
    (tIfS (tTest (tOp kGt (tCB (Evl.rLenS K) (tCons (tVar 3) tNil)) (tVar 2))) (tRet (tC .non))
    tNext)))))
    (tRet (tVar 3))))))
theorem d_l_search (T : Txt K mg)
    (G_l_ride : FnOk PW w K mg base CX0 1 T.l_ride.f T.l_ride.fd P_l_ride (sp_l_ride T))
    (G_l_rides : FnOk PW w K mg base CX0 2 T.l_rides.f T.l_rides.fd P_l_rides (sp_l_rides T))
    {cdv : Value} {A : Around} {outer : List Env} {s : Shared} {H : Hp} {E : XK} (hr : Room 34 (A.deeper (envOfC "_law_search" (defScope s_l_search) s.heap.objs.size T.l_search.f cdv))) :
    PSs (cxOf CX0 PW w K mg base N_l_search "_law_search" (defScope s_l_search) T.l_search.f cdv A outer s H E).nox (defBody s_l_search) (t_l_search w T) := by
  have sc := sc_l_search
  exact (pss_cons (ps_if (PW.pt (pw_or (pt_cmpR op_gt (pe_ix ix_seq (pv 0) pe_int (fun _ _ => rfl)) pe_int (nomark _)) (pw_or (pt_cmpR op_gt (pe_callB call_len_seq (by rfl) T.b_len PySem.boot_len (pa_cons (pe_ix ix_seq (pv 0) pe_int (fun _ _ => rfl)) pa_nil)) pe_int (nomark _)) (pw_or1 (pt_cmpR op_gt (pe_op op_add (pe_callB (cr_sumS rfl) (by rfl) T.b_sum PyProof.Rows.boot_sum (pa_cons (pe_ix ix_seq (pv 1) pe_int (fun _ _ => rfl)) pa_nil)) (pe_callB (cr_sumS rfl) (by rfl) T.b_sum PyProof.Rows.boot_sum (pa_cons (pe_ix ix_seq (pv 1) pe_int (fun _ _ => rfl)) pa_nil))) pe_int (nomark _)))))) (pss_one (ps_ret pe_non))
    pss_nil)
    (pss_cons (ps_set (i := 3) sc.nd rfl (Or.inl rfl) (pe_lst (pa_cons (pv 1) pa_nil)))
    (pss_cons (ps_set (i := 4) sc.nd rfl (Or.inl rfl) (pe_disp1 (room65 hr) (pv 1) pe_bl))
    (pss_cons (ps_for PassesOwn.never rfl (pi_range1 (by rfl) T.b_range (pa_cons (pv 2) pa_nil)) (pg_name (i := 5) sc.nd rfl (Or.inl rfl))
    (pss_cons (ps_if (pt_cmpR op_eq (pv 5) (pe_callB call_len_seq (by rfl) T.b_len PySem.boot_len (pa_cons (pv 3) pa_nil)) (nomark _)) (pss_one ps_break)
    pss_nil)
    (pss_cons (ps_set (i := 6) sc.nd rfl (Or.inl rfl) (pe_ix ix_seq (pv 3) (pv 5) (fun _ _ => rfl)))
    (pss_cons (ps_for PassesOwn.never rfl (pi_seq (pe_call G_l_rides (hr.mono (by decide)) (by rfl) T.l_rides.g T.l_rides.F.kp T.l_rides.b .nil pass0 (pa_cons (pe_ix ix_seq (pv 0) pe_int (fun _ _ => rfl)) (pa_cons (pv 6) pa_nil)))) (pg_name (i := 7) sc.nd rfl (Or.inl rfl))
    (pss_cons (ps_set (i := 8) sc.nd rfl (Or.inl rfl) (pe_call G_l_ride (hr.mono (by decide)) (by rfl) T.l_ride.g T.l_ride.F.kp T.l_ride.b .nil pass0 (pa_cons (pe_ix ix_seq (pv 0) pe_int (fun _ _ => rfl)) (pa_cons (pv 6) (pa_cons (pv 7) pa_nil)))))
    (pss_one (ps_if (pt_cmpR (op_notInN (room65 hr)) (pv 8) (pv 4) (by rfl)) (pss_cons (ps_dputN (room65 hr) (pv 4) (pv 8) pe_bl rfl)
    (pss_one (ps_expr (pe_bm PySem.F.plainAttrs_list PySem.F.slot_list_append PySem.F.type_list_append mt_append (pv 3) (pa_cons (pv 8) pa_nil)))))
    pss_nil))))
    (pss_one (ps_if (pt_cmpR op_gt (pe_callB call_len_seq (by rfl) T.b_len PySem.boot_len (pa_cons (pv 3) pa_nil)) (pv 2) (nomark _)) (pss_one (ps_ret pe_non))
    pss_nil))))))
    (pss_one (ps_ret (pv 3)))))))
end
end TR
namespace TR
open PySem L2 PyProof.Rows
theorem dKeys_dn : ∀ {l : List Nat}, dKeys (l.map dn) = l.map fun i : Nat => NestedKey.num (i : Int)
  | [] => rfl
  | i :: l => by
    show NestedKey.num (i : Int) :: dKeys (l.map dn) = _
    rw [dKeys_dn]
    rfl
theorem num_inj : ∀ {a b : List Nat}, (a.map fun i : Nat => NestedKey.num (i : Int)) = (b.map fun i : Nat => NestedKey.num (i : Int)) → a = b
  | [], [], _ => rfl
  | [], _ :: _, h => nomatch h
  | _ :: _, [], h => nomatch h
  | i :: a, j :: b, h => by
    injection h with h1 h2
    injection h1 with h1
    rw [num_inj h2, show i = j by omega]
def kSt (s : Sd) : NestedKey := dKey (dSt s)
theorem kSt_eq {s : Sd} : kSt s = .tup [.tup (s.reds.map fun i : Nat => NestedKey.num (i : Int)), .tup (s.blues.map fun i : Nat => NestedKey.num (i : Int)), .tup (s.cars.map fun i : Nat => NestedKey.num (i : Int))] := by
  show NestedKey.tup [.tup (dKeys (s.reds.map dn)), .tup (dKeys (s.blues.map dn)), .tup (dKeys (s.cars.map dn))] = _
  rw [dKeys_dn, dKeys_dn, dKeys_dn]
theorem kSt_inj {s t : Sd} (h : kSt s = kSt t) : s = t := by
  rw [kSt_eq, kSt_eq] at h
  injection h with h
  injection h with h1 h
  injection h with h2 h
  injection h with h3 _
  injection h1 with h1
  injection h2 with h2
  injection h3 with h3
  cases s
  cases t
  rw [Sd.mk.injEq]
  exact ⟨num_inj h1, num_inj h2, num_inj h3⟩
theorem noAdrs_dn : ∀ {l : List Nat}, noAdrs (l.map dn) = true
  | [] => rfl
  | i :: l => by
    show (true && noAdrs (l.map dn)) = true
    rw [noAdrs_dn]; rfl
theorem noAdr_st {s : Sd} : noAdr (dSt s) = true := by
  show (noAdrs (s.reds.map dn) && (noAdrs (s.blues.map dn) && (noAdrs (s.cars.map dn) && true))) = true
  rw [noAdrs_dn, noAdrs_dn, noAdrs_dn]; rfl
theorem depth_nums : ∀ {l : List Nat}, NestedKey.depthAll (l.map fun i : Nat => NestedKey.num (i : Int)) = 0
  | [] => by simp [NestedKey.depthAll]
  | i :: l => by simp [NestedKey.depthAll, NestedKey.depth, depth_nums (l := l)]
theorem depth_st {s : Sd} : (dKey (dSt s)).depth ≤ 8 := by
  show (kSt s).depth ≤ 8
  rw [kSt_eq]
  simp [NestedKey.depthAll, NestedKey.depth, depth_nums]
theorem nk_st {H : Hp} {b : Addr} {s : Sd} (h : Fz H (.ref b) (dSt s)) : NK H b (dSt s) := ⟨h, noAdr_st, depth_st⟩
/-- one step: a state is put behind when it is new -/
def addS (fs : List Sd) (t : Sd) : List Sd := if t ∈ fs then fs else fs ++ [t]
theorem mem_addS {fs : List Sd} {t x : Sd} : x ∈ addS fs t ↔ x ∈ fs ∨ x = t := by
  unfold addS
  split
  · rename_i h
    exact ⟨.inl, fun z => z.elim id fun e => e ▸ h⟩
  · rw [List.mem_append, List.mem_singleton]
theorem addS_get {fs : List Sd} {t x : Sd} {j : Nat} (h : fs[j]? = some x) : (addS fs t)[j]? = some x := by
  unfold addS
  split
  · exact h
  · rw [List.getElem?_append_left (List.getElem?_eq_some_iff.mp h).1]
    exact h
/-- the first i states are closed, all are reached -/
structure Srch (w : Wd) (s : Sd) (fs : List Sd) (i : Nat) : Prop where
  here : s ∈ fs
  nodup : fs.Nodup
  way : ∀ t ∈ fs, ∃ rs, Ok w s rs ∧ rideAll w s rs = t
  sok : ∀ t ∈ fs, SOk w t
  next : ∀ j t, j < i → fs[j]? = some t → ∀ k c, k < w.rs.length → can w t (k, c) = true → ride w t (k, c) ∈ fs
theorem Srch.add {w : Wd} {s : Sd} {fs : List Sd} {i : Nat} (W : WOk w) (F : Srch w s fs i) (hi : i ≤ fs.length) {t : Sd} (ht : t ∈ fs) {k : Nat} {c : Bool} (hk : k < w.rs.length) (hc : can w t (k, c) = true) : Srch w s (addS fs (ride w t (k, c))) i where
  here := mem_addS.mpr (.inl F.here)
  nodup := by
    unfold addS
    split
    · exact F.nodup
    · rename_i h
      rw [List.nodup_append]
      refine ⟨F.nodup, by simp, fun a ha b hb e => ?_⟩
      rw [List.mem_singleton] at hb
      exact h (hb ▸ e ▸ ha)
  way := fun x hx => by
    rcases mem_addS.mp hx with hx | e
    · exact F.way x hx
    · obtain ⟨rs, o, er⟩ := F.way t ht
      refine ⟨rs ++ [(k, c)], Ok_append.mpr ⟨o, ?_⟩, ?_⟩
      · rw [er]
        exact ⟨hk, hc, True.intro⟩
      · rw [rideAll_append, er, e]
        rfl
  sok := fun x hx => by
    rcases mem_addS.mp hx with hx | e
    · exact F.sok x hx
    · rw [e]
      exact ride_ok W (F.sok t ht) hk hc
  next := fun j x hj hx k' c' hk' hc' => by
    have hlt : j < fs.length := Nat.lt_of_lt_of_le hj hi
    have h0 : fs[j]? = some fs[j] := List.getElem?_eq_getElem hlt
    have h1 := addS_get (t := ride w t (k, c)) h0
    rw [hx] at h1
    injection h1 with h1
    exact mem_addS.mpr (.inl (F.next j x hj (by rw [h1]; exact h0) k' c' hk' hc'))
theorem Srch.start {w : Wd} {s : Sd} (O : SOk w s) : Srch w s [s] 0 where
  here := List.mem_singleton.mpr rfl
  nodup := by simp
  way := fun t ht => by
    rw [List.mem_singleton] at ht
    exact ⟨[], True.intro, ht.symm⟩
  sok := fun t ht => by
    rw [List.mem_singleton] at ht
    exact ht ▸ O
  next := fun j t hj => absurd hj (Nat.not_lt_zero _)
theorem Srch.succ {w : Wd} {s : Sd} {fs : List Sd} {i : Nat} {t : Sd} (F : Srch w s fs i) (ht : fs[i]? = some t) (h : ∀ r ∈ lrides w t, ride w t r ∈ fs) : Srch w s fs (i + 1) :=
  ⟨F.here, F.nodup, F.way, F.sok, fun j x hj hx k c hk hc => by
    rcases Nat.lt_succ_iff_lt_or_eq.mp hj with hj | e
    · exact F.next j x hj hx k c hk hc
    · subst e
      rw [ht] at hx
      injection hx with hx
      subst hx
      exact h (k, c) (mem_lrides.mpr ⟨hk, hc⟩)⟩
theorem Srch.found {w : Wd} {s : Sd} {fs : List Sd} {i : Nat} (F : Srch w s fs i) (hi : fs.length ≤ i) : Found w s fs :=
  ⟨F.here, F.way, fun t ht k c hk hc => by
    obtain ⟨j, hj⟩ := List.getElem?_of_mem ht
    exact F.next j t (Nat.lt_of_lt_of_le (List.getElem?_eq_some_iff.mp hj).1 hi) hj k c hk hc⟩
end TR
namespace TR
open PySem L2 PyProof.Rows
open Evl (Ex EvT fresh_back)
local macro_rules | `(tactic| walk_at "h") => `(tactic| first
  | assumption
  | (refine Ex.at (by assumption) ?_; walk_at "h")
  | (refine Kp.at (by assumption) ?_; walk_at "h")
  | (refine Fz.mono (Kp.ex (by assumption)) ?_; walk_at "h")
  | (refine Fz.mono (by assumption) ?_; walk_at "h")
  | (refine FzL.mono (Kp.ex (by assumption)) ?_; walk_at "h")
  | (refine FzL.mono (by assumption) ?_; walk_at "h")
  | (refine NetAt.mono (Kp.ex (by assumption)) ?_; walk_at "h")
  | (refine NetAt.mono (by assumption) ?_; walk_at "h")
  | (refine StaA.mono (Kp.ex (by assumption)) ?_; walk_at "h")
  | (refine StaA.mono (by assumption) ?_; walk_at "h")
  | (refine Sta.mono (Kp.ex (by assumption)) ?_; walk_at "h")
  | (refine Sta.mono (by assumption) ?_; walk_at "h")
  | (refine Lst.mono (by assumption) ?_; walk_at "h")
  | (refine Seq.mono (by assumption) ?_; walk_at "h"))
local macro_rules | `(tactic| walk_at "fz") => `(tactic| first
  | exact Fz.int _ | exact Fz.bl _ | exact Fz.str _ | exact Fz.non
  | walk_at "h"
  | exact Fz.adr _)
local macro_rules | `(tactic| walk_at "ix") => `(tactic| first
  | exact rfl
  | (refine atI_nat ?_; first | assumption | rfl | (simp; done)))
local macro_rules | `(tactic| walk_at "ev") => `(tactic| first
  | exact evd_int | exact evd_str | exact evd_bl | exact evd_non
  | (refine evd_var rfl ?_; walk_at "fz")
  | (refine evd_stations ?_ ?_; (walk_at "h"); (walk_at "ev"))
  | (refine evd_ropes ?_ ?_; (walk_at "h"); (walk_at "ev"))
  | (refine evd_net ?_ ?_; (walk_at "h"); (walk_at "ev"))
  | (refine evd_reds ?_ ?_; (walk_at "h"); (walk_at "ev"))
  | (refine evd_blues ?_ ?_; (walk_at "h"); (walk_at "ev"))
  | (refine evd_cars ?_ ?_; (walk_at "h"); (walk_at "ev"))
  | (refine evd_add ?_ ?_; (walk_at "ev"); (walk_at "ev"))
  | (refine evd_sub ?_ ?_; (walk_at "ev"); (walk_at "ev"))
  | (refine evd_lt ?_ ?_; (walk_at "ev"); (walk_at "ev"))
  | (refine evd_le ?_ ?_; (walk_at "ev"); (walk_at "ev"))
  | (refine evd_gt ?_ ?_; (walk_at "ev"); (walk_at "ev"))
  | (refine evd_ge ?_ ?_; (walk_at "ev"); (walk_at "ev"))
  | (refine evd_neg ?_; (walk_at "ev"))
  | (refine evd_eqI ?_ ?_; (walk_at "ev"); (walk_at "ev"))
  | (refine evd_neI ?_ ?_; (walk_at "ev"); (walk_at "ev"))
  | (refine evd_eqS ?_ ?_; (walk_at "ev"); (walk_at "ev"))
  | (refine evd_eqB ?_ ?_; (walk_at "ev"); (walk_at "ev"))
  | (refine evd_neB ?_ ?_; (walk_at "ev"); (walk_at "ev"))
  | (refine evd_isN ?_ ?_; (walk_at "ev"); exact rfl)
  | (refine evd_notN ?_ ?_; (walk_at "ev"); exact rfl)
  | (refine evd_ixT ?_ ?_ ?_; (walk_at "ev"); (walk_at "ev"); (walk_at "ix"))
  | (refine evd_ixL ?_ ?_ ?_ ?_ ?_; (walk_at "ev"); (walk_at "h"); (walk_at "h"); (walk_at "ev"); (walk_at "ix"))
  | (refine evd_tup ?_ ?_; (walk_at "evs"); exact Nat.le_of_ble_eq_true rfl)
  | (refine evd_lenD ?_; walk_at "ev")
  | (refine evd_lenL ?_ ?_; (walk_at "ev"); (walk_at "h"))
  | (refine evd_intI ?_; walk_at "ev")
  | (refine evd_intB ?_; walk_at "ev")
  | (refine evd_notV ?_; walk_at "ev"))
local macro_rules | `(tactic| walk_at "evs") => `(tactic| first
  | exact evds_nil
  | (refine evds_cons ?_ ?_; (walk_at "ev"); (walk_at "evs")))
local macro_rules | `(tactic| walk_at "et") => `(tactic| first
  | (refine et_test ?_; walk_at "ev")
  | (refine et_B ?_; walk_at "ev")
  | (refine et_tru ?_ ?_; (walk_at "ev"); (walk_at "h"))
  | (refine Evl.et_not ?_; walk_at "et")
  | (refine et_chain2 ?_ ?_ ?_; (walk_at "ev"); (walk_at "ev"); (walk_at "ev")))
section
variable {K : PySem.W.Frag} {mg : Str → Option Value} {σ : L2.St} {H : Hp} {te ta tb tc tv tx : TE} {tr : TA} {ds es fs : List D} {d d1 d2 : D} {E : Ends} {tz : TS}
theorem Kp.setN {H : Hp} {P : Program} {w : World} {p : Addr} {xs : NEs} {o : HO} (h : H p = some (NDx P w p xs)) : Kp H (upd H p o) := fun a u e s => by
  rw [upd_ne (ne_of e h (by intro z; subst z; cases s))]; exact e
theorem NDo.mono {P : Program} {w : World} {H H' : Hp} {a : Addr} {xs : NEs} (n : NDo P w H a xs) (k : Kp H H') (h : H' a = some (NDx P w a xs)) : NDo P w H' a xs :=
  ⟨h, n.2.1, n.2.2.1, fun x hx => let ⟨d, e, q⟩ := n.2.2.2 x hx; ⟨d, e, q.mono k⟩⟩
/-- the found list and the known dict -/
structure SS (w0 : World) (H0 H : Hp) (p3 p4 : Addr) (fs : List Sd) : Prop where
  ex : Ex H0 H
  n3 : H0 p3 = none
  n4 : H0 p4 = none
  ne : p3 ≠ p4
  st : ∃ xs es, H p3 = some (.lst xs) ∧ FzL H xs (fs.map dSt) ∧ NDo PW w0 H p4 es ∧ es.map (·.1) = fs.map kSt
theorem SS.mono {w0 : World} {H0 H H' : Hp} {p3 p4 : Addr} {fs : List Sd} (S : SS w0 H0 H p3 p4 fs) (e : Ex H H') : SS w0 H0 H' p3 p4 fs := by
  obtain ⟨ex, n3, n4, ne, xs, es, h3, f3, nd, he⟩ := S
  exact ⟨ex.trans e, n3, n4, ne, xs, es, e _ _ h3, f3.mono (Kp.ex e), nd.mono (Kp.ex e) (e _ _ nd.1), he⟩
theorem mem_kSt {fs : List Sd} {t : Sd} : kSt t ∈ fs.map kSt ↔ t ∈ fs := by
  rw [List.mem_map]
  exact ⟨fun ⟨a, ha, e⟩ => kSt_inj e ▸ ha, fun h => ⟨t, h, rfl⟩⟩
theorem SS.len {w0 : World} {H0 H : Hp} {p3 p4 : Addr} {fs : List Sd} (S : SS w0 H0 H p3 p4 fs) (ha : EvD ta σ H (.adr p3)) : EvD (tCB (Evl.rLenS K) (tCons ta tNil)) σ H (.int (fs.length : Int)) := by
  obtain ⟨ex, n3, n4, ne, xs, es, h3, f3, nd, he⟩ := S
  exact EvD.eq (evd_lenL ha h3) (by rw [f3.len, List.length_map])
theorem SS.get {w0 : World} {H0 H : Hp} {p3 p4 : Addr} {fs : List Sd} {i : Nat} {t : Sd} (S : SS w0 H0 H p3 p4 fs) (ha : EvD ta σ H (.adr p3)) (hi : EvD tb σ H (dn i)) (h : fs[i]? = some t) : EvD (tOp (rIx K) ta tb) σ H (dSt t) := by
  obtain ⟨ex, n3, n4, ne, xs, es, h3, f3, nd, he⟩ := S
  exact evd_ixL ha h3 f3 hi (atI_nat (by rw [List.getElem?_map, h]; rfl))
theorem SS.new {w0 : World} {H0 H : Hp} {p3 p4 : Addr} {fs : List Sd} {t : Sd} (S : SS w0 H0 H p3 p4 fs) (ha : EvD ta σ H (dSt t)) (hb : EvD tb σ H (.adr p4)) : EvT (tTest (tOp (rNotInN PW w0) ta tb)) σ H (!decide (t ∈ fs)) := fun H1 e Q q =>
  ha H1 e _ fun v H2 e2 fv => hb H2 (e.trans e2) _ fun u H3 e3 fu => by
    obtain ⟨ex, n3, n4, ne, xs, es, h3, f3, nd, he⟩ := S.mono ((e.trans e2).trans e3)
    obtain ⟨a, ys, rfl, hy, fl⟩ := id fv.tup_of
    obtain rfl := fu.adr_of
    have hq := q H3 (e2.trans e3)
    have hd : decide (t ∈ fs) = decide (dKey (dSt t) ∈ es.map (·.1)) := decide_eq_decide.mpr (by rw [he]; exact mem_kSt.symm)
    rw [hd] at hq
    exact ⟨a, dSt t, p4, es, rfl, rfl, nk_st (fv.mono (Kp.ex e3)), nd, _, rfl, hq⟩
theorem SS.put {w0 : World} {H0 H : Hp} {p3 p4 : Addr} {fs : List Sd} {t : Sd} {D : Ends} {ty td tf : TE} (S : SS w0 H0 H p3 p4 fs) (hl : fs.length < 100000) (ht : t ∉ fs) (hk : ∀ H', EvD td σ H' (.adr p4)) (hf : ∀ H', EvD tf σ H' (.adr p3)) {v : V} (fv : Fz H v (dSt t)) (hy : ∀ H', Fz H' v (dSt t) → EvD ty σ H' (dSt t))
    (k : ∀ H', SS w0 H0 H' p3 p4 (fs ++ [t]) → Kp H H' → (∀ a o, a ≠ p3 → a ≠ p4 → H a = some o → H' a = some o) → D.nx σ H') :
    tSeq (sDPutN PW w0 td ty (tC (.bl true))) (tDrop (tBM K "list" rAppend tf (tCons ty tNil))) D σ H := by
  refine hk H H (Ex.refl _) _ fun x H2 e2 fx => hy H2 (fv.mono (Kp.ex e2)) H2 (Ex.refl _) _ fun y H3 e3 fy => ?_
  obtain rfl := fx.adr_of
  obtain ⟨a, ys, rfl, hya, fl⟩ := id fy.tup_of
  obtain ⟨ex, n3, n4, ne, xs, es, h3, f3, nd, he⟩ := S.mono (e2.trans e3)
  have nk : dKey (dSt t) ∉ es.map (·.1) := by
    rw [he]
    exact fun z => ht (mem_kSt.mp z)
  have hlen : es.length = fs.length := by
    have := congrArg List.length he
    rwa [List.length_map, List.length_map] at this
  have hxl : xs.length = fs.length := by rw [f3.len, List.length_map]
  have hes : es.length < sizeLine := Evl.sz_lt (by omega)
  refine ⟨rfl, p4, es, a, dSt t, rfl, rfl, nk_st fy, nd, nk, hes, ?_⟩
  have k1 : Kp H3 (upd H3 p4 (NDx PW w0 p4 (es ++ [(dKey (dSt t), a, .bool true)]))) := Kp.setN nd.1
  refine s_app ((upd_ne ne).trans h3) (hf _) (hy _ (fv.mono ((Kp.ex (e2.trans e3)).trans k1))) (by omega) fun v2 H5 e5 f5 => ?_
  have h5 := e5 _ _ ((upd_ne ne).trans h3)
  have k2 : Kp H5 (upd H5 p3 (.lst (xs ++ [v2]))) := Kp.set h5
  have k3 := k1.trans ((Kp.ex e5).trans k2)
  refine k _ ⟨Ex.set ((Ex.set ex n4).trans e5) n3, n3, n4, ne, xs ++ [v2], es ++ [(dKey (dSt t), a, .bool true)], upd_same, ?_, ⟨(upd_ne ne.symm).trans (e5 _ _ upd_same), nd.2.1, ?_, ?_⟩, ?_⟩ ((Kp.ex (e2.trans e3)).trans k3) fun b o hb3 hb4 hb => ?_
  · rw [List.map_append]
    exact (f3.mono k3).snoc (f5.mono k2)
  · rw [List.length_append]
    exact hes
  · intro x hx
    rcases List.mem_append.mp hx with hx | hx
    · obtain ⟨d, e1, q⟩ := nd.2.2.2 x hx
      exact ⟨d, e1, q.mono k3⟩
    · rw [List.mem_singleton] at hx
      subst hx
      exact ⟨dSt t, rfl, (nk_st fy).mono k3⟩
  · rw [List.map_append, List.map_append, he]
    rfl
  · exact (upd_ne hb3).trans (e5 _ _ ((upd_ne hb4).trans ((e2.trans e3) _ _ hb)))
theorem evd_sumD {l : List Nat} (ha : EvD ta σ H (.tup (l.map dn))) : EvD (tCB (rSumS K) (tCons ta tNil)) σ H (dn l.sum) := fun H1 e Q q =>
  ha H1 e _ fun v H2 e2 fv => by
    obtain ⟨a, xs, rfl, h1, f⟩ := fv.tup_of
    have ev := f.nats_of
    subst ev
    refine ⟨a, l.map fun n : Nat => (n : Int), rfl, ?_, ?_⟩
    · rw [nats_int] at h1
      exact .inr (SqT.of h1)
    · rw [sum_int]; exact q _ H2 e2 (.int _)
theorem len_lrides {w : Wd} {s : Sd} : (lrides w s).length ≤ 2 * w.rs.length := by
  unfold lrides
  rw [List.length_flatMap]
  have h : ∀ l : List Nat, (l.map fun k => ((if can w s (k, true) then [((k, true) : Ride)] else []) ++ (if can w s (k, false) then [(k, false)] else [])).length).sum ≤ 2 * l.length := by
    intro l
    induction l with
    | nil => exact Nat.le_refl _
    | cons k l ih =>
      rw [List.map_cons, List.sum_cons, List.length_cons, List.length_append]
      split <;> split <;> simp only [List.length_cons, List.length_nil] <;> omega
  have := h (List.range w.rs.length)
  rwa [List.length_range] at this
theorem pure_l_search (w0 : World) (T : Txt K mg) (vs : List V) (H : Hp) (Q : VK) (E : XK) (h : sp_l_search T vs H Q E) : Goes (t_l_search w0 T) N_l_search vs H Q := by
  obtain ⟨p, v, w, s, rfl, Wa, fv, kn, kf⟩ := h
  have W := Wa.wok
  have O := Wa.sok
  have hm := W.m40
  obtain ⟨b, ys, rfl, hyb, flb⟩ := id fv.tup_of
  obtain ⟨pr, hpr, hL⟩ := Wa.evr (K := K) (σ := start N_l_search [.ref p, .ref b, vn 300]) (ta := tVar 0) (evd_var (i := 0) rfl (.adr p))
  obtain ⟨us, hpu, fpu⟩ := id hL
  have fin : ∀ {a5 a6 a7 a8 : Option V} {H' : Hp} {p3 p4 : Addr} {fs : List Sd} {E : Ends}, E.rt = Q → Found w s fs → fs.length ≤ 300 → (∀ t ∈ fs, SOk w t) → SS w0 H H' p3 p4 fs → tRet (tVar 3) E [some (.ref p), some (.ref b), some (vn 300), some (.ref p3), some (.ref p4), a5, a6, a7, a8] H' := by
    intro a5 a6 a7 a8 H' p3 p4 fs E hE F hl hS S
    refine s_ret (evd_var (i := 3) rfl (.adr p3)) fun v' H9 e9 f9 => ?_
    obtain rfl := f9.adr_of
    obtain ⟨ex, n3, n4, ne, xs, es, h3, f3, nd, he⟩ := S.mono e9
    rw [hE]
    exact kf fs F hl hS p3 xs H9 n3 ex h3 f3
  refine q_if (Evl.et_or (et_test (evd_gt (Wa.evn (evd_var (i := 0) rfl (.adr p))) evd_int)) fun _ => Evl.et_or (et_test (evd_gt (evd_lenL hpr hpu) evd_int)) fun _ => et_test (evd_gt (evd_add (evd_sumD (evd_st (s := s) (i := 0) (evd_var (i := 1) rfl fv) rfl)) (evd_sumD (evd_st (s := s) (i := 1) (evd_var (i := 1) rfl fv) rfl))) evd_int)) (fun _ H1 e1 => ?_) fun _ H1 e1 => ?_
  · exact s_ret evd_non fun v' H2 e2 f2 => kn v' H2 (e1.trans e2) f2
  refine q_asgN (evn_lst (evds_cons (evd_var (i := 1) rfl (fv.mono (Kp.ex e1))) evds_nil) (Nat.le_of_ble_eq_true rfl)) fun p3 xs H2 hp3 e2 h2 f2 => ?_
  have e12 := e1.trans e2
  intro p4 hp4 hsm
  have x4 : Ex H2 (upd H2 p4 (NDx PW w0 p4 [])) := Ex.new hp4
  have nk0 : NK (upd H2 p4 (NDx PW w0 p4 [])) b (dSt s) := nk_st (fv.mono (Kp.ex (e12.trans x4)))
  refine ⟨.ref b, rfl, upd_same, b, dSt s, rfl, nk0, ?_⟩
  have n3 : H p3 = none := fresh_back e1 hp3
  have n4 : H p4 = none := fresh_back e12 hp4
  have ne : p3 ≠ p4 := ne_of_none h2 hp4
  have S0 : SS w0 H (upd (upd H2 p4 (NDx PW w0 p4 [])) p4 (NDx PW w0 p4 [(dKey (dSt s), b, .bool true)])) p3 p4 [s] := by
    rw [upd_upd]
    have kk : Ex H2 (upd H2 p4 (NDx PW w0 p4 [(dKey (dSt s), b, .bool true)])) := Ex.new hp4
    refine ⟨e12.trans kk, n3, n4, ne, xs, [(dKey (dSt s), b, .bool true)], kk _ _ h2, f2.mono (Kp.ex kk), ⟨upd_same, hsm, Nat.le_of_lt (Evl.sz_lt (Nat.le_of_ble_eq_true rfl)), fun x hx => ?_⟩, rfl⟩
    rw [List.mem_singleton] at hx
    subst hx
    exact ⟨dSt s, rfl, nk_st (fv.mono (Kp.ex (e12.trans kk)))⟩
  refine q_forI (i_rng (n := 300) (evd_var (i := 2) rfl (.int (300 : Int))) (by decide) fun J H5 e5 SJ => q_for SJ (fun i σ' H' => (∃ a5 a6 a7 a8 : Option V, σ' = [some (.ref p), some (.ref b), some (vn 300), some (.ref p3), some (.ref p4), a5, a6, a7, a8]) ∧ ∃ fs, Srch w s fs i ∧ fs.length ≤ 300 ∧ i ≤ fs.length ∧ SS w0 H H' p3 p4 fs)
    ⟨⟨_, _, _, _, rfl⟩, [s], Srch.start O, (by simp), Nat.zero_le _, S0.mono e5⟩ (fun _ _ _ _ _ => True.intro) (fun i x σ' H6 H7 hi300 P e7 y => ?_) fun σ' H' P => ?_)
  · obtain ⟨⟨a5, a6, a7, a8, rfl⟩, fs, F, hl, hif, S⟩ := P
    subst y
    replace S := S.mono e7
    refine q_if (et_test (evd_eqI (evd_var (i := 5) rfl (.int (i : Int))) (S.len (evd_var (i := 3) rfl (.adr p3))))) (fun hb H8 e8 => ?_) fun hb H8 e8 => ?_
    · have hb := of_decide_eq_true hb
      exact fin rfl (F.found (by omega)) hl F.sok (S.mono e8)
    have hb := of_decide_eq_false hb
    have hi : i < fs.length := by omega
    replace S := S.mono e8
    obtain ⟨t, ht⟩ : ∃ t, fs[i]? = some t := ⟨_, List.getElem?_eq_getElem hi⟩
    have htm : t ∈ fs := List.mem_of_getElem? ht
    have Ot := F.sok t htm
    refine q_asg (S.get (evd_var (i := 3) rfl (.adr p3)) (evd_var (i := 5) rfl (.int (i : Int))) ht) fun u H9 e9 fu => ?_
    replace S := S.mono e9
    obtain ⟨pr5, hpr5, hL5⟩ := (Wa.mono S.ex).evr (K := K) (σ := [some (.ref p), some (.ref b), some (vn 300), some (.ref p3), some (.ref p4), some (vn i), some u, a7, a8]) (ta := tVar 0) (evd_var (i := 0) rfl (.adr p))
    refine q_forI (i_seqN (evn_lrides (T := T) hpr5 hL5 (evd_var (i := 6) rfl fu) W Ot) fun J2 pl ls H10 hpl e10 h10 f10 SJ2 => q_for SJ2 (fun j σ' H' => (∃ a7 a8 : Option V, σ' = [some (.ref p), some (.ref b), some (vn 300), some (.ref p3), some (.ref p4), some (vn i), some u, a7, a8]) ∧ Kp H10 H' ∧ H' pl = some (.lst ls) ∧ ∃ fs', Srch w s fs' i ∧ fs'.length ≤ 300 + j ∧ i < fs'.length ∧ fs'[i]? = some t ∧ (∀ r ∈ (lrides w t).take j, ride w t r ∈ fs') ∧ SS w0 H H' p3 p4 fs')
      ⟨⟨_, _, rfl⟩, Kp.refl _, h10, fs, F, by omega, hi, ht, (fun r hr => by rw [List.take_zero] at hr; cases hr), S.mono e10⟩ (fun _ _ _ _ P => P.2.2.1) (fun j x σ' H11 H12 hj P e12' y => ?_) fun σ' H11 P => ?_)
    · obtain ⟨⟨b7, b8, rfl⟩, k11, h11, fs', F', hl', hi', ht', hcl, S'⟩ := P
      replace S' := S'.mono e12'
      have hjl : j < (lrides w t).length := by
        have := f10.len
        rw [List.length_map] at this
        omega
      obtain ⟨d, hd, fx⟩ := f10.getV y
      obtain ⟨r, hr⟩ : ∃ r, (lrides w t)[j]? = some r := ⟨_, List.getElem?_eq_getElem hjl⟩
      rw [List.getElem?_map, hr] at hd
      cases hd
      have k12 := k11.trans (Kp.ex e12')
      have fr : Fz H12 x (dRide r) := fx.mono k12
      have fu12 : Fz H12 u (dSt t) := fu.mono ((Kp.ex e10).trans k12)
      have hrm := mem_lrides.mp (List.mem_of_getElem? hr)
      obtain ⟨k, c⟩ := r
      obtain ⟨pr6, hpr6, hL6⟩ := (Wa.mono S'.ex).evr (K := K) (σ := [some (.ref p), some (.ref b), some (vn 300), some (.ref p3), some (.ref p4), some (vn i), some u, some x, b8]) (ta := tVar 0) (evd_var (i := 0) rfl (.adr p))
      refine q_asg (evd_callD (evds_cons hpr6 (evds_cons (evd_var (i := 6) rfl fu12) (evds_cons (evd_var (i := 7) rfl fr) evds_nil))) fun vs H1 e f Q q => by
        obtain ⟨v1, v2, v3, rfl, f1, f2, f3⟩ := f.three
        obtain rfl := f1.adr_of
        exact ⟨pr6, v2, v3, w, t, (k, c), rfl, hL6.mono e, f2, f3, W, Ot, hrm.1, hrm.2, q⟩) fun y8 H13 e13 f13 => ?_
      have len := len_lrides (w := w) (s := t)
      have ht'm : t ∈ fs' := List.mem_of_getElem? ht'
      have stk : ∀ {fs2 : List Sd}, fs2 = addS fs' (ride w t (k, c)) → ∀ r ∈ (lrides w t).take (j + 1), ride w t r ∈ fs2 := fun e r' hr' => by
        rw [List.take_succ, hr] at hr'
        rw [e]
        rcases List.mem_append.mp hr' with z | z
        · exact mem_addS.mpr (.inl (hcl r' z))
        · have z := List.mem_singleton.mp z
          rw [z]
          exact mem_addS.mpr (.inr rfl)
      have F2 := F'.add W (by omega) ht'm hrm.1 hrm.2
      have np3 : pl ≠ p3 := by
        obtain ⟨ex, n3, n4, ne, xs', es', h3', _⟩ := S
        exact (ne_of_none h3' hpl).symm
      have np4 : pl ≠ p4 := by
        obtain ⟨ex, n3, n4, ne, xs', es', h3', f3', nd', _⟩ := S
        exact (ne_of_none nd'.1 hpl).symm
      refine s_if ((S'.mono e13).new (evd_var (i := 8) rfl f13) (evd_var (i := 4) rfl (.adr p4))) (fun hn H14 e14 => ?_) fun hn H14 e14 => ?_
      · have hn : ride w t (k, c) ∉ fs' := of_decide_eq_false (by simpa using hn)
        have ea : addS fs' (ride w t (k, c)) = fs' ++ [ride w t (k, c)] := if_neg hn
        refine SS.put ((S'.mono e13).mono e14) (by omega) hn (fun _ => evd_var (i := 4) rfl (.adr p4)) (fun _ => evd_var (i := 3) rfl (.adr p3)) (f13.mono (Kp.ex e14)) (fun _ z => evd_var (i := 8) rfl z) fun H15 S15 k15 ot => ?_
        refine ⟨⟨_, _, rfl⟩, (k12.trans (Kp.ex (e13.trans e14))).trans k15, ot _ _ np3 np4 (e14 _ _ (e13 _ _ (e12' _ _ h11))), fs' ++ [ride w t (k, c)], ea ▸ F2, by rw [List.length_append, List.length_singleton]; omega, by rw [List.length_append]; omega, ?_, stk ea.symm, S15⟩
        rw [← ea]
        exact addS_get ht'
      · have hn : ride w t (k, c) ∈ fs' := of_decide_eq_true (by simpa using hn)
        have ea : addS fs' (ride w t (k, c)) = fs' := if_pos hn
        exact ⟨⟨_, _, rfl⟩, k12.trans (Kp.ex (e13.trans e14)), e14 _ _ (e13 _ _ (e12' _ _ h11)), fs', F', by omega, hi', ht', stk ea.symm, (S'.mono e13).mono e14⟩
    · obtain ⟨⟨b7, b8, rfl⟩, k11, h11, fs', F', hl', hi', ht', hcl, S'⟩ := P
      refine s_if (et_test (evd_gt (S'.len (evd_var (i := 3) rfl (.adr p3))) (evd_var (i := 2) rfl (.int (300 : Int))))) (fun hb2 H12 e12' => ?_) fun hb2 H12 e12' => ?_
      · exact s_ret evd_non fun v' H13 e13 f13 => kn v' H13 ((S'.ex.trans e12').trans e13) f13
      · have hb2 := of_decide_eq_false hb2
        have hle : ls.length = (lrides w t).length := by rw [f10.len, List.length_map]
        refine ⟨⟨_, _, _, _, rfl⟩, fs', F'.succ ht' fun r hr => hcl r (by rw [hle, List.take_length]; exact hr), by omega, hi', S'.mono e12'⟩
  · obtain ⟨⟨a5, a6, a7, a8, rfl⟩, fs, F, hl, hif, S⟩ := P
    exact fin rfl (F.found hl) hl F.sok S
end
end TR
namespace TR
open PySem L2 PyProof.Rows
section
variable {w : World} {K : PySem.W.Frag} {mg : Str → Option Value} {base : Heap}
theorem ok_l_search (T : Txt K mg) : FnOk PW w K mg base CX0 35 T.l_search.f T.l_search.fd P_l_search (sp_l_search T) :=
  T.l_search.F.ok sc_l_search (fun vs H Q E h => by
    obtain ⟨_, _, _, _, e, _⟩ := h
    rw [e]; rfl) (fun cdv A outer s H vs Q E hr h => ⟨t_l_search w T, d_l_search T (ok_l_ride T) (ok_l_rides T) hr, pure_l_search w T vs H Q E h⟩)
end
end TR
namespace TR
open PySem L2 PyProof.Rows PySem.Calls
theorem kitx_errD {K : PySem.W.Frag} {x D : Addr} {ox : Obj} {od : Option Obj} (C : ExcC K D) : PySem.W.KitX K (.ref x) (.ref D) (fun h => PySem.W.InstAt h x ox D od) where
  ty := fun _ _ _ I => I.type
  it := fun _ _ X _ => by
    obtain ⟨cd, hc, _⟩ := PySem.W.any_some C.hd
    unfold PySem.W.clsIn at hc
    split at hc
    · rename_i c' d' cd' sl' ho
      intro A Q E s k q
      unfold isType loadHead
      exact wpAny_bind (wpAny_loadPart (k _ _ (X _ _ ho)) (wpAny_pure q))
    · cases hc
  ne := fun h tp dd its n sl X htp => by
    obtain ⟨cd, hc, _⟩ := PySem.W.any_some C.hd
    refine Bool.eq_false_iff.mpr fun q => ?_
    have e : D = tp := Value.ref.inj (beq_iff_eq.mp q)
    subst e
    unfold PySem.W.clsIn at hc
    split at hc
    · rename_i c' d' cd' sl' ho
      cases (X _ _ ho).symm.trans htp
    · cases hc
  ca := fun X I k => by
    obtain ⟨cd, hc, _⟩ := PySem.W.any_some C.hd
    exact PySem.W.kx_classE X I C.hg C.hk C.hs (PySem.W.findObj_dataE (by rw [hc]; rfl) C.ha C.hn C.ht) C.hm k
/-- isinstance(e, c), e the caught error at a, of the class D, its dict at d -/
def rIsED (K : PySem.W.Frag) (a : Addr) (cls : Value) (d : Option Addr) (D : Addr) : List V → Hp → VK → Prop := fun xs H Q => cls = .ref D ∧ ∃ (c : V) (cv : Value) (b : Bool) (dd : Addr) (fs : List (Str × V)), d = some dd ∧ H dd = some (.xd fs) ∧ xs = [.ref a, c] ∧ (∀ u, RelV c u → u = cv) ∧ PySem.W.kitOne K (.ref D) cv = some b ∧ Q (.bl b) H
theorem call_isED {X : Cx} {a D : Addr} {oe : Obj} {cls : Value} {d : Option Addr} {pn : List (Addr × Obj)} (C : ExcC X.K D) (hz : Zc cls d oe) (hf : ∃ vs, oe.data = .fields vs) : CallR (X.suite a ((a, oe) :: pn)) (.builtin "isinstance") (rIsED X.K a cls d D) := by
  intro pins s σ H xs us Q I r h
  obtain ⟨ec, c, cv, b, dd, fs, ed, ea, rfl, hcv, e, q⟩ := h
  subst ec ed
  cases r with
  | cons rx rr =>
    cases rr with
    | cons rt rr =>
      cases rr
      cases rx
      have ec := hcv _ rt
      subst ec
      obtain ⟨ha, _⟩ := I.pin (a, oe) (List.mem_append_left _ List.mem_cons_self)
      obtain ⟨vs, hd⟩ := hf
      obtain ⟨mA, hns, hr⟩ := (show ObjOk X.prog X.w H s.heap dd (.xd fs) from I.hok dd _ ea)
      obtain ⟨od, ho, hl⟩ := lookIn_ns hns
      have J : PySem.W.InstAt s.heap a oe D (some od) := ⟨ha, hz.1, by unfold PySem.W.notCls; rw [hd] <;> rfl, by rw [hz.2]; exact ho⟩
      exact PySem.W.kia_one (kitx_errD C) I.kIn J e (fun z => nomatch z) fun tk => ⟨.bl b, H, I.kept (t' := tk) fun _ _ z => z, rfl, q⟩
end TR
namespace TR
open PySem L2 PyProof.Rows PySem.Calls
section
variable {X : Cx} {k : Nat} {f a : Addr} {oe : Obj} {x qual : Str} {st : Stmt} {fd : FuncData} {N ps : List Str} {sp : Sp} {pn : List (Addr × Obj)}
/-- what a def keeps, called while the error at a is handled -/
def FnSu (P : Program) (w : World) (K : PySem.W.Frag) (mg : Str → Option Value) (base : Heap) (k : Nat) (f : Addr) (fd : FuncData) (N ps : List Str) (qual : Str) (st : Stmt) (sp : Sp) : Prop :=
  ∀ (cdv : Value) (A : Around) (outer : List Env) (s : Shared) (H : Hp) (vs : List V) (Q : VK) (E : XK) (a : Addr) (oe : Obj), Room k (A.deeper (envOfC qual (defScope st) s.heap.objs.size f cdv)) → sp vs H Q E →
    ∃ t, PSs ((cxOf CX0 P w K mg base N qual (defScope st) f cdv A outer s H E).suite a [(a, oe)]) (defBody st) t ∧ t { nx := fun _ H' => Q .non H', rt := Q } (start N vs) H
theorem run_su {pins : List (Addr × Obj)} {σ : L2.St} {H : Hp} {s : Shared} {Q : VK} {us : List Value} {vs : List V} (F : Fun X.K x qual st f fd) (S : FnScope N ps (defScope st)) (G : FnSu X.prog X.w X.K X.mg X.base k f fd N ps qual st sp) (hr : Room (k + 1) X.A)
    (hb : Binds X.K fd ps []) (hf : ∃ vs, oe.data = .fields vs) (hl : vs.length = ps.length) (I : Inv (X.suite a ((a, oe) :: pn)) pins σ H s) (r : Vals vs us) (h : sp vs H Q E0) :
    wpAny (model X.prog X.w) (X.suite a ((a, oe) :: pn)).A (call (.ref f) us) (EP (X.suite a ((a, oe) :: pn)) pins σ Q) (X.suite a ((a, oe) :: pn)).xe s := by
  obtain ⟨oc, od, kV, doc, pm, an, cdv, ct, osl, rfl, lk, hcd⟩ := F.ex
  have hlu : us.length = ps.length := by rw [← r.length]; exact hl
  have b := hb s us I.kIn (by rw [List.append_nil]; exact hlu)
  rw [List.append_nil] at b
  have e1 := I.env0
  have P1 := I.pin (a, oe) (List.mem_append_left _ List.mem_cons_self)
  have lim : s.heap.NoLimit := e1.mod.nolimit.keeps fun b o e => (e1.bs b o e).1
  have KX : X.K.In s.heap := I.kIn
  have hkind : ∀ y ∈ ps.zip us, (defScope st).names.lookup y.1 = some .local ∨ ((defScope st).names.lookup y.1 = some .cell ∧ ((cellsFrom (s.heap.objs.size + 1) (defScope st).names []).lookup y.1).isSome = true) := fun ⟨n, v⟩ hy => by
    rcases S.par n (List.of_mem_zip hy).1 with q | q
    · exact .inl q
    · exact .inr ⟨q, PySem.W.cellsFrom_some _ _ _ (.inl q)⟩
  refine wpAny_call (codeAny_mono (R := CR CX0 (X.suite a ((a, oe) :: pn)).stack X.prog X.w H s Q E0) (codeAny_call_function hr.depth (KX _ _ lk) rfl S.co S.gen rfl (PySem.W.codeRec_of KX hcd) (b _ _ _ _ ?_)) fun r s' hq => ?_)
  · refine wpAny_newFunctionEnv_cells S.kind hkind fun env he s1 x => ?_
    subst he
    refine ⟨lim.keeps x.toInCall.keep, codeAny_func ?_⟩
    obtain ⟨t, ht, hq⟩ := G cdv X.A X.stack s H vs Q E0 a oe (hr.deeper _) h
    have e0 : Env0 X.prog X.w X.K X.mg X.base X.A X.stack s H := ⟨e1.frames, e1.mod, e1.bs, e1.bsz, e1.funs, e1.frf, e1.hok, e1.bare⟩
    have I0 : Inv (cxOf CX0 X.prog X.w X.K X.mg X.base N qual (defScope st) f cdv X.A X.stack s H E0) [] (start N vs) H s1 := inv_start S hr.hd e0 hl r x
    obtain ⟨vs', hd⟩ := hf
    have hk : s1.heap.get? a = some oe := by
      obtain ⟨h1, tk, rfl, hk⟩ := x.done
      exact hk _ _ P1.1
    have I1 := I0.suite (a := a) hk hd P1.2.1 (Nat.ne_of_lt (Heap.lt_size P1.1)) (fun hm => (List.mem_cons.mp (I.stkSub a hm)).elim P1.2.2.1 P1.2.2.2.1)
    refine wpAny_mono (ht.run [] s1 (start N vs) H _ I1 hq) (fun fl s' hs => ?_) fun e s' hs => False.elim hs
    have fin : ∀ {σ' : L2.St} {H' : Hp} {v : V} {u : Value}, Inv ((cxOf CX0 X.prog X.w X.K X.mg X.base N qual (defScope st) f cdv X.A X.stack s H E0).suite a [(a, oe)]) [] σ' H' s' → RelV v u → Q v H' → CE X.stack X.prog X.w H s Q u s' :=
      fun {σ' H' v u} J rv q => ⟨v, H', J.os, J.bare, J.base, J.hok, rv, q⟩
    cases fl with
    | ret u =>
      obtain ⟨v, σ', H', J, rv, q⟩ := hs
      exact fin J rv q
    | next =>
      obtain ⟨σ', H', J, q⟩ := hs
      exact fin (v := V.non) (u := Value.none) J rfl q
    | brk =>
      obtain ⟨_, _, _, q⟩ := hs
      exact False.elim q
    | cont =>
      obtain ⟨_, _, _, q⟩ := hs
      exact False.elim q
  · cases r with
    | error e => exact False.elim hq
    | ok fl =>
      cases fl with
      | ret u => exact I.after hq
      | next => exact False.elim hq
      | brk => exact False.elim hq
      | cont => exact False.elim hq
theorem pe_callSu {g : Str} {q pos : Pos} {e : Expr} {es : List Expr} {t : TA} (F : Fun X.K x qual st f fd) (S : FnScope N ps (defScope st)) (G : FnSu X.prog X.w X.K X.mg X.base k f fd N ps qual st sp) (hr : Room (k + 1) X.A) (hb : Binds X.K fd ps []) (hf : ∃ vs, oe.data = .fields vs)
    (len : ∀ vs H Q E, sp vs H Q E → vs.length = ps.length) (hg : Gl (X.suite a ((a, oe) :: pn)) g) (hm : X.mg g = some (.ref f)) (ha : PA (X.suite a ((a, oe) :: pn)) (e :: es) t) (hdb : (g == ("__debug__" : Str)) = false := by decide)
    (he : starEach (e :: es) X.env = (false, eval e X.env) :: starEach es X.env := by rfl) (hpl : (backTo pos (starEach es X.env)).any (·.1) = false := by rfl) :
    PE (X.suite a ((a, oe) :: pn)) (.Call (.Name g q) (e :: es) [] pos) (fun σ H Q => t σ H fun vs H1 => sp vs H1 Q E0) := by
  refine ⟨fun pins s σ H Q I h => ?_⟩
  refine wpAny_Call_Name_kw (ld_glob I hg hm ?_ hdb)
  refine PySem.W.callWith_K (h₀ := X.base) I.ok.mod.kin F.kp (thn (ha.run pos pins s σ H _ I h) fun us s1 ⟨vs, H1, I1, r, q⟩ => ⟨I1.kIn, ?_⟩) he hpl
  exact run_su (X := X) (a := a) (oe := oe) (pn := pn) F S G hr hb hf (len _ _ _ _ q) I1 r q
end
theorem su_l_integer {w : World} {K : PySem.W.Frag} {mg : Str → Option Value} {base : Heap} (T : Txt K mg) : FnSu PW w K mg base 0 T.l_integer.f T.l_integer.fd N_l_integer P_l_integer "_law_integer" s_l_integer (sp_l_integer T) := fun cdv A outer s H vs Q E a oe hr h =>
  ⟨t_l_integer T, (pss_one (ps_ret (pe_and (pe_callB call_isi (by rfl) T.b_isinstance PyProof.Rows.boot_isinstance (pa_cons (pv 0) (pa_cons (pe_bltn (v := .ty "int") (by rfl) T.b_int (by decide +kernel) rfl) pa_nil))) (pe_one (pe_not (pe_callB call_isi (by rfl) T.b_isinstance PyProof.Rows.boot_isinstance (pa_cons (pv 0) (pa_cons (pe_bltn (v := .ty "bool") (by rfl) T.b_bool (by decide +kernel) rfl) pa_nil)))))))), pure_l_integer T vs H Q E h⟩
end TR
namespace TR
open PySem L2 PyProof.Rows

section
variable {K : PySem.W.Frag} {mg : Str → Option Value}
def tCallSu (sp : Sp) (t : TA) : TE := fun σ H Q => t σ H fun vs H1 => sp vs H1 Q E0
def tb_l_visit (T : Txt K mg) (W : WX) : TS := (tAsg (tCallS (sp_visit_row T) (WE W) (tCons (tVar 1) (tCons (tVar 2) tNil))) (gName 4))
def ts_l_visit (T : Txt K mg) (a : Addr) (cls : Value) (d : Option Addr) : TS := (tSeq (tIfS (tOr (tNot (tB (tCB (rIsED K a cls d T.Dead.C) (tCons (tVar 5) (tCons (tC (.ref T.RopeError.C)) tNil))))) (tNot (tB (tCB (rIsED K a cls d T.Dead.C) (tCons (tVar 5) (tCons (tC (.ty "ValueError")) tNil)))))) (tRet (tC (.bl false)))
    tNext)
    (tSeq (tIfS (tOr (tB (tVar 3)) (tB (tCB (rIsED K a cls d T.Dead.C) (tCons (tVar 5) (tCons (tC (.ref T.Still.C)) tNil))))) (tRet (tC (.bl false)))
    tNext)
    (tRet (tAndV (tCallSu (sp_l_integer T) (tCons (tXf a cls d T.Dead.C "station" (tVar 5)) tNil)) (tOp rEq (tXf a cls d T.Dead.C "station" (tVar 5)) (tVar 2))))))
def t_l_visit (T : Txt K mg) : TS := (tSeq (fun D σ H => tb_l_visit T (wAs K (.ref T.Dead.C) 5 (ts_l_visit T) (fun _ _ _ _ => False) D) D σ H)
    (tSeq (tIfS (tOr (tNot (tB (tVar 3))) (tOr (tNot (tB (tCall (sp_l_are_rides T) [] E0 (tCons (tVar 4) (tCons (tOp (rIx K) (tVar 0) (tC (.int 1))) tNil))))) (tTest (tOp kGt (tCB (Evl.rLenS K) (tCons (tVar 4) tNil)) (tOp kMul (tC (.int 3)) (tOp (rIx K) (tVar 0) (tC (.int 0)))))))) (tRet (tC (.bl false)))
    tNext)
    (tSeq (tIfS (tAnd (tTest (tOp (rNeD K) (tVar 4) (tLst tNil))) (tTest (tOp kGt (tOp kAdd (tOp (rIx K) (tOp (rIx K) (tOp (rIx K) (tVar 0) (tC (.int 2))) (tC (.int 0))) (tVar 2)) (tOp (rIx K) (tOp (rIx K) (tOp (rIx K) (tVar 0) (tC (.int 2))) (tC (.int 1))) (tVar 2))) (tC (.int 0))))) (tRet (tC (.bl false)))
    tNext)
    (tSeq (tAsg (tCall (sp_l_end T) [] E0 (tCons (tOp (rIx K) (tVar 0) (tC (.int 1))) (tCons (tOp (rIx K) (tVar 0) (tC (.int 2))) (tCons (tVar 4) tNil)))) (gName 6))
    (tSeq (tIfS (tOr (tTest (tOp kIsN (tVar 6) (tC .non))) (tTest (tOp rEq (tOp kAdd (tOp (rIx K) (tOp (rIx K) (tVar 6) (tC (.int 0))) (tVar 2)) (tOp (rIx K) (tOp (rIx K) (tVar 6) (tC (.int 1))) (tVar 2))) (tC (.int 0))))) (tRet (tC (.bl false)))
    tNext)
    (tSeq (tAsg (tCB (Evl.rListS K) (tCons (tVar 4) tNil)) (gName 7))
    (tSeq (tDrop (tBM K "list" rAppend (tVar 4) (tCons (tTup (tCons (tC (.int 0)) (tCons (tC (.str "red")) tNil))) tNil)))
    (tSeq (tDrop (tBM0 K "list" rReverse (tVar 4)))
    (tRet (tOp (rEqD K) (tCall (sp_visit_row T) [] E0 (tCons (tVar 1) (tCons (tVar 2) tNil))) (tVar 7)))))))))))
def tb_l_run (T : Txt K mg) (W : WX) : TS := (tAsg (tCallS (sp_run_rope T) (WE W) (tCons (tVar 1) (tCons (tVar 2) tNil))) (gName 4))
def ts_l_run (T : Txt K mg) (a : Addr) (cls : Value) (d : Option Addr) : TS := (tSeq (tIfS (tOr (tNot (tB (tCB (rIsED K a cls d T.Still.C) (tCons (tVar 5) (tCons (tC (.ref T.RopeError.C)) tNil))))) (tNot (tB (tCB (rIsED K a cls d T.Still.C) (tCons (tVar 5) (tCons (tC (.ty "ValueError")) tNil)))))) (tRet (tC (.bl false)))
    tNext)
    (tSeq (tIfS (tOr (tB (tVar 3)) (tB (tCB (rIsED K a cls d T.Still.C) (tCons (tVar 5) (tCons (tC (.ref T.Dead.C)) tNil))))) (tRet (tC (.bl false)))
    tNext)
    (tRet (tAndV (tCallSu (sp_l_integer T) (tCons (tXf a cls d T.Still.C "rope" (tVar 5)) tNil)) (tOp rEq (tXf a cls d T.Still.C "rope" (tVar 5)) (tVar 2))))))
def t_l_run (T : Txt K mg) : TS := (tSeq (fun D σ H => tb_l_run T (wAs K (.ref T.Still.C) 5 (ts_l_run T) (fun _ _ _ _ => False) D) D σ H)
    (tSeq (tIfS (tOr (tNot (tB (tVar 3))) (tOr (tNot (tB (tCall (sp_l_are_rides T) [] E0 (tCons (tVar 4) (tCons (tOp (rIx K) (tVar 0) (tC (.int 1))) tNil))))) (tTest (tOp kGt (tCB (Evl.rLenS K) (tCons (tVar 4) tNil)) (tOp kAdd (tOp kMul (tC (.int 3)) (tOp (rIx K) (tVar 0) (tC (.int 0)))) (tC (.int 1))))))) (tRet (tC (.bl false)))
    tNext)
    (tSeq (tIfS (tTest (tOp (rNeD K) (tLc (iRng1 (tCons (tCB (Evl.rLenS K) (tCons (tVar 4) tNil)) tNil)) (gName 7) (tTest (tOp rEq (tOp (rIx K) (tOp (rIx K) (tVar 4) (tVar 7)) (tC (.int 0))) (tVar 2))) (tVar 7) [7]) (tLst (tCons (tOp kSub (tCB (Evl.rLenS K) (tCons (tVar 4) tNil)) (tC (.int 1))) tNil)))) (tRet (tC (.bl false)))
    tNext)
    (tSeq (tIfS (tTest (tOp kIsN (tCall (sp_l_end T) [] E0 (tCons (tOp (rIx K) (tVar 0) (tC (.int 1))) (tCons (tOp (rIx K) (tVar 0) (tC (.int 2))) (tCons (tVar 4) tNil)))) (tC .non))) (tRet (tC (.bl false)))
    tNext)
    (tSeq (tAsg (tCB (Evl.rListS K) (tCons (tVar 4) tNil)) (gName 6))
    (tSeq (tDrop (tBM0 K "list" rClear (tVar 4)))
    (tRet (tOp (rEqD K) (tCall (sp_run_rope T) [] E0 (tCons (tVar 1) (tCons (tVar 2) tNil))) (tVar 6)))))))))
def tb_l_no_station (T : Txt K mg) (W : WX) : TS := (tAsg (tCallS (sp_visit_row T) (WE W) (tCons (tVar 0) (tCons (tVar 1) tNil))) (gName 2))
def ts_l_no_station (T : Txt K mg) (a : Addr) (cls : Value) (d : Option Addr) : TS := (tSeq (tIfS (tOr (tB (tCB (rIsED K a cls d T.NoStation.C) (tCons (tVar 3) (tCons (tC (.ref T.Dead.C)) tNil)))) (tNot (tB (tCB (rIsED K a cls d T.NoStation.C) (tCons (tVar 3) (tCons (tC (.ref T.RopeError.C)) tNil)))))) (tRet (tC (.bl false)))
    tNext)
    (tRet (tAndV (tCallSu (sp_l_integer T) (tCons (tXf a cls d T.NoStation.C "number" (tVar 3)) tNil)) (tOp rEq (tXf a cls d T.NoStation.C "number" (tVar 3)) (tVar 1)))))
def t_l_no_station (T : Txt K mg) : TS := (tSeq (fun D σ H => tb_l_no_station T (wAs K (.ref T.NoStation.C) 3 (ts_l_no_station T) (fun _ _ _ _ => False) D) D σ H)
    (tRet (tAndV (tOp kIsN (tVar 2) (tC .non)) (tC (.bl false)))))
def tb_l_no_rope (T : Txt K mg) (W : WX) : TS := (tAsg (tCallS (sp_run_rope T) (WE W) (tCons (tVar 0) (tCons (tVar 1) tNil))) (gName 2))
def ts_l_no_rope (T : Txt K mg) (a : Addr) (cls : Value) (d : Option Addr) : TS := (tSeq (tIfS (tOr (tB (tCB (rIsED K a cls d T.NoRope.C) (tCons (tVar 3) (tCons (tC (.ref T.Still.C)) tNil)))) (tNot (tB (tCB (rIsED K a cls d T.NoRope.C) (tCons (tVar 3) (tCons (tC (.ref T.RopeError.C)) tNil)))))) (tRet (tC (.bl false)))
    tNext)
    (tRet (tAndV (tCallSu (sp_l_integer T) (tCons (tXf a cls d T.NoRope.C "number" (tVar 3)) tNil)) (tOp rEq (tXf a cls d T.NoRope.C "number" (tVar 3)) (tVar 1)))))
def t_l_no_rope (T : Txt K mg) : TS := (tSeq (fun D σ H => tb_l_no_rope T (wAs K (.ref T.NoRope.C) 3 (ts_l_no_rope T) (fun _ _ _ _ => False) D) D σ H)
    (tRet (tAndV (tOp kIsN (tVar 2) (tC .non)) (tC (.bl false)))))
def t_lawC (T : Txt K mg) : TS := (tSeq (tFor (iSeq K (tLst (tCons (tUn kNeg (tC (.int 1))) (tCons (tOp kSub (tUn kNeg (tC (.int 1))) (tVar 6)) (tCons (tOp (rIx K) (tVar 1) (tC (.int 0))) (tCons (tOp kAdd (tOp (rIx K) (tVar 1) (tC (.int 0))) (tVar 6)) tNil)))))) (gName 7)
    (tIfS (tNot (tB (tCall (sp_l_no_station T) [] E0 (tCons (tVar 3) (tCons (tVar 7) tNil))))) (tRet (tC (.bl false)))
    tNext))
    (tSeq (tFor (iSeq K (tLst (tCons (tUn kNeg (tC (.int 1))) (tCons (tOp kSub (tUn kNeg (tC (.int 1))) (tVar 6)) (tCons (tCB (Evl.rLenS K) (tCons (tOp (rIx K) (tVar 1) (tC (.int 1))) tNil)) (tCons (tOp kAdd (tCB (Evl.rLenS K) (tCons (tOp (rIx K) (tVar 1) (tC (.int 1))) tNil)) (tVar 6)) tNil)))))) (gName 7)
    (tIfS (tNot (tB (tCall (sp_l_no_rope T) [] E0 (tCons (tVar 3) (tCons (tVar 7) tNil))))) (tRet (tC (.bl false)))
    tNext))
    (tSeq (tAsg (tCall (sp_dead_stations T) [] E0 (tCons (tVar 3) tNil)) (gName 8))
    (tSeq (tIfS (tNot (tB (tCall (sp_l_is_list T) [] E0 (tCons (tVar 8) (tCons (tVar 5) tNil))))) (tRet (tC (.bl false)))
    tNext)
    (tSeq (tDrop (tBM K "list" rAppend (tVar 8) (tCons (tOp (rIx K) (tVar 1) (tC (.int 0))) tNil)))
    (tSeq (tDrop (tBM0 K "list" rReverse (tVar 8)))
    (tSeq (tFor (iRng1 (tCons (tOp (rIx K) (tVar 1) (tC (.int 0))) tNil)) (gName 9)
    (tIfS (tNot (tB (tCall (sp_l_visit T) [] E0 (tCons (tVar 1) (tCons (tVar 3) (tCons (tVar 9) (tCons (tOp (rIx K) (tOp (rIx K) (tVar 4) (tC (.int 0))) (tVar 9)) tNil))))))) (tRet (tC (.bl false)))
    tNext))
    (tSeq (tFor (iRng1 (tCons (tCB (Evl.rLenS K) (tCons (tOp (rIx K) (tVar 1) (tC (.int 1))) tNil)) tNil)) (gName 10)
    (tIfS (tNot (tB (tCall (sp_l_run T) [] E0 (tCons (tVar 1) (tCons (tVar 3) (tCons (tVar 10) (tCons (tOp (rIx K) (tOp (rIx K) (tVar 4) (tC (.int 1))) (tVar 10)) tNil))))))) (tRet (tC (.bl false)))
    tNext))
    (tRet (tAndV (tCall (sp_l_is_list T) [] E0 (tCons (tCall (sp_dead_stations T) [] E0 (tCons (tVar 3) tNil)) (tCons (tVar 5) tNil))) (tCall (sp_l_shows T) [] E0 (tCons (tVar 3) (tCons (tOp (rIx K) (tVar 1) (tC (.int 2))) tNil)))))))))))))
def t_lawB (T : Txt K mg) : TS := (tSeq (tAsg (tLc (iRng1 (tCons (tOp (rIx K) (tVar 1) (tC (.int 0))) tNil)) (gName 9) (tNot (tB (tOp (rIx K) (tOp (rIx K) (tVar 4) (tC (.int 0))) (tVar 9)))) (tVar 9) [9]) (gName 5))
    (tSeq (tAsg (tCall (sp_l_take T) [] E0 (tCons (tVar 2) (tCons (tOp kPow (tC (.int 10)) (tC (.int 9))) tNil))) (gName 6))
    (t_lawC T)))
def t_law (T : Txt K mg) : TS := (tSeq (tAsg (tCall (sp_l_world T) [] E0 (tCons (tCall (sp_l_bag T) [] E0 (tCons (tVar 0) (tCons (tC (.int 0)) tNil))) tNil)) (gName 1))
    (tSeq (tAsg (tCall (sp_l_bag T) [] E0 (tCons (tVar 0) (tCons (tC (.int 1)) tNil))) (gName 2))
    (tSeq (tAsg (tCall (sp_l_standing T) [] E0 (tCons (tVar 1) (tCons (tOp (rIx K) (tVar 1) (tC (.int 2))) tNil))) (gName 3))
    (tSeq (tAsg (tCall (sp_l_alive T) [] E0 (tCons (tVar 1) (tCons (tOp (rIx K) (tVar 1) (tC (.int 2))) (tCons (tCall (sp_l_search T) [] E0 (tCons (tVar 1) (tCons (tOp (rIx K) (tVar 1) (tC (.int 2))) (tCons (tC (.int 300)) tNil)))) tNil)))) (gName 4))
    (t_lawB T)))))
end
end TR
namespace TR
open PySem L2 PyProof.Rows

section
variable {w : World} {K : PySem.W.Frag} {mg : Str → Option Value} {base : Heap}
theorem len_l_integer (T : Txt K mg) : ∀ vs H Q E, sp_l_integer T vs H Q E → vs.length = P_l_integer.length := fun vs H Q E h => by
  obtain ⟨_, e, _⟩ := h
  rw [e]; rfl
theorem d_l_visit (T : Txt K mg)
    (G_l_are_rides : FnOk PW w K mg base CX0 2 T.l_are_rides.f T.l_are_rides.fd P_l_are_rides (sp_l_are_rides T))
    (G_l_end : FnOk PW w K mg base CX0 3 T.l_end.f T.l_end.fd P_l_end (sp_l_end T))
    (G_visit_row : FnOk PW w K mg base (L2.CX PW w) 30 T.visit_row.f T.visit_row.fd P_visit_row (sp_visit_row T))
    {cdv : Value} {A : Around} {outer : List Env} {s : Shared} {H : Hp} {E : XK} (hr : Room 35 (A.deeper (envOfC "_law_visit" (defScope s_l_visit) s.heap.objs.size T.l_visit.f cdv))) :
    PSs (cxOf CX0 PW w K mg base N_l_visit "_law_visit" (defScope s_l_visit) T.l_visit.f cdv A outer s H E).nox (defBody s_l_visit) (t_l_visit T) := by
  have sc := sc_l_visit
  exact (pss_cons (ps_try_as (i := 5) (tb := tb_l_visit T) (ts := ts_l_visit T) (Wout := fun _ _ _ _ => False) rfl rfl sc.nd rfl rfl ⟨rfl, by decide, Or.inl T.Dead.g⟩ takes0 (fun W pn xe tk _ => (pss_one (ps_set (i := 4) sc.nd rfl (Or.inl rfl) (pe_callS G_visit_row (hr.mono (by decide)) (by rfl) T.visit_row.g T.visit_row.F.kp T.visit_row.b (fun s => passAt tk s) (pa_cons (pv 1) (pa_cons (pv 2) pa_nil))))))
    (fun a oe cls d pn hz hf => (pss_cons (ps_if (PW.pt (pw_or (pt_not (pt_val (pe_callB (call_isED T.Dead.xc hz hf) (by rfl) T.b_isinstance PyProof.Rows.boot_isinstance (pa_cons (pv 5) (pa_cons (pe_glob (v := .ref T.RopeError.C) (by rfl) T.RopeError.g rfl) pa_nil))))) (pw_or1 (pt_not (pt_val (pe_callB (call_isED T.Dead.xc hz hf) (by rfl) T.b_isinstance PyProof.Rows.boot_isinstance (pa_cons (pv 5) (pa_cons (pe_bltn (v := .ty "ValueError") (by rfl) T.b_ValueError (by decide +kernel) rfl) pa_nil)))))))) (pss_one (ps_ret pe_bl))
    pss_nil)
    (pss_cons (ps_if (PW.pt (pw_or (pt_val (pv 3)) (pw_or1 (pt_val (pe_callB (call_isED T.Dead.xc hz hf) (by rfl) T.b_isinstance PyProof.Rows.boot_isinstance (pa_cons (pv 5) (pa_cons (pe_glob (v := .ref T.Still.C) (by rfl) T.Still.g rfl) pa_nil))))))) (pss_one (ps_ret pe_bl))
    pss_nil)
    (pss_one (ps_ret (pe_and (pe_callSu T.l_integer.F sc_l_integer (su_l_integer T) (hr.mono (by decide)) T.l_integer.b hf (len_l_integer T) (by rfl) T.l_integer.g (pa_cons (pe_xf T.Dead.xf T.Dead.nf hz hf (pv 5)) pa_nil)) (pe_one (pe_cmpR op_eq (pe_xf T.Dead.xf T.Dead.nf hz hf (pv 5)) (pv 2) (nomark _))))))))))
    (pss_cons (ps_if (PW.pt (pw_or (pt_not (pt_val (pv 3))) (pw_or (pt_not (pt_val (pe_call G_l_are_rides (hr.mono (by decide)) (by rfl) T.l_are_rides.g T.l_are_rides.F.kp T.l_are_rides.b .nil pass0 (pa_cons (pv 4) (pa_cons (pe_ix ix_seq (pv 0) pe_int (fun _ _ => rfl)) pa_nil))))) (pw_or1 (pt_cmpR op_gt (pe_callB call_len_seq (by rfl) T.b_len PySem.boot_len (pa_cons (pv 4) pa_nil)) (pe_op op_mul pe_int (pe_ix ix_seq (pv 0) pe_int (fun _ _ => rfl))) (nomark _)))))) (pss_one (ps_ret pe_bl))
    pss_nil)
    (pss_cons (ps_if (PW.pt (pw_and (pt_cmpR (op_neD hr.units) (pv 4) (pe_lst pa_nil) (nomark _)) (pw_and1 (pt_cmpR op_gt (pe_op op_add (pe_ix ix_seq (pe_ix ix_seq (pe_ix ix_seq (pv 0) pe_int (fun _ _ => rfl)) pe_int (fun _ _ => rfl)) (pv 2) (fun _ _ => rfl)) (pe_ix ix_seq (pe_ix ix_seq (pe_ix ix_seq (pv 0) pe_int (fun _ _ => rfl)) pe_int (fun _ _ => rfl)) (pv 2) (fun _ _ => rfl))) pe_int (nomark _))))) (pss_one (ps_ret pe_bl))
    pss_nil)
    (pss_cons (ps_set (i := 6) sc.nd rfl (Or.inl rfl) (pe_call G_l_end (hr.mono (by decide)) (by rfl) T.l_end.g T.l_end.F.kp T.l_end.b .nil pass0 (pa_cons (pe_ix ix_seq (pv 0) pe_int (fun _ _ => rfl)) (pa_cons (pe_ix ix_seq (pv 0) pe_int (fun _ _ => rfl)) (pa_cons (pv 4) pa_nil)))))
    (pss_cons (ps_if (PW.pt (pw_or (pt_cmpR op_isN (pv 6) pe_non (nomark _)) (pw_or1 (pt_cmpR op_eq (pe_op op_add (pe_ix ix_seq (pe_ix ix_seq (pv 6) pe_int (fun _ _ => rfl)) (pv 2) (fun _ _ => rfl)) (pe_ix ix_seq (pe_ix ix_seq (pv 6) pe_int (fun _ _ => rfl)) (pv 2) (fun _ _ => rfl))) pe_int (nomark _))))) (pss_one (ps_ret pe_bl))
    pss_nil)
    (pss_cons (ps_set (i := 7) sc.nd rfl (Or.inl rfl) (pe_callTy call_list_of (by rfl) T.b_list PyProof.Rows.boot_list (pa_cons (pv 4) pa_nil)))
    (pss_cons (ps_expr (pe_bm PySem.F.plainAttrs_list PySem.F.slot_list_append PySem.F.type_list_append mt_append (pv 4) (pa_cons (pe_tup (pa_cons pe_int (pa_cons pe_str pa_nil))) pa_nil)))
    (pss_cons (ps_expr (pe_bm0 PySem.F.plainAttrs_list PySem.F.slot_list_reverse PySem.F.type_list_reverse mt_reverse (pv 4)))
    (pss_one (ps_ret (pe_cmpR (op_eqD hr.units) (pe_call G_visit_row (hr.mono (by decide)) (by rfl) T.visit_row.g T.visit_row.F.kp T.visit_row.b .nil passL (pa_cons (pv 1) (pa_cons (pv 2) pa_nil))) (pv 7) (nomark _))))))))))))
theorem d_l_run (T : Txt K mg)
    (G_l_are_rides : FnOk PW w K mg base CX0 2 T.l_are_rides.f T.l_are_rides.fd P_l_are_rides (sp_l_are_rides T))
    (G_l_end : FnOk PW w K mg base CX0 3 T.l_end.f T.l_end.fd P_l_end (sp_l_end T))
    (G_run_rope : FnOk PW w K mg base (L2.CX PW w) 30 T.run_rope.f T.run_rope.fd P_run_rope (sp_run_rope T))
    {cdv : Value} {A : Around} {outer : List Env} {s : Shared} {H : Hp} {E : XK} (hr : Room 35 (A.deeper (envOfC "_law_run" (defScope s_l_run) s.heap.objs.size T.l_run.f cdv))) :
    PSs (cxOf CX0 PW w K mg base N_l_run "_law_run" (defScope s_l_run) T.l_run.f cdv A outer s H E).nox (defBody s_l_run) (t_l_run T) := by
  have sc := sc_l_run
  exact (pss_cons (ps_try_as (i := 5) (tb := tb_l_run T) (ts := ts_l_run T) (Wout := fun _ _ _ _ => False) rfl rfl sc.nd rfl rfl ⟨rfl, by decide, Or.inl T.Still.g⟩ takes0 (fun W pn xe tk _ => (pss_one (ps_set (i := 4) sc.nd rfl (Or.inr rfl) (pe_callS G_run_rope (hr.mono (by decide)) (by rfl) T.run_rope.g T.run_rope.F.kp T.run_rope.b (fun s => passAt tk s) (pa_cons (pv 1) (pa_cons (pv 2) pa_nil))))))
    (fun a oe cls d pn hz hf => (pss_cons (ps_if (PW.pt (pw_or (pt_not (pt_val (pe_callB (call_isED T.Still.xc hz hf) (by rfl) T.b_isinstance PyProof.Rows.boot_isinstance (pa_cons (pv 5) (pa_cons (pe_glob (v := .ref T.RopeError.C) (by rfl) T.RopeError.g rfl) pa_nil))))) (pw_or1 (pt_not (pt_val (pe_callB (call_isED T.Still.xc hz hf) (by rfl) T.b_isinstance PyProof.Rows.boot_isinstance (pa_cons (pv 5) (pa_cons (pe_bltn (v := .ty "ValueError") (by rfl) T.b_ValueError (by decide +kernel) rfl) pa_nil)))))))) (pss_one (ps_ret pe_bl))
    pss_nil)
    (pss_cons (ps_if (PW.pt (pw_or (pt_val (pv 3)) (pw_or1 (pt_val (pe_callB (call_isED T.Still.xc hz hf) (by rfl) T.b_isinstance PyProof.Rows.boot_isinstance (pa_cons (pv 5) (pa_cons (pe_glob (v := .ref T.Dead.C) (by rfl) T.Dead.g rfl) pa_nil))))))) (pss_one (ps_ret pe_bl))
    pss_nil)
    (pss_one (ps_ret (pe_and (pe_callSu T.l_integer.F sc_l_integer (su_l_integer T) (hr.mono (by decide)) T.l_integer.b hf (len_l_integer T) (by rfl) T.l_integer.g (pa_cons (pe_xf T.Still.xf T.Still.nf hz hf (pv 5)) pa_nil)) (pe_one (pe_cmpR op_eq (pe_xf T.Still.xf T.Still.nf hz hf (pv 5)) (pv 2) (nomark _))))))))))
    (pss_cons (ps_if (PW.pt (pw_or (pt_not (pt_val (pv 3))) (pw_or (pt_not (pt_val (pe_call G_l_are_rides (hr.mono (by decide)) (by rfl) T.l_are_rides.g T.l_are_rides.F.kp T.l_are_rides.b .nil pass0 (pa_cons (pv 4) (pa_cons (pe_ix ix_seq (pv 0) pe_int (fun _ _ => rfl)) pa_nil))))) (pw_or1 (pt_cmpR op_gt (pe_callB call_len_seq (by rfl) T.b_len PySem.boot_len (pa_cons (pv 4) pa_nil)) (pe_op op_add (pe_op op_mul pe_int (pe_ix ix_seq (pv 0) pe_int (fun _ _ => rfl))) pe_int) (nomark _)))))) (pss_one (ps_ret pe_bl))
    pss_nil)
    (pss_cons (ps_if (pt_cmpR (op_neD hr.units) (pe_lc (own := [("_law_k", 7)]) (g := (gName 7)) (tt := (tTest (tOp rEq (tOp (rIx K) (tOp (rIx K) (tVar 4) (tVar 7)) (tC (.int 0))) (tVar 2)))) rfl sc.nd  (pi_range1 (by rfl) T.b_range (pa_cons (pe_callB call_len_seq (by rfl) T.b_len PySem.boot_len (pa_cons (pv 4) pa_nil)) pa_nil)) (blkOk_by (N := N_l_run) (sc := defScope s_l_run) (by decide +kernel)) (fun _ _ _ _ _ => (pg_name (i := 7) sc.nd rfl (Or.inl rfl))) (fun _ _ _ _ _ => (pts_one (pt_cmpR op_eq (pe_ix ix_seq (pe_ix ix_seq (pv 4) (pv 7) (fun _ _ => rfl)) pe_int (fun _ _ => rfl)) (pv 2) (nomark _)))) (fun _ _ _ _ _ => (pv 7))) (pe_lst (pa_cons (pe_op op_sub (pe_callB call_len_seq (by rfl) T.b_len PySem.boot_len (pa_cons (pv 4) pa_nil)) pe_int) pa_nil)) (nomark _)) (pss_one (ps_ret pe_bl))
    pss_nil)
    (pss_cons (ps_if (pt_cmpR op_isN (pe_call G_l_end (hr.mono (by decide)) (by rfl) T.l_end.g T.l_end.F.kp T.l_end.b .nil pass0 (pa_cons (pe_ix ix_seq (pv 0) pe_int (fun _ _ => rfl)) (pa_cons (pe_ix ix_seq (pv 0) pe_int (fun _ _ => rfl)) (pa_cons (pv 4) pa_nil)))) pe_non (nomark _)) (pss_one (ps_ret pe_bl))
    pss_nil)
    (pss_cons (ps_set (i := 6) sc.nd rfl (Or.inl rfl) (pe_callTy call_list_of (by rfl) T.b_list PyProof.Rows.boot_list (pa_cons (pv 4) pa_nil)))
    (pss_cons (ps_expr (pe_bm0 PySem.F.plainAttrs_list PySem.F.slot_list_clear PySem.F.type_list_clear mt_clear (pv 4)))
    (pss_one (ps_ret (pe_cmpR (op_eqD hr.units) (pe_call G_run_rope (hr.mono (by decide)) (by rfl) T.run_rope.g T.run_rope.F.kp T.run_rope.b .nil passL (pa_cons (pv 1) (pa_cons (pv 2) pa_nil))) (pv 6) (nomark _))))))))))
theorem d_l_no_station (T : Txt K mg)
    (G_visit_row : FnOk PW w K mg base (L2.CX PW w) 30 T.visit_row.f T.visit_row.fd P_visit_row (sp_visit_row T))
    {cdv : Value} {A : Around} {outer : List Env} {s : Shared} {H : Hp} {E : XK} (hr : Room 35 (A.deeper (envOfC "_law_no_station" (defScope s_l_no_station) s.heap.objs.size T.l_no_station.f cdv))) :
    PSs (cxOf CX0 PW w K mg base N_l_no_station "_law_no_station" (defScope s_l_no_station) T.l_no_station.f cdv A outer s H E).nox (defBody s_l_no_station) (t_l_no_station T) := by
  have sc := sc_l_no_station
  exact (pss_cons (ps_try_as (i := 3) (tb := tb_l_no_station T) (ts := ts_l_no_station T) (Wout := fun _ _ _ _ => False) rfl rfl sc.nd rfl rfl ⟨rfl, by decide, Or.inl T.NoStation.g⟩ takes0 (fun W pn xe tk _ => (pss_one (ps_set (i := 2) sc.nd rfl (Or.inl rfl) (pe_callS G_visit_row (hr.mono (by decide)) (by rfl) T.visit_row.g T.visit_row.F.kp T.visit_row.b (fun s => passAt tk s) (pa_cons (pv 0) (pa_cons (pv 1) pa_nil))))))
    (fun a oe cls d pn hz hf => (pss_cons (ps_if (PW.pt (pw_or (pt_val (pe_callB (call_isED T.NoStation.xc hz hf) (by rfl) T.b_isinstance PyProof.Rows.boot_isinstance (pa_cons (pv 3) (pa_cons (pe_glob (v := .ref T.Dead.C) (by rfl) T.Dead.g rfl) pa_nil)))) (pw_or1 (pt_not (pt_val (pe_callB (call_isED T.NoStation.xc hz hf) (by rfl) T.b_isinstance PyProof.Rows.boot_isinstance (pa_cons (pv 3) (pa_cons (pe_glob (v := .ref T.RopeError.C) (by rfl) T.RopeError.g rfl) pa_nil)))))))) (pss_one (ps_ret pe_bl))
    pss_nil)
    (pss_one (ps_ret (pe_and (pe_callSu T.l_integer.F sc_l_integer (su_l_integer T) (hr.mono (by decide)) T.l_integer.b hf (len_l_integer T) (by rfl) T.l_integer.g (pa_cons (pe_xf T.NoStation.xf T.NoStation.nf hz hf (pv 3)) pa_nil)) (pe_one (pe_cmpR op_eq (pe_xf T.NoStation.xf T.NoStation.nf hz hf (pv 3)) (pv 1) (nomark _)))))))))
    (pss_one (ps_ret (pe_and (pe_cmpR op_isN (pv 2) pe_non (nomark _)) (pe_one pe_bl)))))
theorem d_l_no_rope (T : Txt K mg)
    (G_run_rope : FnOk PW w K mg base (L2.CX PW w) 30 T.run_rope.f T.run_rope.fd P_run_rope (sp_run_rope T))
    {cdv : Value} {A : Around} {outer : List Env} {s : Shared} {H : Hp} {E : XK} (hr : Room 35 (A.deeper (envOfC "_law_no_rope" (defScope s_l_no_rope) s.heap.objs.size T.l_no_rope.f cdv))) :
    PSs (cxOf CX0 PW w K mg base N_l_no_rope "_law_no_rope" (defScope s_l_no_rope) T.l_no_rope.f cdv A outer s H E).nox (defBody s_l_no_rope) (t_l_no_rope T) := by
  have sc := sc_l_no_rope
  exact (pss_cons (ps_try_as (i := 3) (tb := tb_l_no_rope T) (ts := ts_l_no_rope T) (Wout := fun _ _ _ _ => False) rfl rfl sc.nd rfl rfl ⟨rfl, by decide, Or.inl T.NoRope.g⟩ takes0 (fun W pn xe tk _ => (pss_one (ps_set (i := 2) sc.nd rfl (Or.inl rfl) (pe_callS G_run_rope (hr.mono (by decide)) (by rfl) T.run_rope.g T.run_rope.F.kp T.run_rope.b (fun s => passAt tk s) (pa_cons (pv 0) (pa_cons (pv 1) pa_nil))))))
    (fun a oe cls d pn hz hf => (pss_cons (ps_if (PW.pt (pw_or (pt_val (pe_callB (call_isED T.NoRope.xc hz hf) (by rfl) T.b_isinstance PyProof.Rows.boot_isinstance (pa_cons (pv 3) (pa_cons (pe_glob (v := .ref T.Still.C) (by rfl) T.Still.g rfl) pa_nil)))) (pw_or1 (pt_not (pt_val (pe_callB (call_isED T.NoRope.xc hz hf) (by rfl) T.b_isinstance PyProof.Rows.boot_isinstance (pa_cons (pv 3) (pa_cons (pe_glob (v := .ref T.RopeError.C) (by rfl) T.RopeError.g rfl) pa_nil)))))))) (pss_one (ps_ret pe_bl))
    pss_nil)
    (pss_one (ps_ret (pe_and (pe_callSu T.l_integer.F sc_l_integer (su_l_integer T) (hr.mono (by decide)) T.l_integer.b hf (len_l_integer T) (by rfl) T.l_integer.g (pa_cons (pe_xf T.NoRope.xf T.NoRope.nf hz hf (pv 3)) pa_nil)) (pe_one (pe_cmpR op_eq (pe_xf T.NoRope.xf T.NoRope.nf hz hf (pv 3)) (pv 1) (nomark _)))))))))
    (pss_one (ps_ret (pe_and (pe_cmpR op_isN (pv 2) pe_non (nomark _)) (pe_one pe_bl)))))
theorem d_law (T : Txt K mg)
    (G_l_alive : FnOk PW w K mg base CX0 3 T.l_alive.f T.l_alive.fd P_l_alive (sp_l_alive T))
    (G_l_bag : FnOk PW w K mg base CX0 1 T.l_bag.f T.l_bag.fd P_l_bag (sp_l_bag T))
    (G_l_is_list : FnOk PW w K mg base CX0 2 T.l_is_list.f T.l_is_list.fd P_l_is_list (sp_l_is_list T))
    (G_l_no_rope : FnOk PW w K mg base CX0 36 T.l_no_rope.f T.l_no_rope.fd P_l_no_rope (sp_l_no_rope T))
    (G_l_no_station : FnOk PW w K mg base CX0 36 T.l_no_station.f T.l_no_station.fd P_l_no_station (sp_l_no_station T))
    (G_l_run : FnOk PW w K mg base CX0 36 T.l_run.f T.l_run.fd P_l_run (sp_l_run T))
    (G_l_search : FnOk PW w K mg base CX0 35 T.l_search.f T.l_search.fd P_l_search (sp_l_search T))
    (G_l_shows : FnOk PW w K mg base CX0 2 T.l_shows.f T.l_shows.fd P_l_shows (sp_l_shows T))
    (G_l_standing : FnOk PW w K mg base CX0 4 T.l_standing.f T.l_standing.fd P_l_standing (sp_l_standing T))
    (G_l_take : FnOk PW w K mg base CX0 1 T.l_take.f T.l_take.fd P_l_take (sp_l_take T))
    (G_l_visit : FnOk PW w K mg base CX0 36 T.l_visit.f T.l_visit.fd P_l_visit (sp_l_visit T))
    (G_l_world : FnOk PW w K mg base CX0 4 T.l_world.f T.l_world.fd P_l_world (sp_l_world T))
    (G_dead_stations : FnOk PW w K mg base CX0 6 T.dead_stations.f T.dead_stations.fd P_dead_stations (sp_dead_stations T))
    {cdv : Value} {A : Around} {outer : List Env} {s : Shared} {H : Hp} {E : XK} (hr : Room 40 (A.deeper (envOfC "law" (defScope s_law) s.heap.objs.size T.law.f cdv))) :
    PSs (cxOf CX0 PW w K mg base N_law "law" (defScope s_law) T.law.f cdv A outer s H E).nox (defBody s_law) (t_law T) := by
  have sc := sc_law
  exact (pss_cons (ps_set (i := 1) sc.nd rfl (Or.inl rfl) (pe_call G_l_world (hr.mono (by decide)) (by rfl) T.l_world.g T.l_world.F.kp T.l_world.b .nil pass0 (pa_cons (pe_call G_l_bag (hr.mono (by decide)) (by rfl) T.l_bag.g T.l_bag.F.kp T.l_bag.b .nil pass0 (pa_cons (pv 0) (pa_cons pe_int pa_nil))) pa_nil)))
    (pss_cons (ps_set (i := 2) sc.nd rfl (Or.inl rfl) (pe_call G_l_bag (hr.mono (by decide)) (by rfl) T.l_bag.g T.l_bag.F.kp T.l_bag.b .nil pass0 (pa_cons (pv 0) (pa_cons pe_int pa_nil))))
    (pss_cons (ps_set (i := 3) sc.nd rfl (Or.inl rfl) (pe_call G_l_standing (hr.mono (by decide)) (by rfl) T.l_standing.g T.l_standing.F.kp T.l_standing.b .nil pass0 (pa_cons (pv 1) (pa_cons (pe_ix ix_seq (pv 1) pe_int (fun _ _ => rfl)) pa_nil))))
    (pss_cons (ps_set (i := 4) sc.nd rfl (Or.inr rfl) (pe_call G_l_alive (hr.mono (by decide)) (by rfl) T.l_alive.g T.l_alive.F.kp T.l_alive.b .nil pass0 (pa_cons (pv 1) (pa_cons (pe_ix ix_seq (pv 1) pe_int (fun _ _ => rfl)) (pa_cons (pe_call G_l_search (hr.mono (by decide)) (by rfl) T.l_search.g T.l_search.F.kp T.l_search.b .nil pass0 (pa_cons (pv 1) (pa_cons (pe_ix ix_seq (pv 1) pe_int (fun _ _ => rfl)) (pa_cons pe_int pa_nil)))) pa_nil)))))
    (pss_cons (ps_setLc (i := 5) (own := [("_law_at", 9)]) (g := (gName 9)) (tt := (tNot (tB (tOp (rIx K) (tOp (rIx K) (tVar 4) (tC (.int 0))) (tVar 9))))) rfl sc.nd rfl rfl (sw_true rfl rfl rfl (by decide +kernel)) (pi_range1 (by rfl) T.b_range (pa_cons (pe_ix ix_seq (pv 1) pe_int (fun _ _ => rfl)) pa_nil)) (blkOk_by (N := N_law) (sc := defScope s_law) (by decide +kernel)) (fun _ _ _ _ _ => (pg_name (i := 9) sc.nd rfl (Or.inl rfl))) (fun _ _ _ _ _ => (pts_one (pt_not (pt_val (pe_ix ix_seq (pe_ix ix_seq (pv 4) pe_int (fun _ _ => rfl)) (pv 9) (fun _ _ => rfl)))))) (fun _ _ _ _ _ => (pv 9)))
    (pss_cons (ps_set (i := 6) sc.nd rfl (Or.inl rfl) (pe_call G_l_take (hr.mono (by decide)) (by rfl) T.l_take.g T.l_take.F.kp T.l_take.b .nil pass0 (pa_cons (pv 2) (pa_cons (pe_op op_pow pe_int pe_int) pa_nil))))
    (pss_cons (ps_for PassesOwn.never rfl (pi_seq (pe_lst (pa_cons (pe_un un_neg pe_int) (pa_cons (pe_op op_sub (pe_un un_neg pe_int) (pv 6)) (pa_cons (pe_ix ix_seq (pv 1) pe_int (fun _ _ => rfl)) (pa_cons (pe_op op_add (pe_ix ix_seq (pv 1) pe_int (fun _ _ => rfl)) (pv 6)) pa_nil)))))) (pg_name (i := 7) sc.nd rfl (Or.inl rfl))
    (pss_one (ps_if (pt_not (pt_val (pe_call G_l_no_station (hr.mono (by decide)) (by rfl) T.l_no_station.g T.l_no_station.F.kp T.l_no_station.b .nil pass0 (pa_cons (pv 3) (pa_cons (pv 7) pa_nil))))) (pss_one (ps_ret pe_bl))
    pss_nil)))
    (pss_cons (ps_for PassesOwn.never rfl (pi_seq (pe_lst (pa_cons (pe_un un_neg pe_int) (pa_cons (pe_op op_sub (pe_un un_neg pe_int) (pv 6)) (pa_cons (pe_callB call_len_seq (by rfl) T.b_len PySem.boot_len (pa_cons (pe_ix ix_seq (pv 1) pe_int (fun _ _ => rfl)) pa_nil)) (pa_cons (pe_op op_add (pe_callB call_len_seq (by rfl) T.b_len PySem.boot_len (pa_cons (pe_ix ix_seq (pv 1) pe_int (fun _ _ => rfl)) pa_nil)) (pv 6)) pa_nil)))))) (pg_name (i := 7) sc.nd rfl (Or.inl rfl))
    (pss_one (ps_if (pt_not (pt_val (pe_call G_l_no_rope (hr.mono (by decide)) (by rfl) T.l_no_rope.g T.l_no_rope.F.kp T.l_no_rope.b .nil pass0 (pa_cons (pv 3) (pa_cons (pv 7) pa_nil))))) (pss_one (ps_ret pe_bl))
    pss_nil)))
    (pss_cons (ps_set (i := 8) sc.nd rfl (Or.inl rfl) (pe_call G_dead_stations (hr.mono (by decide)) (by rfl) T.dead_stations.g T.dead_stations.F.kp T.dead_stations.b .nil pass0 (pa_cons (pv 3) pa_nil)))
    (pss_cons (ps_if (pt_not (pt_val (pe_call G_l_is_list (hr.mono (by decide)) (by rfl) T.l_is_list.g T.l_is_list.F.kp T.l_is_list.b .nil pass0 (pa_cons (pv 8) (pa_cons (pv 5) pa_nil))))) (pss_one (ps_ret pe_bl))
    pss_nil)
    (pss_cons (ps_expr (pe_bm PySem.F.plainAttrs_list PySem.F.slot_list_append PySem.F.type_list_append mt_append (pv 8) (pa_cons (pe_ix ix_seq (pv 1) pe_int (fun _ _ => rfl)) pa_nil)))
    (pss_cons (ps_expr (pe_bm0 PySem.F.plainAttrs_list PySem.F.slot_list_reverse PySem.F.type_list_reverse mt_reverse (pv 8)))
    (pss_cons (ps_for PassesOwn.never rfl (pi_range1 (by rfl) T.b_range (pa_cons (pe_ix ix_seq (pv 1) pe_int (fun _ _ => rfl)) pa_nil)) (pg_name (i := 9) sc.nd rfl (Or.inl rfl))
    (pss_one (ps_if (pt_not (pt_val (pe_call G_l_visit (hr.mono (by decide)) (by rfl) T.l_visit.g T.l_visit.F.kp T.l_visit.b .nil pass0 (pa_cons (pv 1) (pa_cons (pv 3) (pa_cons (pv 9) (pa_cons (pe_ix ix_seq (pe_ix ix_seq (pv 4) pe_int (fun _ _ => rfl)) (pv 9) (fun _ _ => rfl)) pa_nil))))))) (pss_one (ps_ret pe_bl))
    pss_nil)))
    (pss_cons (ps_for PassesOwn.never rfl (pi_range1 (by rfl) T.b_range (pa_cons (pe_callB call_len_seq (by rfl) T.b_len PySem.boot_len (pa_cons (pe_ix ix_seq (pv 1) pe_int (fun _ _ => rfl)) pa_nil)) pa_nil)) (pg_name (i := 10) sc.nd rfl (Or.inl rfl))
    (pss_one (ps_if (pt_not (pt_val (pe_call G_l_run (hr.mono (by decide)) (by rfl) T.l_run.g T.l_run.F.kp T.l_run.b .nil pass0 (pa_cons (pv 1) (pa_cons (pv 3) (pa_cons (pv 10) (pa_cons (pe_ix ix_seq (pe_ix ix_seq (pv 4) pe_int (fun _ _ => rfl)) (pv 10) (fun _ _ => rfl)) pa_nil))))))) (pss_one (ps_ret pe_bl))
    pss_nil)))
    (pss_one (ps_ret (pe_and (pe_call G_l_is_list (hr.mono (by decide)) (by rfl) T.l_is_list.g T.l_is_list.F.kp T.l_is_list.b .nil pass0 (pa_cons (pe_call G_dead_stations (hr.mono (by decide)) (by rfl) T.dead_stations.g T.dead_stations.F.kp T.dead_stations.b .nil pass0 (pa_cons (pv 3) pa_nil)) (pa_cons (pv 5) pa_nil))) (pe_one (pe_call G_l_shows (hr.mono (by decide)) (by rfl) T.l_shows.g T.l_shows.F.kp T.l_shows.b .nil pass0 (pa_cons (pv 3) (pa_cons (pe_ix ix_seq (pv 1) pe_int (fun _ _ => rfl)) pa_nil)))))))))))))))))))))
end
end TR
namespace TR
open PySem L2 PyProof.Rows
open Evl (Ex EvT fresh_back)
local macro_rules | `(tactic| walk_at "h") => `(tactic| first
  | assumption
  | (refine Ex.at (by assumption) ?_; walk_at "h")
  | (refine Kp.at (by assumption) ?_; walk_at "h")
  | (refine Fz.mono (Kp.ex (by assumption)) ?_; walk_at "h")
  | (refine Fz.mono (by assumption) ?_; walk_at "h")
  | (refine FzL.mono (Kp.ex (by assumption)) ?_; walk_at "h")
  | (refine FzL.mono (by assumption) ?_; walk_at "h")
  | (refine NetAt.mono (Kp.ex (by assumption)) ?_; walk_at "h")
  | (refine NetAt.mono (by assumption) ?_; walk_at "h")
  | (refine StaA.mono (Kp.ex (by assumption)) ?_; walk_at "h")
  | (refine StaA.mono (by assumption) ?_; walk_at "h")
  | (refine Sta.mono (Kp.ex (by assumption)) ?_; walk_at "h")
  | (refine Sta.mono (by assumption) ?_; walk_at "h")
  | (refine Lst.mono (by assumption) ?_; walk_at "h")
  | (refine Seq.mono (by assumption) ?_; walk_at "h"))
local macro_rules | `(tactic| walk_at "fz") => `(tactic| first
  | exact Fz.int _ | exact Fz.bl _ | exact Fz.str _ | exact Fz.non
  | walk_at "h"
  | exact Fz.adr _)
local macro_rules | `(tactic| walk_at "ix") => `(tactic| first
  | exact rfl
  | (refine atI_nat ?_; first | assumption | rfl | (simp; done)))
local macro_rules | `(tactic| walk_at "ev") => `(tactic| first
  | exact evd_int | exact evd_str | exact evd_bl | exact evd_non
  | (refine evd_var rfl ?_; walk_at "fz")
  | (refine evd_stations ?_ ?_; (walk_at "h"); (walk_at "ev"))
  | (refine evd_ropes ?_ ?_; (walk_at "h"); (walk_at "ev"))
  | (refine evd_net ?_ ?_; (walk_at "h"); (walk_at "ev"))
  | (refine evd_reds ?_ ?_; (walk_at "h"); (walk_at "ev"))
  | (refine evd_blues ?_ ?_; (walk_at "h"); (walk_at "ev"))
  | (refine evd_cars ?_ ?_; (walk_at "h"); (walk_at "ev"))
  | (refine evd_add ?_ ?_; (walk_at "ev"); (walk_at "ev"))
  | (refine evd_sub ?_ ?_; (walk_at "ev"); (walk_at "ev"))
  | (refine evd_lt ?_ ?_; (walk_at "ev"); (walk_at "ev"))
  | (refine evd_le ?_ ?_; (walk_at "ev"); (walk_at "ev"))
  | (refine evd_gt ?_ ?_; (walk_at "ev"); (walk_at "ev"))
  | (refine evd_ge ?_ ?_; (walk_at "ev"); (walk_at "ev"))
  | (refine evd_neg ?_; (walk_at "ev"))
  | (refine evd_eqI ?_ ?_; (walk_at "ev"); (walk_at "ev"))
  | (refine evd_neI ?_ ?_; (walk_at "ev"); (walk_at "ev"))
  | (refine evd_eqS ?_ ?_; (walk_at "ev"); (walk_at "ev"))
  | (refine evd_eqB ?_ ?_; (walk_at "ev"); (walk_at "ev"))
  | (refine evd_neB ?_ ?_; (walk_at "ev"); (walk_at "ev"))
  | (refine evd_isN ?_ ?_; (walk_at "ev"); exact rfl)
  | (refine evd_notN ?_ ?_; (walk_at "ev"); exact rfl)
  | (refine evd_ixT ?_ ?_ ?_; (walk_at "ev"); (walk_at "ev"); (walk_at "ix"))
  | (refine evd_ixL ?_ ?_ ?_ ?_ ?_; (walk_at "ev"); (walk_at "h"); (walk_at "h"); (walk_at "ev"); (walk_at "ix"))
  | (refine evd_tup ?_ ?_; (walk_at "evs"); exact Nat.le_of_ble_eq_true rfl)
  | (refine evd_lenD ?_; walk_at "ev")
  | (refine evd_lenL ?_ ?_; (walk_at "ev"); (walk_at "h"))
  | (refine evd_intI ?_; walk_at "ev")
  | (refine evd_intB ?_; walk_at "ev")
  | (refine evd_notV ?_; walk_at "ev"))
local macro_rules | `(tactic| walk_at "evs") => `(tactic| first
  | exact evds_nil
  | (refine evds_cons ?_ ?_; (walk_at "ev"); (walk_at "evs")))
local macro_rules | `(tactic| walk_at "et") => `(tactic| first
  | (refine et_test ?_; walk_at "ev")
  | (refine et_B ?_; walk_at "ev")
  | (refine et_tru ?_ ?_; (walk_at "ev"); (walk_at "h"))
  | (refine Evl.et_not ?_; walk_at "et")
  | (refine et_chain2 ?_ ?_ ?_; (walk_at "ev"); (walk_at "ev"); (walk_at "ev")))
theorem log_small {n : Nat} (h : n ≤ 100000) : ((n : Int)).natAbs.log2 < 1920 := by
  rw [Int.natAbs_natCast]
  rcases Nat.eq_zero_or_pos n with rfl | h0
  · decide
  · exact (Nat.log2_lt (by omega)).mpr (Nat.lt_of_le_of_lt h (by decide +kernel))
theorem eqv_rides : ∀ {l m : List Ride}, PyData.eqvAll (l.map pRide) (m.map pRide) = decide (l = m)
  | [], [] => rfl
  | [], _ :: _ => rfl
  | _ :: _, [] => rfl
  | a :: l, b :: m => by
    show (PyData.eqv (pRide a) (pRide b) && PyData.eqvAll (l.map pRide) (m.map pRide)) = _
    rw [eqv_ride, eqv_rides, Bool.eq_iff_iff, Bool.and_eq_true, decide_eq_true_iff, decide_eq_true_iff, decide_eq_true_iff, List.cons.injEq]
section
variable {K : PySem.W.Frag} {mg : Str → Option Value} {σ : L2.St} {H : Hp} {te ta tb tc tv tx : TE} {tr : TA} {ds es fs : List D} {d d1 d2 : D} {E : Ends} {tz : TS}
theorem callS {sp : Sp} {X : L2.St → XK} {Q : VK} (h : EvDs tr σ H ds) (hf : ds.all D.flat = true) (k : ∀ H1, Ex H H1 → sp (ds.map D.v) H1 Q (X σ)) : tCallS sp X tr σ H Q :=
  h H (Ex.refl _) _ fun vs H1 e f => by
    rw [f.flat_of hf]
    exact k H1 e
/-- isinstance of the caught error -/
theorem evd_isE {a dd D : Addr} {c : V} {cv : Value} {b : Bool} {fs : List (Str × V)} (ha : EvD ta σ H (.adr a)) (hd : H dd = some (.xd fs)) (hc : ∀ u, RelV c u → u = cv) (hk : PySem.W.kitOne K (.ref D) cv = some b) :
    EvD (tCB (rIsED K a (.ref D) (some dd) D) (tCons ta (tCons (tC c) tNil))) σ H (.bl b) := fun H1 e Q q => ha H1 e _ fun v H2 e2 fv => by
  rw [fv.adr_of]
  exact ⟨rfl, c, cv, b, dd, fs, rfl, (e.trans e2) _ _ hd, rfl, hc, hk, q _ H2 e2 (.bl _)⟩
theorem evd_isEr {a dd D D' : Addr} {b : Bool} {fs : List (Str × V)} (ha : EvD ta σ H (.adr a)) (hd : H dd = some (.xd fs)) (hk : PySem.W.kitOne K (.ref D) (.ref D') = some b) :
    EvD (tCB (rIsED K a (.ref D) (some dd) D) (tCons ta (tCons (tC (.ref D')) tNil))) σ H (.bl b) := evd_isE (c := .ref D') (cv := .ref D') ha hd (fun u h => h) hk
theorem evd_isEt {a dd D : Addr} {n : String} {b : Bool} {fs : List (Str × V)} (ha : EvD ta σ H (.adr a)) (hd : H dd = some (.xd fs)) (hk : PySem.W.kitOne K (.ref D) (.type n) = some b) :
    EvD (tCB (rIsED K a (.ref D) (some dd) D) (tCons ta (tCons (tC (.ty n)) tNil))) σ H (.bl b) := evd_isE (c := .ty n) (cv := .type n) ha hd (fun u h => h) hk
/-- its field -/
theorem evd_xf {a dd D : Addr} {f : Str} {i : Int} (ha : EvD ta σ H (.adr a)) (hd : H dd = some (.xd [(f, .int i)])) : EvD (tXf a (.ref D) (some dd) D f ta) σ H (.int i) := fun H1 e Q q => ha H1 e _ fun v H2 e2 fv =>
  ⟨fv.adr_of, rfl, dd, _, _, rfl, (e.trans e2) _ _ hd, by simp [List.lookup], q _ H2 e2 (.int _)⟩
theorem evd_liSu {T : Txt K mg} {i : Int} (ha : EvD ta σ H (.int i)) : EvD (tCallSu (sp_l_integer T) (tCons ta tNil)) σ H (.bl true) := fun H1 e Q q => ha H1 e _ fun v H2 e2 fv =>
  ⟨i, by rw [fv.int_of], fun v' H3 e3 f3 => q v' H3 (e2.trans e3) f3⟩
/-- the end of each suite: the field is an integer and is the one asked -/
theorem s_suite {T : Txt K mg} {a dd D : Addr} {f : Str} {i : Int} {Q : VK} (ha : EvD ta σ H (.adr a)) (hd : H dd = some (.xd [(f, .int i)])) (hb : EvD tb σ H (.int i)) (hE : E.rt = Q) (k : RetD (.bl true) H Q) :
    tRet (tAndV (tCallSu (sp_l_integer T) (tCons (tXf a (.ref D) (some dd) D f ta) tNil)) (tOp rEq (tXf a (.ref D) (some dd) D f ta) tb)) E σ H := by
  refine s_ret (EvD.eq (evd_andV (a := true) (evd_liSu (evd_xf ha hd)) fun _ => evd_eqI (evd_xf ha hd) hb) (show _ = TR.D.bl true by simp)) fun v H1 e1 f1 => ?_
  rw [hE]
  exact k v H1 e1 f1
theorem RetD.mono {Q : VK} {H1 : Hp} (k : RetD d H Q) (e : Ex H H1) : RetD d H1 Q := fun v H2 e2 f => k v H2 (e.trans e2) f
theorem pure_l_no_station (T : Txt K mg) (vs : List V) (H : Hp) (Q : VK) (E : XK) (h : sp_l_no_station T vs H Q E) : Goes (t_l_no_station T) N_l_no_station vs H Q := by
  obtain ⟨a, i, w, s, rfl, S, hi, hno, k⟩ := h
  refine callS (evds_cons (evd_var (i := 0) rfl (.adr a)) (evds_cons (evd_var (i := 1) rfl (.int i)) evds_nil)) rfl fun H1 e1 => ⟨a, w, s, i, rfl, S.mono (Kp.ex e1), hi, fun _ dd H2 e2 hd => ?_, fun x hx hix => absurd (by omega) hno⟩
  refine ⟨true, T.NoStation.em, fun _ b hb => ?_, fun z => by cases z⟩
  have e3 : Ex H2 (upd H2 dd (.xd [("number", .int i)])) := Ex.new hd
  have hx : (upd H2 dd (.xd [("number", .int i)])) dd = some (.xd [("number", .int i)]) := upd_same
  refine q_if (b := false) (Evl.et_is (Evl.et_or (et_B (evd_isEr (evd_var (i := 3) rfl (.adr b)) hx T.k_NoStation_Dead)) fun _ => Evl.et_not (et_B (evd_isEr (evd_var (i := 3) rfl (.adr b)) hx T.k_NoStation_RopeError))) rfl) (fun z => by cases z) fun _ H4 e4 => ?_
  exact s_suite (evd_var (i := 3) rfl (.adr b)) (e4 _ _ hx) (evd_var (i := 1) rfl (.int i)) rfl (k.mono (((e1.trans e2).trans e3).trans e4))
theorem pure_l_no_rope (T : Txt K mg) (vs : List V) (H : Hp) (Q : VK) (E : XK) (h : sp_l_no_rope T vs H Q E) : Goes (t_l_no_rope T) N_l_no_rope vs H Q := by
  obtain ⟨a, i, w, s, rfl, S, hi, hno, k⟩ := h
  refine callS (evds_cons (evd_var (i := 0) rfl (.adr a)) (evds_cons (evd_var (i := 1) rfl (.int i)) evds_nil)) rfl fun H1 e1 => ⟨a, w, s, i, rfl, S.mono (Kp.ex e1), hi, fun _ dd H2 e2 hd => ?_, fun x hx hix => absurd (by omega) hno⟩
  refine ⟨true, T.NoRope.em, fun _ b hb => ?_, fun z => by cases z⟩
  have e3 : Ex H2 (upd H2 dd (.xd [("number", .int i)])) := Ex.new hd
  have hx : (upd H2 dd (.xd [("number", .int i)])) dd = some (.xd [("number", .int i)]) := upd_same
  refine q_if (b := false) (Evl.et_is (Evl.et_or (et_B (evd_isEr (evd_var (i := 3) rfl (.adr b)) hx T.k_NoRope_Still)) fun _ => Evl.et_not (et_B (evd_isEr (evd_var (i := 3) rfl (.adr b)) hx T.k_NoRope_RopeError))) rfl) (fun z => by cases z) fun _ H4 e4 => ?_
  exact s_suite (evd_var (i := 3) rfl (.adr b)) (e4 _ _ hx) (evd_var (i := 1) rfl (.int i)) rfl (k.mono (((e1.trans e2).trans e3).trans e4))
theorem evd_areRides {T : Txt K mg} {p q : Addr} {w : Wd} {rs : List Ride} (ha : EvD ta σ H (.adr p)) (hb : EvD tb σ H (.adr q)) (h1 : Lst H p (rs.map dRide)) (h2 : Lst H q (w.rs.map dPair)) (hr : ∀ r ∈ rs, r.1 < w.rs.length) :
    EvD (tCall (sp_l_are_rides T) [] E0 (tCons ta (tCons tb tNil))) σ H (.bl true) :=
  evd_callF (evds_cons ha (evds_cons hb evds_nil)) rfl fun H1 e Q q' => ⟨p, q, w, rs, rfl, h1.mono e, h2.mono e, hr, q'⟩
theorem evd_lend {T : Txt K mg} {p q : Addr} {w : Wd} {s : Sd} {rs : List Ride} (ha : EvD ta σ H (.adr p)) (hb : EvD tb σ H (dSt s)) (hc : EvD tc σ H (.adr q)) (h1 : Lst H p (w.rs.map dPair)) (h2 : Lst H q (rs.map dRide)) (W : WOk w) (O : SOk w s) (ok : Ok w s rs) :
    EvD (tCall (sp_l_end T) [] E0 (tCons ta (tCons tb (tCons tc tNil)))) σ H (dSt (rideAll w s rs)) :=
  evd_callD (evds_cons ha (evds_cons hb (evds_cons hc evds_nil))) fun vs H1 e f Q q' => by
    obtain ⟨v1, v2, v3, rfl, f1, f2, f3⟩ := f.three
    obtain rfl := f1.adr_of
    obtain rfl := f3.adr_of
    exact ⟨p, q, v2, w, s, rs, rfl, h1.mono e, f2, h2.mono e, W, O, ok, q'⟩
theorem evd_isNT (ha : EvD ta σ H (.tup ds)) : EvD (tOp kIsN ta (tC .non)) σ H (.bl false) := fun H1 e Q q => ha H1 e _ fun v H2 e2 fv => by
  obtain ⟨a, xs, rfl, _, _⟩ := fv.tup_of
  refine ⟨rfl, ?_⟩
  rw [decide_eq_false (fun h => by cases h)]
  exact q _ H2 e2 (.bl _)
/-- rides != [] -/
theorem et_neNil {p : Addr} {rs : List Ride} (ha : EvD ta σ H (.adr p)) (hL : Lst H p (rs.map dRide)) : EvT (tTest (tOp (rNeD K) ta (tLst tNil))) σ H (!decide (rs = [])) := fun H1 e Q q =>
  ha H1 e _ fun v H2 e2 fv => (evn_lst evds_nil (Nat.le_of_ble_eq_true rfl)) H2 (e.trans e2) _ fun r vs H3 hr e3 h3 f3 => by
    cases f3
    obtain ⟨us, hp, fp⟩ := hL
    have e13 := (e.trans e2).trans e3
    rw [fv.adr_of]
    refine ⟨.list (rs.map pRide), .list [], dp_rides (e13 _ _ hp) (fp.mono (Kp.ex e13)), .lst (SqL.of h3) .nil, shaped_rides, rfl, ?_⟩
    refine ⟨_, rfl, ?_⟩
    have z : PyData.eqv (.list (rs.map pRide)) (.list []) = decide (rs = []) := eqv_rides (m := [])
    rw [z]
    exact q H3 (e2.trans e3)
theorem Ok_ropes {w : Wd} : ∀ {rs : List Ride} {s : Sd}, Ok w s rs → ∀ r ∈ rs, r.1 < w.rs.length
  | [], _, _ => fun r h => by cases h
  | a :: l, s, h => fun r hr => by
    rcases List.mem_cons.mp hr with rfl | hr
    · exact h.1
    · exact Ok_ropes h.2.2 r hr
/-- the second call, and what was kept -/
theorem s_again {p q : Addr} {rs : List Ride} {xs us : List V} {Q : VK} (hp : H p = none → True) (hq : H q = some (.lst us)) (fq : FzL H us (rs.map dRide)) (hv : EvD tv σ H (.adr q)) (hE : E.rt = Q)
    (hc : EvN te σ H (rs.map dRide)) (k : RetD (.bl true) H Q) : tRet (tOp (rEqD K) te tv) E σ H := by
  refine hc H (Ex.refl _) _ fun r vs H1 hr e1 h1 f1 => hv H1 e1 _ fun v H2 e2 fv => ?_
  rw [fv.adr_of, hE]
  have e12 := e1.trans e2
  refine ⟨.list (rs.map pRide), .list (rs.map pRide), dp_rides (e2 _ _ h1) (f1.mono (Kp.ex e2)), dp_rides (e12 _ _ hq) (fq.mono (Kp.ex e12)), shaped_rides, shaped_rides, ?_⟩
  have z : PyData.eqv (.list (rs.map pRide)) (.list (rs.map pRide)) = true := (eqv_rides (l := rs) (m := rs)).trans (decide_eq_true rfl)
  rw [z]
  exact k _ H2 e12 (.bl _)
theorem evn_visit {T : Txt K mg} {a : Addr} {w : Wd} {s : Sd} {x : Nat} {rs : List Ride} (S : Sta T H a w s) (ha : EvD ta σ H (.adr a)) (hb : EvD tb σ H (dn x)) (hx : x < w.n) (hn : w.n ≤ 24) (h : visitF w s x = some rs) :
    EvN (tCall (sp_visit_row T) [] E0 (tCons ta (tCons tb tNil))) σ H (rs.map dRide) :=
  evn_callF (evds_cons ha (evds_cons hb evds_nil)) rfl fun H1 e Q q => ⟨a, w, s, x, rfl, S.mono (Kp.ex e), log_small (by omega), fun hin => absurd ⟨by omega, by omega⟩ hin, fun y hy hxy => by
    have hxy : x = y := by omega
    subst hxy
    refine ⟨fun hn => absurd (h.symm.trans hn) (by simp), fun rs' hrs' => ?_⟩
    cases h.symm.trans hrs'
    exact q⟩
theorem evn_run {T : Txt K mg} {a : Addr} {w : Wd} {s : Sd} {x : Nat} {rs : List Ride} (S : Sta T H a w s) (ha : EvD ta σ H (.adr a)) (hb : EvD tb σ H (dn x)) (hx : x < w.rs.length) (hn : w.rs.length ≤ 40) (h : runF w s x = some rs) :
    EvN (tCall (sp_run_rope T) [] E0 (tCons ta (tCons tb tNil))) σ H (rs.map dRide) :=
  evn_callF (evds_cons ha (evds_cons hb evds_nil)) rfl fun H1 e Q q => ⟨a, w, s, x, rfl, S.mono (Kp.ex e), log_small (by omega), fun hin => absurd ⟨by omega, by omega⟩ hin, fun y hy hxy => by
    have hxy : x = y := by omega
    subst hxy
    refine ⟨fun hn => absurd (h.symm.trans hn) (by simp), fun rs' hrs' => ?_⟩
    cases h.symm.trans hrs'
    exact q⟩
theorem q_rev {l : Addr} {xs : List V} (hl : H l = some (.lst xs)) (ha : EvD ta σ H (.adr l)) (k : ∀ H1, Ex H H1 → tz E σ (upd H1 l (.lst xs.reverse))) : tSeq (tDrop (tBM0 K "list" rReverse ta)) tz E σ H := ha H (Ex.refl H) _ fun v H1 e1 fv => by
  rw [fv.adr_of]
  exact ⟨Or.inl ⟨rfl, xs, SqL.of (e1 l _ hl)⟩, l, xs, rfl, rfl, e1 l _ hl, k H1 e1⟩
theorem q_clear {l : Addr} {xs : List V} (hl : H l = some (.lst xs)) (ha : EvD ta σ H (.adr l)) (k : ∀ H1, Ex H H1 → tz E σ (upd H1 l (.lst []))) : tSeq (tDrop (tBM0 K "list" rClear ta)) tz E σ H := ha H (Ex.refl H) _ fun v H1 e1 fv => by
  rw [fv.adr_of]
  exact ⟨Or.inl ⟨rfl, xs, SqL.of (e1 l _ hl)⟩, l, xs, rfl, rfl, e1 l _ hl, k H1 e1⟩
theorem WorldAt.mono' {H' : Hp} {p : Addr} {w : Wd} {s : Sd} (h : WorldAt H p w s) (e : Ex H H') : WorldAt H' p w s := h.mono e
theorem pure_l_visit (T : Txt K mg) (vs : List V) (H : Hp) (Q : VK) (E : XK) (h : sp_l_visit T vs H Q E) : Goes (t_l_visit T) N_l_visit vs H Q := by
  obtain ⟨p, a, x, w, s, rfl, Wa, S, hx, k⟩ := h
  have W := Wa.wok
  have O := Wa.sok
  have hn24 := W.n24
  refine callS (evds_cons (evd_var (i := 1) rfl (.adr a)) (evds_cons (evd_var (i := 2) rfl (.int (x : Int))) evds_nil)) rfl fun H1 e1 => ⟨a, w, s, x, rfl, S.mono (Kp.ex e1), log_small (by omega), fun hin => absurd ⟨by omega, by omega⟩ hin, fun y hy hxy => ?_⟩
  have hxy : x = y := by omega
  subst hxy
  refine ⟨fun hnone dd H2 e2 hd => ?_, fun rs hrs q us H2 hq e2 h2 f2 => ?_⟩
  · refine ⟨true, T.Dead.em, fun _ b hb => ?_, fun z => by cases z⟩
    have hal : aliveS w s x = false := (visit_none W O).mp hnone
    have e3 : Ex H2 (upd H2 dd (.xd [("station", .int (x : Int))])) := Ex.new hd
    have hx : (upd H2 dd (.xd [("station", .int (x : Int))])) dd = some (.xd [("station", .int (x : Int))]) := upd_same
    refine q_if (b := false) (Evl.et_is (Evl.et_or (Evl.et_not (et_B (evd_isEr (evd_var (i := 5) rfl (.adr b)) hx T.k_Dead_RopeError))) fun _ => Evl.et_not (et_B (evd_isEt (evd_var (i := 5) rfl (.adr b)) hx T.k_Dead_ValueError))) rfl) (fun z => by cases z) fun _ H4 e4 => ?_
    refine q_if (b := false) (Evl.et_is (Evl.et_or (et_B (evd_var (i := 3) rfl (.bl (aliveS w s x)))) fun _ => et_B (evd_isEr (evd_var (i := 5) rfl (.adr b)) (e4 _ _ hx) T.k_Dead_Still)) (by rw [hal]; rfl)) (fun z => by cases z) fun _ H5 e5 => ?_
    exact s_suite (evd_var (i := 5) rfl (.adr b)) (e5 _ _ (e4 _ _ hx)) (evd_var (i := 2) rfl (.int (x : Int))) rfl (k.mono ((((e1.trans e2).trans e3).trans e4).trans e5))
  have hal : aliveS w s x = true := by
    cases hz : aliveS w s x with
    | true => rfl
    | false => exact absurd (hrs.symm.trans ((visit_none W O).mpr hz)) (by simp)
  obtain ⟨ok, hlen, hst, hpos⟩ := visit_ok W O hx hrs
  have hul : us.length = rs.length := by rw [f2.len, List.length_map]
  have e12 := e1.trans e2
  have hqH : H q = none := fresh_back e1 hq
  have W2 := Wa.mono e12
  obtain ⟨pr, hpr, hL⟩ := W2.evr (K := K) (σ := [some (.ref p), some (.ref a), some (vn x), some (.bl (aliveS w s x)), some (.ref q), none, none, none]) (ta := tVar 0) (evd_var (i := 0) rfl (.adr p))
  refine q_if (b := false) (Evl.et_is (Evl.et_or (Evl.et_not (et_B (evd_var (i := 3) rfl (.bl (aliveS w s x))))) fun _ => Evl.et_or (Evl.et_not (et_B (evd_areRides (evd_var (i := 4) rfl (.adr q)) hpr ⟨us, h2, f2⟩ hL (Ok_ropes ok)))) fun _ => et_test (evd_gt (evd_lenL (evd_var (i := 4) rfl (.adr q)) h2) (evd_mul evd_int (W2.evn (evd_var (i := 0) rfl (.adr p))) (.inl ⟨by decide, by decide⟩)))) (by rw [hal, decide_eq_false (show ¬ ((3 : Int) * (w.n : Int) < us.length) by omega)]; rfl)) (fun z => by cases z) fun _ H3 e3 => ?_
  have W3 := W2.mono e3
  have h3 := e3 _ _ h2
  have f3 := f2.mono (Kp.ex e3)
  have gs0 : ∀ {H' : Hp} {σ : L2.St}, WorldAt H' p w s → σ[0]? = some (some (.ref p)) → σ[2]? = some (some (vn x)) → EvD (tOp (rIx K) (tOp (rIx K) (tOp (rIx K) (tVar 0) (tC (.int 2))) (tC (.int 0))) (tVar 2)) σ H' (dn (gAt s true x)) := fun {H' σ} Wx h0 h2 =>
    evd_ixT (evd_st (i := 0) (Wx.evs (evd_var h0 (.adr p))) rfl) (evd_var h2 (.int (x : Int))) (at_dn (by rw [O.lr]; exact hx))
  have gs1 : ∀ {H' : Hp} {σ : L2.St}, WorldAt H' p w s → σ[0]? = some (some (.ref p)) → σ[2]? = some (some (vn x)) → EvD (tOp (rIx K) (tOp (rIx K) (tOp (rIx K) (tVar 0) (tC (.int 2))) (tC (.int 1))) (tVar 2)) σ H' (dn (gAt s false x)) := fun {H' σ} Wx h0 h2 =>
    evd_ixT (evd_st (i := 1) (Wx.evs (evd_var h0 (.adr p))) rfl) (evd_var h2 (.int (x : Int))) (at_dn (by rw [O.lb]; exact hx))
  refine q_if (b := false) (Evl.et_is (Evl.et_and (et_neNil (evd_var (i := 4) rfl (.adr q)) ⟨us, h3, f3⟩) fun _ => et_test (evd_gt (evd_add (gs0 W3 rfl rfl) (gs1 W3 rfl rfl)) evd_int)) ?_) (fun z => by cases z) fun _ H4 e4 => ?_
  · by_cases hz : 0 < s.reds.getD x 0 + s.blues.getD x 0
    · rw [decide_eq_true (hst hz)]; rfl
    · rw [decide_eq_false (show ¬ ((0 : Int) < (gAt s true x : Nat) + (gAt s false x : Nat)) from fun h => hz (by have h1 : gAt s true x = s.reds.getD x 0 := rfl; have h2 : gAt s false x = s.blues.getD x 0 := rfl; omega)), Bool.and_false]
  have W4 := W3.mono e4
  have h4 := e4 _ _ h3
  have f4 := f3.mono (Kp.ex e4)
  have hL4 := hL.mono (e3.trans e4)
  obtain ⟨pr', hpr', hL'⟩ := W4.evr (K := K) (σ := [some (.ref p), some (.ref a), some (vn x), some (.bl (aliveS w s x)), some (.ref q), none, none, none]) (ta := tVar 0) (evd_var (i := 0) rfl (.adr p))
  refine q_asg (evd_lend hpr' (W4.evs (evd_var (i := 0) rfl (.adr p))) (evd_var (i := 4) rfl (.adr q)) hL' ⟨us, h4, f4⟩ W O ok) fun v5 H5 e5 f5 => ?_
  have Ol : SOk w (rideAll w s rs) := rideAll_ok W O ok
  refine q_if (b := false) (Evl.et_is (Evl.et_or (et_test (evd_isNT (evd_var (i := 6) rfl f5))) fun _ => et_test (evd_eqI (evd_add (evd_ixT (evd_st (i := 0) (evd_var (i := 6) rfl f5) rfl) (evd_var (i := 2) rfl (.int (x : Int))) (at_dn (by rw [Ol.lr]; exact hx))) (evd_ixT (evd_st (i := 1) (evd_var (i := 6) rfl f5) rfl) (evd_var (i := 2) rfl (.int (x : Int))) (at_dn (by rw [Ol.lb]; exact hx)))) evd_int)) (by rw [Bool.false_or]; exact decide_eq_false (by omega))) (fun z => by cases z) fun _ H6 e6 => ?_
  have e46 := e5.trans e6
  have h6 := e46 _ _ h4
  have f6 := f4.mono (Kp.ex e46)
  refine q_asgN (evn_listL (evd_var (i := 4) rfl (.adr q)) h6 f6) fun r ws H7 hr e7 h7 f7 => ?_
  have e07 : Ex H H7 := (((e12.trans e3).trans e4).trans e46).trans e7
  have h7q := e7 _ _ h6
  have nrq : r ≠ q := (ne_of_none h6 hr).symm
  refine q_app h7q (evd_var (i := 4) rfl (.adr q)) (evd_tup (evds_cons evd_int (evds_cons evd_str evds_nil)) (Nat.le_of_ble_eq_true rfl)) (by omega) fun v8 H8 e8 f8 => ?_
  have e08 := Ex.set (e07.trans e8) hqH (o := .lst (us ++ [v8]))
  have h8r : (upd H8 q (.lst (us ++ [v8]))) r = some (.lst ws) := (upd_ne nrq).trans (e8 _ _ h7)
  have h8q : (upd H8 q (.lst (us ++ [v8]))) q = some (.lst (us ++ [v8])) := upd_same
  have f8r : FzL (upd H8 q (.lst (us ++ [v8]))) ws (rs.map dRide) := f7.mono ((Kp.ex e8).trans (Kp.set (e8 _ _ h7q)))
  generalize upd H8 q (.lst (us ++ [v8])) = G at *
  refine q_rev h8q (evd_var (i := 4) rfl (.adr q)) fun H9 e9 => ?_
  have e09 := Ex.set (e08.trans e9) hqH (o := .lst (us ++ [v8]).reverse)
  refine s_again (H := upd H9 q (.lst (us ++ [v8]).reverse)) (p := q) (xs := us) (fun _ => trivial) ((upd_ne nrq).trans (e9 _ _ h8r)) (f8r.mono ((Kp.ex e9).trans (Kp.set (e9 _ _ h8q)))) (evd_var (i := 7) rfl (.adr r)) rfl (evn_visit (S.mono (Kp.ex e09)) (evd_var (i := 1) rfl (.adr a)) (evd_var (i := 2) rfl (.int (x : Int))) hx hn24 hrs) (k.mono e09)
end
end TR
namespace TR
open PySem L2 PyProof.Rows
open Evl (Ex EvT fresh_back)
local macro_rules | `(tactic| walk_at "h") => `(tactic| first
  | assumption
  | (refine Ex.at (by assumption) ?_; walk_at "h")
  | (refine Kp.at (by assumption) ?_; walk_at "h")
  | (refine Fz.mono (Kp.ex (by assumption)) ?_; walk_at "h")
  | (refine Fz.mono (by assumption) ?_; walk_at "h")
  | (refine FzL.mono (Kp.ex (by assumption)) ?_; walk_at "h")
  | (refine FzL.mono (by assumption) ?_; walk_at "h")
  | (refine NetAt.mono (Kp.ex (by assumption)) ?_; walk_at "h")
  | (refine NetAt.mono (by assumption) ?_; walk_at "h")
  | (refine StaA.mono (Kp.ex (by assumption)) ?_; walk_at "h")
  | (refine StaA.mono (by assumption) ?_; walk_at "h")
  | (refine Sta.mono (Kp.ex (by assumption)) ?_; walk_at "h")
  | (refine Sta.mono (by assumption) ?_; walk_at "h")
  | (refine Lst.mono (by assumption) ?_; walk_at "h")
  | (refine Seq.mono (by assumption) ?_; walk_at "h"))
local macro_rules | `(tactic| walk_at "fz") => `(tactic| first
  | exact Fz.int _ | exact Fz.bl _ | exact Fz.str _ | exact Fz.non
  | walk_at "h"
  | exact Fz.adr _)
local macro_rules | `(tactic| walk_at "ix") => `(tactic| first
  | exact rfl
  | (refine atI_nat ?_; first | assumption | rfl | (simp; done)))
local macro_rules | `(tactic| walk_at "ev") => `(tactic| first
  | exact evd_int | exact evd_str | exact evd_bl | exact evd_non
  | (refine evd_var rfl ?_; walk_at "fz")
  | (refine evd_stations ?_ ?_; (walk_at "h"); (walk_at "ev"))
  | (refine evd_ropes ?_ ?_; (walk_at "h"); (walk_at "ev"))
  | (refine evd_net ?_ ?_; (walk_at "h"); (walk_at "ev"))
  | (refine evd_reds ?_ ?_; (walk_at "h"); (walk_at "ev"))
  | (refine evd_blues ?_ ?_; (walk_at "h"); (walk_at "ev"))
  | (refine evd_cars ?_ ?_; (walk_at "h"); (walk_at "ev"))
  | (refine evd_add ?_ ?_; (walk_at "ev"); (walk_at "ev"))
  | (refine evd_sub ?_ ?_; (walk_at "ev"); (walk_at "ev"))
  | (refine evd_lt ?_ ?_; (walk_at "ev"); (walk_at "ev"))
  | (refine evd_le ?_ ?_; (walk_at "ev"); (walk_at "ev"))
  | (refine evd_gt ?_ ?_; (walk_at "ev"); (walk_at "ev"))
  | (refine evd_ge ?_ ?_; (walk_at "ev"); (walk_at "ev"))
  | (refine evd_neg ?_; (walk_at "ev"))
  | (refine evd_eqI ?_ ?_; (walk_at "ev"); (walk_at "ev"))
  | (refine evd_neI ?_ ?_; (walk_at "ev"); (walk_at "ev"))
  | (refine evd_eqS ?_ ?_; (walk_at "ev"); (walk_at "ev"))
  | (refine evd_eqB ?_ ?_; (walk_at "ev"); (walk_at "ev"))
  | (refine evd_neB ?_ ?_; (walk_at "ev"); (walk_at "ev"))
  | (refine evd_isN ?_ ?_; (walk_at "ev"); exact rfl)
  | (refine evd_notN ?_ ?_; (walk_at "ev"); exact rfl)
  | (refine evd_ixT ?_ ?_ ?_; (walk_at "ev"); (walk_at "ev"); (walk_at "ix"))
  | (refine evd_ixL ?_ ?_ ?_ ?_ ?_; (walk_at "ev"); (walk_at "h"); (walk_at "h"); (walk_at "ev"); (walk_at "ix"))
  | (refine evd_tup ?_ ?_; (walk_at "evs"); exact Nat.le_of_ble_eq_true rfl)
  | (refine evd_lenD ?_; walk_at "ev")
  | (refine evd_lenL ?_ ?_; (walk_at "ev"); (walk_at "h"))
  | (refine evd_intI ?_; walk_at "ev")
  | (refine evd_intB ?_; walk_at "ev")
  | (refine evd_notV ?_; walk_at "ev"))
local macro_rules | `(tactic| walk_at "evs") => `(tactic| first
  | exact evds_nil
  | (refine evds_cons ?_ ?_; (walk_at "ev"); (walk_at "evs")))
local macro_rules | `(tactic| walk_at "et") => `(tactic| first
  | (refine et_test ?_; walk_at "ev")
  | (refine et_B ?_; walk_at "ev")
  | (refine et_tru ?_ ?_; (walk_at "ev"); (walk_at "h"))
  | (refine Evl.et_not ?_; walk_at "et")
  | (refine et_chain2 ?_ ?_ ?_; (walk_at "ev"); (walk_at "ev"); (walk_at "ev")))
def pInt (n : Nat) : PyData := .int (n : Int)
theorem lay_ints : ∀ {l : List Nat}, PyData.canLayAll0 (l.map pInt) = true
  | [] => rfl
  | a :: l => by
    show (true && PyData.canLayAll0 (l.map pInt)) = true
    rw [lay_ints]; rfl
theorem dep_ints : ∀ {l : List Nat}, PyData.depthAll (l.map pInt) ≤ 1
  | [] => Nat.zero_le _
  | r :: l => by
    show max (pInt r).depth (PyData.depthAll (l.map pInt)) ≤ 1
    have h0 : (pInt r).depth = 0 := rfl
    have := dep_ints (l := l)
    omega
theorem shaped_ints {l : List Nat} : SeqAt.shaped (.list (l.map pInt)) = true := by
  show (PyData.canLayAll0 (l.map pInt) && decide (PyData.depthAll (l.map pInt) + 1 ≤ 64)) = true
  rw [lay_ints, decide_eq_true (by have := dep_ints (l := l); omega)]; rfl
theorem eqv_ints_self : ∀ {l : List Nat}, PyData.eqvAll (l.map pInt) (l.map pInt) = true
  | [] => rfl
  | a :: l => by
    show (((a : Int) == (a : Int)) && PyData.eqvAll (l.map pInt) (l.map pInt)) = true
    rw [eqv_ints_self, Bool.and_true, beq_self_eq_true]
theorem only_last {rs' : List Ride} {k : Nat} {c : Bool} (h : ∀ r ∈ rs', r.1 ≠ k) : (List.range (rs' ++ [(k, c)]).length).filter (fun i => decide ((((rs' ++ [(k, c)]).getD i (0, true)).1 : Nat) = k)) = [(rs' ++ [(k, c)]).length - 1] := by
  rw [List.length_append, List.length_singleton, List.range_succ, List.filter_append]
  have h1 : (List.range rs'.length).filter (fun i => decide ((((rs' ++ [(k, c)]).getD i (0, true)).1 : Nat) = k)) = [] := by
    rw [List.filter_eq_nil_iff]
    intro i hi
    rw [List.mem_range] at hi
    rw [List.getD_eq_getElem?_getD, List.getElem?_append_left hi, List.getElem?_eq_getElem hi]
    simpa using h _ (List.getElem_mem hi)
  rw [h1, List.nil_append, Nat.add_sub_cancel]
  refine List.filter_eq_self.mpr fun i hi => ?_
  rw [List.mem_singleton] at hi
  subst hi
  rw [List.getD_eq_getElem?_getD, List.getElem?_append_right (Nat.le_refl _), Nat.sub_self]
  simp
section
variable {K : PySem.W.Frag} {mg : Str → Option Value} {σ : L2.St} {H : Hp} {te ta tb tc tv tx : TE} {tr : TA} {ds es fs : List D} {d d1 d2 : D} {E : Ends} {tz : TS}
theorem dp_ints {p : Addr} {l : List Nat} (h : H p = some (.lst (nats l))) : Dp K H (.ref p) (.list (l.map pInt)) := by
  refine .lst (SqL.of h) ?_
  clear h
  induction l with
  | nil => exact .nil
  | cons a l ih => exact .cons (.int _) ih
/-- two equal lists of numbers, != -/
theorem et_neSame {l : List Nat} (ha : EvN ta σ H (l.map dn)) (hb : EvN tb σ H (l.map dn)) : EvT (tTest (tOp (rNeD K) ta tb)) σ H false := fun H1 e Q q =>
  ha H1 e _ fun p us H2 hp e2 h2 f2 => hb H2 (e.trans e2) _ fun r vs H3 hr e3 h3 f3 => by
    obtain rfl := f2.nats_of
    obtain rfl := f3.nats_of
    refine ⟨.list (l.map pInt), .list (l.map pInt), dp_ints (e3 _ _ h2), dp_ints h3, shaped_ints, shaped_ints, _, rfl, ?_⟩
    have z : PyData.eqv (.list (l.map pInt)) (.list (l.map pInt)) = true := eqv_ints_self
    rw [z]
    exact q H3 (e2.trans e3)
theorem at_dRide {l : List Ride} {i : Nat} (h : i < l.length) : atI (l.map dRide) (i : Int) = some (dRide (l.getD i (0, true))) :=
  atI_nat (by rw [List.getElem?_map, List.getElem?_eq_getElem h, List.getD_eq_getElem?_getD, List.getElem?_eq_getElem h]; rfl)
theorem pure_l_run (T : Txt K mg) (vs : List V) (H : Hp) (Q : VK) (E : XK) (h : sp_l_run T vs H Q E) : Goes (t_l_run T) N_l_run vs H Q := by
  obtain ⟨p, a, x, w, s, rfl, Wa, S, hx, k⟩ := h
  have W := Wa.wok
  have O := Wa.sok
  have hn24 := W.n24
  have hm40 := W.m40
  refine callS (evds_cons (evd_var (i := 1) rfl (.adr a)) (evds_cons (evd_var (i := 2) rfl (.int (x : Int))) evds_nil)) rfl fun H1 e1 => ⟨a, w, s, x, rfl, S.mono (Kp.ex e1), log_small (by omega), fun hin => absurd ⟨by omega, by omega⟩ hin, fun y hy hxy => ?_⟩
  have hxy : x = y := by omega
  subst hxy
  refine ⟨fun hnone dd H2 e2 hd => ?_, fun rs hrs q us H2 hq e2 h2 f2 => ?_⟩
  · refine ⟨true, T.Still.em, fun _ b hb => ?_, fun z => by cases z⟩
    have hal : aliveR w s x = false := (run_none W O).mp hnone
    have e3 : Ex H2 (upd H2 dd (.xd [("rope", .int (x : Int))])) := Ex.new hd
    have hx : (upd H2 dd (.xd [("rope", .int (x : Int))])) dd = some (.xd [("rope", .int (x : Int))]) := upd_same
    refine q_if (b := false) (Evl.et_is (Evl.et_or (Evl.et_not (et_B (evd_isEr (evd_var (i := 5) rfl (.adr b)) hx T.k_Still_RopeError))) fun _ => Evl.et_not (et_B (evd_isEt (evd_var (i := 5) rfl (.adr b)) hx T.k_Still_ValueError))) rfl) (fun z => by cases z) fun _ H4 e4 => ?_
    refine q_if (b := false) (Evl.et_is (Evl.et_or (et_B (evd_var (i := 3) rfl (.bl (aliveR w s x)))) fun _ => et_B (evd_isEr (evd_var (i := 5) rfl (.adr b)) (e4 _ _ hx) T.k_Still_Dead)) (by rw [hal]; rfl)) (fun z => by cases z) fun _ H5 e5 => ?_
    exact s_suite (evd_var (i := 5) rfl (.adr b)) (e5 _ _ (e4 _ _ hx)) (evd_var (i := 2) rfl (.int (x : Int))) rfl (k.mono ((((e1.trans e2).trans e3).trans e4).trans e5))
  have hal : aliveR w s x = true := by
    cases hz : aliveR w s x with
    | true => rfl
    | false => exact absurd (hrs.symm.trans ((run_none W O).mpr hz)) (by simp)
  obtain ⟨rs', c, hrsE, ok, hlen, hne⟩ := run_ok W O hx hrs
  have hul : us.length = rs.length := by rw [f2.len, List.length_map]
  have hrl : 1 ≤ rs.length := by rw [hrsE, List.length_append, List.length_singleton]; omega
  have e12 := e1.trans e2
  have hqH : H q = none := fresh_back e1 hq
  have W2 := Wa.mono e12
  obtain ⟨pr, hpr, hL⟩ := W2.evr (K := K) (σ := [some (.ref p), some (.ref a), some (vn x), some (.bl (aliveR w s x)), some (.ref q), none, none, none]) (ta := tVar 0) (evd_var (i := 0) rfl (.adr p))
  refine q_if (b := false) (Evl.et_is (Evl.et_or (Evl.et_not (et_B (evd_var (i := 3) rfl (.bl (aliveR w s x))))) fun _ => Evl.et_or (Evl.et_not (et_B (evd_areRides (evd_var (i := 4) rfl (.adr q)) hpr ⟨us, h2, f2⟩ hL (Ok_ropes ok)))) fun _ => et_test (evd_gt (evd_lenL (evd_var (i := 4) rfl (.adr q)) h2) (evd_add (evd_mul evd_int (W2.evn (evd_var (i := 0) rfl (.adr p))) (.inl ⟨by decide, by decide⟩)) evd_int))) (by rw [hal, decide_eq_false (show ¬ ((3 : Int) * (w.n : Int) + 1 < us.length) by omega)]; rfl)) (fun z => by cases z) fun _ H3 e3 => ?_
  have W3 := W2.mono e3
  have h3 := e3 _ _ h2
  have f3 := f2.mono (Kp.ex e3)
  have hlc : EvN (tLc (iRng1 (tCons (tCB (Evl.rLenS K) (tCons (tVar 4) tNil)) tNil)) (gName 7) (tTest (tOp rEq (tOp (rIx K) (tOp (rIx K) (tVar 4) (tVar 7)) (tC (.int 0))) (tVar 2))) (tVar 7) [7]) [some (.ref p), some (.ref a), some (vn x), some (.bl (aliveR w s x)), some (.ref q), none, none, none] H3 ([rs.length - 1].map dn) :=
    EvN.eq (evn_lc (n := rs.length) (fun i => decide ((((rs' ++ [(x, c)]).getD i (0, true)).1 : Nat) = x)) (fun i => dn i) (evi_rng (EvD.eq (evd_lenL (evd_var (i := 4) rfl (.adr q)) h3) (by rw [hul])) (by omega)) (by omega) fun i v' H6 hi e6 f => by
      obtain rfl := f.int_of
      refine ⟨[some (.ref p), some (.ref a), some (vn x), some (.bl (aliveR w s x)), some (.ref q), none, none, some (vn i)], fun Q' q => q, rfl, Evl.et_is (et_test (evd_eqI (evd_ixT (evd_ixL (evd_var (i := 4) rfl (.adr q)) (e6 _ _ h3) (f3.mono (Kp.ex e6)) (evd_var (i := 7) rfl (.int (i : Int))) (at_dRide hi)) evd_int (d := dn (rs.getD i (0, true)).1) rfl) (evd_var (i := 2) rfl (.int (x : Int))))) ?_, fun _ => evd_var (i := 7) rfl (.int _)⟩
      rw [← hrsE]
      exact decide_eq_decide.mpr (by omega)) (by
      have := only_last (k := x) (c := c) hne
      rw [← hrsE] at this ⊢
      rw [this])
  refine q_if (b := false) (et_neSame hlc (EvN.eq (evn_lst (evds_cons (evd_sub (evd_lenL (evd_var (i := 4) rfl (.adr q)) h3) evd_int) evds_nil) (Nat.le_of_ble_eq_true rfl)) (by rw [hul]; show [D.int ((rs.length : Int) - 1)] = [D.int ((rs.length - 1 : Nat) : Int)]; congr 2; omega))) (fun z => by cases z) fun _ H4 e4 => ?_
  have W4 := W3.mono e4
  have h4 := e4 _ _ h3
  have f4 := f3.mono (Kp.ex e4)
  obtain ⟨pr', hpr', hL'⟩ := W4.evr (K := K) (σ := [some (.ref p), some (.ref a), some (vn x), some (.bl (aliveR w s x)), some (.ref q), none, none, none]) (ta := tVar 0) (evd_var (i := 0) rfl (.adr p))
  refine q_if (b := false) (et_test (evd_isNT (evd_lend hpr' (W4.evs (evd_var (i := 0) rfl (.adr p))) (evd_var (i := 4) rfl (.adr q)) hL' ⟨us, h4, f4⟩ W O ok))) (fun z => by cases z) fun _ H6 e46 => ?_
  have h6 := e46 _ _ h4
  have f6 := f4.mono (Kp.ex e46)
  refine q_asgN (evn_listL (evd_var (i := 4) rfl (.adr q)) h6 f6) fun r ws H7 hr e7 h7 f7 => ?_
  have e07 : Ex H H7 := (((e12.trans e3).trans e4).trans e46).trans e7
  have h7q := e7 _ _ h6
  have nrq : r ≠ q := (ne_of_none h6 hr).symm
  refine q_clear h7q (evd_var (i := 4) rfl (.adr q)) fun H9 e9 => ?_
  have e09 := Ex.set (e07.trans e9) hqH (o := .lst [])
  refine s_again (H := upd H9 q (.lst [])) (p := q) (xs := us) (fun _ => trivial) ((upd_ne nrq).trans (e9 _ _ h7)) (f7.mono ((Kp.ex e9).trans (Kp.set (e9 _ _ h7q)))) (evd_var (i := 6) rfl (.adr r)) rfl (evn_run (S.mono (Kp.ex e09)) (evd_var (i := 1) rfl (.adr a)) (evd_var (i := 2) rfl (.int (x : Int))) hx hm40 hrs) (k.mono e09)
end
end TR
namespace TR
open PySem L2 PyProof.Rows
open Evl (Ex EvT fresh_back)
local macro_rules | `(tactic| walk_at "h") => `(tactic| first
  | assumption
  | (refine Ex.at (by assumption) ?_; walk_at "h")
  | (refine Kp.at (by assumption) ?_; walk_at "h")
  | (refine Fz.mono (Kp.ex (by assumption)) ?_; walk_at "h")
  | (refine Fz.mono (by assumption) ?_; walk_at "h")
  | (refine FzL.mono (Kp.ex (by assumption)) ?_; walk_at "h")
  | (refine FzL.mono (by assumption) ?_; walk_at "h")
  | (refine NetAt.mono (Kp.ex (by assumption)) ?_; walk_at "h")
  | (refine NetAt.mono (by assumption) ?_; walk_at "h")
  | (refine StaA.mono (Kp.ex (by assumption)) ?_; walk_at "h")
  | (refine StaA.mono (by assumption) ?_; walk_at "h")
  | (refine Sta.mono (Kp.ex (by assumption)) ?_; walk_at "h")
  | (refine Sta.mono (by assumption) ?_; walk_at "h")
  | (refine Lst.mono (by assumption) ?_; walk_at "h")
  | (refine Seq.mono (by assumption) ?_; walk_at "h"))
local macro_rules | `(tactic| walk_at "fz") => `(tactic| first
  | exact Fz.int _ | exact Fz.bl _ | exact Fz.str _ | exact Fz.non
  | walk_at "h"
  | exact Fz.adr _)
local macro_rules | `(tactic| walk_at "ix") => `(tactic| first
  | exact rfl
  | (refine atI_nat ?_; first | assumption | rfl | (simp; done)))
local macro_rules | `(tactic| walk_at "ev") => `(tactic| first
  | exact evd_int | exact evd_str | exact evd_bl | exact evd_non
  | (refine evd_var rfl ?_; walk_at "fz")
  | (refine evd_stations ?_ ?_; (walk_at "h"); (walk_at "ev"))
  | (refine evd_ropes ?_ ?_; (walk_at "h"); (walk_at "ev"))
  | (refine evd_net ?_ ?_; (walk_at "h"); (walk_at "ev"))
  | (refine evd_reds ?_ ?_; (walk_at "h"); (walk_at "ev"))
  | (refine evd_blues ?_ ?_; (walk_at "h"); (walk_at "ev"))
  | (refine evd_cars ?_ ?_; (walk_at "h"); (walk_at "ev"))
  | (refine evd_add ?_ ?_; (walk_at "ev"); (walk_at "ev"))
  | (refine evd_sub ?_ ?_; (walk_at "ev"); (walk_at "ev"))
  | (refine evd_lt ?_ ?_; (walk_at "ev"); (walk_at "ev"))
  | (refine evd_le ?_ ?_; (walk_at "ev"); (walk_at "ev"))
  | (refine evd_gt ?_ ?_; (walk_at "ev"); (walk_at "ev"))
  | (refine evd_ge ?_ ?_; (walk_at "ev"); (walk_at "ev"))
  | (refine evd_neg ?_; (walk_at "ev"))
  | (refine evd_eqI ?_ ?_; (walk_at "ev"); (walk_at "ev"))
  | (refine evd_neI ?_ ?_; (walk_at "ev"); (walk_at "ev"))
  | (refine evd_eqS ?_ ?_; (walk_at "ev"); (walk_at "ev"))
  | (refine evd_eqB ?_ ?_; (walk_at "ev"); (walk_at "ev"))
  | (refine evd_neB ?_ ?_; (walk_at "ev"); (walk_at "ev"))
  | (refine evd_isN ?_ ?_; (walk_at "ev"); exact rfl)
  | (refine evd_notN ?_ ?_; (walk_at "ev"); exact rfl)
  | (refine evd_ixT ?_ ?_ ?_; (walk_at "ev"); (walk_at "ev"); (walk_at "ix"))
  | (refine evd_ixL ?_ ?_ ?_ ?_ ?_; (walk_at "ev"); (walk_at "h"); (walk_at "h"); (walk_at "ev"); (walk_at "ix"))
  | (refine evd_tup ?_ ?_; (walk_at "evs"); exact Nat.le_of_ble_eq_true rfl)
  | (refine evd_lenD ?_; walk_at "ev")
  | (refine evd_lenL ?_ ?_; (walk_at "ev"); (walk_at "h"))
  | (refine evd_intI ?_; walk_at "ev")
  | (refine evd_intB ?_; walk_at "ev")
  | (refine evd_notV ?_; walk_at "ev"))
local macro_rules | `(tactic| walk_at "evs") => `(tactic| first
  | exact evds_nil
  | (refine evds_cons ?_ ?_; (walk_at "ev"); (walk_at "evs")))
local macro_rules | `(tactic| walk_at "et") => `(tactic| first
  | (refine et_test ?_; walk_at "ev")
  | (refine et_B ?_; walk_at "ev")
  | (refine et_tru ?_ ?_; (walk_at "ev"); (walk_at "h"))
  | (refine Evl.et_not ?_; walk_at "et")
  | (refine et_chain2 ?_ ?_ ?_; (walk_at "ev"); (walk_at "ev"); (walk_at "ev")))
section
variable {K : PySem.W.Frag} {mg : Str → Option Value} {σ : L2.St} {H : Hp} {te ta tb tc tv tx : TE} {tr : TA} {ds es fs : List D} {d d1 d2 : D} {E : Ends} {tz : TS}
theorem q_asgCC {sp sp' : Sp} {X X' : XK} {i : Nat} (h : EvDs tr σ H ds) (hf : ds.all D.flat = true) (k : ∀ H1, Ex H H1 → sp (ds.map D.v) H1 (fun v H2 => sp' [v] H2 (fun u H3 => tz E (σ.set i (some u)) H3) X') X) :
    tSeq (tAsg (tCall sp' [] X' (tCons (tCall sp [] X tr) tNil)) (gName i)) tz E σ H := h H (Ex.refl _) _ fun vs H1 e f => by
  rw [f.flat_of hf, List.append_nil]
  exact k H1 e
theorem q_asgC {sp : Sp} {X : XK} {i : Nat} (h : EvDs tr σ H ds) (k : ∀ vs H1, Ex H H1 → FzL H1 vs ds → sp vs H1 (fun u H3 => tz E (σ.set i (some u)) H3) X) : tSeq (tAsg (tCall sp [] X tr) (gName i)) tz E σ H := h H (Ex.refl _) _ fun vs H1 e f => by
  rw [List.append_nil]
  exact k vs H1 e f
theorem q_asgC3 {sp : Sp} {X : XK} {i : Nat} (h1 : EvD ta σ H d1) (h2 : EvD tb σ H d2) (k : ∀ v1 v2 H1, Ex H H1 → Fz H1 v1 d1 → Fz H1 v2 d2 → tc σ H1 (fun v3 H2 => sp [v1, v2, v3] H2 (fun u H3 => tz E (σ.set i (some u)) H3) X)) :
    tSeq (tAsg (tCall sp [] X (tCons ta (tCons tb (tCons tc tNil)))) (gName i)) tz E σ H := h1 H (Ex.refl _) _ fun v1 H1 e1 f1 => h2 H1 e1 _ fun v2 H2 e2 f2 =>
  k v1 v2 H2 (e1.trans e2) (f1.mono (Kp.ex e2)) f2
theorem evd_lnoStation {T : Txt K mg} {a : Addr} {w : Wd} {s : Sd} {i : Int} (S : Sta T H a w s) (ha : EvD ta σ H (.adr a)) (hb : EvD tb σ H (.int i)) (hi : i.natAbs.log2 < 1920) (hn : ¬ (0 ≤ i ∧ i < w.n)) : EvD (tCall (sp_l_no_station T) [] E0 (tCons ta (tCons tb tNil))) σ H (.bl true) :=
  evd_callF (evds_cons ha (evds_cons hb evds_nil)) rfl fun H1 e Q q => ⟨a, i, w, s, rfl, S.mono (Kp.ex e), hi, hn, q⟩
theorem evd_lnoRope {T : Txt K mg} {a : Addr} {w : Wd} {s : Sd} {i : Int} (S : Sta T H a w s) (ha : EvD ta σ H (.adr a)) (hb : EvD tb σ H (.int i)) (hi : i.natAbs.log2 < 1920) (hn : ¬ (0 ≤ i ∧ i < w.rs.length)) : EvD (tCall (sp_l_no_rope T) [] E0 (tCons ta (tCons tb tNil))) σ H (.bl true) :=
  evd_callF (evds_cons ha (evds_cons hb evds_nil)) rfl fun H1 e Q q => ⟨a, i, w, s, rfl, S.mono (Kp.ex e), hi, hn, q⟩
theorem evd_lvisit {T : Txt K mg} {p a : Addr} {w : Wd} {s : Sd} {x : Nat} (Wa : WorldAt H p w s) (S : Sta T H a w s) (h1 : EvD ta σ H (.adr p)) (h2 : EvD tb σ H (.adr a)) (h3 : EvD tc σ H (dn x)) (h4 : EvD tv σ H (.bl (aliveS w s x))) (hx : x < w.n) :
    EvD (tCall (sp_l_visit T) [] E0 (tCons ta (tCons tb (tCons tc (tCons tv tNil))))) σ H (.bl true) :=
  evd_callF (evds_cons h1 (evds_cons h2 (evds_cons h3 (evds_cons h4 evds_nil)))) rfl fun H1 e Q q => ⟨p, a, x, w, s, rfl, Wa.mono e, S.mono (Kp.ex e), hx, q⟩
theorem evd_lrun {T : Txt K mg} {p a : Addr} {w : Wd} {s : Sd} {x : Nat} (Wa : WorldAt H p w s) (S : Sta T H a w s) (h1 : EvD ta σ H (.adr p)) (h2 : EvD tb σ H (.adr a)) (h3 : EvD tc σ H (dn x)) (h4 : EvD tv σ H (.bl (aliveR w s x))) (hx : x < w.rs.length) :
    EvD (tCall (sp_l_run T) [] E0 (tCons ta (tCons tb (tCons tc (tCons tv tNil))))) σ H (.bl true) :=
  evd_callF (evds_cons h1 (evds_cons h2 (evds_cons h3 (evds_cons h4 evds_nil)))) rfl fun H1 e Q q => ⟨p, a, x, w, s, rfl, Wa.mono e, S.mono (Kp.ex e), hx, q⟩
theorem evd_lisList {T : Txt K mg} {p q : Addr} {l : List Nat} (h1 : EvD ta σ H (.adr p)) (h2 : EvD tb σ H (.adr q)) (hp : H p = some (.lst (nats l))) (hq : H q = some (.lst (nats l))) (hl : l.length ≤ 100000) : EvD (tCall (sp_l_is_list T) [] E0 (tCons ta (tCons tb tNil))) σ H (.bl true) :=
  evd_callF (evds_cons h1 (evds_cons h2 evds_nil)) rfl fun H1 e Q k => ⟨p, q, l, rfl, e _ _ hp, e _ _ hq, hl, k⟩
theorem evd_lisListN {T : Txt K mg} {q : Addr} {l : List Nat} (h1 : EvN ta σ H (l.map dn)) (h2 : EvD tb σ H (.adr q)) (hq : H q = some (.lst (nats l))) (hl : l.length ≤ 100000) : EvD (tCall (sp_l_is_list T) [] E0 (tCons ta (tCons tb tNil))) σ H (.bl true) := fun H1 e Q k =>
  h1 H1 e _ fun p vs H2 hp e2 h2' f2 => h2 H2 (e.trans e2) _ fun v H3 e3 f3 => by
    obtain rfl := f2.nats_of
    rw [f3.adr_of]
    exact ⟨p, q, l, rfl, e3 _ _ h2', ((e.trans e2).trans e3) _ _ hq, hl, fun v H4 e4 f4 => k v H4 ((e2.trans e3).trans e4) f4⟩
theorem evd_lshows {T : Txt K mg} {a : Addr} {w : Wd} {s : Sd} (S : Sta T H a w s) (h1 : EvD ta σ H (.adr a)) (h2 : EvD tb σ H (dSt s)) : EvD (tCall (sp_l_shows T) [] E0 (tCons ta (tCons tb tNil))) σ H (.bl true) :=
  evd_callD (evds_cons h1 (evds_cons h2 evds_nil)) fun vs H1 e f Q q => by
    obtain ⟨v1, v2, rfl, f1, f2⟩ := f.two
    obtain rfl := f1.adr_of
    exact ⟨a, v2, w, s, rfl, S.mono (Kp.ex e), f2, q⟩
theorem evn_dead {T : Txt K mg} {a : Addr} {w : Wd} {s : Sd} (S : Sta T H a w s) (ha : EvD ta σ H (.adr a)) : EvN (tCall (sp_dead_stations T) [] E0 (tCons ta tNil)) σ H ((deadL w s).map dn) :=
  evn_callF (evds_cons ha evds_nil) rfl fun H1 e Q q => ⟨a, w, s, rfl, S.mono (Kp.ex e), q⟩
theorem Bag.kp {b : Addr} {H' : Hp} (B : Bag H b) (e : ExB b H H') : Kp H H' := fun a o h hs => by
  obtain ⟨x, y, z, hb⟩ := B
  exact e a o (fun hab => by subst hab; rw [h] at hb; cases hb; cases hs) h
theorem WorldAt.exB {b p : Addr} {w : Wd} {s : Sd} {H' : Hp} (h : WorldAt H p w s) (B : Bag H b) (e : ExB b H H') : WorldAt H' p w s := by
  have kp := B.kp e
  obtain ⟨x, y, z, hb⟩ := B
  obtain ⟨pr, us, ps, h1, h2, h3, h4, h5⟩ := h
  refine ⟨pr, us, ps, e _ _ (fun hab => ?_) h1, e _ _ (fun hab => ?_) h2, h3.mono kp, h4.mono kp, h5⟩
  · subst hab
    rw [h1] at hb
    simp at hb
  · subst hab
    rw [h2] at hb
    cases hb
    cases hr : w.rs with
    | nil => rw [hr] at h3; cases h3
    | cons r l =>
      rw [hr] at h3
      cases h3 with
      | cons f1 f => cases f1
theorem log_big {i : Int} (h : i.natAbs < 2 ^ 1919) : i.natAbs.log2 < 1920 := by
  rcases Nat.eq_zero_or_pos i.natAbs with h0 | h0
  · rw [h0]; decide
  · have := (Nat.log2_lt (n := i.natAbs) (k := 1919) (by omega)).mpr h
    omega
theorem log_mid {i : Int} (h : i.natAbs ≤ 2000000000) : i.natAbs.log2 < 1920 := log_big (Nat.lt_of_le_of_lt h (by decide +kernel))
theorem bag_ne_refs {b q x y : Addr} (B : Bag H b) (h : H q = some (.lst [.ref x, .ref y])) : q ≠ b := fun hab => by
  obtain ⟨i, j, k, hb⟩ := B
  subst hab
  rw [h] at hb
  simp at hb
theorem bag_ne_bls {b q : Addr} {l : List Bool} (B : Bag H b) (h : H q = some (.lst (l.map V.bl))) : q ≠ b := fun hab => by
  obtain ⟨i, j, k, hb⟩ := B
  subst hab
  rw [h] at hb
  cases l with
  | nil => simp at hb
  | cons c l => simp at hb
theorem sq_exB {p b : Addr} {xs : List V} {H' : Hp} (h : SqL K H p xs) (e : ExB b H H') (hn : p = b → SqL K H' p xs) : SqL K H' p xs := by
  by_cases hpb : p = b
  · exact hn hpb
  · exact h.imp (fun r => r.imp (fun r => e _ _ hpb r) fun ⟨o, r⟩ => ⟨o, e _ _ hpb r⟩) id
/-- what stands before the asking begins -/
structure LawSt (T : Txt K mg) (H : Hp) (pw a al x y pd : Addr) (w : Wd) (s : Sd) : Prop where
  wa : WorldAt H pw w s
  st : Sta T H a w s
  al : H al = some (.lst [.ref x, .ref y])
  hx : H x = some (.lst (((List.range w.n).map (aliveS w s)).map V.bl))
  hy : H y = some (.lst (((List.range w.rs.length).map (aliveR w s)).map V.bl))
  pd : H pd = some (.lst (nats (deadL w s)))
theorem LawSt.mono {T : Txt K mg} {pw a al x y pd : Addr} {w : Wd} {s : Sd} {H' : Hp} (L : LawSt T H pw a al x y pd w s) (e : Ex H H') : LawSt T H' pw a al x y pd w s :=
  ⟨L.wa.mono e, L.st.mono (Kp.ex e), e _ _ L.al, e _ _ L.hx, e _ _ L.hy, e _ _ L.pd⟩
theorem deadL_len {w : Wd} {s : Sd} : (deadL w s).length ≤ w.n := by
  unfold deadL
  have := List.length_filter_le (fun x => !aliveS w s x) (List.range w.n)
  rw [List.length_range] at this
  exact this
theorem mk_rng {n i : Nat} {f : Nat → Bool} (h : i < n) : mk ((List.range n).map f) i = f i := by
  unfold mk
  rw [List.getD_eq_getElem?_getD, List.getElem?_map, List.getElem?_range h]; rfl
theorem LawSt.evS {T : Txt K mg} {pw a al x y pd : Addr} {w : Wd} {s : Sd} {i : Nat} (L : LawSt T H pw a al x y pd w s) (h1 : EvD ta σ H (.adr al)) (h2 : EvD tb σ H (dn i)) (hi : i < w.n) : EvD (tOp (rIx K) (tOp (rIx K) ta (tC (.int 0))) tb) σ H (.bl (aliveS w s i)) :=
  EvD.eq (evd_ixL (evd_ixL h1 L.al FzL.pair evd_int (d := .adr x) rfl) L.hx (FzL.bls _) h2 (at_bl (by rw [List.length_map, List.length_range]; exact hi))) (by rw [mk_rng hi])
theorem LawSt.evR {T : Txt K mg} {pw a al x y pd : Addr} {w : Wd} {s : Sd} {i : Nat} (L : LawSt T H pw a al x y pd w s) (h1 : EvD ta σ H (.adr al)) (h2 : EvD tb σ H (dn i)) (hi : i < w.rs.length) : EvD (tOp (rIx K) (tOp (rIx K) ta (tC (.int 1))) tb) σ H (.bl (aliveR w s i)) :=
  EvD.eq (evd_ixL (evd_ixL h1 L.al FzL.pair evd_int (d := .adr y) rfl) L.hy (FzL.bls _) h2 (at_bl (by rw [List.length_map, List.length_range]; exact hi))) (by rw [mk_rng hi])
theorem WorldAt.evlen {p : Addr} {w : Wd} {s : Sd} (Wa : WorldAt H p w s) (ha : EvD ta σ H (.adr p)) : EvD (tCB (Evl.rLenS K) (tCons (tOp (rIx K) ta (tC (.int 1))) tNil)) σ H (dn w.rs.length) := by
  obtain ⟨pr, h1, us, h2, f⟩ := Wa.evr (K := K) ha
  exact EvD.eq (evd_lenL h1 h2) (by rw [f.len, List.length_map])
theorem pure_lawC (T : Txt K mg) {Q : VK} {pw a al x y pd : Addr} {w : Wd} {s : Sd} {r : Nat} {z0 z2 : Option V} (L : LawSt T H pw a al x y pd w s) (hr : r < 1000000000) (hE : E.rt = Q) (k : ∀ H', Q (.bl true) H') :
    t_lawC T E [z0, some (.ref pw), z2, some (.ref a), some (.ref al), some (.ref pd), some (vn r), none, none, none, none] H := by
  have W := L.wa.wok
  have O := L.wa.sok
  have hn24 := W.n24
  have hm40 := W.m40
  have hdl := deadL_len (w := w) (s := s)
  refine q_forI (i_seqN (evn_lst (evds_cons (evd_neg evd_int) (evds_cons (evd_sub (evd_neg evd_int) (evd_var (i := 6) rfl (.int (r : Int)))) (evds_cons (L.wa.evn (evd_var (i := 1) rfl (.adr pw))) (evds_cons (evd_add (L.wa.evn (evd_var (i := 1) rfl (.adr pw))) (evd_var (i := 6) rfl (.int (r : Int)))) evds_nil)))) (Nat.le_of_ble_eq_true rfl)) fun J q us H1 hq e1 h1 f1 S1 => ?_)
  refine q_for S1 (fun i σ' H' => ∃ u, σ' = [z0, some (.ref pw), z2, some (.ref a), some (.ref al), some (.ref pd), some (vn r), u, none, none, none] ∧ Ex H1 H') ⟨none, rfl, Ex.refl _⟩ (fun i σ' H' _ ⟨_, _, e⟩ => e _ _ h1) ?_ ?_
  · rintro i v σ' H2 H3 hi ⟨u, rfl, e2⟩ e3 hv
    obtain ⟨d, hd, fd⟩ := f1.getV hv
    have hd := List.mem_of_getElem? hd
    have hz : ∃ z : Int, d = .int z ∧ ¬ (0 ≤ z ∧ z < w.n) ∧ z.natAbs ≤ 2000000000 := by
      simp only [List.mem_cons, List.not_mem_nil, or_false] at hd
      rcases hd with rfl | rfl | rfl | rfl
      · exact ⟨_, rfl, by omega, by omega⟩
      · exact ⟨_, rfl, by omega, by omega⟩
      · exact ⟨_, rfl, by omega, by omega⟩
      · exact ⟨_, rfl, by omega, by omega⟩
    obtain ⟨z, rfl, hz1, hz2⟩ := hz
    obtain rfl := fd.int_of
    have L3 := L.mono (e1.trans (e2.trans e3))
    exact s_if (b := false) (Evl.et_is (Evl.et_not (et_B (evd_lnoStation L3.st (evd_var (i := 3) rfl (.adr a)) (evd_var (i := 7) (v := .int z) rfl (.int _)) (log_mid hz2) hz1))) rfl) (fun z => by cases z) fun _ H4 e4 => ⟨_, rfl, (e2.trans e3).trans e4⟩
  rintro σ' H2 ⟨u, rfl, e2⟩
  have e02 := e1.trans e2
  have L2' := L.mono e02
  refine q_forI (i_seqN (evn_lst (evds_cons (evd_neg evd_int) (evds_cons (evd_sub (evd_neg evd_int) (evd_var (i := 6) rfl (.int (r : Int)))) (evds_cons (L2'.wa.evlen (evd_var (i := 1) rfl (.adr pw))) (evds_cons (evd_add (L2'.wa.evlen (evd_var (i := 1) rfl (.adr pw))) (evd_var (i := 6) rfl (.int (r : Int)))) evds_nil)))) (Nat.le_of_ble_eq_true rfl)) fun J q us H3 hq e3 h3 f3 S3 => ?_)
  refine q_for S3 (fun i σ' H' => ∃ u, σ' = [z0, some (.ref pw), z2, some (.ref a), some (.ref al), some (.ref pd), some (vn r), u, none, none, none] ∧ Ex H3 H') ⟨u, rfl, Ex.refl _⟩ (fun i σ' H' _ ⟨_, _, e⟩ => e _ _ h3) ?_ ?_
  · rintro i v σ' H4 H5 hi ⟨u, rfl, e4⟩ e5 hv
    obtain ⟨d, hd, fd⟩ := f3.getV hv
    have hd := List.mem_of_getElem? hd
    have hz : ∃ z : Int, d = .int z ∧ ¬ (0 ≤ z ∧ z < w.rs.length) ∧ z.natAbs ≤ 2000000000 := by
      simp only [List.mem_cons, List.not_mem_nil, or_false] at hd
      rcases hd with rfl | rfl | rfl | rfl
      · exact ⟨_, rfl, by omega, by omega⟩
      · exact ⟨_, rfl, by omega, by omega⟩
      · exact ⟨_, rfl, by omega, by omega⟩
      · exact ⟨_, rfl, by omega, by omega⟩
    obtain ⟨z, rfl, hz1, hz2⟩ := hz
    obtain rfl := fd.int_of
    have L5 := L2'.mono (e3.trans (e4.trans e5))
    exact s_if (b := false) (Evl.et_is (Evl.et_not (et_B (evd_lnoRope L5.st (evd_var (i := 3) rfl (.adr a)) (evd_var (i := 7) (v := .int z) rfl (.int _)) (log_mid hz2) hz1))) rfl) (fun z => by cases z) fun _ H4 e6 => ⟨_, rfl, (e4.trans e5).trans e6⟩
  rintro σ' H4 ⟨u, rfl, e4⟩
  have e04 := (e02.trans e3).trans e4
  have L4 := L.mono e04
  refine q_asgN (evn_dead L4.st (evd_var (i := 3) rfl (.adr a))) fun pt vt H5 hpt e5 h5 f5 => ?_
  obtain rfl := f5.nats_of
  have L5 := L4.mono e5
  refine q_if (b := false) (Evl.et_is (Evl.et_not (et_B (evd_lisList (evd_var (i := 8) rfl (.adr pt)) (evd_var (i := 5) rfl (.adr pd)) h5 L5.pd (by omega)))) rfl) (fun z => by cases z) fun _ H6 e6 => ?_
  have L6 := L5.mono e6
  refine q_app (e6 _ _ h5) (evd_var (i := 8) rfl (.adr pt)) (L6.wa.evn (evd_var (i := 1) rfl (.adr pw))) (by rw [List.length_map]; omega) fun v7 H7 e7 f7 => ?_
  have e47 := Ex.set ((e5.trans e6).trans e7) hpt (o := .lst (nats (deadL w s) ++ [v7]))
  have h7 : (upd H7 pt (.lst (nats (deadL w s) ++ [v7]))) pt = some (.lst (nats (deadL w s) ++ [v7])) := upd_same
  generalize upd H7 pt (.lst (nats (deadL w s) ++ [v7])) = G at *
  refine q_rev h7 (evd_var (i := 8) rfl (.adr pt)) fun H8 e8 => ?_
  have e48 := Ex.set (e47.trans e8) hpt (o := .lst (nats (deadL w s) ++ [v7]).reverse)
  generalize upd H8 pt (.lst (nats (deadL w s) ++ [v7]).reverse) = G2 at *
  have L8 := L4.mono e48
  refine q_forI (i_rng (n := w.n) (L8.wa.evn (evd_var (i := 1) rfl (.adr pw))) (by omega) fun J9 H9 e9 S9 => ?_)
  refine q_for S9 (fun i σ' H' => ∃ y, σ' = [z0, some (.ref pw), z2, some (.ref a), some (.ref al), some (.ref pd), some (vn r), u, some (.ref pt), y, none] ∧ Ex H9 H') ⟨none, rfl, Ex.refl _⟩ (fun i σ' H' _ _ => trivial) ?_ ?_
  · rintro i v σ' H10 H11 hi ⟨y, rfl, e10⟩ e11 rfl
    have L11 := L8.mono (e9.trans (e10.trans e11))
    exact s_if (b := false) (Evl.et_is (Evl.et_not (et_B (evd_lvisit L11.wa L11.st (evd_var (i := 1) rfl (.adr pw)) (evd_var (i := 3) rfl (.adr a)) (evd_var (i := 9) (v := vn i) rfl (.int _)) (L11.evS (evd_var (i := 4) rfl (.adr al)) (evd_var (i := 9) (v := vn i) rfl (.int _)) hi) hi))) rfl) (fun z => by cases z) fun _ H12 e12 => ⟨_, rfl, (e10.trans e11).trans e12⟩
  rintro σ' H10 ⟨y9, rfl, e10⟩
  have L10 := L8.mono (e9.trans e10)
  refine q_forI (i_rng (n := w.rs.length) (L10.wa.evlen (evd_var (i := 1) rfl (.adr pw))) (by omega) fun J11 H11 e11 S11 => ?_)
  refine q_for S11 (fun i σ' H' => ∃ y, σ' = [z0, some (.ref pw), z2, some (.ref a), some (.ref al), some (.ref pd), some (vn r), u, some (.ref pt), y9, y] ∧ Ex H11 H') ⟨none, rfl, Ex.refl _⟩ (fun i σ' H' _ _ => trivial) ?_ ?_
  · rintro i v σ' H12 H13 hi ⟨y, rfl, e12⟩ e13 rfl
    have L13 := L10.mono (e11.trans (e12.trans e13))
    exact s_if (b := false) (Evl.et_is (Evl.et_not (et_B (evd_lrun L13.wa L13.st (evd_var (i := 1) rfl (.adr pw)) (evd_var (i := 3) rfl (.adr a)) (evd_var (i := 10) (v := vn i) rfl (.int _)) (L13.evR (evd_var (i := 4) rfl (.adr al)) (evd_var (i := 10) (v := vn i) rfl (.int _)) hi) hi))) rfl) (fun z => by cases z) fun _ H14 e14 => ⟨_, rfl, (e12.trans e13).trans e14⟩
  rintro σ' H12 ⟨y10, rfl, e12⟩
  have L12 := L10.mono (e11.trans e12)
  refine s_ret (EvD.eq (evd_andV (a := true) (b := true) (evd_lisListN (evn_dead L12.st (evd_var (i := 3) rfl (.adr a))) (evd_var (i := 5) rfl (.adr pd)) L12.pd (by omega)) fun _ => evd_lshows L12.st (evd_var (i := 3) rfl (.adr a)) (L12.wa.evs (evd_var (i := 1) rfl (.adr pw)))) rfl) fun v H13 e13 f13 => ?_
  obtain rfl := f13.bl_of
  rw [hE]
  exact k H13
theorem pure_lawB (T : Txt K mg) {Q : VK} {pw a al x y b : Addr} {w : Wd} {s : Sd} {z0 : Option V} (Wa : WorldAt H pw w s) (S : Sta T H a w s) (B : Bag H b) (hal : H al = some (.lst [.ref x, .ref y])) (hx : H x = some (.lst (((List.range w.n).map (aliveS w s)).map V.bl))) (hy : H y = some (.lst (((List.range w.rs.length).map (aliveR w s)).map V.bl)))
    (hE : E.rt = Q) (k : ∀ H', Q (.bl true) H') : t_lawB T E [z0, some (.ref pw), some (.ref b), some (.ref a), some (.ref al), none, none, none, none, none, none] H := by
  have W := Wa.wok
  have hn24 := W.n24
  refine q_asgN (EvN.eq (es := (deadL w s).map dn) (evn_lc (n := w.n) (fun i => !aliveS w s i) (fun i => dn i) (evi_rng (Wa.evn (evd_var (i := 1) rfl (.adr pw))) (by omega)) (by omega) fun i v' H1 hi e f => ?_) rfl) fun pd vd H1 hpd e1 h1 f1 => ?_
  · obtain rfl := f.int_of
    exact ⟨[z0, some (.ref pw), some (.ref b), some (.ref a), some (.ref al), none, none, none, none, some (vn i), none], fun Q' q => q, rfl, Evl.et_not (et_B (EvD.eq (evd_ixL (evd_ixL (evd_var (i := 4) rfl (.adr al)) (e _ _ hal) FzL.pair evd_int (d := .adr x) rfl) (e _ _ hx) (FzL.bls _) (evd_var (i := 9) (v := vn i) rfl (.int (i : Int))) (at_bl (by rw [List.length_map, List.length_range]; exact hi))) (by rw [mk_rng hi]))), fun _ => evd_var (i := 9) (v := vn i) rfl (.int _)⟩
  obtain rfl := f1.nats_of
  have B1 : Bag H1 b := by
    obtain ⟨i, j, l, hb⟩ := B
    exact ⟨i, j, l, e1 _ _ hb⟩
  have ndb : pd ≠ b := by
    obtain ⟨i, j, l, hb⟩ := B
    exact (ne_of_none hb hpd).symm
  have h10 : ((10 : Int) ^ (9 : Int).toNat) = ((1000000000 : Nat) : Int) := by decide +kernel
  refine q_asgC (evds_cons (evd_var (i := 2) rfl (.adr b)) (evds_cons (EvD.eq (evd_pow evd_int evd_int ⟨by decide, by decide, by decide⟩) (by rw [h10])) evds_nil)) fun vs2 H2 e2 f2 => ?_
  obtain rfl := f2.flat_of rfl
  have B2 : Bag H2 b := by
    obtain ⟨i, j, l, hb⟩ := B1
    exact ⟨i, j, l, e2 _ _ hb⟩
  refine ⟨b, 1000000000, rfl, B2, by decide, by decide, fun r H3 hr e3 B3 => ?_⟩
  have e12 := e1.trans e2
  refine pure_lawC T (pw := pw) (a := a) (al := al) (x := x) (y := y) (pd := pd) (w := w) (s := s) ⟨(Wa.mono e12).exB B2 e3, S.mono ((Kp.ex e12).trans (B2.kp e3)), e3 _ _ (bag_ne_refs B2 (e12 _ _ hal)) (e12 _ _ hal), e3 _ _ (bag_ne_bls B2 (e12 _ _ hx)) (e12 _ _ hx), e3 _ _ (bag_ne_bls B2 (e12 _ _ hy)) (e12 _ _ hy), e3 _ _ ndb (e2 _ _ h1)⟩ hr hE k
theorem pure_law (T : Txt K mg) (vs : List V) (H : Hp) (Q : VK) (E : XK) (h : sp_law T vs H Q E) : Goes (t_law T) N_law vs H Q := by
  obtain ⟨p, zs, rfl, hp, hz, k⟩ := h
  refine q_asgCC (evds_cons (evd_var (i := 0) rfl (.adr p)) (evds_cons (evd_int (i := ((0 : Nat) : Int))) evds_nil)) rfl fun H1 e1 => ⟨p, 0, zs, rfl, sq_ex hp e1, by decide, hz, fun b H2 hb e2 B => ⟨b, rfl, B, fun pw w s H3 eB Wa => ?_⟩⟩
  have h3p : SqL K H3 p (zs.map V.int) := sq_exB (sq_ex (sq_ex hp e1) e2) eB fun hpb => by
    subst hpb
    rcases hp with (r | ⟨o, r⟩) | r
    · have r := e1 _ _ r
      rw [hb] at r; cases r
    · have r := e1 _ _ r
      rw [hb] at r; cases r
    · exact .inr r
  refine q_asgC (evds_cons (evd_var (i := 0) rfl (.adr p)) (evds_cons (evd_int (i := ((1 : Nat) : Int))) evds_nil)) fun vs4 H4 e4 f4 => ?_
  obtain rfl := f4.flat_of rfl
  refine ⟨p, 1, zs, rfl, sq_ex h3p e4, by decide, hz, fun b2 H5 hb2 e5 B5 => ?_⟩
  have W5 := (Wa.mono e4).mono e5
  refine q_asgC (evds_cons (evd_var (i := 1) rfl (.adr pw)) (evds_cons (W5.evs (evd_var (i := 1) rfl (.adr pw))) evds_nil)) fun vs6 H6 e6 f6 => ?_
  obtain ⟨u1, u2, rfl, g1, g2⟩ := f6.two
  obtain rfl := g1.adr_of
  refine ⟨pw, u2, w, s, rfl, W5.mono e6, g2, fun a H7 e7 S7 => ?_⟩
  have W7 := (W5.mono e6).mono e7
  refine q_asgC3 (evd_var (i := 1) rfl (.adr pw)) (W7.evs (evd_var (i := 1) rfl (.adr pw))) fun v1 v2 H8 e8 f1 f2 => ?_
  obtain rfl := f1.adr_of
  have W8 := W7.mono e8
  have e58 := (e6.trans e7).trans e8
  have cont : ∀ (f : V) (H9 : Hp), Ex H8 H9 → (f = .non ∨ ∃ pf fs, f = .ref pf ∧ Lst H9 pf (fs.map dSt) ∧ Found w s fs ∧ fs.length ≤ 300 ∧ ∀ t ∈ fs, SOk w t) →
      sp_l_alive T [.ref pw, v2, f] H9 (fun u H3 => t_lawB T { nx := fun _ H' => Q .non H', rt := Q } [some (.ref p), some (.ref pw), some (.ref b2), some (.ref a), some u, none, none, none, none, none, none] H3) E0 := fun f H9 e9 hf =>
    ⟨pw, v2, f, w, s, rfl, W8.mono e9, f2.mono (Kp.ex e9), hf, fun q x y H10 hq e10 hq10 hx10 hy10 => by
      refine pure_lawB T (W8.mono (e9.trans e10)) (S7.mono (Kp.ex (e8.trans (e9.trans e10)))) ?_ hq10 hx10 hy10 rfl k
      obtain ⟨i, j, l, hbb⟩ := B5
      exact ⟨i, j, l, (e58.trans (e9.trans e10)) _ _ hbb⟩⟩
  refine callD (evds_cons (evd_var (i := 1) rfl (.adr pw)) (evds_cons (W8.evs (evd_var (i := 1) rfl (.adr pw))) (evds_cons (evd_int (i := ((300 : Nat) : Int))) evds_nil))) fun vs9 H9 e9 f9 => ?_
  obtain ⟨w1, w2, w3, rfl, g1, g2, g3⟩ := f9.three
  obtain rfl := g1.adr_of
  obtain rfl := g3.int_of
  refine ⟨pw, w2, w, s, rfl, W8.mono e9, g2, fun v H10 e10 f10 => ?_, fun fs hF hl hO pf us H10 hpf e10 h10 f10 => ?_⟩
  · obtain rfl := f10.non_of
    exact cont .non H10 (e9.trans e10) (.inl rfl)
  · exact cont (.ref pf) H10 (e9.trans e10) (.inr ⟨pf, fs, rfl, ⟨us, h10, f10⟩, hF, hl, hO⟩)
end
end TR
namespace TR
open PySem L2 PyProof.Rows

section
variable {w : World} {K : PySem.W.Frag} {mg : Str → Option Value} {base : Heap}
theorem ok_l_visit (T : Txt K mg) : FnOk PW w K mg base CX0 36 T.l_visit.f T.l_visit.fd P_l_visit (sp_l_visit T) :=
  T.l_visit.F.ok sc_l_visit (fun vs H Q E h => by
    obtain ⟨_, _, _, _, _, e, _⟩ := h
    rw [e]; rfl) (fun cdv A outer s H vs Q E hr h => ⟨t_l_visit T, d_l_visit T (ok_l_are_rides T) (ok_l_end T) (ok_visit_row T) hr, pure_l_visit T vs H Q E h⟩)
theorem ok_l_run (T : Txt K mg) : FnOk PW w K mg base CX0 36 T.l_run.f T.l_run.fd P_l_run (sp_l_run T) :=
  T.l_run.F.ok sc_l_run (fun vs H Q E h => by
    obtain ⟨_, _, _, _, _, e, _⟩ := h
    rw [e]; rfl) (fun cdv A outer s H vs Q E hr h => ⟨t_l_run T, d_l_run T (ok_l_are_rides T) (ok_l_end T) (ok_run_rope T) hr, pure_l_run T vs H Q E h⟩)
theorem ok_l_no_station (T : Txt K mg) : FnOk PW w K mg base CX0 36 T.l_no_station.f T.l_no_station.fd P_l_no_station (sp_l_no_station T) :=
  T.l_no_station.F.ok sc_l_no_station (fun vs H Q E h => by
    obtain ⟨_, _, _, _, e, _⟩ := h
    rw [e]; rfl) (fun cdv A outer s H vs Q E hr h => ⟨t_l_no_station T, d_l_no_station T (ok_visit_row T) hr, pure_l_no_station T vs H Q E h⟩)
theorem ok_l_no_rope (T : Txt K mg) : FnOk PW w K mg base CX0 36 T.l_no_rope.f T.l_no_rope.fd P_l_no_rope (sp_l_no_rope T) :=
  T.l_no_rope.F.ok sc_l_no_rope (fun vs H Q E h => by
    obtain ⟨_, _, _, _, e, _⟩ := h
    rw [e]; rfl) (fun cdv A outer s H vs Q E hr h => ⟨t_l_no_rope T, d_l_no_rope T (ok_run_rope T) hr, pure_l_no_rope T vs H Q E h⟩)
theorem ok_law (T : Txt K mg) : FnOk PW w K mg base CX0 41 T.law.f T.law.fd P_law (sp_law T) :=
  T.law.F.ok sc_law (fun vs H Q E h => by
    obtain ⟨_, _, e, _⟩ := h
    rw [e]; rfl) (fun cdv A outer s H vs Q E hr h => ⟨t_law T, d_law T (ok_l_alive T) (ok_l_bag T) (ok_l_is_list T) (ok_l_no_rope T) (ok_l_no_station T) (ok_l_run T) (ok_l_search T) (ok_l_shows T) (ok_l_standing T) (ok_l_take T) (ok_l_visit T) (ok_l_world T) (ok_dead_stations T) hr, pure_law T vs H Q E h⟩)
end
end TR
namespace TR
open PySem PySem.Spec PyProof.Rows L2
open PySem.TRX (errBs errE FnE fnEv all_at eqV eqB)
noncomputable def txt {K : PySem.W.Frag} {h : Heap} {mg : Str → Option Value} (X : K.In h) (G : h.Ns mainGlobals mg) (c : obsX fa_ fn_ er_ ck_ K = valX fn_ ev_) : Txt K mg where
  Net := { C := He.ga K "Net", cl := He.cls_ok (sx_fact c 0 rfl), g := (He.glo_ok X G (sx_fact c 1 rfl)), init := (mkMe (sx_def c 33 rfl) (fun _ _ _ _ _ _ us hl => match us, hl with | [_, _, _], _ => rfl) (He.meth_ok (sx_fact c 2 rfl))), mkc := He.mkr_ok (sx_fact c 3 rfl), nStations := (He.noat_ok (sx_fact c 4 rfl)), nRopes := (He.noat_ok (sx_fact c 5 rfl)), uR := (con_of (sx_ck c 0 rfl)).choose, mostRopes := (con_of (sx_ck c 0 rfl)).choose_spec, mc := .type "type", rd := crd_of (sx_ck c 1 rfl), uS := (cv_of (sx_ck c 2 rfl)).choose, mostStations := (cv_of (sx_ck c 2 rfl)).choose_spec }
  Standing := { C := He.ga K "Standing", cl := He.cls_ok (sx_fact c 6 rfl), g := (He.glo_ok X G (sx_fact c 7 rfl)), init := (mkMe (sx_def c 6 rfl) (fun _ _ _ _ _ _ us hl => match us, hl with | [_, _, _, _, _], _ => rfl) (He.meth_ok (sx_fact c 8 rfl))), mkc := He.mkr_ok (sx_fact c 9 rfl), nNet := (He.noat_ok (sx_fact c 10 rfl)), nReds := (He.noat_ok (sx_fact c 11 rfl)), nBlues := (He.noat_ok (sx_fact c 12 rfl)), nCars := (He.noat_ok (sx_fact c 13 rfl)), red_car := (mkMe (sx_def c 7 rfl) (fun _ _ _ _ _ _ us hl => match us, hl with | [_, _], _ => rfl) (He.meth_ok (sx_fact c 14 rfl))), blue_car := (mkMe (sx_def c 8 rfl) (fun _ _ _ _ _ _ us hl => match us, hl with | [_, _], _ => rfl) (He.meth_ok (sx_fact c 15 rfl))), uG := (con_of (sx_ck c 3 rfl)).choose, mostGuests := (con_of (sx_ck c 3 rfl)).choose_spec, ha := He.eqO_ok (sx_ck c 4 rfl), hn := He.eqO_ok (sx_ck c 5 rfl), htk := of_decide_eq_true (sx_ck c 6 rfl), hm := of_decide_eq_true (sx_ck c 7 rfl), kit := of_decide_eq_true (sx_ck c 8 rfl) }
  RopeError := ⟨He.ga K "RopeError", (He.glo_ok X G (sx_fact c 16 rfl))⟩
  b_super := He.free_ok X G (sx_fact c 17 rfl)
  NoStation := mkErr X G (sx_ck c 9 rfl) (sx_err c 0 rfl rfl)
  NoRope := mkErr X G (sx_ck c 10 rfl) (sx_err c 1 rfl rfl)
  Dead := mkErr X G (sx_ck c 11 rfl) (sx_err c 2 rfl rfl)
  Still := mkErr X G (sx_ck c 12 rfl) (sx_err c 3 rfl rfl)
  k_NoStation_RopeError := of_decide_eq_true (sx_ck c 13 rfl)
  k_NoStation_Dead := of_decide_eq_true (sx_ck c 14 rfl)
  k_NoRope_RopeError := of_decide_eq_true (sx_ck c 15 rfl)
  k_NoRope_Still := of_decide_eq_true (sx_ck c 16 rfl)
  k_Dead_RopeError := of_decide_eq_true (sx_ck c 17 rfl)
  k_Dead_Still := of_decide_eq_true (sx_ck c 18 rfl)
  k_Still_RopeError := of_decide_eq_true (sx_ck c 19 rfl)
  k_Still_Dead := of_decide_eq_true (sx_ck c 20 rfl)
  k_Dead_ValueError := of_decide_eq_true (sx_ck c 21 rfl)
  k_Still_ValueError := of_decide_eq_true (sx_ck c 22 rfl)
  b_len := He.free_ok X G (sx_fact c 18 rfl)
  b_isinstance := He.free_ok X G (sx_fact c 19 rfl)
  b_any := He.free_ok X G (sx_fact c 20 rfl)
  b_min := He.free_ok X G (sx_fact c 21 rfl)
  b_sum := He.free_ok X G (sx_fact c 22 rfl)
  b_list := He.free_ok X G (sx_fact c 23 rfl)
  b_tuple := He.free_ok X G (sx_fact c 24 rfl)
  b_int := He.free_ok X G (sx_fact c 25 rfl)
  b_range := He.free_ok X G (sx_fact c 26 rfl)
  b_enumerate := He.free_ok X G (sx_fact c 27 rfl)
  b_bool := He.free_ok X G (sx_fact c 28 rfl)
  b_str := He.free_ok X G (sx_fact c 29 rfl)
  b_ValueError := He.free_ok X G (sx_fact c 30 rfl)
  check_station := mkDn (sx_def c 0 rfl) (fun _ _ _ _ _ _ us hl => match us, hl with | [_, _], _ => rfl) (He.glo_ok X G (sx_fact c 31 rfl))
  check_rope := mkDn (sx_def c 1 rfl) (fun _ _ _ _ _ _ us hl => match us, hl with | [_, _], _ => rfl) (He.glo_ok X G (sx_fact c 32 rfl))
  check_colour := mkDn (sx_def c 2 rfl) (fun _ _ _ _ _ _ us hl => match us, hl with | [_], _ => rfl) (He.glo_ok X G (sx_fact c 33 rfl))
  check_rides := mkDn (sx_def c 3 rfl) (fun _ _ _ _ _ _ us hl => match us, hl with | [_, _], _ => rfl) (He.glo_ok X G (sx_fact c 34 rfl))
  check_cars := mkDn (sx_def c 4 rfl) (fun _ _ _ _ _ _ us hl => match us, hl with | [_, _], _ => rfl) (He.glo_ok X G (sx_fact c 35 rfl))
  check_guests := mkDn (sx_def c 5 rfl) (fun _ _ _ _ _ _ us hl => match us, hl with | [_, _, _], _ => rfl) (He.glo_ok X G (sx_fact c 36 rfl))
  far_end := mkDn (sx_def c 9 rfl) (fun _ _ _ _ _ _ us hl => match us, hl with | [_, _, _], _ => rfl) (He.glo_ok X G (sx_fact c 37 rfl))
  car_station := mkDn (sx_def c 10 rfl) (fun _ _ _ _ _ _ us hl => match us, hl with | [_, _, _], _ => rfl) (He.glo_ok X G (sx_fact c 38 rfl))
  guests_of := mkDn (sx_def c 11 rfl) (fun _ _ _ _ _ _ us hl => match us, hl with | [_, _], _ => rfl) (He.glo_ok X G (sx_fact c 39 rfl))
  moved := mkDn (sx_def c 12 rfl) (fun _ _ _ _ _ _ us hl => match us, hl with | [_, _, _], _ => rfl) (He.glo_ok X G (sx_fact c 40 rfl))
  is_possible := mkDn (sx_def c 13 rfl) (fun _ _ _ _ _ _ us hl => match us, hl with | [_, _, _], _ => rfl) (He.glo_ok X G (sx_fact c 41 rfl))
  walk := mkDn (sx_def c 14 rfl) (fun _ _ _ _ _ _ us hl => match us, hl with | [_, _], _ => rfl) (He.glo_ok X G (sx_fact c 42 rfl))
  arrows_of := mkDn (sx_def c 16 rfl) (fun _ _ _ _ _ _ us hl => match us, hl with | [_], _ => rfl) (He.glo_ok X G (sx_fact c 43 rfl))
  reached_from := mkDn (sx_def c 17 rfl) (fun _ _ _ _ _ _ us hl => match us, hl with | [_, _, _], _ => rfl) (He.glo_ok X G (sx_fact c 44 rfl))
  red_reach := mkDn (sx_def c 18 rfl) (fun _ _ _ _ _ _ us hl => match us, hl with | [_], _ => rfl) (He.glo_ok X G (sx_fact c 45 rfl))
  blue_reach := mkDn (sx_def c 19 rfl) (fun _ _ _ _ _ _ us hl => match us, hl with | [_], _ => rfl) (He.glo_ok X G (sx_fact c 46 rfl))
  can_meet := mkDn (sx_def c 20 rfl) (fun _ _ _ _ _ _ us hl => match us, hl with | [_], _ => rfl) (He.glo_ok X G (sx_fact c 47 rfl))
  lengths_to_blue := mkDn (sx_def c 21 rfl) (fun _ _ _ _ _ _ us hl => match us, hl with | [_, _], _ => rfl) (He.glo_ok X G (sx_fact c 48 rfl))
  least_ropes := mkDn (sx_def c 22 rfl) (fun _ _ _ _ _ _ us hl => match us, hl with | [_, _, _], _ => rfl) (He.glo_ok X G (sx_fact c 49 rfl))
  meeting_way := mkDn (sx_def c 23 rfl) (fun _ _ _ _ _ _ us hl => match us, hl with | [_], _ => rfl) (He.glo_ok X G (sx_fact c 50 rfl))
  dead_stations := mkDn (sx_def c 24 rfl) (fun _ _ _ _ _ _ us hl => match us, hl with | [_], _ => rfl) (He.glo_ok X G (sx_fact c 51 rfl))
  ropes_back := mkDn (sx_def c 25 rfl) (fun _ _ _ _ _ _ us hl => match us, hl with | [_, _], _ => rfl) (He.glo_ok X G (sx_fact c 52 rfl))
  shortest_way := mkDn (sx_def c 26 rfl) (fun _ _ _ _ _ _ us hl => match us, hl with | [_, _, _], _ => rfl) (He.glo_ok X G (sx_fact c 53 rfl))
  lone_row := mkDn (sx_def c 27 rfl) (fun _ _ _ _ _ _ us hl => match us, hl with | [_, _, _], _ => rfl) (He.glo_ok X G (sx_fact c 54 rfl))
  pair_row := mkDn (sx_def c 28 rfl) (fun _ _ _ _ _ _ us hl => match us, hl with | [_, _], _ => rfl) (He.glo_ok X G (sx_fact c 55 rfl))
  visit_row := mkDn (sx_def c 29 rfl) (fun _ _ _ _ _ _ us hl => match us, hl with | [_, _], _ => rfl) (He.glo_ok X G (sx_fact c 56 rfl))
  run_rope := mkDn (sx_def c 30 rfl) (fun _ _ _ _ _ _ us hl => match us, hl with | [_, _], _ => rfl) (He.glo_ok X G (sx_fact c 57 rfl))
  cut_off := mkDn (sx_def c 31 rfl) (fun _ _ _ _ _ _ us hl => match us, hl with | [_, _], _ => rfl) (He.glo_ok X G (sx_fact c 58 rfl))
  check_size := mkDn (sx_def c 32 rfl) (fun _ _ _ _ _ _ us hl => match us, hl with | [_, _], _ => rfl) (He.glo_ok X G (sx_fact c 59 rfl))
  l_integer := mkDn (sx_def c 34 rfl) (fun _ _ _ _ _ _ us hl => match us, hl with | [_], _ => rfl) (He.glo_ok X G (sx_fact c 60 rfl))
  l_bag := mkDn (sx_def c 35 rfl) (fun _ _ _ _ _ _ us hl => match us, hl with | [_, _], _ => rfl) (He.glo_ok X G (sx_fact c 61 rfl))
  l_take := mkDn (sx_def c 36 rfl) (fun _ _ _ _ _ _ us hl => match us, hl with | [_, _], _ => rfl) (He.glo_ok X G (sx_fact c 62 rfl))
  l_order := mkDn (sx_def c 37 rfl) (fun _ _ _ _ _ _ us hl => match us, hl with | [_, _], _ => rfl) (He.glo_ok X G (sx_fact c 63 rfl))
  l_add_rope := mkDn (sx_def c 38 rfl) (fun _ _ _ _ _ _ us hl => match us, hl with | [_, _, _, _], _ => rfl) (He.glo_ok X G (sx_fact c 64 rfl))
  l_net := mkDn (sx_def c 39 rfl) (fun _ _ _ _ _ _ us hl => match us, hl with | [_, _, _], _ => rfl) (He.glo_ok X G (sx_fact c 65 rfl))
  l_guests := mkDn (sx_def c 40 rfl) (fun _ _ _ _ _ _ us hl => match us, hl with | [_, _, _], _ => rfl) (He.glo_ok X G (sx_fact c 66 rfl))
  l_cars := mkDn (sx_def c 41 rfl) (fun _ _ _ _ _ _ us hl => match us, hl with | [_, _, _, _], _ => rfl) (He.glo_ok X G (sx_fact c 67 rfl))
  l_world := mkDn (sx_def c 42 rfl) (fun _ _ _ _ _ _ us hl => match us, hl with | [_], _ => rfl) (He.glo_ok X G (sx_fact c 68 rfl))
  l_standing := mkDn (sx_def c 43 rfl) (fun _ _ _ _ _ _ us hl => match us, hl with | [_, _], _ => rfl) (He.glo_ok X G (sx_fact c 69 rfl))
  l_shows := mkDn (sx_def c 44 rfl) (fun _ _ _ _ _ _ us hl => match us, hl with | [_, _], _ => rfl) (He.glo_ok X G (sx_fact c 70 rfl))
  l_arrows := mkDn (sx_def c 45 rfl) (fun _ _ _ _ _ _ us hl => match us, hl with | [_, _], _ => rfl) (He.glo_ok X G (sx_fact c 71 rfl))
  l_rides := mkDn (sx_def c 46 rfl) (fun _ _ _ _ _ _ us hl => match us, hl with | [_, _], _ => rfl) (He.glo_ok X G (sx_fact c 72 rfl))
  l_ride := mkDn (sx_def c 47 rfl) (fun _ _ _ _ _ _ us hl => match us, hl with | [_, _, _], _ => rfl) (He.glo_ok X G (sx_fact c 73 rfl))
  l_search := mkDn (sx_def c 48 rfl) (fun _ _ _ _ _ _ us hl => match us, hl with | [_, _, _], _ => rfl) (He.glo_ok X G (sx_fact c 74 rfl))
  l_reach := mkDn (sx_def c 49 rfl) (fun _ _ _ _ _ _ us hl => match us, hl with | [_, _, _], _ => rfl) (He.glo_ok X G (sx_fact c 75 rfl))
  l_reaches := mkDn (sx_def c 50 rfl) (fun _ _ _ _ _ _ us hl => match us, hl with | [_, _], _ => rfl) (He.glo_ok X G (sx_fact c 76 rfl))
  l_alive := mkDn (sx_def c 51 rfl) (fun _ _ _ _ _ _ us hl => match us, hl with | [_, _, _], _ => rfl) (He.glo_ok X G (sx_fact c 77 rfl))
  l_is_list := mkDn (sx_def c 52 rfl) (fun _ _ _ _ _ _ us hl => match us, hl with | [_, _], _ => rfl) (He.glo_ok X G (sx_fact c 78 rfl))
  l_are_rides := mkDn (sx_def c 53 rfl) (fun _ _ _ _ _ _ us hl => match us, hl with | [_, _], _ => rfl) (He.glo_ok X G (sx_fact c 79 rfl))
  l_end := mkDn (sx_def c 54 rfl) (fun _ _ _ _ _ _ us hl => match us, hl with | [_, _, _], _ => rfl) (He.glo_ok X G (sx_fact c 80 rfl))
  l_visit := mkDn (sx_def c 55 rfl) (fun _ _ _ _ _ _ us hl => match us, hl with | [_, _, _, _], _ => rfl) (He.glo_ok X G (sx_fact c 81 rfl))
  l_run := mkDn (sx_def c 56 rfl) (fun _ _ _ _ _ _ us hl => match us, hl with | [_, _, _, _], _ => rfl) (He.glo_ok X G (sx_fact c 82 rfl))
  l_no_station := mkDn (sx_def c 57 rfl) (fun _ _ _ _ _ _ us hl => match us, hl with | [_, _], _ => rfl) (He.glo_ok X G (sx_fact c 83 rfl))
  l_no_rope := mkDn (sx_def c 58 rfl) (fun _ _ _ _ _ _ us hl => match us, hl with | [_, _], _ => rfl) (He.glo_ok X G (sx_fact c 84 rfl))
  law := mkDn (sx_def c 59 rfl) (fun _ _ _ _ _ _ us hl => match us, hl with | [_], _ => rfl) (He.glo_ok X G (sx_fact c 85 rfl))
  end_of_f := He.ga K "end_of"
  end_of_g := (He.glo_ok X G (sx_fact c 86 rfl))
  end_of_kp := He.keep_ok (sx_fact c 87 rfl)
  end_of_fd := (sx_def c 15 (d := dd_end_of) rfl).choose
  end_of_F := (sx_def c 15 (d := dd_end_of) rfl).choose_spec
end TR
namespace TR
open PySem PySem.Spec PyProof.Rows L2
def LawF (K : PySem.W.Frag) (mg : Str → Option Value) (w : World) (f : Addr) : Prop :=
  ∃ (fd : FuncData) (sp : Sp), (∀ (s : Shared) (u : Value), BindsTo s fd ⟨[u], []⟩ [("_law_script", u)]) ∧
    (∀ (H : Hp) (a : Addr) (ns : List Int), ns.length ≤ 63 → Only H → SqL K H a (ns.map V.int) → sp [.ref a] H (fun v _ => v = .bl true) fun _ _ _ => False) ∧
    ∀ base : Heap, K.In base → base.Ns mainGlobals mg → FnOk PW w K mg base CX0 41 f fd ["_law_script"] sp
theorem facts0 {K : PySem.W.Frag} {mg : Str → Option Value} {w : World} {f : Addr} (T : Txt K mg) (hfa : mg ("law" : Str) = some (.ref f)) : LawF K mg w f := by
  have z : T.law.f = f := by
    have z := T.law.g.symm.trans hfa
    injection z with z
    injection z
  subst z
  refine ⟨T.law.fd, sp_law T, fun s u => ?_, fun H a ns hl _ hS => ⟨a, ns, rfl, hS, by omega, fun _ => rfl⟩, fun base _ _ => ok_law T⟩
  obtain ⟨oc, od, kV, doc, pm, an, cdv, ct, osl, e, lk, hcd⟩ := T.law.F.ex
  rw [e]
  exact .of_eq rfl
theorem facts {K : PySem.W.Frag} {h : Heap} {mg : Str → Option Value} {w : World} {f : Addr} (X : K.In h) (G : h.Ns mainGlobals mg) (hfa : mg ("law" : Str) = some (.ref f)) (c : obsX fa_ fn_ er_ ck_ K = valX fn_ ev_) : LawF K mg w f := facts0 (txt X G c) hfa
end TR
namespace TR
open PySem PySem.W PySem.Calls PyProof.Rows HandSHeadRun
theorem walk : WalkO (view R.prog [77]) nm_ (XL (view R.prog [77]) []) hk.says R.toRowW (topDef R.prog 77) [] fun f vs => PySem.call f vs := by
  refine L2.walk_ofE (l := PySem.Challenge.rw_twinrope_k14_whole_dead_stations_and_vis) (n := 63) (k := 41) (x := "_law_script") (CX := L2.CX0) rfl (by decide) a11 ⟨rfl, by decide, by decide⟩ ?F (fun _ _ _ _ z => z)
  intro w mg fa h Y G hmg0
  obtain ⟨K, KX, c⟩ := Y
  rw [a10] at hmg0
  obtain ⟨fd, sp, hb, hs, hF⟩ := facts (w := w) KX G hmg0 c
  exact ⟨K, fd, sp, KX, hb, hs, hF⟩
end TR
open PySem PySem.W PySem.Calls PyProof.Rows
theorem PySem.Challenge.cw_twinrope_k14_whole_dead_stations_and_vis_holds : PySem.Challenge.rw_twinrope_k14_whole_dead_stations_and_vis.Holds := by
  w_on; o_law
  refine HandSHeadRun.head_any (r := TR.R) (q := view TR.R.prog [77]) (H := TR.hk) (ob := TR.ob) (M := 8000) (loose := TR.nm_) (d := HandSHeadRun.topDef TR.R.prog 77) (kwd := []) TR.ob_eq TR.a1 TR.a2 TR.run TR.a3 TR.a4 TR.a5 TR.a6 (by assumption) TR.a8 TR.a9 ?hw TR.walk
  case hw => w_witness2
