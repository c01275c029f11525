import PyProof.Rows.All
import HandS.Iter
import KE.GoesMore
import Wide.All
import OpenK.AllK
import Wide.FinOn
import HandS.ForMost
import HandS.Small
import HandS.ForExc
import HandS.DeepEq
import HandS.ExcInit
import HandS.ExcField
import HandS.DictComp
import HandS.SetKeys
import HandS.TryMany
import HandS.StrMore
import HandS.Replace
import HandS.Flow
import HandS.Style
import HandS.IsInst
import HandS.FStr
import HandS.Property
import HandS.OwnEq
import HandS.SortKw
import HandS.Conv
import HandS.Defaults
import HandS.TupAny
import HandS.Steps
import HandS.HeadHook2
import HandS.HeadEnd
import HandS.Head2
import KE.KeyNested
import PyProof.StrOps2
import HandS.HotCalls
import KE.KEqNest
import PyProof.Rows.SortShellAny
import HandS.More
import HandS.Text
import HandS.DictEq
import HandS.ExcIs
import HandS.Head0
import HandS.Head1
import HandS.HeadHook1
import PySem.Challenge.RW_namecasts_k23_errors_are_apart
set_option Elab.async false
set_option linter.all false
set_option autoImplicit false
set_option maxRecDepth 100000
set_option maxHeartbeats 4000000
/-! enumerate over a tuple. -/
namespace Nc
open PySem PySem.Spec PyProof.Rows L2
open Sem (wp)
open AutoSeq1 (wpAny_loadPart')
theorem meets_enumT (l : Addr) (items : Array Value) (n : Nat) (dct : Option Addr) (sl : Array (Option Value)) :
    Meets (Builtin.«enumerate.__new__» ⟨[.type "enumerate", .ref l], []⟩) (fun _ R s => s.heap.get? l = some { cls := .type "tuple", dict := dct, data := .seq items n, slots := sl } ∧
      R (.ok (.ret (.ref (s.heap.push { cls := .type "tuple_iterator", data := .fields #[.ref l, .int 0 0] }).objs.size)))
        { s with heap := (s.heap.push { cls := .type "tuple_iterator", data := .fields #[.ref l, .int 0 0] }).push { cls := .type "enumerate", data := .fields #[.none, .bool false, .ref s.heap.objs.size, rawInt 0, .none, .none] } }) :=
  .of_wp fun prog w A R s h => by
    obtain ⟨hp, g, d, tk, os⟩ := s; obtain ⟨hl, h⟩ := h
    have hsub := sub_enumerate
    have hL : Heap.IsTuple (Shared.heap ⟨hp, g, d, tk, os⟩) l items := ⟨_, hl, rfl, n, rfl⟩
    wp_walk using wpAny_loadPart' hl
    refine wpAny_stack_any fun st => wpAny_pure ?_
    split
    · rename_i c _ _ _ _ _
      cases (c == Value.type "enumerate")
      · wp_walk using wpAny_loadPart' hl, wpAny_pyIter_tuple hL
        exact ⟨_, rfl, h⟩
      · wp_walk using wpAny_loadPart' hl, wpAny_pyIter_tuple hL
        exact ⟨_, rfl, h⟩
    · wp_walk using wpAny_loadPart' hl, wpAny_pyIter_tuple hL
      exact ⟨_, rfl, h⟩
section
variable {prog : Program} {w : World} {A : Around} {E : Value → Shared → Prop} {s : Shared}
theorem call_enumT {l : Addr} {items : Array Value} {Q : Value → Shared → Prop} (hL : s.heap.IsTuple l items)
    (h : ∀ h', IsEnum h' (s.heap.objs.size + 1) s.heap.objs.size 0 .none → h'.IsTupleIter s.heap.objs.size l 0 → h'.objs.size = s.heap.objs.size + 2 →
      (∀ b o, s.heap.get? b = some o → h'.get? b = some o) → Q (.ref (s.heap.objs.size + 1)) { s with heap := h' }) :
    wpAny (model prog w) A (call (.type "enumerate") [.ref l]) Q E s := by
  obtain ⟨⟨c, dct, dt, sl⟩, hl, hc, n, hd⟩ := hL
  replace hc : c = .type "tuple" := hc
  replace hd : dt = .seq items n := hd
  subst hc hd
  refine callType_new F.called_enumerate (by decide) (F.typeCall_enumerate_1 _) (F.newCall_enumerate_1 _) (fun obj => F.args_object_init_2 obj _) F.entry_enumerate_new
    (meets_enumT l items n dct sl) ⟨hl, ?_⟩
  have hz : (s.heap.push { cls := .type "tuple_iterator", data := .fields #[.ref l, .int 0 0] }).objs.size = s.heap.objs.size + 1 := Heap.size_push ..
  show _ ∧ _
  rw [hz]
  have he : IsEnum ((s.heap.push { cls := .type "tuple_iterator", data := .fields #[.ref l, .int 0 0] }).push
      { cls := .type "enumerate", data := .fields #[.none, .bool false, .ref s.heap.objs.size, rawInt 0, .none, .none] }) (s.heap.objs.size + 1) s.heap.objs.size 0 .none := by
    have := Heap.get?_push_size (s.heap.push { cls := .type "tuple_iterator", data := .fields #[.ref l, .int 0 0] })
      (o := { cls := .type "enumerate", data := .fields #[.none, .bool false, .ref s.heap.objs.size, rawInt 0, .none, .none] }) rfl
    rw [hz] at this; exact this
  refine ⟨⟨_, he, rfl⟩, h _ he ⟨_, Heap.get?_push_of_some _ (Heap.get?_push_size _ rfl), rfl, rfl⟩ (by rw [Heap.size_push, hz]) fun b o x => Heap.get?_push_of_some _ (Heap.get?_push_of_some _ x)⟩
end
/-- the tuple at a, each item in a new pair -/
def Itet (K : PySem.W.Frag) (a : Addr) : It :=
  ⟨fun i H => ∃ (xs : List V) (x : V), SqT K H a xs ∧ xs[i]? = some x, fun i H v H' => ∃ T x, v = .ref T ∧ H T = none ∧ H' = upd H T (.tup [.int (i : Nat), x]) ∧ ∀ xs, SqT K H a xs → xs[i]? = some x, fun i H => ∃ xs : List V, SqT K H a xs ∧ xs.length ≤ i⟩
theorem enum_apart {h : Heap} {a e it l : Addr} {i : Int} {j : Nat} {old : Value} {its : Array Value} (p : h.IsTuple a its) (he : IsEnum h e it i old) (hit : h.IsTupleIter it l j) : a ≠ e ∧ a ≠ it := by
  obtain ⟨o, ho, hc, _⟩ := p
  refine ⟨fun z => ?_, fun z => ?_⟩
  · rw [z] at ho
    have e1 := Option.some.inj (ho.symm.trans he)
    rw [e1] at hc
    simp at hc
  · obtain ⟨o2, ho2, hc2, _⟩ := hit
    rw [z] at ho
    have e1 := Option.some.inj (ho.symm.trans ho2)
    rw [e1, hc2] at hc
    simp at hc
theorem draws_end {prog : Program} {w : World} {A : Around} (hh : A.handled = none) (it t : Addr) (i : Nat) (items : Array Value) (hi : items[i]? = none) :
    Draws prog w A it [it, t] 0 (fun _ _ => False) (fun _ h => h.IsTupleIter it t i ∧ h.IsTuple t items) where
  live := fun _ _ st => let ⟨o, ho, _⟩ := st.1; ⟨o, ho⟩
  frame := fun _ _ _ st hk => ⟨st.1.at fun o e => hk it (by simp) o e, st.2.at fun o e => hk t (by simp) o e⟩
  item := fun i s Q E hi st hQ => absurd hi (Nat.not_lt_zero _)
  done := fun s Q E st hE => wpAny_nextOf_tuple_end hh st.1 st.2 hi hE
theorem turn_enumT {P : Program} {w : World} {K : PySem.W.Frag} {elts : List Expr} {kk : Nat} {tpos : Pos} (a e it : Addr) :
    Turn P w K (.Tuple elts kk tpos) (Itet K a) [e, it] e (fun i h => (∃ old, IsEnum h e it ((i : Nat) : Int) old) ∧ h.IsTupleIter it a i ∧ e ≠ it) where
  mem := by simp
  obj := fun i h st b hb => by
    obtain ⟨⟨old, he⟩, ⟨o, ho, hc, hd⟩, _⟩ := st
    have e' : b = e ∨ b = it := by simpa using hb
    rcases e' with z | z
    · rw [z]; exact ⟨_, he, fun v q => nomatch q⟩
    · rw [z]; exact ⟨o, ho, fun v q => by rw [hd] at q; cases q⟩
  keep := fun i h h' st k => let ⟨⟨old, he⟩, hi, hne⟩ := st; ⟨⟨old, k e (by simp) _ he⟩, hi.at fun o q => k it (by simp) o q, hne⟩
  item := by
    intro X hP hw hK hc i pins s σ H E I hf st hg
    subst hP hw hK
    obtain ⟨⟨old, he⟩, hit, hne⟩ := st
    obtain ⟨xs, x, hq, hx⟩ := hg
    obtain ⟨its, rv, p, hz⟩ := I.tuple hq
    have p : s.heap.IsTuple a its.toArray := p
    obtain ⟨u, hu, ru⟩ := rv.get hx
    obtain ⟨hae, hai⟩ := enum_apart p he hit
    have hel : e < s.heap.objs.size := Heap.lt_size he
    have hil : it < s.heap.objs.size := by obtain ⟨_, q, _⟩ := hit; exact Heap.lt_size q
    have hlt : i < its.toArray.size := by
      rcases Nat.lt_or_ge i its.toArray.size with h | h
      · exact h
      · rw [List.getElem?_eq_none (by simpa using h)] at hu; cases hu
    refine wpAny_pyNext_enum_itemD (Draws.tuple (A := X.A.in1) (I.ok.hd hc) it a hai its.toArray) he ⟨hit, p⟩ hlt hne (by simp; exact ⟨hne, fun z => hae z.symm⟩) fun x' h' tk px ho st' hT hsz hk => ?_
    have ex : x' = u := by
      have px : its.toArray[i]? = some x' := px
      rw [List.getElem?_toArray, hu] at px
      exact (Option.some.inj px).symm
    subst ex
    obtain ⟨hit', p'⟩ := st'
    refine ⟨_, rfl, wpAny_letOwnedTupleGo_enum (s := { s with heap := h', toks := tk + 1 }) ho fun h'' he' sb => ?_⟩
    have hT2 : h''.get? s.heap.objs.size = some { cls := .type "tuple", data := .seq #[.int i tk, x'] } := (sb.2 _ (Nat.ne_of_gt hel)).trans hT
    have new : ObjOk X.prog X.w (upd H s.heap.objs.size (.tup [.int (i : Nat), x])) h'' s.heap.objs.size (.tup [.int (i : Nat), x]) :=
      ⟨by show 2 ≤ sizeLine; decide, [.int i tk, x'], .cons ⟨_, rfl⟩ (.cons ru .nil), ⟨_, hT2, rfl, _, rfl⟩⟩
    have I1 : Inv X pins σ (upd H s.heap.objs.size (.tup [.int (i : Nat), x])) { s with heap := h'', toks := tk + 1 } :=
      I.turnedNew (ch := [e, it]) (fun b ob hb q => (sb.2 b (fun z => hb (by simp [z]))).trans (hk b ob (fun z => hb (by simp [z])) (fun z => hb (by simp [z])) q)) hf (Nat.le_refl _) new
    refine ⟨.ref s.heap.objs.size, _, I1, rfl, ⟨_, x, rfl, I.hok.fresh (Nat.le_refl _), rfl, fun ys hy => by rw [I.tuple_inj hy hq]; exact hx⟩, ⟨⟨x', ?_⟩, hit'.at fun o q => (sb.2 it (Ne.symm hne)).trans q, hne⟩, fun b hb => ?_⟩
    · have e1 : ((i + 1 : Nat) : Int) = (i : Int) + 1 := by omega
      rw [e1]; exact he'
    · have hb' : b < s.heap.objs.size := by
        have e' : b = e ∨ b = it := by simpa using hb
        rcases e' with z | z
        · rw [z]; exact hel
        · rw [z]; exact hil
      rw [upd_ne (Nat.ne_of_lt hb')]
      exact (hf b hb).1
  done := by
    intro X hP hw hK hc i pins s σ H E I hf st hg
    subst hP hw hK
    obtain ⟨⟨old, he⟩, hit, hne⟩ := st
    obtain ⟨xs, hq, hx⟩ := hg
    obtain ⟨its, rv, p, hz⟩ := I.tuple hq
    have p : s.heap.IsTuple a its.toArray := p
    obtain ⟨f0, f1, f2, f3, f4, f5⟩ := hf it (by simp)
    have hl := rv.length
    exact wpAny_pyNext_enum_endD (draws_end (A := X.A.in1) (I.ok.hd hc) it a i its.toArray (by simp; omega)) he ⟨hit, p⟩ fun h' eb => ⟨rfl, I.turned (t' := s.toks) (fun b o hb q => eb b o hb q) f0 f1 f3 f4 f5⟩
  self := fun A i s Q E st h => let ⟨⟨_, he⟩, _⟩ := st; wpAny_pyIter_enum he h
/-- over a list or a tuple -/
def iEnumS (K : PySem.W.Frag) (ta : TA) : TI := fun σ H R => ta σ H fun vs H1 => ∃ a, vs = [.ref a] ∧ ((∃ xs, SqL K H1 a xs ∧ R (Ite K a) H1) ∨ ∃ xs, SqT K H1 a xs ∧ R (Itet K a) H1)
theorem pi_enumS {X : Cx} {e : Expr} {ta : TA} {p pos tpos : Pos} {elts : List Expr} {kk : Nat} (hg : Gl X "enumerate") (hm : X.mg "enumerate" = none) (ha : PA X [e] ta) (hs : starEach [e] X.env = [(false, eval e X.env)] := by rfl) :
    PI X (.Tuple elts kk tpos) (.Call (.Name "enumerate" p) [e] [] pos) (iEnumS X.K ta) := by
  refine ⟨fun pins s σ H R I h => ?_⟩
  refine Call_ (ld_blt I hg hm boot_enumerate (PyProof.Rows.callWith_type1 (thn (ha.run pos pins s σ H _ I h) fun us s1 ⟨vs, H1, I1, r1, q1⟩ => ?_) hs rfl))
  obtain ⟨a, ex, q⟩ := q1
  subst ex
  cases r1 with
  | cons r rr =>
    cases rr
    cases r
    have fpo : ∀ b ∈ [s1.heap.objs.size + 1, s1.heap.objs.size], FpOk X pins H1 b := fun b hb => by
      have e' : b = s1.heap.objs.size + 1 ∨ b = s1.heap.objs.size := by simpa using hb
      have hle : s1.heap.objs.size ≤ b := by
        rcases e' with z | z
        · rw [z]; exact Nat.le_add_right _ _
        · rw [z]; exact Nat.le_refl _
      exact I1.fpOk hle (I1.hok.fresh hle)
    rcases q with ⟨xs, hq, q⟩ | ⟨xs, hq, q⟩
    · obtain ⟨its, rv, p', hz⟩ := I1.list hq
      refine call_enumerate_list p'.isList fun h' he hit hsz hk => wpAny_pyIter_enum he ?_
      have I2 : Inv X pins σ H1 { s1 with heap := h' } := I1.kept (t' := s1.toks) hk
      exact ⟨s1.heap.objs.size + 1, [s1.heap.objs.size + 1, s1.heap.objs.size], _, _, H1, rfl, I2, turn_enum a (s1.heap.objs.size + 1) s1.heap.objs.size, ⟨⟨.none, he⟩, hit, Nat.succ_ne_self _⟩, fpo, q⟩
    · obtain ⟨its, rv, p', hz⟩ := I1.tuple hq
      refine call_enumT (show s1.heap.IsTuple a its.toArray from p') fun h' he hit hsz hk => wpAny_pyIter_enum he ?_
      have I2 : Inv X pins σ H1 { s1 with heap := h' } := I1.kept (t' := s1.toks) hk
      exact ⟨s1.heap.objs.size + 1, [s1.heap.objs.size + 1, s1.heap.objs.size], _, _, H1, rfl, I2, turn_enumT a (s1.heap.objs.size + 1) s1.heap.objs.size, ⟨⟨.none, he⟩, hit, Nat.succ_ne_self _⟩, fpo, q⟩
end Nc

set_option Elab.async false
set_option linter.all false
set_option autoImplicit false
set_option maxRecDepth 100000
set_option maxHeartbeats 4000000
/-! enumerate over a text, too. -/
namespace Nc
open PySem PySem.Spec PyProof.Rows L2
/-- the signs of a text, each in a new pair -/
def Itex (x : Str) : It :=
  ⟨fun i _ => i < x.cps.size, fun i H v H' => ∃ T c, v = .ref T ∧ H T = none ∧ x.cps[i]? = some c ∧ H' = upd H T (.tup [.int (i : Nat), .str ⟨#[c]⟩]), fun i _ => i = x.cps.size⟩
theorem strIter_at {h h' : Heap} {it : Addr} {T : String} {x : Str} {t : Tok} {i : Nat} (st : h.IsStrIter it T x t i) (k : ∀ o, h.get? it = some o → h'.get? it = some o) : h'.IsStrIter it T x t i :=
  let ⟨o, ho, hc, hd⟩ := st
  ⟨o, k o ho, hc, hd⟩
theorem turn_enumX {P : Program} {w : World} {K : PySem.W.Frag} {elts : List Expr} {kk : Nat} {tpos : Pos} (x : Str) (t : Tok) (e it : Addr) :
    Turn P w K (.Tuple elts kk tpos) (Itex x) [e, it] e (fun i h => (∃ old, IsEnum h e it ((i : Nat) : Int) old) ∧ h.IsStrIter it (strIterType x) x t i ∧ e ≠ it) where
  mem := by simp
  obj := fun i h st b hb => by
    obtain ⟨⟨old, he⟩, ⟨o, ho, hc, hd⟩, _⟩ := st
    have e' : b = e ∨ b = it := by simpa using hb
    rcases e' with z | z
    · rw [z]; exact ⟨_, he, fun v q => nomatch q⟩
    · rw [z]; exact ⟨o, ho, fun v q => by rw [hd] at q; cases q⟩
  keep := fun i h h' st k => let ⟨⟨old, he⟩, hi, hne⟩ := st; ⟨⟨old, k e (by simp) _ he⟩, strIter_at hi fun o q => k it (by simp) o q, hne⟩
  item := by
    intro X hP hw hK hc i pins s σ H E I hf st hg
    subst hP hw hK
    obtain ⟨⟨old, he⟩, hit, hne⟩ := st
    have hel : e < s.heap.objs.size := Heap.lt_size he
    have hil : it < s.heap.objs.size := by obtain ⟨_, q, _⟩ := hit; exact Heap.lt_size q
    refine wpAny_pyNext_enum_itemD (Draws.text (A := X.A.in1) (I.ok.hd hc) it x t) he hit hg hne (by simp; exact hne) fun x' h' tk px ho hit' hT hsz hk => ?_
    obtain ⟨c, u, hcx, ex⟩ := px
    subst ex
    refine ⟨_, rfl, wpAny_letOwnedTupleGo_enum (s := { s with heap := h', toks := tk + 1 }) ho fun h'' he' sb => ?_⟩
    have hT2 : h''.get? s.heap.objs.size = some { cls := .type "tuple", data := .seq #[.int i tk, .str ⟨#[c]⟩ u] } := (sb.2 _ (Nat.ne_of_gt hel)).trans hT
    have new : ObjOk X.prog X.w (upd H s.heap.objs.size (.tup [.int (i : Nat), .str ⟨#[c]⟩])) h'' s.heap.objs.size (.tup [.int (i : Nat), .str ⟨#[c]⟩]) :=
      ⟨by show 2 ≤ sizeLine; decide, [.int i tk, .str ⟨#[c]⟩ u], .cons ⟨_, rfl⟩ (.cons ⟨_, rfl⟩ .nil), ⟨_, hT2, rfl, _, rfl⟩⟩
    have I1 : Inv X pins σ (upd H s.heap.objs.size (.tup [.int (i : Nat), .str ⟨#[c]⟩])) { s with heap := h'', toks := tk + 1 } :=
      I.turnedNew (ch := [e, it]) (fun b ob hb q => (sb.2 b (fun z => hb (by simp [z]))).trans (hk b ob (fun z => hb (by simp [z])) (fun z => hb (by simp [z])) q)) hf (Nat.le_refl _) new
    refine ⟨.ref s.heap.objs.size, _, I1, rfl, ⟨_, c, rfl, I.hok.fresh (Nat.le_refl _), hcx, rfl⟩, ⟨⟨.str ⟨#[c]⟩ u, ?_⟩, strIter_at hit' fun o q => (sb.2 it (Ne.symm hne)).trans q, hne⟩, fun b hb => ?_⟩
    · have e1 : ((i + 1 : Nat) : Int) = (i : Int) + 1 := by omega
      rw [e1]; exact he'
    · have hb' : b < s.heap.objs.size := by
        have e' : b = e ∨ b = it := by simpa using hb
        rcases e' with z | z
        · rw [z]; exact hel
        · rw [z]; exact hil
      rw [upd_ne (Nat.ne_of_lt hb')]
      exact (hf b hb).1
  done := by
    intro X hP hw hK hc i pins s σ H E I hf st hg
    subst hP hw hK
    obtain ⟨⟨old, he⟩, hit, hne⟩ := st
    have hg : i = x.cps.size := hg
    obtain ⟨f0, f1, f2, f3, f4, f5⟩ := hf it (by simp)
    exact wpAny_pyNext_enum_endD (Draws.text (A := X.A.in1) (I.ok.hd hc) it x t) he (by rw [← hg]; exact hit) fun h' eb => ⟨rfl, I.turned (t' := s.toks) (fun b o hb q => eb b o hb q) f0 f1 f3 f4 f5⟩
  self := fun A i s Q E st h => let ⟨⟨_, he⟩, _⟩ := st; wpAny_pyIter_enum he h
/-- over a list, a tuple or a text -/
def iEnumA (K : PySem.W.Frag) (ta : TA) : TI := fun σ H R => ta σ H fun vs H1 => (∃ a, vs = [.ref a] ∧ ((∃ xs, SqL K H1 a xs ∧ R (Ite K a) H1) ∨ ∃ xs, SqT K H1 a xs ∧ R (Itet K a) H1)) ∨ ∃ x, vs = [.str x] ∧ R (Itex x) H1
theorem pi_enumA {X : Cx} {e : Expr} {ta : TA} {p pos tpos : Pos} {elts : List Expr} {kk : Nat} (hg : Gl X "enumerate") (hm : X.mg "enumerate" = none) (ha : PA X [e] ta) (hs : starEach [e] X.env = [(false, eval e X.env)] := by rfl) :
    PI X (.Tuple elts kk tpos) (.Call (.Name "enumerate" p) [e] [] pos) (iEnumA X.K ta) := by
  refine ⟨fun pins s σ H R I h => ?_⟩
  refine Call_ (ld_blt I hg hm boot_enumerate (PyProof.Rows.callWith_type1 (thn (ha.run pos pins s σ H _ I h) fun us s1 ⟨vs, H1, I1, r1, q1⟩ => ?_) hs rfl))
  have fpo : ∀ b ∈ [s1.heap.objs.size + 1, s1.heap.objs.size], FpOk X pins H1 b := fun b hb => by
    have e' : b = s1.heap.objs.size + 1 ∨ b = s1.heap.objs.size := by simpa using hb
    have hle : s1.heap.objs.size ≤ b := by
      rcases e' with z | z
      · rw [z]; exact Nat.le_add_right _ _
      · rw [z]; exact Nat.le_refl _
    exact I1.fpOk hle (I1.hok.fresh hle)
  rcases q1 with ⟨a, ex, q⟩ | ⟨x, ex, q⟩
  · subst ex
    cases r1 with
    | cons r rr =>
      cases rr
      cases r
      rcases q with ⟨xs, hq, q⟩ | ⟨xs, hq, q⟩
      · obtain ⟨its, rv, p', hz⟩ := I1.list hq
        refine call_enumerate_list p'.isList fun h' he hit hsz hk => wpAny_pyIter_enum he ?_
        have I2 : Inv X pins σ H1 { s1 with heap := h' } := I1.kept (t' := s1.toks) hk
        exact ⟨s1.heap.objs.size + 1, [s1.heap.objs.size + 1, s1.heap.objs.size], _, _, H1, rfl, I2, turn_enum a (s1.heap.objs.size + 1) s1.heap.objs.size, ⟨⟨.none, he⟩, hit, Nat.succ_ne_self _⟩, fpo, q⟩
      · obtain ⟨its, rv, p', hz⟩ := I1.tuple hq
        refine call_enumT (show s1.heap.IsTuple a its.toArray from p') fun h' he hit hsz hk => wpAny_pyIter_enum he ?_
        have I2 : Inv X pins σ H1 { s1 with heap := h' } := I1.kept (t' := s1.toks) hk
        exact ⟨s1.heap.objs.size + 1, [s1.heap.objs.size + 1, s1.heap.objs.size], _, _, H1, rfl, I2, turn_enumT a (s1.heap.objs.size + 1) s1.heap.objs.size, ⟨⟨.none, he⟩, hit, Nat.succ_ne_self _⟩, fpo, q⟩
  · subst ex
    cases r1 with
    | cons r rr =>
      cases rr
      obtain ⟨t, rfl⟩ := (show ∃ t, _ = Value.str x t from r)
      refine call_enumerate_str fun h' he hit hsz hk => wpAny_pyIter_enum he ?_
      have I2 : Inv X pins σ H1 { s1 with heap := h' } := I1.kept (t' := s1.toks) hk
      exact ⟨s1.heap.objs.size + 1, [s1.heap.objs.size + 1, s1.heap.objs.size], _, _, H1, rfl, I2, turn_enumX x t (s1.heap.objs.size + 1) s1.heap.objs.size, ⟨⟨.none, he⟩, hit, Nat.succ_ne_self _⟩, fpo, q⟩
end Nc

set_option Elab.async false
set_option linter.all false
set_option autoImplicit false
set_option maxRecDepth 100000
set_option maxHeartbeats 4000000
/-! Data, and how the layer's values and heap bear it. -/
namespace Nc
open PySem PySem.Spec PyProof.Rows L2

/-- a dict's key: an int or a text -/
abbrev Kd := Sum Int (List Nat)
abbrev sOf (s : List Nat) : Str := ⟨s.toArray⟩
def kk : Kd → Key
  | .inl i => .inl i
  | .inr s => .inr (sOf s)
theorem kk_inj : ∀ {a b : Kd}, kk a = kk b → a = b
  | .inl i, .inl j, h => by cases h; rfl
  | .inr s, .inr t, h => by
    have h1 : sOf s = sOf t := Sum.inr.inj h
    have h2 : s.toArray = t.toArray := congrArg Str.cps h1
    have h3 : s = t := by simpa using congrArg Array.toList h2
    rw [h3]
  | .inl _, .inr _, h => by cases h
  | .inr _, .inl _, h => by cases h

/-- data -/
inductive D where
  | non
  | bl (b : Bool)
  | int (i : Int)
  | str (s : List Nat)
  | tup (ds : List D)
  | lst (ds : List D)
  | dct (kvs : List (Kd × D))
  | ins (c : Str) (fs : List (Str × D))
  deriving Inhabited
/-- a key's size -/
def kOk : Kd → Prop
  | .inl _ => True
  | .inr s => s.length ≤ sizeLine
def kD : Kd → D
  | .inl i => .int i
  | .inr s => .str s

/-- the frozen addresses -/
abbrev Fz := Addr → Prop

section
variable (cl : Str → Option Addr)
mutual
/-- v bears the data d, which stays: all its objects are frozen -/
inductive Rep (F : Fz) (H : Hp) : V → D → Prop where
  | non : Rep F H .non .non
  | bl (b : Bool) : Rep F H (.bl b) (.bl b)
  | int (i : Int) : Rep F H (.int i) (.int i)
  | str (s : List Nat) (h : s.length ≤ sizeLine) : Rep F H (.str (sOf s)) (.str s)
  | tup {a : Addr} {vs : List V} {ds : List D} (h : H a = some (.tup vs)) (r : RepL F H vs ds) : Rep F H (.ref a) (.tup ds)
  | lst {a : Addr} {vs : List V} {ds : List D} (f : F a) (h : Rd H a (.lst vs)) (r : RepL F H vs ds) : Rep F H (.ref a) (.lst ds)
  | dct {a : Addr} {o : Obj} {ks : List (Key × V)} {kvs : List (Kd × D)} (f : F a) (h : H a = some (.frz o (.dK ks))) (r : RepK F H ks kvs) : Rep F H (.ref a) (.dct kvs)
  | ins {a C dx : Addr} {c : Str} {gs : List (Str × V)} {fs : List (Str × D)} (f : F a) (hc : cl c = some C) (h : H a = some (.ins C dx gs)) (r : RepA F H gs fs) : Rep F H (.ref a) (.ins c fs)
inductive RepL (F : Fz) (H : Hp) : List V → List D → Prop where
  | nil : RepL F H [] []
  | cons {v d vs ds} (h : Rep F H v d) (r : RepL F H vs ds) : RepL F H (v :: vs) (d :: ds)
inductive RepK (F : Fz) (H : Hp) : List (Key × V) → List (Kd × D) → Prop where
  | nil : RepK F H [] []
  | cons {k v d vs ds} (hk : kOk k) (h : Rep F H v d) (r : RepK F H vs ds) : RepK F H ((kk k, v) :: vs) ((k, d) :: ds)
inductive RepA (F : Fz) (H : Hp) : List (Str × V) → List (Str × D) → Prop where
  | nil : RepA F H [] []
  | cons {k v d vs ds} (h : Rep F H v d) (r : RepA F H vs ds) : RepA F H ((k, v) :: vs) ((k, d) :: ds)
end
end

/-- what a step keeps of the frozen part -/
structure Kp (F : Fz) (H : Hp) (F' : Fz) (H' : Hp) : Prop where
  sub : ∀ a, F a → F' a
  fz : ∀ a, F a → H' a = H a
  tup : ∀ a xs, H a = some (.tup xs) → H' a = some (.tup xs)
theorem Kp.refl {F H} : Kp F H F H := ⟨fun _ h => h, fun _ _ => rfl, fun _ _ h => h⟩
theorem Kp.trans {F1 F2 F3 : Fz} {H1 H2 H3 : Hp} (a : Kp F1 H1 F2 H2) (b : Kp F2 H2 F3 H3) : Kp F1 H1 F3 H3 :=
  ⟨fun x h => b.sub x (a.sub x h), fun x h => (b.fz x (a.sub x h)).trans (a.fz x h), fun x xs h => b.tup x xs (a.tup x xs h)⟩
section
variable {cl : Str → Option Addr} {F F' : Fz} {H H' : Hp}
theorem Kp.rd (k : Kp F H F' H') {a : Addr} {u : HO} (f : F a) (h : Rd H a u) : Rd H' a u := by
  rcases h with h | ⟨o, h⟩
  · exact .inl ((k.fz a f).trans h)
  · exact .inr ⟨o, (k.fz a f).trans h⟩
mutual
theorem Rep.mono (k : Kp F H F' H') : ∀ {v d}, Rep cl F H v d → Rep cl F' H' v d
  | _, _, .non => .non
  | _, _, .bl b => .bl b
  | _, _, .int i => .int i
  | _, _, .str s h => .str s h
  | _, _, .tup h r => .tup (k.tup _ _ h) (RepL.mono k r)
  | _, _, .lst f h r => .lst (k.sub _ f) (k.rd f h) (RepL.mono k r)
  | _, _, .dct f h r => .dct (k.sub _ f) ((k.fz _ f).trans h) (RepK.mono k r)
  | _, _, .ins f hc h r => .ins (k.sub _ f) hc ((k.fz _ f).trans h) (RepA.mono k r)
theorem RepL.mono (k : Kp F H F' H') : ∀ {v d}, RepL cl F H v d → RepL cl F' H' v d
  | _, _, .nil => .nil
  | _, _, .cons h r => .cons (Rep.mono k h) (RepL.mono k r)
theorem RepK.mono (k : Kp F H F' H') : ∀ {v d}, RepK cl F H v d → RepK cl F' H' v d
  | _, _, .nil => .nil
  | _, _, .cons hk h r => .cons hk (Rep.mono k h) (RepK.mono k r)
theorem RepA.mono (k : Kp F H F' H') : ∀ {v d}, RepA cl F H v d → RepA cl F' H' v d
  | _, _, .nil => .nil
  | _, _, .cons h r => .cons (Rep.mono k h) (RepA.mono k r)
end
/-- F's addresses stand in the heap -/
def Fok (F : Fz) (H : Hp) : Prop := ∀ a, F a → ∃ o, H a = some o
theorem Kp.new (ok : Fok F H) {p : Addr} {o : HO} (hp : H p = none) : Kp F H F (upd H p o) :=
  ⟨fun _ h => h, fun a h => by
    obtain ⟨u, e⟩ := ok a h
    rw [upd_ne (ne_of_none e hp)], fun a xs h => by rw [upd_ne (ne_of_none h hp)]; exact h⟩
/-- one more frozen address -/
def addF (F : Fz) (a : Addr) : Fz := fun b => b = a ∨ F b
theorem Kp.add {a : Addr} : Kp F H (addF F a) H := ⟨fun _ h => .inr h, fun _ _ => rfl, fun _ _ h => h⟩
/-- an object outside F, no tuple, is written -/
theorem Kp.upd {a : Addr} {o u : HO} (n : ¬ F a) (e : H a = some u) (nt : ∀ xs, u ≠ .tup xs) : Kp F H F (upd H a o) :=
  ⟨fun _ h => h, fun b h => upd_ne (fun z => by rw [z] at h; exact n h), fun b xs h => (upd_ne (fun z => by rw [z, e] at h; exact nt xs (Option.some.inj h))).trans h⟩
theorem Fok.upd (ok : Fok F H) {a : Addr} {o : HO} : Fok F (upd H a o) := fun b h => by
  by_cases z : b = a
  · subst z; exact ⟨o, upd_same⟩
  · obtain ⟨u, e⟩ := ok b h
    exact ⟨u, by rw [upd_ne z]; exact e⟩

theorem RepL.length {vs : List V} {ds : List D} (r : RepL cl F H vs ds) : vs.length = ds.length := by
  induction ds generalizing vs with
  | nil => cases r; rfl
  | cons d ds ih => cases r with | cons h r => simp [ih r]
theorem RepK.length {vs : List (Key × V)} {ds : List (Kd × D)} (r : RepK cl F H vs ds) : vs.length = ds.length := by
  induction ds generalizing vs with
  | nil => cases r; rfl
  | cons d ds ih => cases r with | cons hk h r => simp [ih r]
theorem RepL.append {vs ws : List V} {ds es : List D} (r : RepL cl F H vs ds) (q : RepL cl F H ws es) : RepL cl F H (vs ++ ws) (ds ++ es) := by
  induction ds generalizing vs with
  | nil => cases r; exact q
  | cons d ds ih => cases r with | cons h r => exact .cons h (ih r)
theorem RepL.get {vs : List V} {ds : List D} (r : RepL cl F H vs ds) {i : Nat} {d : D} (e : ds[i]? = some d) : ∃ v, vs[i]? = some v ∧ Rep cl F H v d := by
  induction ds generalizing vs i with
  | nil => simp at e
  | cons x ds ih =>
    cases r with
    | cons h r =>
      cases i with
      | zero => simp at e; subst e; exact ⟨_, rfl, h⟩
      | succ i => exact ih r (by simpa using e)
theorem RepL.getV {vs : List V} {ds : List D} (r : RepL cl F H vs ds) {i : Nat} {v : V} (e : vs[i]? = some v) : ∃ d, ds[i]? = some d ∧ Rep cl F H v d := by
  induction ds generalizing vs i with
  | nil => cases r; simp at e
  | cons x ds ih =>
    cases r with
    | cons h r =>
      cases i with
      | zero => simp at e; subst e; exact ⟨_, rfl, h⟩
      | succ i => exact ih r (by simpa using e)
theorem RepL.take {vs : List V} {ds : List D} (r : RepL cl F H vs ds) (n : Nat) : RepL cl F H (vs.take n) (ds.take n) := by
  induction ds generalizing vs n with
  | nil => cases r; simp; exact .nil
  | cons x ds ih =>
    cases r with
    | cons h r =>
      cases n with
      | zero => exact .nil
      | succ n => exact .cons h (ih r n)
theorem RepL.drop {vs : List V} {ds : List D} (r : RepL cl F H vs ds) (n : Nat) : RepL cl F H (vs.drop n) (ds.drop n) := by
  induction ds generalizing vs n with
  | nil => cases r; simp; exact .nil
  | cons x ds ih =>
    cases r with
    | cons h r =>
      cases n with
      | zero => exact .cons h r
      | succ n => exact ih r n
theorem RepL.set {vs : List V} {ds : List D} (r : RepL cl F H vs ds) (n : Nat) {v : V} {d : D} (h : Rep cl F H v d) : RepL cl F H (vs.set n v) (ds.set n d) := by
  induction ds generalizing vs n with
  | nil => cases r; exact .nil
  | cons x ds ih =>
    cases r with
    | cons h' r =>
      cases n with
      | zero => exact .cons h r
      | succ n => exact .cons h' (ih r n)
theorem RepL.eraseIdx {vs : List V} {ds : List D} (r : RepL cl F H vs ds) (n : Nat) : RepL cl F H (vs.eraseIdx n) (ds.eraseIdx n) := by
  induction ds generalizing vs n with
  | nil => cases r; exact .nil
  | cons x ds ih =>
    cases r with
    | cons h' r =>
      cases n with
      | zero => exact r
      | succ n => exact .cons h' (ih r n)
theorem RepL.rev {vs : List V} {ds : List D} (r : RepL cl F H vs ds) : RepL cl F H vs.reverse ds.reverse := by
  induction ds generalizing vs with
  | nil => cases r; exact .nil
  | cons x ds ih =>
    cases r with
    | cons h r => rw [List.reverse_cons, List.reverse_cons]; exact (ih r).append (.cons h .nil)
theorem RepA.lookup {vs : List (Str × V)} {ds : List (Str × D)} (r : RepA cl F H vs ds) (f : Str) : (ds.lookup f = none → vs.lookup f = none) ∧ ∀ d, ds.lookup f = some d → ∃ v, vs.lookup f = some v ∧ Rep cl F H v d := by
  induction ds generalizing vs with
  | nil => cases r; exact ⟨fun _ => rfl, fun d e => by cases e⟩
  | cons x ds ih =>
    cases r with
    | @cons k v d vs ds h r =>
      rw [List.lookup_cons, List.lookup_cons]
      cases e : (f == k) with
      | true => exact ⟨(fun z => (nomatch z)), fun d' z => ⟨v, rfl, (Option.some.inj z) ▸ h⟩⟩
      | false => exact ih r
end
end Nc

set_option Elab.async false
set_option linter.all false
set_option autoImplicit false
set_option maxRecDepth 100000
set_option maxHeartbeats 4000000
/-! What is owned; the state of a frame. -/
namespace Nc
open PySem PySem.Spec PyProof.Rows L2

/-- how a thing is held: frozen; a list or dict owned, what lies within held by m; an instance owned, its attributes held as told (frozen, if not told) -/
inductive Mk where
  | fz | own (m : Mk) | ie | ia (f : Str) (m r : Mk)
  deriving DecidableEq
def isI : Mk → Bool
  | .ie => true
  | .ia _ _ r => isI r
  | _ => false
def atM : Mk → Str → Mk
  | .ia f m r, g => if f = g then m else atM r g
  | _, _ => .fz
def setA : Mk → Str → Mk → Mk
  | .ia g w r, f, v => if g = f then .ia g v r else .ia g w (setA r f v)
  | _, f, v => if v = .fz then .ie else .ia f v .ie
theorem setA_isI : ∀ {m : Mk} {f : Str} {v : Mk}, isI m = true → isI (setA m f v) = true
  | .ia g w r, f, v, h => by
    unfold setA
    split
    · exact h
    · exact setA_isI (m := r) h
  | .ie, f, v, h => by
    unfold setA
    split <;> rfl
theorem atM_setA : ∀ {m : Mk} {f g : Str} {v : Mk}, isI m = true → atM (setA m f v) g = if f = g then v else atM m g
  | .ia k w r, f, g, v, h => by
    unfold setA
    by_cases e : k = f
    · subst e
      rw [if_pos rfl]
      show (if k = g then v else atM r g) = _
      by_cases e2 : k = g
      · rw [if_pos e2, if_pos e2]
      · rw [if_neg e2, if_neg e2]
        show _ = if k = g then w else atM r g
        rw [if_neg e2]
    · rw [if_neg e]
      show (if k = g then w else atM (setA r f v) g) = if f = g then v else if k = g then w else atM r g
      rw [atM_setA (m := r) h]
      by_cases e2 : k = g
      · rw [if_pos e2, if_pos e2, if_neg fun z => e (e2.trans z.symm)]
      · rw [if_neg e2, if_neg e2]
  | .ie, f, g, v, h => by
    unfold setA
    by_cases e : v = .fz
    · subst e
      rw [if_pos rfl]
      split <;> rfl
    · rw [if_neg e]
      rfl
/-- the classes' addresses -/
structure Cn where
  cl : Str → Option Addr
  xl : Str → Option Addr  -- classes of exceptions

def Dis (A B : List Addr) : Prop := ∀ a ∈ A, a ∉ B
mutual
inductive Own (c : Cn) (F : Fz) (H : Hp) : Mk → V → D → List Addr → Prop where
  | fz {v d} (r : Rep c.cl F H v d) : Own c F H .fz v d []
  | lst {m a vs ds A} (h : H a = some (.lst vs)) (r : OwnL c F H m vs ds A) (n : a ∉ A) : Own c F H (.own m) (.ref a) (.lst ds) (a :: A)
  | dct {m a ks kvs A} (h : H a = some (.dK ks)) (r : OwnK c F H m ks kvs A) (n : a ∉ A) : Own c F H (.own m) (.ref a) (.dct kvs) (a :: A)
  | ins {m a C dx k gs fs A} (hm : isI m = true) (hc : c.cl k = some C) (h : H a = some (.ins C dx gs)) (r : OwnA c F H m gs fs A) (n : a ∉ A) : Own c F H m (.ref a) (.ins k fs) (a :: A)
inductive OwnL (c : Cn) (F : Fz) (H : Hp) : Mk → List V → List D → List Addr → Prop where
  | nil {m} : OwnL c F H m [] [] []
  | cons {m v d vs ds A B} (h : Own c F H m v d A) (r : OwnL c F H m vs ds B) (n : Dis A B) : OwnL c F H m (v :: vs) (d :: ds) (A ++ B)
inductive OwnK (c : Cn) (F : Fz) (H : Hp) : Mk → List (Key × V) → List (Kd × D) → List Addr → Prop where
  | nil {m} : OwnK c F H m [] [] []
  | cons {m k v d vs ds A B} (hk : kOk k) (h : Own c F H m v d A) (r : OwnK c F H m vs ds B) (n : Dis A B) : OwnK c F H m ((kk k, v) :: vs) ((k, d) :: ds) (A ++ B)
inductive OwnA (c : Cn) (F : Fz) (H : Hp) : Mk → List (Str × V) → List (Str × D) → List Addr → Prop where
  | nil {k} : OwnA c F H k [] [] []
  | cons {k f v d vs ds A B} (h : Own c F H (atM k f) v d A) (r : OwnA c F H k vs ds B) (n : Dis A B) : OwnA c F H k ((f, v) :: vs) ((f, d) :: ds) (A ++ B)
end
section
variable {c : Cn} {F F' : Fz} {H H' : Hp}
mutual
theorem Own.mono (k : Kp F H F' H') : ∀ {m v d A}, Own c F H m v d A → (∀ a ∈ A, H' a = H a) → Own c F' H' m v d A
  | _, _, _, _, .fz r, _ => .fz (r.mono k)
  | _, _, _, _, .lst h r n, e => .lst ((e _ List.mem_cons_self).trans h) (OwnL.mono k r fun a ha => e a (List.mem_cons_of_mem _ ha)) n
  | _, _, _, _, .dct h r n, e => .dct ((e _ List.mem_cons_self).trans h) (OwnK.mono k r fun a ha => e a (List.mem_cons_of_mem _ ha)) n
  | _, _, _, _, .ins hm hc h r n, e => .ins hm hc ((e _ List.mem_cons_self).trans h) (OwnA.mono k r fun a ha => e a (List.mem_cons_of_mem _ ha)) n
theorem OwnL.mono (k : Kp F H F' H') : ∀ {m v d A}, OwnL c F H m v d A → (∀ a ∈ A, H' a = H a) → OwnL c F' H' m v d A
  | _, _, _, _, .nil, _ => .nil
  | _, _, _, _, .cons h r n, e => .cons (Own.mono k h fun a ha => e a (List.mem_append_left _ ha)) (OwnL.mono k r fun a ha => e a (List.mem_append_right _ ha)) n
theorem OwnK.mono (k : Kp F H F' H') : ∀ {m v d A}, OwnK c F H m v d A → (∀ a ∈ A, H' a = H a) → OwnK c F' H' m v d A
  | _, _, _, _, .nil, _ => .nil
  | _, _, _, _, .cons hk h r n, e => .cons hk (Own.mono k h fun a ha => e a (List.mem_append_left _ ha)) (OwnK.mono k r fun a ha => e a (List.mem_append_right _ ha)) n
theorem OwnA.mono (k : Kp F H F' H') : ∀ {m v d A}, OwnA c F H m v d A → (∀ a ∈ A, H' a = H a) → OwnA c F' H' m v d A
  | _, _, _, _, .nil, _ => .nil
  | _, _, _, _, .cons h r n, e => .cons (Own.mono k h fun a ha => e a (List.mem_append_left _ ha)) (OwnA.mono k r fun a ha => e a (List.mem_append_right _ ha)) n
end
/-- the kinds of what may be owned -/
def Ok1 (o : HO) : Prop := (∃ xs, o = .lst xs) ∨ (∃ ks, o = .dK ks) ∨ ∃ C dx gs, o = .ins C dx gs
mutual
theorem Own.at_ : ∀ {m v d A}, Own c F H m v d A → ∀ a ∈ A, ∃ o, H a = some o ∧ Ok1 o
  | _, _, _, _, .fz r, a, h => (nomatch h)
  | _, _, _, _, .lst h r n, a, ha => (List.mem_cons.mp ha).elim (fun e => ⟨_, (congrArg H e).trans h, .inl ⟨_, rfl⟩⟩) fun e => OwnL.at_ r a e
  | _, _, _, _, .dct h r n, a, ha => (List.mem_cons.mp ha).elim (fun e => ⟨_, (congrArg H e).trans h, .inr (.inl ⟨_, rfl⟩)⟩) fun e => OwnK.at_ r a e
  | _, _, _, _, .ins hm hc h r n, a, ha => (List.mem_cons.mp ha).elim (fun e => ⟨_, (congrArg H e).trans h, .inr (.inr ⟨_, _, _, rfl⟩)⟩) fun e => OwnA.at_ r a e
theorem OwnL.at_ : ∀ {m v d A}, OwnL c F H m v d A → ∀ a ∈ A, ∃ o, H a = some o ∧ Ok1 o
  | _, _, _, _, .nil, a, h => (nomatch h)
  | _, _, _, _, .cons h r n, a, ha => (List.mem_append.mp ha).elim (fun e => Own.at_ h a e) fun e => OwnL.at_ r a e
theorem OwnK.at_ : ∀ {m v d A}, OwnK c F H m v d A → ∀ a ∈ A, ∃ o, H a = some o ∧ Ok1 o
  | _, _, _, _, .nil, a, h => (nomatch h)
  | _, _, _, _, .cons hk h r n, a, ha => (List.mem_append.mp ha).elim (fun e => Own.at_ h a e) fun e => OwnK.at_ r a e
theorem OwnA.at_ : ∀ {m v d A}, OwnA c F H m v d A → ∀ a ∈ A, ∃ o, H a = some o ∧ Ok1 o
  | _, _, _, _, .nil, a, h => (nomatch h)
  | _, _, _, _, .cons h r n, a, ha => (List.mem_append.mp ha).elim (fun e => Own.at_ h a e) fun e => OwnA.at_ r a e
end
theorem Ok1.nt {o : HO} (h : Ok1 o) : ∀ xs, o ≠ .tup xs := fun xs e => by
  rcases h with ⟨_, h⟩ | ⟨_, h⟩ | ⟨_, _, _, h⟩ <;> (rw [e] at h; cases h)
theorem Ok1.mut {o : HO} (h : Ok1 o) : Mut (some o) := by
  rcases h with ⟨_, rfl⟩ | ⟨_, rfl⟩ | ⟨_, _, _, rfl⟩ <;> exact True.intro
theorem Own.rep {v d A} (h : Own c F H .fz v d A) : Rep c.cl F H v d ∧ A = [] := by
  cases h with
  | fz h => exact ⟨h, rfl⟩
  | ins hm => cases hm
/-- frozen children -/
theorem RepL.own : ∀ {vs : List V} {ds : List D}, RepL c.cl F H vs ds → OwnL c F H .fz vs ds []
  | _, _, .nil => .nil
  | _, _, .cons h r => OwnL.cons (.fz h) (RepL.own r) (fun _ z => (nomatch z))
theorem RepK.own : ∀ {vs : List (Key × V)} {ds : List (Kd × D)}, RepK c.cl F H vs ds → OwnK c F H .fz vs ds []
  | _, _, .nil => .nil
  | _, _, .cons hk h r => OwnK.cons hk (.fz h) (RepK.own r) (fun _ z => (nomatch z))
theorem OwnL.rep : ∀ {vs : List V} {ds : List D} {A}, OwnL c F H .fz vs ds A → RepL c.cl F H vs ds ∧ A = []
  | _, _, _, .nil => ⟨.nil, rfl⟩
  | _, _, _, .cons h r n => by
    obtain ⟨q, e⟩ := OwnL.rep r
    obtain ⟨h', e2⟩ := h.rep
    subst e e2
    exact ⟨.cons h' q, rfl⟩
theorem OwnK.rep : ∀ {vs : List (Key × V)} {ds : List (Kd × D)} {A}, OwnK c F H .fz vs ds A → RepK c.cl F H vs ds ∧ A = []
  | _, _, _, .nil => ⟨.nil, rfl⟩
  | _, _, _, .cons hk h r n => by
    obtain ⟨q, e⟩ := OwnK.rep r
    obtain ⟨h', e2⟩ := h.rep
    subst e e2
    exact ⟨.cons hk h' q, rfl⟩
theorem own_lst {a : Addr} {vs : List V} {ds : List D} (h : H a = some (.lst vs)) (r : RepL c.cl F H vs ds) : Own c F H (.own .fz) (.ref a) (.lst ds) [a] := .lst h r.own (fun z => (nomatch z))
theorem own_dct {a : Addr} {vs : List (Key × V)} {ds : List (Kd × D)} (h : H a = some (.dK vs)) (r : RepK c.cl F H vs ds) : Own c F H (.own .fz) (.ref a) (.dct ds) [a] := .dct h r.own (fun z => (nomatch z))

/-- borrowed: frozen, or owned with frozen children -/
def R1 (c : Cn) (F : Fz) (H : Hp) (v : V) (d : D) (A : List Addr) : Prop := Own c F H .fz v d A ∨ Own c F H (.own .fz) v d A
theorem R1.of {v : V} {d : D} (h : Rep c.cl F H v d) : R1 c F H v d [] := .inl (.fz h)
theorem R1.mono (k : Kp F H F' H') {v d A} (h : R1 c F H v d A) (e : ∀ a ∈ A, H' a = H a) : R1 c F' H' v d A :=
  h.elim (fun h => .inl (h.mono k e)) fun h => .inr (h.mono k e)
theorem R1.lst {v : V} {ds : List D} {A} (h : R1 c F H v (.lst ds) A) : ∃ a vs, v = .ref a ∧ Rd H a (.lst vs) ∧ RepL c.cl F H vs ds := by
  rcases h with h | h
  · cases h with | fz h => cases h with | lst f h r => exact ⟨_, _, rfl, h, r⟩
  · cases h with | lst h r n => exact ⟨_, _, rfl, .inl h, r.rep.1⟩
theorem R1.dct {v : V} {ds : List (Kd × D)} {A} (h : R1 c F H v (.dct ds) A) : ∃ a vs, v = .ref a ∧ Rd H a (.dK vs) ∧ RepK c.cl F H vs ds := by
  rcases h with h | h
  · cases h with | fz h => cases h with | dct f h r => exact ⟨_, _, rfl, .inr ⟨_, h⟩, r⟩
  · cases h with | dct h r n => exact ⟨_, _, rfl, .inl h, r.rep.1⟩
theorem R1.tup {v : V} {ds : List D} {A} (h : R1 c F H v (.tup ds) A) : ∃ a vs, v = .ref a ∧ H a = some (.tup vs) ∧ RepL c.cl F H vs ds := by
  rcases h with h | h
  · cases h with | fz h => cases h with | tup h r => exact ⟨_, _, rfl, h, r⟩
  · cases h
theorem R1.str {v : V} {s : List Nat} {A} (h : R1 c F H v (.str s) A) : v = .str (sOf s) ∧ s.length ≤ sizeLine := by
  rcases h with h | h
  · cases h with | fz h => cases h with | str h r => exact ⟨rfl, r⟩
  · cases h
theorem R1.int {v : V} {i : Int} {A} (h : R1 c F H v (.int i) A) : v = .int i := by
  rcases h with h | h
  · cases h with | fz h => cases h; rfl
  · cases h
theorem R1.bl {v : V} {i : Bool} {A} (h : R1 c F H v (.bl i) A) : v = .bl i := by
  rcases h with h | h
  · cases h with | fz h => cases h; rfl
  · cases h
theorem R1.non {v : V} {A} (h : R1 c F H v .non A) : v = .non := by
  rcases h with h | h
  · cases h with | fz h => cases h; rfl
  · cases h
end

/-- may the slot be given another value -/
inductive Fx where
  | free | io
  deriving DecidableEq
/-- what is known of a slot: nothing; held; borrowed (none: frozen, or owned with frozen children) -/
inductive Md where
  | un | mk (m : Mk) (x : Fx) | bo (b : Option Mk)
  deriving DecidableEq
abbrev Env := List (Option D)
/-- how the def was entered: what was frozen, the heap, what it may change -/
structure En where
  F0 : Fz
  H0 : Hp
  A0 : List Addr
structure En.Ok (n : En) : Prop where
  fk : Fok n.F0 n.H0
  a0 : ∀ a ∈ n.A0, ¬ n.F0 a ∧ ∃ o, n.H0 a = some o ∧ Ok1 o
def BoR (c : Cn) (F : Fz) (H : Hp) (b : Option Mk) (v : V) (d : D) (B : List Addr) : Prop := match b with
  | none => R1 c F H v d B
  | some m => Own c F H m v d B
section
variable {c : Cn} {F F' : Fz} {H H' : Hp}
theorem R1.at_ {v d A} (h : R1 c F H v d A) : ∀ a ∈ A, ∃ o, H a = some o ∧ Ok1 o := h.elim (fun h => h.at_) fun h => h.at_
theorem BoR.at_ {b v d A} (h : BoR c F H b v d A) : ∀ a ∈ A, ∃ o, H a = some o ∧ Ok1 o := by
  cases b with
  | none => exact R1.at_ h
  | some m => exact Own.at_ h
theorem BoR.mono (k : Kp F H F' H') {b v d A} (h : BoR c F H b v d A) (e : ∀ a ∈ A, H' a = H a) : BoR c F' H' b v d A := by
  cases b with
  | none => exact R1.mono k h e
  | some m => exact Own.mono k h e
end
def SltR (c : Cn) (n : En) (F : Fz) (H : Hp) (m : Md) (o : Option (Option V)) (x : Option (Option D)) (A : List Addr) : Prop := match m with
  | .un => A = []
  | .mk k _ => ∃ v d, o = some (some v) ∧ x = some (some d) ∧ Own c F H k v d A
  | .bo b => A = [] ∧ ∃ v d B, o = some (some v) ∧ x = some (some d) ∧ BoR c n.F0 n.H0 b v d B ∧ Dis B n.A0
/-- the frame's state: M static, A the footprints -/
structure RX (c : Cn) (n : En) (F : Fz) (M : List Md) (σ : L2.St) (H : Hp) (δ : Env) (A : Nat → List Addr) : Prop where
  ls : σ.length = M.length
  ld : δ.length = M.length
  sl : ∀ i m, M[i]? = some m → SltR c n F H m (σ[i]?) (δ[i]?) (A i)
  out : ∀ i, M[i]? = none → A i = []
  dj : ∀ i j, i ≠ j → Dis (A i) (A j)
  ow : ∀ i, ∀ a ∈ A i, ¬ F a ∧ (n.H0 a = none ∨ a ∈ n.A0)
  fr : ∀ i k y, M[i]? = some (.mk k y) → y ≠ .io → ∀ a ∈ A i, n.H0 a = none
  kp : ∀ a o, n.H0 a = some o → a ∉ n.A0 → H a = some o
  st : ∀ a ∈ n.A0, H a ≠ none
  fk : Fok F H
  f0 : ∀ a, n.F0 a → F a
  f1 : ∀ a, F a → n.F0 a ∨ n.H0 a = none
def RS (c : Cn) (n : En) (F : Fz) (M : List Md) (σ : L2.St) (H : Hp) (δ : Env) : Prop := ∃ A, RX c n F M σ H δ A

section
variable {c : Cn} {n : En} {F F' : Fz} {M : List Md} {σ : L2.St} {H H' : Hp} {δ : Env} {A : Nat → List Addr}
theorem RX.kp0 (r : RX c n F M σ H δ A) (ok : n.Ok) : Kp n.F0 n.H0 F H :=
  ⟨r.f0, fun a h => by
    obtain ⟨o, e⟩ := ok.fk a h
    rw [e]
    exact r.kp a o e fun z => (ok.a0 a z).1 h, fun a xs e => r.kp a _ e fun z => by
    obtain ⟨_, o, e', k⟩ := ok.a0 a z
    rw [e] at e'
    exact k.nt xs (Option.some.inj e').symm⟩
/-- what stands in a slot, owned part -/
theorem RX.at_ (r : RX c n F M σ H δ A) {i : Nat} {a : Addr} (h : a ∈ A i) : ∃ o, H a = some o ∧ Ok1 o := by
  cases e : M[i]? with
  | none => rw [r.out i e] at h; cases h
  | some m =>
    have q := r.sl i m e
    cases m with
    | un => rw [show A i = [] from q] at h; cases h
    | mk k x => obtain ⟨v, d, _, _, o⟩ := q; exact o.at_ a h
    | bo b => obtain ⟨q, _⟩ := q; rw [q] at h; cases h
/-- a step that keeps the frozen part and what is owned -/
theorem RX.step (r : RX c n F M σ H δ A) (k : Kp F H F' H') (e : ∀ i, ∀ a ∈ A i, H' a = H a) (nf : ∀ i, ∀ a ∈ A i, ¬ F' a) (kp : ∀ a o, n.H0 a = some o → a ∉ n.A0 → H' a = some o) (st : ∀ a ∈ n.A0, H' a ≠ none) (fk : Fok F' H') (f1 : ∀ a, F' a → n.F0 a ∨ n.H0 a = none) :
    RX c n F' M σ H' δ A := by
  refine ⟨r.ls, r.ld, fun i m h => ?_, r.out, r.dj, fun i a h => ⟨nf i a h, (r.ow i a h).2⟩, r.fr, kp, st, fk, fun a h => k.sub a (r.f0 a h), f1⟩
  have q := r.sl i m h
  cases m with
  | un => exact q
  | mk m x => obtain ⟨v, d, h1, h2, o⟩ := q; exact ⟨v, d, h1, h2, o.mono k (e i)⟩
  | bo b => exact q
/-- a new object -/
theorem RX.new (r : RX c n F M σ H δ A) {p : Addr} {o : HO} (hp : H p = none) : RX c n F M σ (upd H p o) δ A := by
  refine r.step (Kp.new r.fk hp) (fun i a h => ?_) (fun i a h => (r.ow i a h).1) (fun a u h1 h2 => ?_) (fun a h z => ?_) r.fk.upd r.f1
  · obtain ⟨u, e, _⟩ := r.at_ h
    rw [upd_ne (ne_of_none e hp)]
  · have e := r.kp a u h1 h2
    rw [upd_ne (ne_of_none e hp)]
    exact e
  · by_cases e : a = p
    · subst e; exact r.st a h hp
    · rw [upd_ne e] at z; exact r.st a h z
/-- where H0 knows nothing -/
theorem RX.fresh0 (r : RX c n F M σ H δ A) {p : Addr} (hp : H p = none) : n.H0 p = none := by
  cases e : n.H0 p with
  | none => rfl
  | some o =>
    by_cases h : p ∈ n.A0
    · exact absurd hp (r.st p h)
    · rw [r.kp p o e h] at hp; cases hp
theorem RS.new (r : RS c n F M σ H δ) {p : Addr} {o : HO} (hp : H p = none) : RS c n F M σ (upd H p o) δ := let ⟨A, x⟩ := r; ⟨A, x.new hp⟩
theorem RS.fk (r : RS c n F M σ H δ) : Fok F H := let ⟨_, x⟩ := r; x.fk
theorem RS.ls (r : RS c n F M σ H δ) : σ.length = M.length := let ⟨_, x⟩ := r; x.ls
theorem RS.ld (r : RS c n F M σ H δ) : δ.length = M.length := let ⟨_, x⟩ := r; x.ld
/-- a borrowed slot, now -/
theorem RX.getBo (r : RX c n F M σ H δ A) (ok : n.Ok) {i : Nat} {b : Option Mk} (h : M[i]? = some (.bo b)) : ∃ v d B, σ[i]? = some (some v) ∧ δ[i]? = some (some d) ∧ BoR c F H b v d B ∧ Dis B n.A0 ∧ ∀ a ∈ B, n.H0 a ≠ none := by
  obtain ⟨_, v, d, B, h1, h2, r1, db⟩ := r.sl i _ h
  refine ⟨v, d, B, h1, h2, r1.mono (r.kp0 ok) fun a ha => ?_, db, fun a ha z => ?_⟩
  · obtain ⟨o, e, _⟩ := r1.at_ a ha
    rw [e]
    exact r.kp a o e (db a ha)
  · obtain ⟨o, e, _⟩ := r1.at_ a ha
    rw [z] at e; cases e
/-- a slot is read -/
theorem RS.get (r : RS c n F M σ H δ) {i : Nat} {x : Fx} (h : M[i]? = some (.mk .fz x)) : ∃ v d, σ[i]? = some (some v) ∧ δ[i]? = some (some d) ∧ Rep c.cl F H v d := by
  obtain ⟨A, q⟩ := r
  obtain ⟨v, d, h1, h2, o⟩ := q.sl i _ h
  exact ⟨v, d, h1, h2, o.rep.1⟩
/-- what may be read for a while -/
def rd1 : Mk → Bool
  | .fz => true
  | .own .fz => true
  | _ => false
/-- a slot that may be read for a while -/
def rdb : Md → Bool
  | .mk m _ => rd1 m
  | .bo none => true
  | .bo (some m) => rd1 m
  | _ => false
theorem R1.of1 {m : Mk} {v : V} {d : D} {B : List Addr} (h : rd1 m = true) (o : Own c F H m v d B) : R1 c F H v d B := by
  cases m with
  | fz => exact .inl o
  | own k =>
    cases k with
    | fz => exact .inr o
    | _ => cases h
  | _ => cases h
theorem RS.getB (r : RS c n F M σ H δ) (ok : n.Ok) {i : Nat} {m : Md} (h : M[i]? = some m) (hm : rdb m = true) : ∃ v d B, σ[i]? = some (some v) ∧ δ[i]? = some (some d) ∧ R1 c F H v d B := by
  obtain ⟨A, q⟩ := r
  cases m with
  | un => cases hm
  | bo b =>
    obtain ⟨v, d, B, h1, h2, h3, _⟩ := q.getBo ok h
    refine ⟨v, d, B, h1, h2, ?_⟩
    cases b with
    | none => exact h3
    | some k => exact R1.of1 hm h3
  | mk k x =>
    obtain ⟨v, d, h1, h2, o⟩ := q.sl i _ h
    exact ⟨v, d, _, h1, h2, R1.of1 hm o⟩

end
end Nc

set_option Elab.async false
set_option linter.all false
set_option autoImplicit false
set_option maxRecDepth 100000
set_option maxHeartbeats 4000000
/-! What a value bears is one; a slot lent. -/
namespace Nc
open PySem PySem.Spec PyProof.Rows L2
section
variable (cl : Str → Option Addr)
mutual
/-- v bears d, however it is held -/
inductive Shp (H : Hp) : V → D → Prop where
  | non : Shp H .non .non
  | bl (b : Bool) : Shp H (.bl b) (.bl b)
  | int (i : Int) : Shp H (.int i) (.int i)
  | str (s : List Nat) : Shp H (.str (sOf s)) (.str s)
  | tup {a : Addr} {vs : List V} {ds : List D} (h : H a = some (.tup vs)) (r : ShpL H vs ds) : Shp H (.ref a) (.tup ds)
  | lst {a : Addr} {vs : List V} {ds : List D} (h : Rd H a (.lst vs)) (r : ShpL H vs ds) : Shp H (.ref a) (.lst ds)
  | dct {a : Addr} {ks : List (Key × V)} {kvs : List (Kd × D)} (h : Rd H a (.dK ks)) (r : ShpK H ks kvs) : Shp H (.ref a) (.dct kvs)
  | ins {a C dx : Addr} {c : Str} {gs : List (Str × V)} {fs : List (Str × D)} (hc : cl c = some C) (h : H a = some (.ins C dx gs)) (r : ShpA H gs fs) : Shp H (.ref a) (.ins c fs)
inductive ShpL (H : Hp) : List V → List D → Prop where
  | nil : ShpL H [] []
  | cons {v d vs ds} (h : Shp H v d) (r : ShpL H vs ds) : ShpL H (v :: vs) (d :: ds)
inductive ShpK (H : Hp) : List (Key × V) → List (Kd × D) → Prop where
  | nil : ShpK H [] []
  | cons {k v d vs ds} (h : Shp H v d) (r : ShpK H vs ds) : ShpK H ((kk k, v) :: vs) ((k, d) :: ds)
inductive ShpA (H : Hp) : List (Str × V) → List (Str × D) → Prop where
  | nil : ShpA H [] []
  | cons {k v d vs ds} (h : Shp H v d) (r : ShpA H vs ds) : ShpA H ((k, v) :: vs) ((k, d) :: ds)
end
end
section
variable {cl : Str → Option Addr} {H : Hp}
theorem rdl1 {a : Addr} {xs ys : List V} (h : Rd H a (.lst xs)) (k : Rd H a (.lst ys)) : xs = ys := by
  rcases h with h | ⟨o, h⟩ <;> rcases k with k | ⟨p, k⟩ <;> (rw [h] at k; cases k; all_goals rfl)
theorem rdd1 {a : Addr} {xs ys : List (Key × V)} (h : Rd H a (.dK xs)) (k : Rd H a (.dK ys)) : xs = ys := by
  rcases h with h | ⟨o, h⟩ <;> rcases k with k | ⟨p, k⟩ <;> (rw [h] at k; cases k; all_goals rfl)
theorem sOf_inj {s t : List Nat} (h : sOf s = sOf t) : s = t := by
  have h2 : s.toArray = t.toArray := congrArg Str.cps h
  simpa using congrArg Array.toList h2
mutual
theorem Shp.one (inj : ∀ x y C, cl x = some C → cl y = some C → x = y) : ∀ {v d}, Shp cl H v d → ∀ {e}, Shp cl H v e → d = e
  | _, _, .non, _, k => by cases k; rfl
  | _, _, .bl b, _, k => by cases k; rfl
  | _, _, .int i, _, k => by cases k; rfl
  | _, _, .str s, e, k => by
    generalize hv : V.str (sOf s) = v at k
    cases k <;> first | (cases hv; done) | skip
    rename_i t
    rw [sOf_inj (V.str.inj hv)]
  | _, _, .tup h r, _, k => by
    cases k with
    | tup h' r' => rw [h] at h'; cases h'; rw [ShpL.one inj r r']
    | lst h' r' => rcases h' with h' | ⟨_, h'⟩ <;> (rw [h] at h'; cases h')
    | dct h' r' => rcases h' with h' | ⟨_, h'⟩ <;> (rw [h] at h'; cases h')
    | ins hc h' r' => rw [h] at h'; cases h'
  | _, _, .lst h r, _, k => by
    cases k with
    | tup h' r' => rcases h with h | ⟨_, h⟩ <;> (rw [h] at h'; cases h')
    | lst h' r' => cases rdl1 h h'; rw [ShpL.one inj r r']
    | dct h' r' => rcases h with h | ⟨_, h⟩ <;> rcases h' with h' | ⟨_, h'⟩ <;> (rw [h] at h'; cases h')
    | ins hc h' r' => rcases h with h | ⟨_, h⟩ <;> (rw [h] at h'; cases h')
  | _, _, .dct h r, _, k => by
    cases k with
    | tup h' r' => rcases h with h | ⟨_, h⟩ <;> (rw [h] at h'; cases h')
    | dct h' r' => cases rdd1 h h'; rw [ShpK.one inj r r']
    | lst h' r' => rcases h with h | ⟨_, h⟩ <;> rcases h' with h' | ⟨_, h'⟩ <;> (rw [h] at h'; cases h')
    | ins hc h' r' => rcases h with h | ⟨_, h⟩ <;> (rw [h] at h'; cases h')
  | _, _, .ins hc h r, _, k => by
    cases k with
    | tup h' r' => rw [h] at h'; cases h'
    | lst h' r' => rcases h' with h' | ⟨_, h'⟩ <;> (rw [h] at h'; cases h')
    | dct h' r' => rcases h' with h' | ⟨_, h'⟩ <;> (rw [h] at h'; cases h')
    | ins hc' h' r' => rw [h] at h'; cases h'; rw [ShpA.one inj r r', inj _ _ _ hc hc']
theorem ShpL.one (inj : ∀ x y C, cl x = some C → cl y = some C → x = y) : ∀ {v d}, ShpL cl H v d → ∀ {e}, ShpL cl H v e → d = e
  | _, _, .nil, _, k => by cases k; rfl
  | _, _, .cons h r, _, k => by
    cases k with | cons h' r' => rw [Shp.one inj h h', ShpL.one inj r r']
theorem ShpK.one (inj : ∀ x y C, cl x = some C → cl y = some C → x = y) : ∀ {v d}, ShpK cl H v d → ∀ {e}, ShpK cl H v e → d = e
  | _, _, .nil, _, k => by cases k; rfl
  | _, _, .cons (k := k0) (v := v0) h r, e, k => by
    generalize hv : (kk k0, v0) :: _ = w at k
    cases k with
    | nil => cases hv
    | cons h' r' =>
      have h1 := List.cons.inj hv
      have h2 := Prod.mk.inj h1.1
      have h3 := kk_inj h2.1
      obtain ⟨h4, h5⟩ := h1
      subst h3
      rw [← h2.2] at h'
      rw [← h5] at r'
      rw [Shp.one inj h h', ShpK.one inj r r']
theorem ShpA.one (inj : ∀ x y C, cl x = some C → cl y = some C → x = y) : ∀ {v d}, ShpA cl H v d → ∀ {e}, ShpA cl H v e → d = e
  | _, _, .nil, _, k => by cases k; rfl
  | _, _, .cons h r, _, k => by
    cases k with | cons h' r' => rw [Shp.one inj h h', ShpA.one inj r r']
end
variable {F : Fz}
mutual
theorem Rep.shp : ∀ {v d}, Rep cl F H v d → Shp cl H v d
  | _, _, .non => .non
  | _, _, .bl b => .bl b
  | _, _, .int i => .int i
  | _, _, .str s h => .str s
  | _, _, .tup h r => .tup h (RepL.shp r)
  | _, _, .lst f h r => .lst h (RepL.shp r)
  | _, _, .dct f h r => .dct (.inr ⟨_, h⟩) (RepK.shp r)
  | _, _, .ins f hc h r => .ins hc h (RepA.shp r)
theorem RepL.shp : ∀ {v d}, RepL cl F H v d → ShpL cl H v d
  | _, _, .nil => .nil
  | _, _, .cons h r => .cons (Rep.shp h) (RepL.shp r)
theorem RepK.shp : ∀ {v d}, RepK cl F H v d → ShpK cl H v d
  | _, _, .nil => .nil
  | _, _, .cons _ h r => .cons (Rep.shp h) (RepK.shp r)
theorem RepA.shp : ∀ {v d}, RepA cl F H v d → ShpA cl H v d
  | _, _, .nil => .nil
  | _, _, .cons h r => .cons (Rep.shp h) (RepA.shp r)
end
end
section
variable {c : Cn} {F : Fz} {H : Hp}
mutual
theorem Own.shp : ∀ {m v d A}, Own c F H m v d A → Shp c.cl H v d
  | _, _, _, _, .fz r => r.shp
  | _, _, _, _, .lst h r n => .lst (.inl h) (OwnL.shp r)
  | _, _, _, _, .dct h r n => .dct (.inl h) (OwnK.shp r)
  | _, _, _, _, .ins hm hc h r n => .ins hc h (OwnA.shp r)
theorem OwnL.shp : ∀ {m v d A}, OwnL c F H m v d A → ShpL c.cl H v d
  | _, _, _, _, .nil => .nil
  | _, _, _, _, .cons h r n => .cons (Own.shp h) (OwnL.shp r)
theorem OwnK.shp : ∀ {m v d A}, OwnK c F H m v d A → ShpK c.cl H v d
  | _, _, _, _, .nil => .nil
  | _, _, _, _, .cons _ h r n => .cons (Own.shp h) (OwnK.shp r)
theorem OwnA.shp : ∀ {m v d A}, OwnA c F H m v d A → ShpA c.cl H v d
  | _, _, _, _, .nil => .nil
  | _, _, _, _, .cons h r n => .cons (Own.shp h) (OwnA.shp r)
end
theorem BoR.shp {b v d A} (h : BoR c F H b v d A) : Shp c.cl H v d := by
  cases b with
  | none => exact h.elim (fun h => Own.shp h) fun h => Own.shp h
  | some m => exact Own.shp h
end

/-- the entry when the other slots' things only may change -/
noncomputable def prot (n : En) (F : Fz) (H : Hp) (A : Nat → List Addr) (i : Nat) : En :=
  open Classical in ⟨F, fun a => if ∃ j, j ≠ i ∧ a ∈ A j then n.H0 a else H a, n.A0.filter fun a => decide (∃ j, j ≠ i ∧ a ∈ A j)⟩
section
variable {c : Cn} {n : En} {F F' : Fz} {M M' : List Md} {σ σ' : L2.St} {H H' : Hp} {δ δ' : Env} {A A' : Nat → List Addr} {i : Nat} {m : Mk} {x : Fx}
theorem prot_in {a : Addr} (h : ∃ j, j ≠ i ∧ a ∈ A j) : (prot n F H A i).H0 a = n.H0 a := if_pos h
theorem prot_out {a : Addr} (h : ¬ ∃ j, j ≠ i ∧ a ∈ A j) : (prot n F H A i).H0 a = H a := if_neg h
theorem prot_a0 {a : Addr} : a ∈ (prot n F H A i).A0 ↔ a ∈ n.A0 ∧ ∃ j, j ≠ i ∧ a ∈ A j := by
  unfold prot
  simp only [List.mem_filter, decide_eq_true_eq]
theorem RX.lend (r : RX c n F M σ H δ A) (ok : n.Ok) (h : M[i]? = some (.mk m x)) :
    (prot n F H A i).Ok ∧ RX c (prot n F H A i) F (M.set i (.bo (some m))) σ H δ (fun j => if j = i then [] else A j) := by
  have hlt : i < M.length := (List.getElem?_eq_some_iff.mp h).1
  have nin : ∀ a, F a → ¬ ∃ j, j ≠ i ∧ a ∈ A j := fun a f ⟨j, _, z⟩ => (r.ow j a z).1 f
  have ntup : ∀ a xs, H a = some (.tup xs) → ¬ ∃ j, j ≠ i ∧ a ∈ A j := fun a xs e ⟨j, _, z⟩ => by
    obtain ⟨o, e', k⟩ := r.at_ z
    rw [e] at e'
    exact k.nt xs (Option.some.inj e').symm
  have kp1 : Kp F H F (prot n F H A i).H0 := ⟨fun _ h => h, fun a f => prot_out (nin a f), fun a xs e => (prot_out (ntup a xs e)).trans e⟩
  refine ⟨⟨fun a f => ?_, fun a ha => ?_⟩, ⟨by rw [List.length_set]; exact r.ls, by rw [List.length_set]; exact r.ld, fun j k hj => ?_, fun j hj => ?_, fun j l ne a h1 h2 => ?_, fun j a ha => ?_, fun j k y hj hy a ha => ?_, fun a o e ha => ?_, fun a ha => r.st a (prot_a0.mp ha).1, r.fk, fun a f => f, fun a f => .inl f⟩⟩
  · obtain ⟨o, e⟩ := r.fk a f
    exact ⟨o, (prot_out (nin a f)).trans e⟩
  · obtain ⟨h1, h2⟩ := prot_a0.mp ha
    obtain ⟨h3, o, e, k⟩ := ok.a0 a h1
    obtain ⟨j, _, z⟩ := id h2
    exact ⟨(r.ow j a z).1, o, (prot_in h2).trans e, k⟩
  · by_cases e : j = i
    · subst e
      rw [List.getElem?_set_self hlt] at hj
      cases hj
      obtain ⟨v, d, h1, h2, o⟩ := r.sl j _ h
      refine ⟨if_pos rfl, v, d, A j, h1, h2, Own.mono kp1 o fun a ha => prot_out fun ⟨l, nl, z⟩ => r.dj l j nl a z ha, fun a ha hb => ?_⟩
      obtain ⟨l, nl, z⟩ := (prot_a0.mp hb).2
      exact r.dj l j nl a z ha
    · rw [List.getElem?_set_ne (Ne.symm e)] at hj
      rw [if_neg e]
      have q := r.sl j k hj
      cases k with
      | un => exact q
      | mk k y => exact q
      | bo b =>
        obtain ⟨v, d, B, h1, h2, h3, h4, h5⟩ := r.getBo ok hj
        refine ⟨q.1, v, d, B, h1, h2, h3.mono kp1 fun a ha => prot_out fun ⟨l, _, z⟩ => ?_, fun a ha hb => h4 a ha (prot_a0.mp hb).1⟩
        exact (r.ow l a z).2.elim (h5 a ha) (h4 a ha)
  · by_cases e : j = i
    · exact if_pos e
    · rw [List.getElem?_set_ne (Ne.symm e)] at hj
      rw [if_neg e]; exact r.out j hj
  · by_cases e1 : j = i
    · rw [if_pos e1] at h1; cases h1
    · by_cases e2 : l = i
      · rw [if_pos e2] at h2; cases h2
      · rw [if_neg e1] at h1; rw [if_neg e2] at h2
        exact r.dj j l ne a h1 h2
  · by_cases e1 : j = i
    · rw [if_pos e1] at ha; cases ha
    · rw [if_neg e1] at ha
      have z : ∃ l, l ≠ i ∧ a ∈ A l := ⟨j, e1, ha⟩
      refine ⟨(r.ow j a ha).1, ?_⟩
      rw [prot_in z, prot_a0]
      exact (r.ow j a ha).2.imp (fun h => h) fun h => ⟨h, z⟩
  · by_cases e1 : j = i
    · rw [if_pos e1] at ha; cases ha
    · rw [if_neg e1] at ha
      rw [List.getElem?_set_ne (Ne.symm e1)] at hj
      rw [prot_in ⟨j, e1, ha⟩]
      exact r.fr j k y hj hy a ha
  · by_cases z : ∃ l, l ≠ i ∧ a ∈ A l
    · rw [prot_in z] at e
      exact r.kp a o e fun q => ha (prot_a0.mpr ⟨q, z⟩)
    · rw [prot_out z] at e; exact e
/-- what the lender knows when it comes back -/
structure Bk (c : Cn) (n : En) (i : Nat) (F : Fz) (H : Hp) (A : Nat → List Addr) (F' : Fz) (H' : Hp) : Prop where
  kp : Kp F H F' H'
  on : ∀ a ∈ A i, H' a = H a
  nf : ∀ a ∈ A i, ¬ F' a
  h0 : ∀ a, (prot n F H A i).H0 a = none ∨ a ∈ (prot n F H A i).A0 → (n.H0 a = none ∨ a ∈ n.A0) ∧ a ∉ A i
  h1 : ∀ a, (prot n F H A i).H0 a = none → n.H0 a = none
theorem RX.bk (r : RX c n F M σ H δ A) (r' : RX c (prot n F H A i) F' M' σ' H' δ' A') : Bk c n i F H A F' H' := by
  have nin : ∀ a, F a → ¬ ∃ j, j ≠ i ∧ a ∈ A j := fun a f ⟨j, _, z⟩ => (r.ow j a z).1 f
  have ntup : ∀ a xs, H a = some (.tup xs) → ¬ ∃ j, j ≠ i ∧ a ∈ A j := fun a xs e ⟨j, _, z⟩ => by
    obtain ⟨o, e', k⟩ := r.at_ z
    rw [e] at e'
    exact k.nt xs (Option.some.inj e').symm
  have nai : ∀ a, a ∈ A i → ¬ ∃ j, j ≠ i ∧ a ∈ A j := fun a ha ⟨l, nl, z⟩ => r.dj l i nl a z ha
  have keep : ∀ a o, ¬ (∃ j, j ≠ i ∧ a ∈ A j) → H a = some o → H' a = some o := fun a o z e => r'.kp a o ((prot_out z).trans e) fun q => z (prot_a0.mp q).2
  have h1 : ∀ a, (prot n F H A i).H0 a = none → n.H0 a = none := fun a e => by
    by_cases z : ∃ j, j ≠ i ∧ a ∈ A j
    · rw [prot_in z] at e; exact e
    · rw [prot_out z] at e; exact r.fresh0 e
  have on : ∀ a ∈ A i, H' a = H a := fun a ha => by
    obtain ⟨o, e, _⟩ := r.at_ ha
    rw [e]; exact keep a o (nai a ha) e
  refine ⟨⟨r'.f0, fun a f => ?_, fun a xs e => keep a _ (ntup a xs e) e⟩, on, fun a ha f => ?_, fun a ha => ?_, h1⟩
  · obtain ⟨o, e⟩ := r.fk a f
    rw [e]; exact keep a o (nin a f) e
  · rcases r'.f1 a f with z | z
    · exact (r.ow i a ha).1 z
    · rw [prot_out (nai a ha)] at z
      obtain ⟨o, e, _⟩ := r.at_ ha
      rw [z] at e; cases e
  · rcases ha with ha | ha
    · refine ⟨.inl (h1 a ha), fun z => ?_⟩
      rw [prot_out (nai a z)] at ha
      obtain ⟨o, e, _⟩ := r.at_ z
      rw [ha] at e; cases e
    · obtain ⟨q, z⟩ := prot_a0.mp ha
      exact ⟨.inr q, fun w => nai a w z⟩
theorem RX.unlend (r : RX c n F M σ H δ A) (ok : n.Ok) (inj : ∀ x y C, c.cl x = some C → c.cl y = some C → x = y) (h : M[i]? = some (.mk m x)) (r' : RX c (prot n F H A i) F' M' σ' H' δ' A') {b0 : Option Mk} (hi : M'[i]? = some (.bo b0))
    (hb : ∀ j b, j ≠ i → M'[j]? = some (.bo b) → M[j]? = some (.bo b) ∧ σ'[j]? = σ[j]?) (hs : σ'[i]? = σ[i]?) :
    RX c n F' (M'.set i (.mk m x)) σ' H' δ' (fun j => if j = i then A i else A' j) := by
  have bk := r.bk r'
  have hlt : i < M.length := (List.getElem?_eq_some_iff.mp h).1
  have hlt' : i < M'.length := (List.getElem?_eq_some_iff.mp hi).1
  have aa : ∀ j, ∀ a ∈ A' j, (n.H0 a = none ∨ a ∈ n.A0) ∧ a ∉ A i := fun j a ha => bk.h0 a (r'.ow j a ha).2
  have keep : ∀ a o, ¬ (∃ j, j ≠ i ∧ a ∈ A j) → H a = some o → H' a = some o := fun a o z e => r'.kp a o ((prot_out z).trans e) fun q => z (prot_a0.mp q).2
  have kpp : Kp F (prot n F H A i).H0 F' H' := by
    refine ⟨r'.f0, fun a f => ?_, fun a xs e => r'.kp a _ e fun z => ?_⟩
    · obtain ⟨o, e⟩ := r.fk a f
      have z : ¬ ∃ j, j ≠ i ∧ a ∈ A j := fun ⟨j, _, z⟩ => (r.ow j a z).1 f
      rw [prot_out z, e]
      exact keep a o z e
    · obtain ⟨q, z⟩ := prot_a0.mp z
      rw [prot_in z] at e
      obtain ⟨_, o, e', kk⟩ := ok.a0 a q
      rw [e] at e'
      exact kk.nt xs (Option.some.inj e').symm
  have hdi : ∀ d, δ[i]? = some (some d) → δ'[i]? = some (some d) := fun d hd => by
    obtain ⟨v, d1, h1, h2, o⟩ := r.sl i _ h
    rw [hd] at h2
    have q2 : d = d1 := Option.some.inj (Option.some.inj h2)
    subst q2
    obtain ⟨_, v', d', B', g1, g2, g3, g4⟩ := r'.sl i _ hi
    have q1 : v' = v := by rw [hs, h1] at g1; exact (Option.some.inj (Option.some.inj g1)).symm
    rw [q1] at g3
    have s1 : Shp c.cl H' v d := (o.mono bk.kp bk.on).shp
    have s2 : Shp c.cl H' v d' := by
      refine (g3.mono kpp fun a ha => ?_).shp
      obtain ⟨o, e, _⟩ := g3.at_ a ha
      rw [e]
      exact r'.kp a o e (g4 a ha)
    rw [g2, s1.one inj s2]
  refine ⟨by rw [List.length_set]; exact r'.ls, by rw [List.length_set]; exact r'.ld, fun j k hj => ?_, fun j hj => ?_, fun j l ne a h1 h2 => ?_, fun j a ha => ?_, fun j k y hj hy a ha => ?_, fun a o e ha => ?_, fun a ha z => ?_, r'.fk, fun a f => r'.f0 a (r.f0 a f), fun a f => ?_⟩
  · by_cases e : j = i
    · subst e
      rw [List.getElem?_set_self hlt'] at hj
      cases hj
      obtain ⟨v, d, h1, h2, o⟩ := r.sl j _ h
      rw [if_pos rfl]
      exact ⟨v, d, hs.trans h1, hdi d h2, o.mono bk.kp bk.on⟩
    · rw [List.getElem?_set_ne (Ne.symm e)] at hj
      rw [if_neg e]
      have q := r'.sl j k hj
      cases k with
      | un => exact q
      | mk k y => exact q
      | bo b =>
        obtain ⟨hm, hv⟩ := hb j b e hj
        obtain ⟨q0, v', d', B', g1, g2, g3, g4⟩ := q
        obtain ⟨_, v, d, B, k1, k2, k3, k4⟩ := r.sl j _ hm
        obtain ⟨v2, d2, B2, e1, e2, e3, e4, e5⟩ := r.getBo ok hm
        have q1 : v' = v := by rw [hv, k1] at g1; exact (Option.some.inj (Option.some.inj g1)).symm
        have q2 : v2 = v := by rw [k1] at e1; exact (Option.some.inj (Option.some.inj e1)).symm
        have q3 : d2 = d := by rw [k2] at e2; exact (Option.some.inj (Option.some.inj e2)).symm
        rw [q1] at g3
        rw [q2, q3] at e3
        have s1 : Shp c.cl H' v d := by
          refine (e3.mono bk.kp fun a ha => ?_).shp
          obtain ⟨o, e, _⟩ := e3.at_ a ha
          rw [e]
          exact keep a o (fun ⟨l, _, z⟩ => (r.ow l a z).2.elim (e5 a ha) (e4 a ha)) e
        have s2 : Shp c.cl H' v d' := by
          refine (g3.mono kpp fun a ha => ?_).shp
          obtain ⟨o, e, _⟩ := g3.at_ a ha
          rw [e]
          exact r'.kp a o e (g4 a ha)
        have s3 := s1.one inj s2
        rw [← s3] at g2
        exact ⟨q0, v, d, B, hv.trans k1, g2, k3, k4⟩
  · by_cases e : j = i
    · subst e
      rw [List.getElem?_set_self hlt'] at hj
      cases hj
    · rw [List.getElem?_set_ne (Ne.symm e)] at hj
      rw [if_neg e]; exact r'.out j hj
  · by_cases e1 : j = i
    · rw [if_pos e1] at h1
      by_cases e2 : l = i
      · exact ne (e1.trans e2.symm)
      · rw [if_neg e2] at h2
        exact (aa l a h2).2 h1
    · rw [if_neg e1] at h1
      by_cases e2 : l = i
      · rw [if_pos e2] at h2
        exact (aa j a h1).2 h2
      · rw [if_neg e2] at h2
        exact r'.dj j l ne a h1 h2
  · by_cases e1 : j = i
    · rw [if_pos e1] at ha
      exact ⟨bk.nf a ha, (r.ow i a ha).2⟩
    · rw [if_neg e1] at ha
      exact ⟨(r'.ow j a ha).1, (aa j a ha).1⟩
  · by_cases e1 : j = i
    · subst e1
      rw [if_pos rfl] at ha
      rw [List.getElem?_set_self hlt'] at hj
      cases hj
      exact r.fr j _ _ h hy a ha
    · rw [if_neg e1] at ha
      rw [List.getElem?_set_ne (Ne.symm e1)] at hj
      exact bk.h1 a (r'.fr j k y hj hy a ha)
  · have z : ¬ ∃ j, j ≠ i ∧ a ∈ A j := fun ⟨j, _, z⟩ => (r.ow j a z).2.elim (fun q => by rw [e] at q; cases q) ha
    exact keep a o z (r.kp a o e ha)
  · by_cases w : ∃ j, j ≠ i ∧ a ∈ A j
    · exact r'.st a (prot_a0.mpr ⟨ha, w⟩) z
    · cases e : H a with
      | none => exact r.st a ha e
      | some o => rw [keep a o w e] at z; cases z
  · rcases r'.f1 a f with q | q
    · exact r.f1 a q
    · exact .inr (bk.h1 a q)
end
end Nc

set_option Elab.async false
set_option linter.all false
set_option autoImplicit false
set_option maxRecDepth 100000
set_option maxHeartbeats 4000000
/-! What no slot holds, held as it is for a while. -/
namespace Nc
open PySem PySem.Spec PyProof.Rows L2
section
variable {c : Cn} {n : En} {F F' : Fz} {M M' : List Md} {σ σ' : L2.St} {H H' : Hp} {δ δ' : Env} {A A' : Nat → List Addr} {i : Nat} {m : Mk} {x : Fx}
theorem RX.guard (r : RX c n F M σ H δ A) (ok : n.Ok) (hi : A i = []) :
    (prot n F H A i).Ok ∧ RX c (prot n F H A i) F M σ H δ A := by
  have nei : ∀ j a, a ∈ A j → j ≠ i := fun j a h e => by rw [e, hi] at h; cases h
  have nin : ∀ a, F a → ¬ ∃ j, j ≠ i ∧ a ∈ A j := fun a f ⟨j, _, z⟩ => (r.ow j a z).1 f
  have ntup : ∀ a xs, H a = some (.tup xs) → ¬ ∃ j, j ≠ i ∧ a ∈ A j := fun a xs e ⟨j, _, z⟩ => by
    obtain ⟨o, e', k⟩ := r.at_ z
    rw [e] at e'
    exact k.nt xs (Option.some.inj e').symm
  have kp1 : Kp F H F (prot n F H A i).H0 := ⟨fun _ h => h, fun a f => prot_out (nin a f), fun a xs e => (prot_out (ntup a xs e)).trans e⟩
  refine ⟨⟨fun a f => ?_, fun a ha => ?_⟩, ⟨r.ls, r.ld, fun j k hj => ?_, r.out, r.dj, fun j a ha => ?_, fun j k y hj hy a ha => ?_, fun a o e ha => ?_, fun a ha => r.st a (prot_a0.mp ha).1, r.fk, fun a f => f, fun a f => .inl f⟩⟩
  · obtain ⟨o, e⟩ := r.fk a f
    exact ⟨o, (prot_out (nin a f)).trans e⟩
  · obtain ⟨h1, h2⟩ := prot_a0.mp ha
    obtain ⟨h3, o, e, k⟩ := ok.a0 a h1
    obtain ⟨j, _, z⟩ := id h2
    exact ⟨(r.ow j a z).1, o, (prot_in h2).trans e, k⟩
  · have q := r.sl j k hj
    cases k with
    | un => exact q
    | mk k y => exact q
    | bo b =>
      obtain ⟨v, d, B, h1, h2, h3, h4, h5⟩ := r.getBo ok hj
      refine ⟨q.1, v, d, B, h1, h2, h3.mono kp1 fun a ha => prot_out fun ⟨l, _, z⟩ => ?_, fun a ha hb => h4 a ha (prot_a0.mp hb).1⟩
      exact (r.ow l a z).2.elim (h5 a ha) (h4 a ha)
  · have z : ∃ l, l ≠ i ∧ a ∈ A l := ⟨j, nei j a ha, ha⟩
    refine ⟨(r.ow j a ha).1, ?_⟩
    rw [prot_in z, prot_a0]
    exact (r.ow j a ha).2.imp (fun h => h) fun h => ⟨h, z⟩
  · rw [prot_in ⟨j, nei j a ha, ha⟩]
    exact r.fr j k y hj hy a ha
  · by_cases z : ∃ l, l ≠ i ∧ a ∈ A l
    · rw [prot_in z] at e
      exact r.kp a o e fun q => ha (prot_a0.mpr ⟨q, z⟩)
    · rw [prot_out z] at e; exact e
/-- what stands outside the slots, behind -/
theorem RX.off (r : RX c n F M σ H δ A) (r' : RX c (prot n F H A i) F' M' σ' H' δ' A') {a : Addr} {o : HO} (ha : ∀ j, a ∉ A j) (e : H a = some o) (nf : ¬ F a) : H' a = some o ∧ ¬ F' a ∧ ∀ j, a ∉ A' j := by
  have z : ¬ ∃ j, j ≠ i ∧ a ∈ A j := fun ⟨j, _, h⟩ => ha j h
  have z0 : a ∉ (prot n F H A i).A0 := fun q => z (prot_a0.mp q).2
  refine ⟨r'.kp a o ((prot_out z).trans e) z0, fun f => ?_, fun j h => ?_⟩
  · rcases r'.f1 a f with q | q
    · exact nf q
    · rw [prot_out z, e] at q; cases q
  · rcases (r'.ow j a h).2 with q | q
    · rw [prot_out z, e] at q; cases q
    · exact z0 q
theorem RX.unguard (r : RX c n F M σ H δ A) (ok : n.Ok) (inj : ∀ x y C, c.cl x = some C → c.cl y = some C → x = y) (r' : RX c (prot n F H A i) F' M' σ' H' δ' A') (hi : A i = [])
    (hb : ∀ (j : Nat) (b : Option Mk), M'[j]? = some (Md.bo b) → M[j]? = some (Md.bo b) ∧ σ'[j]? = σ[j]?) : RX c n F' M' σ' H' δ' A' := by
  have bk := r.bk r'
  have keep : ∀ a o, ¬ (∃ j, j ≠ i ∧ a ∈ A j) → H a = some o → H' a = some o := fun a o z e => r'.kp a o ((prot_out z).trans e) fun q => z (prot_a0.mp q).2
  have kpp : Kp F (prot n F H A i).H0 F' H' := by
    refine ⟨r'.f0, fun a f => ?_, fun a xs e => r'.kp a _ e fun z => ?_⟩
    · obtain ⟨o, e⟩ := r.fk a f
      have z : ¬ ∃ j, j ≠ i ∧ a ∈ A j := fun ⟨j, _, z⟩ => (r.ow j a z).1 f
      rw [prot_out z, e]
      exact keep a o z e
    · obtain ⟨q, z⟩ := prot_a0.mp z
      rw [prot_in z] at e
      obtain ⟨_, o, e', kk⟩ := ok.a0 a q
      rw [e] at e'
      exact kk.nt xs (Option.some.inj e').symm
  refine ⟨r'.ls, r'.ld, fun j k hj => ?_, r'.out, r'.dj, fun j a ha => ⟨(r'.ow j a ha).1, (bk.h0 a (r'.ow j a ha).2).1⟩, fun j k y hj hy a ha => bk.h1 a (r'.fr j k y hj hy a ha), fun a o e ha => ?_, fun a ha z => ?_, r'.fk, fun a f => r'.f0 a (r.f0 a f), fun a f => ?_⟩
  · have q := r'.sl j k hj
    cases k with
    | un => exact q
    | mk k y => exact q
    | bo b =>
      obtain ⟨hm, hv⟩ := hb j b hj
      obtain ⟨q0, v', d', B', g1, g2, g3, g4⟩ := q
      obtain ⟨_, v, d, B, k1, k2, k3, k4⟩ := r.sl j _ hm
      obtain ⟨v2, d2, B2, e1, e2, e3, e4, e5⟩ := r.getBo ok hm
      have q1 : v' = v := by rw [hv, k1] at g1; exact (Option.some.inj (Option.some.inj g1)).symm
      have q2 : v2 = v := by rw [k1] at e1; exact (Option.some.inj (Option.some.inj e1)).symm
      have q3 : d2 = d := by rw [k2] at e2; exact (Option.some.inj (Option.some.inj e2)).symm
      rw [q1] at g3
      rw [q2, q3] at e3
      have s1 : Shp c.cl H' v d := by
        refine (e3.mono bk.kp fun a ha => ?_).shp
        obtain ⟨o, e, _⟩ := e3.at_ a ha
        rw [e]
        exact keep a o (fun ⟨l, _, z⟩ => (r.ow l a z).2.elim (e5 a ha) (e4 a ha)) e
      have s2 : Shp c.cl H' v d' := by
        refine (g3.mono kpp fun a ha => ?_).shp
        obtain ⟨o, e, _⟩ := g3.at_ a ha
        rw [e]
        exact r'.kp a o e (g4 a ha)
      have s3 := s1.one inj s2
      rw [← s3] at g2
      exact ⟨q0, v, d, B, hv.trans k1, g2, k3, k4⟩
  · have z : ¬ ∃ j, j ≠ i ∧ a ∈ A j := fun ⟨j, _, z⟩ => (r.ow j a z).2.elim (fun q => by rw [e] at q; cases q) ha
    exact keep a o z (r.kp a o e ha)
  · by_cases w : ∃ j, j ≠ i ∧ a ∈ A j
    · exact r'.st a (prot_a0.mpr ⟨ha, w⟩) z
    · cases e : H a with
      | none => exact r.st a ha e
      | some o => rw [keep a o w e] at z; cases z
  · rcases r'.f1 a f with q | q
    · exact r.f1 a q
    · exact .inr (bk.h1 a q)
/-- slots of which nothing is known may have any value -/
theorem RX.sig (r : RX c n F M σ H δ A) (h : σ'.length = σ.length) (h2 : ∀ (i : Nat) (m : Md), M[i]? = some m → m ≠ .un → σ'[i]? = σ[i]?) : RX c n F M σ' H δ A := by
  refine ⟨h.trans r.ls, r.ld, fun j k hj => ?_, r.out, r.dj, r.ow, r.fr, r.kp, r.st, r.fk, r.f0, r.f1⟩
  have q := r.sl j k hj
  cases k with
  | un => exact q
  | mk k y => obtain ⟨v, d, e1, e2, e3⟩ := q; exact ⟨v, d, (h2 j _ hj (fun z => nomatch z)).trans e1, e2, e3⟩
  | bo b => obtain ⟨q0, v, d, B, e1, e2⟩ := q; exact ⟨q0, v, d, B, (h2 j _ hj (fun z => nomatch z)).trans e1, e2⟩
theorem RX.env (r : RX c n F M σ H δ A) (h : δ'.length = δ.length) (h2 : ∀ (i : Nat) (m : Md), M[i]? = some m → m ≠ .un → δ'[i]? = δ[i]?) : RX c n F M σ H δ' A := by
  refine ⟨r.ls, h.trans r.ld, fun j k hj => ?_, r.out, r.dj, r.ow, r.fr, r.kp, r.st, r.fk, r.f0, r.f1⟩
  have q := r.sl j k hj
  cases k with
  | un => exact q
  | mk k y => obtain ⟨v, d, e1, e2, e3⟩ := q; exact ⟨v, d, e1, (h2 j _ hj (fun z => nomatch z)).trans e2, e3⟩
  | bo b => obtain ⟨q0, v, d, B, e1, e2, e3⟩ := q; exact ⟨q0, v, d, B, e1, (h2 j _ hj (fun z => nomatch z)).trans e2, e3⟩
/-- a thing outside all is written -/
theorem RX.updO (r : RX c n F M σ H δ A) {a : Addr} {o u : HO} (ha : ∀ j, a ∉ A j) (nf : ¬ F a) (h0 : n.H0 a = none) (e : H a = some u) (nt : ∀ xs, u ≠ .tup xs) : Kp F H F (upd H a o) ∧ RX c n F M σ (upd H a o) δ A := by
  have kp : Kp F H F (upd H a o) := Kp.upd nf e nt
  refine ⟨kp, r.step kp (fun i b hb => upd_ne fun z => ha i (z ▸ hb)) (fun i b hb => (r.ow i b hb).1) (fun b w e1 h1 => ?_) (fun b hb z => ?_) r.fk.upd r.f1⟩
  · rw [upd_ne (fun z => by rw [z, h0] at e1; cases e1)]
    exact r.kp b w e1 h1
  · by_cases w : b = a
    · subst w; rw [upd_same] at z; cases z
    · rw [upd_ne w] at z; exact r.st b hb z
end
end Nc

set_option Elab.async false
set_option linter.all false
set_option autoImplicit false
set_option maxRecDepth 100000
set_option maxHeartbeats 4000000
/-! What evaluating, testing, executing gives; the operations by data. -/
namespace Nc
open PySem PySem.Spec PyProof.Rows L2

/-! ### the weakest readings -/
def SE (X : Cx) (e : Expr) : TE := fun σ H Q => ∀ pins s, Inv X pins σ H s → wpAny (model X.prog X.w) X.A (eval e X.env) (EP X pins σ Q) X.xe s
def ST (X : Cx) (e : Expr) : TT := fun σ H Q => ∀ pins s, Inv X pins σ H s → wpAny (model X.prog X.w) X.A (isTrue e X.env (eval e X.env)) (TP X pins σ Q) X.xe s
def SW (X : Cx) (e : Expr) : TT := fun σ H Q => ∀ whole pins s, Inv X pins σ H s → wpAny (model X.prog X.w) X.A (isTrue e X.env whole) (TP X pins σ Q) X.xe s
def SS (X : Cx) (st : Stmt) : TS := fun D σ H => ∀ pins s, Inv X pins σ H s → wpAny (model X.prog X.w) X.A (exec st X.env) (SP X pins D) X.xe s
def SSs (X : Cx) (st : List Stmt) : TS := fun D σ H => ∀ pins s, Inv X pins σ H s → wpAny (model X.prog X.w) X.A (execs st X.env) (SP X pins D) X.xe s
def SEs (X : Cx) : List Expr → TA
  | [] => tNil
  | e :: es => tCons (SE X e) (SEs X es)
section
variable {X : Cx} {e : Expr} {es : List Expr} {σ : L2.St} {H : Hp} {st : Stmt} {sts : List Stmt}
theorem pe_S : PE X e (SE X e) := ⟨fun pins s _ _ _ I h => h pins s I⟩
theorem pt_S : PT X e (ST X e) := ⟨fun pins s _ _ _ I h => h pins s I⟩
theorem pw_S : PW X e (SW X e) := ⟨fun wh pins s _ _ _ I h => h wh pins s I⟩
theorem ps_S : PS X st (SS X st) := ⟨fun pins s _ _ _ I h => h pins s I⟩
theorem pss_S : PSs X sts (SSs X sts) := ⟨fun pins s _ _ _ I h => h pins s I⟩
theorem SE.of {t : TE} {Q : VK} (h : PE X e t) (q : t σ H Q) : SE X e σ H Q := fun pins s I => h.run pins s σ H Q I q
theorem ST.of {t : TT} {Q} (h : PT X e t) (q : t σ H Q) : ST X e σ H Q := fun pins s I => h.run pins s σ H Q I q
theorem SW.of {t : TT} {Q} (h : PW X e t) (q : t σ H Q) : SW X e σ H Q := fun wh pins s I => h.run wh pins s σ H Q I q
theorem SS.of {t : TS} {D} (h : PS X st t) (q : t D σ H) : SS X st D σ H := fun pins s I => h.run pins s σ H D I q
theorem SSs.of {t : TS} {D} (h : PSs X sts t) (q : t D σ H) : SSs X sts D σ H := fun pins s I => h.run pins s σ H D I q
theorem SE.mono {Q Q' : VK} (h : SE X e σ H Q) (m : ∀ v H', Q v H' → Q' v H') : SE X e σ H Q' := fun pins s I =>
  thn (h pins s I) fun u s' ⟨v, H', I', r, q⟩ => ⟨v, H', I', r, m v H' q⟩
theorem ST.mono {Q Q' : Bool → Hp → Prop} (h : ST X e σ H Q) (m : ∀ v H', Q v H' → Q' v H') : ST X e σ H Q' := fun pins s I =>
  thn (h pins s I) fun u s' ⟨H', I', q⟩ => ⟨H', I', m u H' q⟩
theorem SW.toST {Q} (h : SW X e σ H Q) : ST X e σ H Q := fun pins s I => h _ pins s I
theorem SEs.mono : ∀ {es : List Expr} {σ H} {Q Q' : List V → Hp → Prop}, SEs X es σ H Q → (∀ v H', Q v H' → Q' v H') → SEs X es σ H Q'
  | [], _, _, _, _, h, m => m _ _ h
  | _ :: _, _, _, _, _, h, m => SE.mono h fun _ _ q => SEs.mono q fun _ _ z => m _ _ z
/-- no star -/
def nst : Expr → Bool
  | .Starred _ _ => false
  | _ => true
theorem nst_each (h : nst e = true) (env : PySem.Env) : starEach (e :: es) env = (false, eval e env) :: starEach es env := by
  cases e <;> first | rfl | (cases h)
theorem pa_S : ∀ {es : List Expr}, es.all nst = true → PA X es (SEs X es)
  | [], _ => pa_nil
  | e :: es, h => by
    rw [List.all_cons, Bool.and_eq_true] at h
    exact pa_cons pe_S (pa_S h.2) (nst_each h.1 _)
theorem nst_any : ∀ {es : List Expr} {pos : Pos} {env : PySem.Env}, es.all nst = true → (backTo pos (starEach es env)).any (·.1) = false
  | [], _, _, _ => rfl
  | e :: es, pos, env, h => by
    rw [List.all_cons, Bool.and_eq_true] at h
    rw [nst_each h.1]
    have q := nst_any (pos := pos) (env := env) h.2
    simp only [backTo, List.map_cons, List.any_cons] at q ⊢
    first | simpa using q | (rw [q]; rfl)
end

/-! ### operations -/
inductive Op where
  | addI | addS | addL | addT | sub | mul | mulS | mod | fdiv | pow
  | eq | ne | lt | le | gt | ge | isN | notN | inS | niS | inL | niL | inD | niD
  | ix | ixD | slS (l h : Bool) | slL (l h : Bool) | slT (l h : Bool) | slA (l h : Bool) | revS | revL
  | tup | lst | dct0 | cdct (kvs : List (List Nat × List Nat))
  | len | all | any | int | listL | tupL | sortS
  deriving DecidableEq

def Ext (H H' : Hp) : Prop := ∀ a o, H a = some o → H' a = some o
theorem Ext.refl (H : Hp) : Ext H H := fun _ _ h => h
theorem Ext.new {H : Hp} {p : Addr} {o : HO} (h : H p = none) : Ext H (upd H p o) := fun a u e => by
  rw [upd_ne (ne_of_none e h)]
  exact e
theorem Ext.trans {H H1 H2 : Hp} (a : Ext H H1) (b : Ext H1 H2) : Ext H H2 := fun x o h => b x o (a x o h)
theorem Kp.ext {F : Fz} {H H' : Hp} (ok : Fok F H) (e : Ext H H') : Kp F H F H' :=
  ⟨fun _ h => h, fun a h => by obtain ⟨o, z⟩ := ok a h; rw [z]; exact e a o z, fun a xs h => e a _ h⟩

/-- operands, borrowed -/
inductive R1L (c : Cn) (F : Fz) (H : Hp) : List V → List D → Prop where
  | nil : R1L c F H [] []
  | cons {v d vs ds A} (h : R1 c F H v d A) (r : R1L c F H vs ds) : R1L c F H (v :: vs) (d :: ds)
/-- a result: fresh and owned, or frozen -/
def RsO (fr : Bool) (c : Cn) (F : Fz) (H1 H2 : Hp) (v : V) (d : D) : Prop := match fr with
  | true => ∃ a, H1 a = none ∧ Own c F H2 (.own .fz) v d [a]
  | false => Rep c.cl F H2 v d

def LIM : Nat := 16777216
theorem lim_eq : sizeLine = LIM := sizeLine_eq
/-- == of data without dicts and instances -/
def toP : D → Option PyData
  | .non => some .none
  | .bl b => some (.bool b)
  | .int i => some (.int i)
  | .str s => some (.str (sOf s))
  | .tup ds => (toPs ds).map .tuple
  | .lst ds => (toPs ds).map .list
  | _ => none
where toPs : List D → Option (List PyData)
  | [] => some []
  | d :: ds => match toP d, toPs ds with
    | some x, some xs => some (x :: xs)
    | _, _ => none
/-! ### what each operation gives -/
def cutL {α : Type} (xs : List α) (lo hi : Option Int) : List α := (xs.drop (HT.sIx xs.length 0 lo)).take (HT.sIx xs.length xs.length hi - HT.sIx xs.length 0 lo)
def dGet (kvs : List (Kd × D)) (k : Kd) : Option D := (kvs.find? fun kv => decide (kv.1 = k)).map (·.2)
def dKey : D → Option Kd
  | .int i => some (.inl i)
  | .str s => some (.inr s)
  | _ => none
def flat : D → Bool
  | .non => true | .bl _ => true | .int _ => true | .str _ => true
  | _ => false
/-- == of flat data -/
def fEq : D → D → Bool
  | .non, .non => true
  | .bl a, .bl b => a == b
  | .int a, .int b => a == b
  | .bl a, .int b => (if a then 1 else 0) == b
  | .int a, .bl b => a == (if b then 1 else 0)
  | .str a, .str b => decide (a = b)
  | _, _ => false
def bls : List D → Option (List Bool)
  | [] => some []
  | .bl b :: ds => (bls ds).map (b :: ·)
  | _ => none
def strsOf : List D → Option (List (List Nat))
  | [] => some []
  | .str b :: ds => (strsOf ds).map (b :: ·)
  | _ => none
def dAddI : List D → Option D
  | [.int a, .int b] => some (.int (a + b))
  | _ => none
def dAddS : List D → Option D
  | [.str a, .str b] => if a.length + b.length ≤ LIM then some (.str (a ++ b)) else none
  | _ => none
def dAddL : List D → Option D
  | [.lst a, .lst b] => if a.length + b.length ≤ LIM then some (.lst (a ++ b)) else none
  | _ => none
def dAddT : List D → Option D
  | [.tup a, .tup b] => if a.length + b.length ≤ LIM then some (.tup (a ++ b)) else none
  | _ => none
def dSub : List D → Option D
  | [.int a, .int b] => some (.int (a - b))
  | _ => none
def dMul : List D → Option D
  | [.int a, .int b] => if (-(2 ^ 64) < a ∧ a < 2 ^ 64) ∨ (-(2 ^ 64) < b ∧ b < 2 ^ 64) then some (.int (a * b)) else none
  | _ => none
def dMulS : List D → Option D
  | [.str s, .int k] => if 0 ≤ k ∧ k ≤ 1000 ∧ s.length ≤ 1000 then some (.str (List.replicate k.toNat s).flatten) else none
  | _ => none
def dMod : List D → Option D
  | [.int a, .int b] => if 0 < b then some (.int (a % b)) else none
  | _ => none
def dDiv : List D → Option D
  | [.int a, .int b] => if 0 < b ∧ b < 1073741824 then some (.int (a / b)) else none
  | _ => none
def dPow : List D → Option D
  | [.int a, .int b] => if 0 ≤ b ∧ b ≤ 1000000 ∧ a.natAbs < 2 ^ 64 then some (.int (a ^ b.toNat)) else none
  | _ => none
def dCmp (f : Int → Int → Bool) : List D → Option D
  | [.int a, .int b] => some (.bl (f a b))
  | _ => none
def dIsN (n : Bool) : List D → Option D
  | [d] => some (.bl (match d with | .non => !n | _ => n))
  | _ => none
def dInS (n : Bool) : List D → Option D
  | [.str [a], .str s] => some (.bl (n ^^ decide (a ∈ s)))
  | _ => none
def dInL (n : Bool) : List D → Option D
  | [x, .lst ys] => if flat x && ys.all flat then some (.bl (n ^^ ys.any fun y => fEq y x)) else none
  | [x, .tup ys] => if flat x && ys.all flat then some (.bl (n ^^ ys.any fun y => fEq y x)) else none
  | _ => none
def dInD (n : Bool) : List D → Option D
  | [x, .dct kvs] => (dKey x).map fun k => .bl (n ^^ (dGet kvs k).isSome)
  | _ => none
def dIx : List D → Option D
  | [.lst xs, .int i] => atI xs i
  | [.tup xs, .int i] => atI xs i
  | [.str s, .int i] => (atI s i).map fun a => .str [a]
  | _ => none
def dIxD : List D → Option D
  | [.dct kvs, x] => (dKey x).bind (dGet kvs)
  | _ => none
/-- a slice's parts: is there a lower one, an upper one -/
def parts (l h : Bool) (ds : List D) : Option (Option Int × Option Int) := match l, h, ds with
  | false, false, [] => some (none, none)
  | true, false, [.int a] => some (some a, none)
  | false, true, [.int a] => some (none, some a)
  | true, true, [.int a, .int b] => some (some a, some b)
  | _, _, _ => none
def dSlS (l h : Bool) : List D → Option D
  | .str s :: ds => (parts l h ds).map fun p => .str (cutL s p.1 p.2)
  | _ => none
def dSlL (l h : Bool) : List D → Option D
  | .lst s :: ds => (parts l h ds).map fun p => .lst (cutL s p.1 p.2)
  | _ => none
def dSlT (l h : Bool) : List D → Option D
  | .tup s :: ds => (parts l h ds).map fun p => .tup (cutL s p.1 p.2)
  | _ => none
/-- of a list or a tuple -/
def dSlA (l h : Bool) : List D → Option D
  | .lst s :: ds => (parts l h ds).map fun p => .lst (cutL s p.1 p.2)
  | .tup s :: ds => (parts l h ds).map fun p => .tup (cutL s p.1 p.2)
  | _ => none
/-- a written dict of texts -/
def cdOk (kvs : List (List Nat × List Nat)) : Bool := decide (kvs ≠ []) && (decide (kvs.length ≤ 15) && (decide (kvs.map (·.1)).Nodup && kvs.all fun p => decide (p.1.length ≤ LIM) && decide (p.2.length ≤ LIM)))
def dCd (kvs : List (List Nat × List Nat)) : List D → Option D
  | [] => if cdOk kvs = true then some (.dct (kvs.map fun p => (.inr p.1, .str p.2))) else none
  | _ => none
def dRevL : List D → Option D
  | [.lst s] => some (.lst s.reverse)
  | _ => none
def dTup (ds : List D) : Option D := if ds.length ≤ LIM then some (.tup ds) else none
def dLst (ds : List D) : Option D := if ds.length ≤ LIM then some (.lst ds) else none
def dDct0 : List D → Option D
  | [] => some (.dct [])
  | _ => none
def dLen : List D → Option D
  | [.lst s] => some (.int s.length)
  | [.tup s] => some (.int s.length)
  | [.str s] => some (.int s.length)
  | [.dct s] => some (.int s.length)
  | _ => none
def dAll : List D → Option D
  | [.lst s] => (bls s).map fun b => .bl (b.all id)
  | _ => none
def dAny : List D → Option D
  | [.lst s] => (bls s).map fun b => .bl (b.any id)
  | _ => none
def dInt : List D → Option D
  | [.int i] => some (.int i)
  | [.bl b] => some (.int (if b then 1 else 0))
  | _ => none
def dListL : List D → Option D
  | [.lst s] => some (.lst s)
  | [.tup s] => some (.lst s)
  | _ => none
def dTupL : List D → Option D
  | [.lst s] => some (.tup s)
  | [.tup s] => some (.tup s)
  | _ => none
def dJoin : List D → Option D
  | [.str a, .lst ys] => (strsOf ys).bind fun zs => if (zs.map List.length).sum + zs.length * a.length ≤ LIM then some (.str (TL.joinL a zs)) else none
  | _ => none
end Nc

set_option Elab.async false
set_option linter.all false
set_option autoImplicit false
set_option maxRecDepth 100000
set_option maxHeartbeats 4000000
/-! Each operation by data: the layer's reading holds. -/
namespace Nc
open PySem PySem.Spec PyProof.Rows L2

/-- what is there ahead of an operation, and wanted behind it -/
def OpP (c : Cn) (fr : Bool) (f : List D → Option D) (vs : List V) (H1 : Hp) (Q : VK) : Prop :=
  ∃ F ds d, Fok F H1 ∧ R1L c F H1 vs ds ∧ f ds = some d ∧ ∀ v H2, Ext H1 H2 → RsO fr c F H1 H2 v d → Q v H2

/-- .. of an operation that gives what is frozen, or a new list -/
def OpA (c : Cn) (f : List D → Option D) (vs : List V) (H1 : Hp) (Q : VK) : Prop :=
  ∃ F ds d, Fok F H1 ∧ R1L c F H1 vs ds ∧ f ds = some d ∧ (∀ v H2, Ext H1 H2 → Rep c.cl F H2 v d → Q v H2) ∧ ∀ v H2 a xs, Ext H1 H2 → H1 a = none → H2 a = some (.lst xs) → Own c F H2 (.own .fz) v d [a] → Q v H2
section
variable {c : Cn} {X : Cx} {H : Hp} {Q : VK} {x y : V} {vs : List V}
theorem R1L.one {F : Fz} {ds : List D} (h : R1L c F H [x] ds) : ∃ d A, ds = [d] ∧ R1 c F H x d A := by
  cases h with | cons h r => cases r; exact ⟨_, _, rfl, h⟩
theorem R1L.two {F : Fz} {ds : List D} (h : R1L c F H [x, y] ds) : ∃ d e A B, ds = [d, e] ∧ R1 c F H x d A ∧ R1 c F H y e B := by
  cases h with | cons h r => cases r with | cons h2 r => cases r; exact ⟨_, _, _, _, rfl, h, h2⟩

theorem opr_addI (h : OpP c false dAddI [x, y] H Q) : rI0 (fun i j => .int (i + j)) x y H Q := by
  obtain ⟨F, ds, d, fk, r, e, q⟩ := h
  obtain ⟨a, b, A, B, rfl, ra, rb⟩ := r.two
  unfold dAddI at e
  split at e <;> cases e
  rename_i h; cases h
  exact ⟨_, _, ra.int, rb.int, q _ H (Ext.refl H) (.int _)⟩
theorem opr_sub (h : OpP c false dSub [x, y] H Q) : rI0 (fun i j => .int (i - j)) x y H Q := by
  obtain ⟨F, ds, d, fk, r, e, q⟩ := h
  obtain ⟨a, b, A, B, rfl, ra, rb⟩ := r.two
  unfold dSub at e
  split at e <;> cases e
  rename_i h; cases h
  exact ⟨_, _, ra.int, rb.int, q _ H (Ext.refl H) (.int _)⟩
theorem opr_mul (h : OpP c false dMul [x, y] H Q) : rI CMul (fun i j => .int (i * j)) x y H Q := by
  obtain ⟨F, ds, d, fk, r, e, q⟩ := h
  obtain ⟨a, b, A, B, rfl, ra, rb⟩ := r.two
  unfold dMul at e
  split at e
  · rename_i h; cases h
    split at e <;> cases e
    rename_i hc
    exact ⟨_, _, ra.int, rb.int, hc, q _ H (Ext.refl H) (.int _)⟩
  · cases e
def rMulS : R2 := fun x y H Q => ∃ (s : List Nat) (k : Int), x = .str (sOf s) ∧ y = .int k ∧ 0 ≤ k ∧ k ≤ 1000 ∧ s.length ≤ 1000 ∧ Q (.str (sOf (List.replicate k.toNat s).flatten)) H
theorem rep_flat (s : List Nat) : ∀ (n : Nat) (acc : List Nat), ((List.replicate n s.toArray).foldl (· ++ ·) acc.toArray) = (acc ++ (List.replicate n s).flatten).toArray
  | 0, acc => by simp
  | n + 1, acc => by
    rw [List.replicate_succ, List.foldl_cons, List.replicate_succ, List.flatten_cons, ← List.append_assoc]
    have e : acc.toArray ++ s.toArray = (acc ++ s).toArray := by simp
    rw [e]
    exact rep_flat s n (acc ++ s)
theorem rep_len (s : List Nat) (n : Nat) : (List.replicate n s).flatten.length = n * s.length := by
  induction n with
  | zero => simp
  | succ n ih => rw [List.replicate_succ, List.flatten_cons, List.length_append, ih, Nat.succ_mul]; omega
theorem op_mulS : OpR X (binaryOp .Mult) rMulS := by
  intro pins s σ H x y v u Q I rx ry h
  obtain ⟨z, k, rfl, rfl, h0, h1, h2, q⟩ := h
  obtain ⟨t, rfl⟩ := rx
  obtain ⟨t', rfl⟩ := ry
  have hzl : (sOf z).length = z.length := by show (sOf z).cps.size = _; simp [sOf]
  have e : (⟨(List.replicate k.toNat (sOf z).cps).foldl (· ++ ·) #[]⟩ : Str) = sOf (List.replicate k.toNat z).flatten := by
    have := rep_flat z k.toNat []
    rw [List.nil_append] at this
    exact congrArg Str.mk this
  have hb : k.toNat * z.length ≤ 1000 * 1000 := Nat.mul_le_mul (by omega) h2
  refine PySem.P.mul_str ?_ (fun c1 _ => ?_) (fun c1 _ => ?_) ?_
  · rw [decide_eq_false (by omega), decide_eq_false (by omega)]; rfl
  · rw [hzl]
    have hm : (z.length : Int) * k ≤ 1000 * 1000 := by
      have e3 : ((k.toNat : Nat) : Int) = k := Int.toNat_of_nonneg h0
      have e4 : ((k.toNat * z.length : Nat) : Int) ≤ 1000 * 1000 := by exact_mod_cast hb
      rw [Int.natCast_mul, e3, Int.mul_comm] at e4
      exact e4
    have : (z.length : Int) ≤ (2 ^ 63 - 1) / k := Int.le_ediv_of_mul_le (by omega) (Int.le_trans hm (by decide))
    omega
  · rw [hzl]
    show decide _ = false
    rw [decide_eq_false]
    rw [Nat.mul_comm] at hb
    have := sizeLine_eq
    omega
  · by_cases c1 : k < 1
    · rw [if_pos c1]
      obtain rfl : k = 0 := by omega
      exact ⟨by decide, .str (sOf []), H, I.tok _, ⟨_, rfl⟩, by simpa using q⟩
    · rw [if_neg c1]
      by_cases c2 : (k == 1 || (sOf z).length == 0) = true
      · rw [if_pos c2]
        refine ⟨.str _, H, I, ⟨t, ?_⟩, q⟩
        have e2 : (List.replicate k.toNat z).flatten = z := by
          rw [Bool.or_eq_true, beq_iff_eq, beq_iff_eq] at c2
          rcases c2 with c2 | c2
          · rw [c2]; simp
          · rw [hzl] at c2
            rw [List.length_eq_zero_iff.mp c2]; simp
        rw [e2]
      · rw [if_neg c2, e]
        refine ⟨?_, .str _, H, I.tok _, ⟨_, rfl⟩, q⟩
        have : (sOf (List.replicate k.toNat z).flatten).length = k.toNat * z.length := by
          show (sOf (List.replicate k.toNat z).flatten).cps.size = _
          rw [← rep_len]; simp [sOf]
        rw [this]
        have := sizeLine_eq
        omega
theorem opr_mulS (h : OpP c false dMulS [x, y] H Q) : rMulS x y H Q := by
  obtain ⟨F, ds, d, fk, r, e, q⟩ := h
  obtain ⟨a, b, A, B, rfl, ra, rb⟩ := r.two
  unfold dMulS at e
  split at e
  · rename_i s k h; cases h
    split at e <;> cases e
    rename_i hc
    refine ⟨s, k, ra.str.1, rb.int, hc.1, hc.2.1, hc.2.2, q _ H (Ext.refl H) (.str _ ?_)⟩
    rw [rep_len, lim_eq]
    have hb : k.toNat * s.length ≤ 1000 * 1000 := Nat.mul_le_mul (by omega) hc.2.2
    have : LIM = 16777216 := rfl
    omega
  · cases e
theorem opr_mod (h : OpP c false dMod [x, y] H Q) : rI (fun _ j => 0 < j) (fun i j => .int (i % j)) x y H Q := by
  obtain ⟨F, ds, d, fk, r, e, q⟩ := h
  obtain ⟨a, b, A, B, rfl, ra, rb⟩ := r.two
  unfold dMod at e
  split at e
  · rename_i h; cases h
    split at e <;> cases e
    rename_i hc
    exact ⟨_, _, ra.int, rb.int, hc, q _ H (Ext.refl H) (.int _)⟩
  · cases e
theorem opr_div (h : OpP c false dDiv [x, y] H Q) : rI CDiv (fun i j => .int (i / j)) x y H Q := by
  obtain ⟨F, ds, d, fk, r, e, q⟩ := h
  obtain ⟨a, b, A, B, rfl, ra, rb⟩ := r.two
  unfold dDiv at e
  split at e
  · rename_i h; cases h
    split at e <;> cases e
    rename_i hc
    exact ⟨_, _, ra.int, rb.int, hc, q _ H (Ext.refl H) (.int _)⟩
  · cases e
theorem opr_pow (h : OpP c false dPow [x, y] H Q) : rI CPow (fun i j => .int (i ^ j.toNat)) x y H Q := by
  obtain ⟨F, ds, d, fk, r, e, q⟩ := h
  obtain ⟨a, b, A, B, rfl, ra, rb⟩ := r.two
  unfold dPow at e
  split at e
  · rename_i h; cases h
    split at e <;> cases e
    rename_i hc
    exact ⟨_, _, ra.int, rb.int, hc, q _ H (Ext.refl H) (.int _)⟩
  · cases e
theorem opr_cmp {f : Int → Int → Bool} (h : OpP c false (dCmp f) [x, y] H Q) : rI0 (fun i j => .bl (f i j)) x y H Q := by
  obtain ⟨F, ds, d, fk, r, e, q⟩ := h
  obtain ⟨a, b, A, B, rfl, ra, rb⟩ := r.two
  unfold dCmp at e
  split at e <;> cases e
  rename_i h; cases h
  exact ⟨_, _, ra.int, rb.int, q _ H (Ext.refl H) (.bl _)⟩
theorem str_app (a b : List Nat) : sOf a ++ sOf b = sOf (a ++ b) := by
  show Str.append _ _ = _
  simp [Str.append, sOf]
theorem str_len (a : List Nat) : (sOf a).length = a.length := by simp [Str.length, sOf]
theorem opr_addS (h : OpP c false dAddS [x, y] H Q) : ∃ i j, x = .str i ∧ y = .str j ∧ i.length + j.length ≤ sizeLine ∧ Q (.str (i ++ j)) H := by
  obtain ⟨F, ds, d, fk, r, e, q⟩ := h
  obtain ⟨a, b, A, B, rfl, ra, rb⟩ := r.two
  unfold dAddS at e
  split at e
  · rename_i h; cases h
    split at e <;> cases e
    rename_i hc
    refine ⟨_, _, ra.str.1, rb.str.1, by rw [str_len, str_len, lim_eq]; exact hc, ?_⟩
    rw [str_app]
    exact q _ H (Ext.refl H) (.str _ (by rw [List.length_append, lim_eq]; exact hc))
  · cases e
theorem rd_lst {pins : List (Addr × Obj)} {σ : L2.St} {s : Shared} {l : Addr} {xs : List V} (I : Inv X pins σ H s) (h : Rd H l (.lst xs)) :
    xs.length ≤ sizeLine ∧ ∃ (its : List Value) (n : Nat), Vals xs its ∧ s.heap.get? l = some { cls := .type "list", data := .seq its.toArray n } := h.ok I.hok
/-- xs + ys of two lists that may be read -/
def rCatL : R2 := fun x y H Q => ∃ l b xs zs, x = .ref l ∧ y = .ref b ∧ Rd H l (.lst xs) ∧ Rd H b (.lst zs) ∧ xs.length + zs.length ≤ sizeLine ∧ ∀ p, H p = none → Q (.ref p) (upd H p (.lst (xs ++ zs)))
theorem op_catL : OpR X (binaryOp .Add) rCatL := by
  intro pins s σ H x y v u Q I rx ry h
  obtain ⟨l, b, xs, zs, rfl, rfl, hH, hB, hz, q⟩ := h
  cases rx
  cases ry
  obtain ⟨z, its, n, r, e⟩ := rd_lst I hH
  obtain ⟨z2, its2, n2, r2, e2⟩ := rd_lst I hB
  have hl := r.length
  have hl2 := r2.length
  refine PySem.P.add_list e e2 ?_ (by rw [List.size_toArray, List.size_toArray]; omega)
  have ea : its.toArray ++ its2.toArray = (its ++ its2).toArray := by simp
  rw [ea]
  exact ⟨.ref _, _, I.lnew (t' := s.toks) (r.append r2) (by rw [List.length_append]; omega), rfl, q _ I.fresh⟩
theorem fok_new {F : Fz} {o : HO} {p : Addr} (fk : Fok F H) (hp : H p = none) : Kp F H F (upd H p o) := Kp.new fk hp
theorem opr_addL (h : OpP c true dAddL [x, y] H Q) : rCatL x y H Q := by
  obtain ⟨F, ds, d, fk, r, e, q⟩ := h
  obtain ⟨a, b, A, B, rfl, ra, rb⟩ := r.two
  unfold dAddL at e
  split at e
  · rename_i h; cases h
    split at e <;> cases e
    rename_i hc
    obtain ⟨p1, v1, e1, h1, r1⟩ := ra.lst
    obtain ⟨p2, v2, e2, h2, r2⟩ := rb.lst
    refine ⟨p1, p2, v1, v2, e1, e2, h1, h2, by rw [r1.length, r2.length, lim_eq]; exact hc, fun p hp => ?_⟩
    exact q _ _ (Ext.new hp) ⟨p, hp, own_lst upd_same ((r1.append r2).mono (Kp.new fk hp))⟩
  · cases e
theorem opr_addT (h : OpP c false dAddT [x, y] H Q) : rCatA X.K x y H Q := by
  obtain ⟨F, ds, d, fk, r, e, q⟩ := h
  obtain ⟨a, b, A, B, rfl, ra, rb⟩ := r.two
  unfold dAddT at e
  split at e
  · rename_i h; cases h
    split at e <;> cases e
    rename_i hc
    obtain ⟨p1, v1, e1, h1, r1⟩ := ra.tup
    obtain ⟨p2, v2, e2, h2, r2⟩ := rb.tup
    refine ⟨p1, p2, v1, v2, e1, e2, SqT.of h1, SqT.of h2, by rw [r1.length, r2.length, lim_eq]; exact hc, fun z => ?_, fun z1 z2 => ?_, fun z1 z2 p hp => ?_⟩
    · subst z
      cases r1
      exact q _ H (Ext.refl H) (.tup h2 r2)
    · subst z2
      cases r2
      refine q _ H (Ext.refl H) ?_
      rw [List.append_nil]
      exact .tup h1 r1
    · exact q _ _ (Ext.new hp) (.tup upd_same ((r1.append r2).mono (Kp.new fk hp)))
  · cases e
def isNonD : D → Bool
  | .non => true
  | _ => false
theorem rep_non {F : Fz} {A : List Addr} {d : D} (h : R1 c F H x d A) : decide (x = .non) = isNonD d := by
  cases d with
  | non => rw [h.non]; rfl
  | bl b => rw [h.bl]; rfl
  | int b => rw [h.int]; rfl
  | str b => rw [h.str.1]; rfl
  | tup b => obtain ⟨a, _, e, _⟩ := h.tup; rw [e]; rfl
  | lst b => obtain ⟨a, _, e, _⟩ := h.lst; rw [e]; rfl
  | dct b => obtain ⟨a, _, e, _⟩ := h.dct; rw [e]; rfl
  | ins k b =>
    rcases h with h | h
    · cases h with
      | fz h => cases h; rfl
      | ins hm => cases hm
    · cases h; rfl
theorem opr_isN (h : OpP c false (dIsN false) [x] H Q) : Q (.bl (decide (x = .non))) H := by
  obtain ⟨F, ds, d, fk, r, e, q⟩ := h
  obtain ⟨a, A, rfl, ra⟩ := r.one
  cases e
  rw [rep_non ra]
  have := q (.bl _) H (Ext.refl H) (.bl _)
  cases a <;> exact this
theorem opr_notN (h : OpP c false (dIsN true) [x] H Q) : Q (.bl (!decide (x = .non))) H := by
  obtain ⟨F, ds, d, fk, r, e, q⟩ := h
  obtain ⟨a, A, rfl, ra⟩ := r.one
  cases e
  rw [rep_non ra]
  have := q (.bl _) H (Ext.refl H) (.bl _)
  cases a <;> exact this
theorem opr_inS (h : OpP c false (dInS false) [x, y] H Q) : rInS x y H Q := by
  obtain ⟨F, ds, d, fk, r, e, q⟩ := h
  obtain ⟨a, b, A, B, rfl, ra, rb⟩ := r.two
  unfold dInS at e
  split at e <;> cases e
  rename_i h; cases h
  refine ⟨_, _, ra.str.1, rb.str.1, ?_⟩
  have := q (.bl _) H (Ext.refl H) (.bl _)
  simpa using this
theorem opr_niS (h : OpP c false (dInS true) [x, y] H Q) : rNotInS x y H Q := by
  obtain ⟨F, ds, d, fk, r, e, q⟩ := h
  obtain ⟨a, b, A, B, rfl, ra, rb⟩ := r.two
  unfold dInS at e
  split at e <;> cases e
  rename_i h; cases h
  refine ⟨_, _, ra.str.1, rb.str.1, ?_⟩
  have := q (.bl _) H (Ext.refl H) (.bl _)
  simpa using this
theorem flat_V {F : Fz} {A : List Addr} {d : D} (h : R1 c F H x d A) (f : flat d = true) : flatV x = true := by
  cases d with
  | non => rw [h.non]; rfl
  | bl b => rw [h.bl]; rfl
  | int b => rw [h.int]; rfl
  | str b => rw [h.str.1]; rfl
  | _ => cases f
theorem flat_Vs {F : Fz} : ∀ {vs : List V} {ds : List D}, RepL c.cl F H vs ds → ds.all flat = true → vs.all flatV = true
  | _, _, .nil, _ => rfl
  | _, _, .cons h r, f => by
    rw [List.all_cons, Bool.and_eq_true] at f ⊢
    exact ⟨flat_V (R1.of h) f.1, flat_Vs r f.2⟩
theorem eqV_f {F : Fz} {A B : List Addr} {d e : D} (h : R1 c F H x d A) (k : R1 c F H y e B) (f : flat d = true) (g : flat e = true) : eqV x y = fEq d e := by
  cases d with
  | non => rw [h.non]; cases e with
    | non => rw [k.non]; rfl
    | bl b => rw [k.bl]; rfl
    | int b => rw [k.int]; rfl
    | str b => rw [k.str.1]; rfl
    | _ => cases g
  | bl b => rw [h.bl]; cases e with
    | non => rw [k.non]; rfl
    | bl b => rw [k.bl]; rfl
    | int b => rw [k.int]; rfl
    | str b => rw [k.str.1]; rfl
    | _ => cases g
  | int b => rw [h.int]; cases e with
    | non => rw [k.non]; rfl
    | bl b => rw [k.bl]; rfl
    | int b => rw [k.int]; rfl
    | str b => rw [k.str.1]; rfl
    | _ => cases g
  | str b => rw [h.str.1]; cases e with
    | non => rw [k.non]; rfl
    | bl b => rw [k.bl]; rfl
    | int b => rw [k.int]; rfl
    | str b' =>
      rw [k.str.1]
      show (sOf b == sOf b') = decide (b = b')
      rw [Bool.eq_iff_iff, beq_iff_eq, decide_eq_true_eq]
      refine ⟨fun z => ?_, fun z => by rw [z]⟩
      have z2 : b.toArray = b'.toArray := congrArg Str.cps z
      simpa using congrArg Array.toList z2
    | _ => cases g
  | _ => cases f
theorem any_f {F : Fz} {A : List Addr} {d : D} (h : R1 c F H x d A) (f : flat d = true) : ∀ {vs : List V} {ds : List D}, RepL c.cl F H vs ds → ds.all flat = true → inV x vs = ds.any fun y => fEq y d
  | _, _, .nil, _ => rfl
  | _, _, .cons k r, g => by
    rw [List.all_cons, Bool.and_eq_true] at g
    have ih := any_f h f r g.2
    unfold inV at ih ⊢
    rw [List.any_cons, List.any_cons, eqV_f (R1.of k) h g.1 f, ih]
theorem opr_inL {n : Bool} (h : OpP c false (dInL n) [x, y] H Q) : rIn X.K n x y H Q := by
  obtain ⟨F, ds, d, fk, r, e, q⟩ := h
  obtain ⟨a, b, A, B, rfl, ra, rb⟩ := r.two
  unfold dInL at e
  split at e
  · rename_i h; cases h
    split at e <;> cases e
    rename_i hc
    rw [Bool.and_eq_true] at hc
    obtain ⟨p, vs, ey, hr, rl⟩ := rb.lst
    refine ⟨p, vs, ey, .inl (.inl hr), flat_V ra hc.1, flat_Vs rl hc.2, ?_⟩
    rw [any_f ra hc.1 rl hc.2]
    have := q (.bl _) H (Ext.refl H) (.bl _)
    cases n <;> simpa using this
  · rename_i h; cases h
    split at e <;> cases e
    rename_i hc
    rw [Bool.and_eq_true] at hc
    obtain ⟨p, vs, ey, hr, rl⟩ := rb.tup
    refine ⟨p, vs, ey, .inr (SqT.of hr), flat_V ra hc.1, flat_Vs rl hc.2, ?_⟩
    rw [any_f ra hc.1 rl hc.2]
    have := q (.bl _) H (Ext.refl H) (.bl _)
    cases n <;> simpa using this
  · cases e
theorem RepK.val {F : Fz} (k : Kd) : ∀ {vs : List (Key × V)} {ds : List (Kd × D)}, RepK c.cl F H vs ds → (dGet ds k = none → valV vs (kk k) = none) ∧ ∀ d, dGet ds k = some d → ∃ v, valV vs (kk k) = some v ∧ Rep c.cl F H v d
  | _, _, .nil => ⟨fun _ => rfl, fun d e => (nomatch e)⟩
  | _, _, .cons (k := k') (v := v) (d := d) (vs := vs) (ds := ds) hk h r => by
    have ih := RepK.val k r
    unfold dGet valV at ih ⊢
    rw [List.find?_cons, List.find?_cons]
    by_cases e : k' = k
    · subst e
      simp only [decide_true]
      exact ⟨fun z => (nomatch z), fun d' z => ⟨v, rfl, (Option.some.inj z) ▸ h⟩⟩
    · have e2 : ¬ kk k' = kk k := fun z => e (kk_inj z)
      simp only [decide_eq_false e, decide_eq_false e2]
      exact ih
theorem RepK.iss {F : Fz} (k : Kd) {vs : List (Key × V)} {ds : List (Kd × D)} (r : RepK c.cl F H vs ds) : (valV vs (kk k)).isSome = (dGet ds k).isSome := by
  obtain ⟨h1, h2⟩ := RepK.val k r
  cases e : dGet ds k with
  | none => rw [h1 e] <;> rfl
  | some d => obtain ⟨v, e2, _⟩ := h2 d e; rw [e2]; rfl
theorem key_V {F : Fz} {A : List Addr} {d : D} {k : Kd} (h : R1 c F H x d A) (e : dKey d = some k) : x = kV (kk k) := by
  cases d with
  | int i => cases e; exact h.int
  | str s => cases e; exact h.str.1
  | _ => cases e
theorem dget_of {F : Fz} {A : List Addr} {kvs : List (Kd × D)} (h : R1 c F H x (.dct kvs) A) (k : Kd) : ∃ a vs, x = .ref a ∧ RepK c.cl F H vs kvs ∧ DGet H a (kV (kk k)) (valV vs (kk k)) := by
  obtain ⟨a, vs, e, hr, r⟩ := h.dct
  exact ⟨a, vs, e, r, .inl ⟨vs, kk k, hr, rfl, rfl⟩⟩
theorem opr_inD (h : OpP c false (dInD false) [x, y] H Q) : ∃ a o, y = .ref a ∧ DGet H a x o ∧ Q (.bl o.isSome) H := by
  obtain ⟨F, ds, d, fk, r, e, q⟩ := h
  obtain ⟨a, b, A, B, rfl, ra, rb⟩ := r.two
  unfold dInD at e
  split at e
  · rename_i h; cases h
    obtain ⟨k, ek, e⟩ := Option.map_eq_some_iff.mp e
    subst e
    obtain ⟨p, vs, ey, rk, g⟩ := dget_of rb k
    refine ⟨p, _, ey, by rw [key_V ra ek]; exact g, ?_⟩
    rw [rk.iss]
    have := q (.bl _) H (Ext.refl H) (.bl _)
    simpa using this
  · cases e
theorem opr_niD (h : OpP c false (dInD true) [x, y] H Q) : ∃ a o, y = .ref a ∧ DGet H a x o ∧ Q (.bl (!o.isSome)) H := by
  obtain ⟨F, ds, d, fk, r, e, q⟩ := h
  obtain ⟨a, b, A, B, rfl, ra, rb⟩ := r.two
  unfold dInD at e
  split at e
  · rename_i h; cases h
    obtain ⟨k, ek, e⟩ := Option.map_eq_some_iff.mp e
    subst e
    obtain ⟨p, vs, ey, rk, g⟩ := dget_of rb k
    refine ⟨p, _, ey, by rw [key_V ra ek]; exact g, ?_⟩
    rw [rk.iss]
    have := q (.bl _) H (Ext.refl H) (.bl _)
    simpa using this
  · cases e
theorem opr_ixD (h : OpP c false dIxD [x, y] H Q) : ∃ a v, x = .ref a ∧ DGet H a y (some v) ∧ Q v H := by
  obtain ⟨F, ds, d, fk, r, e, q⟩ := h
  obtain ⟨a, b, A, B, rfl, ra, rb⟩ := r.two
  unfold dIxD at e
  split at e
  · rename_i h; cases h
    obtain ⟨k, ek, e⟩ := Option.bind_eq_some_iff.mp e
    obtain ⟨p, vs, ey, rk, g⟩ := dget_of ra k
    obtain ⟨v, ev, rv⟩ := (RepK.val k rk).2 _ e
    refine ⟨p, v, ey, by rw [key_V rb ek, ← ev]; exact g, q _ H (Ext.refl H) rv⟩
  · cases e
theorem atI_len {α β : Type} {xs : List α} {ys : List β} {i : Int} {y : β} (hl : xs.length = ys.length) (h : atI ys i = some y) : ∃ j : Nat, ys[j]? = some y ∧ ∀ x, xs[j]? = some x → atI xs i = some x := by
  unfold atI at h
  obtain ⟨j, e1, e2⟩ := Option.bind_eq_some_iff.mp h
  exact ⟨j, e2, fun x hx => by unfold atI; rw [hl, e1]; exact hx⟩
theorem opr_ix (h : OpP c false dIx [x, y] H Q) : rIx X.K x y H Q := by
  obtain ⟨F, ds, d, fk, r, e, q⟩ := h
  obtain ⟨a, b, A, B, rfl, ra, rb⟩ := r.two
  unfold dIx at e
  split at e
  · rename_i h; cases h
    obtain ⟨p, vs, ey, hr, rl⟩ := ra.lst
    obtain ⟨j, e1, e2⟩ := atI_len rl.length e
    obtain ⟨v, ev, rv⟩ := rl.get e1
    exact .inl ⟨p, vs, _, v, ey, rb.int, .inl hr, e2 v ev, q _ H (Ext.refl H) rv⟩
  · rename_i h; cases h
    obtain ⟨p, vs, ey, hr, rl⟩ := ra.tup
    obtain ⟨j, e1, e2⟩ := atI_len rl.length e
    obtain ⟨v, ev, rv⟩ := rl.get e1
    exact .inr (.inl ⟨p, vs, _, v, ey, rb.int, SqT.of hr, e2 v ev, q _ H (Ext.refl H) rv⟩)
  · rename_i h; cases h
    obtain ⟨k, ek, e⟩ := Option.map_eq_some_iff.mp e
    subst e
    refine .inr (.inr ⟨_, _, k, ra.str.1, rb.int, by rw [str_len]; exact ra.str.2, by simpa using ek, ?_⟩)
    exact q (.str _) H (Ext.refl H) (.str [k] (by rw [lim_eq]; show 1 ≤ LIM; decide))
  · cases e
end
end Nc

set_option Elab.async false
set_option linter.all false
set_option autoImplicit false
set_option maxRecDepth 100000
set_option maxHeartbeats 4000000
/-! Operations by data, further. -/
namespace Nc
open PySem PySem.Spec PyProof.Rows L2
section
variable {c : Cn} {X : Cx} {H : Hp} {Q : VK} {x y : V} {vs : List V}

/-! ### slices -/
theorem cutL_V (xs : List V) (lo hi : Option Int) : cutV xs lo hi = cutL xs lo hi := rfl
theorem cutS_L (s : List Nat) (lo hi : Option Int) : cutS (sOf s) lo hi = sOf (cutL s lo hi) := by
  show (⟨_⟩ : Str) = ⟨_⟩
  rw [str_len]
  rfl
theorem cutL_len {α : Type} (xs : List α) (lo hi : Option Int) : (cutL xs lo hi).length ≤ xs.length := by
  unfold cutL
  rw [List.length_take, List.length_drop]
  omega
theorem RepL.cut {F : Fz} {vs : List V} {ds : List D} (r : RepL c.cl F H vs ds) (lo hi : Option Int) : RepL c.cl F H (cutL vs lo hi) (cutL ds lo hi) := by
  unfold cutL
  rw [r.length]
  exact (r.drop _).take _
/-- the parts of a slice, evaluated -/
def partsV (l h : Bool) (vs : List V) : Option (Option Int × Option Int) := match l, h, vs with
  | false, false, [] => some (none, none)
  | true, false, [.int a] => some (some a, none)
  | false, true, [.int a] => some (none, some a)
  | true, true, [.int a, .int b] => some (some a, some b)
  | _, _, _ => none
theorem parts_V {F : Fz} {l h : Bool} {ds : List D} {p : Option Int × Option Int} (r : R1L c F H vs ds) (e : parts l h ds = some p) : partsV l h vs = some p := by
  unfold parts at e
  split at e
  · cases r; exact e
  · cases r with | cons h1 r => cases r; rw [h1.int]; exact e
  · cases r with | cons h1 r => cases r; rw [h1.int]; exact e
  · cases r with | cons h1 r => cases r with | cons h2 r => cases r; rw [h1.int, h2.int]; exact e
  · cases e
theorem opr_slS {l h : Bool} (hh : OpP c false (dSlS l h) (x :: vs) H Q) : ∃ p, partsV l h vs = some p ∧ rSlS x p.1 p.2 H Q := by
  obtain ⟨F, ds, d, fk, r, e, q⟩ := hh
  cases r with
  | @cons _ d0 _ ds A h1 r =>
    unfold dSlS at e
    split at e
    · rename_i hd; cases hd
      obtain ⟨p, ep, e⟩ := Option.map_eq_some_iff.mp e
      subst e
      refine ⟨p, parts_V r ep, _, h1.str.1, by rw [str_len]; exact h1.str.2, ?_⟩
      rw [cutS_L]
      exact q _ H (Ext.refl H) (.str _ (Nat.le_trans (cutL_len _ _ _) h1.str.2))
    · cases e
theorem opr_slL {l h : Bool} (hh : OpP c true (dSlL l h) (x :: vs) H Q) : ∃ p, partsV l h vs = some p ∧ rSlL X.K x p.1 p.2 H Q := by
  obtain ⟨F, ds, d, fk, r, e, q⟩ := hh
  cases r with
  | @cons _ d0 _ ds A h1 r =>
    unfold dSlL at e
    split at e
    · rename_i hd; cases hd
      obtain ⟨p, ep, e⟩ := Option.map_eq_some_iff.mp e
      subst e
      obtain ⟨a, ws, e1, e2, e3⟩ := h1.lst
      refine ⟨p, parts_V r ep, a, ws, e1, .inl e2, fun q' hq => ?_⟩
      exact q _ _ (Ext.new hq) ⟨q', hq, own_lst upd_same ((e3.cut _ _).mono (Kp.new fk hq))⟩
    · cases e
theorem opr_slT {l h : Bool} (hh : OpP c false (dSlT l h) (x :: vs) H Q) : ∃ p, partsV l h vs = some p ∧ rSlA X.K x p.1 p.2 H Q := by
  obtain ⟨F, ds, d, fk, r, e, q⟩ := hh
  cases r with
  | @cons _ d0 _ ds A h1 r =>
    unfold dSlT at e
    split at e
    · rename_i hd; cases hd
      obtain ⟨p, ep, e⟩ := Option.map_eq_some_iff.mp e
      subst e
      obtain ⟨a, ws, e1, e2, e3⟩ := h1.tup
      refine ⟨p, parts_V r ep, a, ws, e1, SqT.of e2, fun w => ?_, fun _ q' hq => ?_⟩
      · refine q _ H (Ext.refl H) ?_
        have ew : ∀ {α : Type} (ys : List α), ys.length = ws.length → cutL ys p.1 p.2 = ys := fun ys hl => by
          unfold cutL
          rw [hl, w.1, w.2, List.drop_zero, Nat.sub_zero, ← hl, List.take_length]
        rw [ew _ e3.length.symm]
        exact .tup e2 e3
      · exact q _ _ (Ext.new hq) (.tup upd_same ((e3.cut _ _).mono (Kp.new fk hq)))
    · cases e
/-- a slice of a list or a tuple -/
def rSlU (K : PySem.W.Frag) : V → Option Int → Option Int → Hp → VK → Prop := fun x lo hi H Q => rSlL K x lo hi H Q ∨ rSlA K x lo hi H Q
theorem sl_U : SlR X (rSlU X.K) := by
  intro pins s σ H x v vl vu lo hi sl Q I rx hs pl pu h
  rcases h with h | h
  · exact sl_list pins s σ H x v vl vu lo hi sl Q I rx hs pl pu h
  · exact sl_tupA pins s σ H x v vl vu lo hi sl Q I rx hs pl pu h
theorem opr_slA {l h : Bool} (hh : OpA c (dSlA l h) (x :: vs) H Q) : ∃ p, partsV l h vs = some p ∧ rSlU X.K x p.1 p.2 H Q := by
  obtain ⟨F, ds, d, fk, r, e, q, q2⟩ := hh
  cases r with
  | @cons _ d0 _ ds A h1 r =>
    unfold dSlA at e
    split at e
    · rename_i hd; cases hd
      obtain ⟨p, ep, e⟩ := Option.map_eq_some_iff.mp e
      subst e
      obtain ⟨a, ws, e1, e2, e3⟩ := h1.lst
      refine ⟨p, parts_V r ep, .inl ⟨a, ws, e1, .inl e2, fun q' hq => ?_⟩⟩
      exact q2 _ _ q' _ (Ext.new hq) hq upd_same (own_lst upd_same ((e3.cut _ _).mono (Kp.new fk hq)))
    · rename_i hd; cases hd
      obtain ⟨p, ep, e⟩ := Option.map_eq_some_iff.mp e
      subst e
      obtain ⟨a, ws, e1, e2, e3⟩ := h1.tup
      refine ⟨p, parts_V r ep, .inr ⟨a, ws, e1, SqT.of e2, fun w => ?_, fun _ q' hq => ?_⟩⟩
      · refine q _ H (Ext.refl H) ?_
        have ew : ∀ {α : Type} (ys : List α), ys.length = ws.length → cutL ys p.1 p.2 = ys := fun ys hl => by
          unfold cutL
          rw [hl, w.1, w.2, List.drop_zero, Nat.sub_zero, ← hl, List.take_length]
        rw [ew _ e3.length.symm]
        exact .tup e2 e3
      · exact q _ _ (Ext.new hq) (.tup upd_same ((e3.cut _ _).mono (Kp.new fk hq)))
    · cases e
/-- a written dict of texts -/
theorem mergeK_nd : ∀ (more acc : List (Key × V)), ((acc ++ more).map (·.1)).Nodup → mergeK acc more = acc ++ more
  | [], acc, _ => by simp [mergeK]
  | p :: more, acc, nd => by
    show mergeK (putK acc p.1 p.2) more = _
    have hn : (acc.any fun kv => decide (kv.1 = p.1)) = false := by
      rw [List.map_append, List.nodup_append] at nd
      rw [List.any_eq_false]
      intro kv hkv
      rw [decide_eq_true_eq]
      exact nd.2.2 _ (List.mem_map_of_mem (f := (·.1)) hkv) _ (by simp)
    have e1 : putK acc p.1 p.2 = acc ++ [(p.1, p.2)] := by unfold putK; rw [hn, if_neg (by simp)]
    have e : acc ++ p :: more = (acc ++ [(p.1, p.2)]) ++ more := by simp
    rw [e1]
    rw [e] at nd ⊢
    exact mergeK_nd more _ nd
def kvV (kvs : List (List Nat × List Nat)) : List (Key × V) := kvs.map fun p => (.inr (sOf p.1), .str (sOf p.2))
theorem repK_cd {F : Fz} : ∀ {kvs : List (List Nat × List Nat)}, (∀ p ∈ kvs, p.1.length ≤ LIM ∧ p.2.length ≤ LIM) → RepK c.cl F H (kvV kvs) (kvs.map fun p => (.inr p.1, .str p.2))
  | [], _ => .nil
  | p :: kvs, h => by
    obtain ⟨h1, h2⟩ := h p List.mem_cons_self
    rw [← lim_eq] at h1 h2
    exact .cons (k := .inr p.1) h1 (.str p.2 h2) (repK_cd fun q hq => h q (List.mem_cons_of_mem _ hq))
theorem kvV_nd {kvs : List (List Nat × List Nat)} (h : (kvs.map (·.1)).Nodup) : ((kvV kvs).map (·.1)).Nodup := by
  unfold kvV
  rw [List.map_map]
  refine List.pairwise_map.mpr ((List.pairwise_map.mp h).imp fun z e => z ?_)
  have e : sOf _ = sOf _ := Sum.inr.inj e
  exact kk_inj (a := .inr _) (b := .inr _) (congrArg Sum.inr e) |> Sum.inr.inj
theorem opr_cdct {kvs : List (List Nat × List Nat)} (h : OpP c true (dCd kvs) [] H Q) : cdOk kvs = true ∧ ∀ p, H p = none → Q (.ref p) (upd H p (.dK (mergeK [] (kvV kvs)))) := by
  obtain ⟨F, ds, d, fk, r, e, q⟩ := h
  cases r
  have e : (if cdOk kvs = true then some (D.dct (kvs.map fun p => (.inr p.1, .str p.2))) else none) = some d := e
  by_cases ok : cdOk kvs = true
  · rw [if_pos ok] at e
    obtain rfl := Option.some.inj e
    refine ⟨ok, fun p hp => ?_⟩
    unfold cdOk at ok
    simp only [Bool.and_eq_true, decide_eq_true_eq, List.all_eq_true] at ok
    obtain ⟨_, _, h3, h4⟩ := ok
    rw [mergeK_nd _ _ (by rw [List.nil_append]; exact kvV_nd h3), List.nil_append]
    exact q _ _ (Ext.new hp) ⟨p, hp, own_dct upd_same (repK_cd h4)⟩
  · rw [if_neg ok] at e; cases e
theorem opr_revL (h : OpP c true dRevL [x] H Q) : ∃ a xs, x = .ref a ∧ SqL X.K H a xs ∧ ∀ p, H p = none → Q (.ref p) (upd H p (.lst xs.reverse)) := by
  obtain ⟨F, ds, d, fk, r, e, q⟩ := h
  obtain ⟨a, A, rfl, ra⟩ := r.one
  unfold dRevL at e
  split at e <;> cases e
  rename_i h; cases h
  obtain ⟨p, vs, e1, e2, e3⟩ := ra.lst
  exact ⟨p, vs, e1, .inl e2, fun q' hq => q _ _ (Ext.new hq) ⟨q', hq, own_lst upd_same (e3.rev.mono (Kp.new fk hq))⟩⟩
/-! ### displays -/
theorem R1L.length {F : Fz} {vs : List V} {ds : List D} (r : R1L c F H vs ds) : vs.length = ds.length := by
  induction ds generalizing vs with
  | nil => cases r; rfl
  | cons d ds ih => cases r with | cons h r => simp [ih r]
end
/-- what is there ahead of an operation that keeps its operands -/
def OpK (c : Cn) (fr : Bool) (f : List D → Option D) (vs : List V) (H1 : Hp) (Q : VK) : Prop :=
  ∃ F ds d, Fok F H1 ∧ RepL c.cl F H1 vs ds ∧ f ds = some d ∧ ∀ v H2, Ext H1 H2 → RsO fr c F H1 H2 v d → Q v H2
section
variable {c : Cn} {X : Cx} {H : Hp} {Q : VK} {x y : V} {vs : List V}
theorem opr_tup (h : OpK c false dTup vs H Q) : vs.length ≤ sizeLine ∧ ∀ p, H p = none → Q (.ref p) (upd H p (.tup vs)) := by
  obtain ⟨F, ds, d, fk, r, e, q⟩ := h
  unfold dTup at e
  split at e <;> cases e
  rename_i hl
  exact ⟨by rw [r.length, lim_eq]; exact hl, fun p hp => q _ _ (Ext.new hp) (.tup upd_same (r.mono (Kp.new fk hp)))⟩
theorem opr_lst (h : OpK c true dLst vs H Q) : vs.length ≤ sizeLine ∧ ∀ p, H p = none → Q (.ref p) (upd H p (.lst vs)) := by
  obtain ⟨F, ds, d, fk, r, e, q⟩ := h
  unfold dLst at e
  split at e <;> cases e
  rename_i hl
  exact ⟨by rw [r.length, lim_eq]; exact hl, fun p hp => q _ _ (Ext.new hp) ⟨p, hp, own_lst upd_same (r.mono (Kp.new fk hp))⟩⟩
theorem opr_dct0 (h : OpK c true dDct0 [] H Q) : ∀ p, H p = none → Q (.ref p) (upd H p (.dK [])) := by
  obtain ⟨F, ds, d, fk, r, e, q⟩ := h
  cases r
  cases e
  exact fun p hp => q _ _ (Ext.new hp) ⟨p, hp, own_dct upd_same .nil⟩

/-! ### calls of built-ins -/
theorem opr_len (h : OpP c false dLen [x] H Q) : (∃ p ys, x = .ref p ∧ (SqL X.K H p ys ∨ SqT X.K H p ys) ∧ Q (.int ys.length) H) ∨ (∃ z, x = .str z ∧ z.length ≤ sizeLine ∧ Q (.int z.length) H) ∨
    ∃ a ks, x = .ref a ∧ Rd H a (.dK ks) ∧ Q (.int ks.length) H := by
  obtain ⟨F, ds, d, fk, r, e, q⟩ := h
  obtain ⟨a, A, rfl, ra⟩ := r.one
  unfold dLen at e
  split at e <;> cases e
  · rename_i h; cases h
    obtain ⟨p, vs, e1, e2, e3⟩ := ra.lst
    refine .inl ⟨p, vs, e1, .inl (.inl e2), ?_⟩
    rw [e3.length]; exact q _ H (Ext.refl H) (.int _)
  · rename_i h; cases h
    obtain ⟨p, vs, e1, e2, e3⟩ := ra.tup
    refine .inl ⟨p, vs, e1, .inr (SqT.of e2), ?_⟩
    rw [e3.length]; exact q _ H (Ext.refl H) (.int _)
  · rename_i h; cases h
    refine .inr (.inl ⟨_, ra.str.1, by rw [str_len]; exact ra.str.2, ?_⟩)
    rw [str_len]; exact q _ H (Ext.refl H) (.int _)
  · rename_i h; cases h
    obtain ⟨p, vs, e1, e2, e3⟩ := ra.dct
    refine .inr (.inr ⟨p, vs, e1, e2, ?_⟩)
    rw [e3.length]; exact q _ H (Ext.refl H) (.int _)
theorem bls_V {F : Fz} : ∀ {vs : List V} {ds : List D} {bs : List Bool}, RepL c.cl F H vs ds → bls ds = some bs → vs = bs.map V.bl
  | _, _, _, .nil, e => by cases e; rfl
  | _, _, _, .cons h r, e => by
    unfold bls at e
    split at e
    · rename_i z; cases z
    · rename_i z; cases z
      obtain ⟨b, e1, e2⟩ := Option.map_eq_some_iff.mp e
      subst e2
      rw [(R1.of h).bl, bls_V r e1]
      rfl
    · cases e
theorem opr_all (h : OpP c false dAll [x] H Q) : rAll X.K [x] H Q := by
  obtain ⟨F, ds, d, fk, r, e, q⟩ := h
  obtain ⟨a, A, rfl, ra⟩ := r.one
  unfold dAll at e
  split at e
  · rename_i h; cases h
    obtain ⟨b, e1, e2⟩ := Option.map_eq_some_iff.mp e
    subst e2
    obtain ⟨p, vs, f1, f2, f3⟩ := ra.lst
    exact ⟨p, b, by rw [f1], by rw [← bls_V f3 e1]; exact .inl f2, q _ H (Ext.refl H) (.bl _)⟩
  · cases e
theorem opr_any (h : OpP c false dAny [x] H Q) : rAny X.K [x] H Q := by
  obtain ⟨F, ds, d, fk, r, e, q⟩ := h
  obtain ⟨a, A, rfl, ra⟩ := r.one
  unfold dAny at e
  split at e
  · rename_i h; cases h
    obtain ⟨b, e1, e2⟩ := Option.map_eq_some_iff.mp e
    subst e2
    obtain ⟨p, vs, f1, f2, f3⟩ := ra.lst
    exact ⟨p, b, by rw [f1], by rw [← bls_V f3 e1]; exact .inl f2, q _ H (Ext.refl H) (.bl _)⟩
  · cases e
theorem opr_int (h : OpP c false dInt [x] H Q) : (∃ i, [x] = [.int i] ∧ Q (.int i) H) ∨ ∃ k, [x] = [.bl k] ∧ Q (.int (if k then 1 else 0)) H := by
  obtain ⟨F, ds, d, fk, r, e, q⟩ := h
  obtain ⟨a, A, rfl, ra⟩ := r.one
  unfold dInt at e
  split at e <;> cases e
  · rename_i h; cases h
    exact .inl ⟨_, by rw [ra.int], q _ H (Ext.refl H) (.int _)⟩
  · rename_i h; cases h
    exact .inr ⟨_, by rw [ra.bl], q _ H (Ext.refl H) (.int _)⟩
theorem opr_listL (h : OpP c true dListL [x] H Q) : ∃ p ys, [x] = [.ref p] ∧ (SqL X.K H p ys ∨ SqT X.K H p ys) ∧ ∀ l, H l = none → Q (.ref l) (upd H l (.lst ys)) := by
  obtain ⟨F, ds, d, fk, r, e, q⟩ := h
  obtain ⟨a, A, rfl, ra⟩ := r.one
  unfold dListL at e
  split at e <;> cases e
  · rename_i h; cases h
    obtain ⟨p, vs, f1, f2, f3⟩ := ra.lst
    exact ⟨p, vs, by rw [f1], .inl (.inl f2), fun l hl => q _ _ (Ext.new hl) ⟨l, hl, own_lst upd_same (f3.mono (Kp.new fk hl))⟩⟩
  · rename_i h; cases h
    obtain ⟨p, vs, f1, f2, f3⟩ := ra.tup
    exact ⟨p, vs, by rw [f1], .inr (SqT.of f2), fun l hl => q _ _ (Ext.new hl) ⟨l, hl, own_lst upd_same (f3.mono (Kp.new fk hl))⟩⟩
theorem opr_tupL (h : OpP c false dTupL [x] H Q) : ∃ p ys, [x] = [.ref p] ∧ ((SqL X.K H p ys ∧ ∀ l, H l = none → Q (.ref l) (upd H l (.tup ys))) ∨ (SqT X.K H p ys ∧ Q (.ref p) H)) := by
  obtain ⟨F, ds, d, fk, r, e, q⟩ := h
  obtain ⟨a, A, rfl, ra⟩ := r.one
  unfold dTupL at e
  split at e <;> cases e
  · rename_i h; cases h
    obtain ⟨p, vs, f1, f2, f3⟩ := ra.lst
    exact ⟨p, vs, by rw [f1], .inl ⟨.inl f2, fun l hl => q _ _ (Ext.new hl) (.tup upd_same (f3.mono (Kp.new fk hl)))⟩⟩
  · rename_i h; cases h
    obtain ⟨p, vs, f1, f2, f3⟩ := ra.tup
    exact ⟨p, vs, by rw [f1], .inr ⟨SqT.of f2, q _ _ (Ext.refl H) (.tup f2 f3)⟩⟩
theorem strs_V {F : Fz} : ∀ {vs : List V} {ds : List D} {bs : List (List Nat)}, RepL c.cl F H vs ds → strsOf ds = some bs → vs = (bs.map sOf).map V.str
  | _, _, _, .nil, e => by cases e; rfl
  | _, _, _, .cons h r, e => by
    unfold strsOf at e
    split at e
    · rename_i z; cases z
    · rename_i z; cases z
      obtain ⟨b, e1, e2⟩ := Option.map_eq_some_iff.mp e
      subst e2
      rw [(R1.of h).str.1, strs_V r e1]
      rfl
    · cases e
theorem join_L (a : List Nat) (zs : List (List Nat)) : Txt.join (sOf a) (zs.map sOf) = sOf (TL.joinL a zs) := by
  rw [TL.join_eq]
  have e : TL.tl (Str.join (sOf a) (zs.map sOf)) = TL.joinL a zs := by
    rw [TL.tl_join, List.map_map]
    have : (TL.tl ∘ sOf) = id := by funext s; simp [TL.tl, sOf]
    rw [this, List.map_id]
  rw [← e]
theorem joinL_len (a : List Nat) : ∀ zs : List (List Nat), (TL.joinL a zs).length ≤ (zs.map List.length).sum + zs.length * a.length
  | [] => by simp [TL.joinL]
  | [p] => by simp [TL.joinL]
  | p :: q :: r => by
    have ih := joinL_len a (q :: r)
    show (p ++ (a ++ TL.joinL a (q :: r))).length ≤ _
    rw [List.length_append, List.length_append]
    simp only [List.map_cons, List.sum_cons, List.length_cons, Nat.succ_mul] at ih ⊢
    omega
theorem opr_join (h : OpP c false dJoin [x, y] H Q) : ∃ a p, ∃ ys : List Str, x = .str a ∧ [y] = [.ref p] ∧ (SqL X.K H p (ys.map V.str) ∨ SqT X.K H p (ys.map V.str)) ∧
    (ys.map (·.length)).sum + ys.length * a.length ≤ 16777216 ∧ Q (.str (Txt.join a ys)) H := by
  obtain ⟨F, ds, d, fk, r, e, q⟩ := h
  obtain ⟨a, b, A, B, rfl, ra, rb⟩ := r.two
  unfold dJoin at e
  split at e
  · rename_i h; cases h
    obtain ⟨zs, e1, e2⟩ := Option.bind_eq_some_iff.mp e
    split at e2 <;> cases e2
    rename_i hl
    obtain ⟨p, vs, f1, f2, f3⟩ := rb.lst
    have hm : ((zs.map sOf).map (·.length)) = zs.map List.length := by
      rw [List.map_map]
      exact List.map_congr_left fun s _ => str_len s
    refine ⟨_, p, zs.map sOf, ra.str.1, by rw [f1], .inl (by rw [← strs_V f3 e1]; exact .inl f2), by rw [hm, List.length_map, str_len]; exact hl, ?_⟩
    rw [join_L]
    exact q _ H (Ext.refl H) (.str _ (by rw [lim_eq]; exact Nat.le_trans (joinL_len _ _) hl))
  · cases e
end
end Nc

set_option Elab.async false
set_option linter.all false
set_option autoImplicit false
set_option maxRecDepth 100000
set_option maxHeartbeats 4000000
/-! The small language, its evaluator, its check against the text. -/
namespace Nc
open PySem PySem.Spec PyProof.Rows L2

/-- a step from a thing to what lies within: an attribute; an item, by slot j's value -/
inductive Pe where
  | at (f : Str) | ix (j : Nat)
  deriving DecidableEq
/-- what changes a thing: append, pop(), pop(i), insert, pop(k, d) of a dict, setdefault -/
inductive Mu where
  | app | pop | popA | ins | dpop | sdf
  deriving DecidableEq
/-- what isinstance asks for -/
inductive Ik where
  | int | bl | str | lst | tup | dct | cls (k : Str)
  deriving DecidableEq
/-- built-in operations by their text: comparisons; methods; calls; displays -/
inductive Bi where
  | eq | ne | ltS | ltL | inE | niE
  | cnt | ixS | ixL | get1 | get2 | repl | spl | joi
  | dctC | listS | listD | listR | lnset | sortS | sortP | min2 | max2 | max3 | maxP | sumI | strI | intS | fst
  | revS | dsp | mrg | mrgK
  deriving DecidableEq
/-- what is called: a def or class by name, a method of a class, a property, len, in, not in, ==, !=, +, [] of an instance, isinstance, a built-in operation; mt: a method, whatever the class -/
inductive Kf where
  | fn (f : Str) | cm (k m : Str) | mt (m : Str) | pr (m : Str) | ln (k : Str) | ct (k : Str) | nct (k : Str) | eq (k : Str) | ne | deq | dne | dfl (f : Str) (n : Nat) | ad (k : Str) | gi (k : Str) | isi (t : Ik) | bi (b : Bi)
  | srtK (f : Str) | minK (f : Str) | tab (x : Str) | knd (f : Str) (ks : List Str)
  deriving DecidableEq
inductive Ex where
  | nil | cons (e es : Ex)
  | any                 -- never come to
  | non | bl (b : Bool) | int (i : Int) | str (s : Str)
  | v (i : Nat) (p : List Pe)  -- a frozen thing in a slot (p: the last step first)
  | b (i : Nat)          -- a slot, borrowed
  | bp (i : Nat) (p : List Pe) -- a thing in a slot, borrowed, used at once
  | m (i : Nat)          -- an owned slot, moved out
  | f (i : Nat)          -- an owned slot, frozen from here on
  | g (x : Str)          -- a constant of the module
  | op (o : Op) (es : Ex)
  | and (a b : Ex) | or (a b : Ex) | not (a : Ex)
  | chn (o1 o2 : Op) (a b c : Ex)
  | ife (c a b : Ex)
  | fz (e : Ex)          -- what was made is frozen
  | at (f : Str) (e : Ex)      -- an attribute of a frozen instance
  | cal (f : Kf) (es : Ex)
  | met (m : Str) (o es : Ex)
  | bm (b : Bi) (o es : Ex)   -- a method of a built-in type
  | mu (u : Mu) (i : Nat) (p : List Pe) (es : Ex)
  | rng (es : Ex) | enm (e : Ex) | zip (es : Ex) -- only where a walk goes over it
  | lc (e : Ex) (t : List Nat) (it : Ex) (c : Ex) (own : List (Str × Nat))
  | dc (k e : Ex) (t : List Nat) (it : Ex) (c : Ex) (own : List (Str × Nat))
  | dsp (k : Str) (e : Ex)   -- a dict of one written key
  deriving Inhabited

/-- what comes out -/
inductive R (α : Type) where
  | no
  | ok (a : α) (δ : Env)
  | ex (k : Str) (ds : List D) (δ : Env)
def R.bnd {α β : Type} (r : R α) (f : α → Env → R β) : R β := match r with
  | .no => .no
  | .ok a δ => f a δ
  | .ex k ds δ => .ex k ds δ
/-- parameters: frozen, borrowed, changed -/
inductive Pm where
  | fz | bo | io (m : Mk)
  deriving DecidableEq
inductive Out where
  | val (d : D) (ios : List D)
  | exc (k : Str) (ds : List D) (ios : List D)
/-- a def: parameters, how the result is held -/
structure Sig where
  ps : List Pm
  res : Mk
  deriving DecidableEq
structure Tb where
  sg : Kf → Option Sig
  fn : Kf → List D → Option Out
  gc : Str → Option D
  fuel : Nat

/-- which operation gives what -/
def opD : Op → List D → Option D
  | .addI => dAddI | .addS => dAddS | .addL => dAddL | .addT => dAddT | .sub => dSub | .mul => dMul | .mulS => dMulS | .mod => dMod | .fdiv => dDiv | .pow => dPow
  | .eq => fun _ => none | .ne => fun _ => none
  | .lt => dCmp fun i j => decide (i < j)
  | .le => dCmp fun i j => decide (i ≤ j)
  | .gt => dCmp fun i j => decide (j < i)
  | .ge => dCmp fun i j => decide (j ≤ i)
  | .isN => dIsN false | .notN => dIsN true
  | .inS => dInS false | .niS => dInS true | .inL => dInL false | .niL => dInL true | .inD => dInD false | .niD => dInD true
  | .ix => dIx | .ixD => dIxD | .slS l h => dSlS l h | .slL l h => dSlL l h | .slT l h => dSlT l h | .slA l h => dSlA l h | .revS => fun _ => none | .revL => dRevL
  | .tup => dTup | .lst => dLst | .dct0 => dDct0 | .cdct kvs => dCd kvs
  | .len => dLen | .all => dAll | .any => dAny | .int => dInt | .listL => dListL | .tupL => dTupL | .sortS => fun _ => none
/-- is what it gives fresh -/
def opF : Op → Bool
  | .addL => true | .slL _ _ => true | .revL => true | .lst => true | .dct0 => true | .cdct _ => true | .listL => true | .sortS => true
  | _ => false
/-- does it keep its operands -/
def opK : Op → Bool
  | .tup => true | .lst => true
  | _ => false
/-! ### things within things -/
def accD (δ : Env) : Pe → D → Option D
  | .at f, .ins _ fs => fs.lookup f
  | .ix j, .lst ds => match δ[j]? with
    | some (some (.int k)) => atI ds k
    | _ => none
  | .ix j, .dct kvs => match δ[j]? with
    | some (some k) => (dKey k).bind (dGet kvs)
    | _ => none
  | _, _ => none
def getP (δ : Env) : List Pe → D → Option D
  | [], d => some d
  | a :: p, d => (getP δ p d).bind (accD δ a)
def setF (f : Str) (x : D) : List (Str × D) → List (Str × D)
  | [] => [(f, x)]
  | (g, y) :: r => if f = g then (g, x) :: r else (g, y) :: setF f x r
def setK (k : Kd) (x : D) : List (Kd × D) → List (Kd × D)
  | [] => [(k, x)]
  | (g, y) :: r => if g = k then (g, x) :: r else (g, y) :: setK k x r
def accS (δ : Env) (x : D) : Pe → D → D
  | .at f, .ins k fs => .ins k (setF f x fs)
  | .ix j, .lst ds => match δ[j]? with
    | some (some (.int k)) => match ixN ds.length k with
      | some j => .lst (ds.set j x)
      | none => .lst ds
    | _ => .lst ds
  | .ix j, .dct kvs => match δ[j]? with
    | some (some k) => match dKey k with
      | some k => .dct (setK k x kvs)
      | none => .dct kvs
    | _ => .dct kvs
  | _, d => d
def setP (δ : Env) : List Pe → D → D → D
  | [], _, x => x
  | a :: p, d, x => match getP δ p d with
    | some d1 => setP δ p d (accS δ x a d1)
    | none => d
/-- what a change gives: the thing changed, the result -/
def mApp : List D → List D → Option (D × D)
  | xs, [x] => if xs.length < LIM then some (.lst (xs ++ [x]), .non) else none
  | _, _ => none
def mPop : List D → List D → Option (D × D)
  | xs, [] => (xs[xs.length - 1]?).map fun x => (.lst xs.dropLast, x)
  | _, _ => none
def mPopA : List D → List D → Option (D × D)
  | xs, [.int i] => if xs.length > LIM then none else (ixN xs.length i).bind fun k => (xs[k]?).map fun x => (.lst (xs.eraseIdx k), x)
  | _, _ => none
def mIns : List D → List D → Option (D × D)
  | xs, [.int i, x] => if xs.length < LIM ∧ 0 ≤ i ∧ i ≤ xs.length then some (.lst (xs.take i.toNat ++ [x] ++ xs.drop i.toNat), .non) else none
  | _, _ => none
def mDpop : List (Kd × D) → List D → Option (D × D)
  | kvs, [k, x] => (dKey k).map fun k => (.dct (kvs.filter fun kv => decide (kv.1 ≠ k)), (dGet kvs k).getD x)
  | _, _ => none
def mSdf : List (Kd × D) → List D → Option (D × D)
  | kvs, [k, x] => if kvs.length < LIM then (dKey k).map fun k => match dGet kvs k with
    | some y => (.dct kvs, y)
    | none => (.dct (kvs ++ [(k, x)]), x)
    else none
  | _, _ => none
def onL (f : List D → List D → Option (D × D)) : D → List D → Option (D × D)
  | .lst xs, ds => f xs ds
  | _, _ => none
def onK (f : List (Kd × D) → List D → Option (D × D)) : D → List D → Option (D × D)
  | .dct xs, ds => f xs ds
  | _, _ => none
def muD : Mu → D → List D → Option (D × D)
  | .app => onL mApp | .pop => onL mPop | .popA => onL mPopA | .ins => onL mIns | .dpop => onK mDpop | .sdf => onK mSdf
/-- a borrowed operand as it is when all are there -/
def rsv : Ex → D → Env → D
  | .b i, d, δ => ((δ[i]?).getD none).getD d
  | _, d, _ => d
def trD : D → Option Bool
  | .non => some false
  | .bl b => some b
  | .int i => some (i != 0)
  | .str s => some (!s.isEmpty)
  | .lst s => some (!s.isEmpty)
  | .tup s => some (!s.isEmpty)
  | _ => none
/-- what a walk goes over -/
def items : D → Option (List D)
  | .lst ds => some ds
  | .tup ds => some ds
  | .str s => some (s.map fun a => .str [a])
  | .dct kvs => some (kvs.map fun kv => kD kv.1)
  | _ => none
def setS : List Nat → List D → Env → Option Env
  | [], [], δ => some δ
  | i :: t, d :: ds, δ => setS t ds (δ.set i (some d))
  | _, _, _ => none
/-- targets: one slot, or the slots of a tuple's items -/
def bindT (t : List Nat) (d : D) (δ : Env) : Option Env := match t with
  | [i] => some (δ.set i (some d))
  | _ => match d with
    | .tup ds => setS t ds δ
    | _ => none
/-- a range's items -/
def rngD : List D → Option (List D)
  | [.int n] => if -LIM ≤ n ∧ n ≤ LIM then some ((List.range n.toNat).map fun (k : Nat) => .int k) else none
  | [.int a, .int b] => if -LIM ≤ a ∧ a ≤ LIM ∧ -LIM ≤ b ∧ b ≤ LIM then some ((List.range (b - a).toNat).map fun (k : Nat) => .int (a + k)) else none
  | _ => none
def enmL : Nat → List D → List D
  | _, [] => []
  | k, d :: ds => .tup [.int k, d] :: enmL (k + 1) ds
def zipL : List D → List D → List D
  | a :: as, b :: bs => .tup [a, b] :: zipL as bs
  | _, _ => []
/-- the slots that were changed by the way are put back -/
def back (own : List (Str × Nat)) (δ δ' : Env) : Env := own.foldl (fun acc p => acc.set p.2 ((δ[p.2]?).getD none)) δ'
def wip (own : List (Str × Nat)) (δ : Env) : Env := own.foldl (fun acc p => acc.set p.2 none) δ
def lcGo {α : Type} (f : D → Env → R (Option α)) : List D → List α → Env → R (List α)
  | [], acc, δ => .ok acc.reverse δ
  | d :: ds, acc, δ => match f d δ with
    | .no => .no
    | .ex _ _ _ => .no
    | .ok none δ' => lcGo f ds acc δ'
    | .ok (some x) δ' => if acc.length < LIM then lcGo f ds (x :: acc) δ' else .no
/-- what a call changed is put into the slots -/
def putIo : List Pm → Ex → List D → Env → Env
  | .io _ :: ps, .cons (.b i) es, d :: ds, δ => putIo ps es ds (δ.set i (some d))
  | .io _ :: ps, .cons _ es, _ :: ds, δ => putIo ps es ds δ
  | _ :: ps, .cons _ es, ds, δ => putIo ps es ds δ
  | _, _, _, δ => δ
def enmV (e : Env → R D) : Env → R (List D) := fun δ => (e δ).bnd fun d δ1 => match d with
  | .lst ds => .ok (enmL 0 ds) δ1
  | .tup ds => .ok (enmL 0 ds) δ1
  | .str z => .ok (enmL 0 (z.map fun a => .str [a])) δ1
  | _ => .no
def zipD : List D → Option (List D)
  | [.lst as, .lst bs] => some (zipL as bs)
  | _ => none
def zipV (s : Env → R (List D)) : Env → R (List D) := fun δ => (s δ).bnd fun ds δ1 => match zipD ds with
  | some r => .ok r δ1
  | none => .no
/-- an expression as a value, as a test, as a list of operands, as what a walk goes over -/
structure E3 where
  e : Env → R D
  t : Env → R Bool
  s : Env → R (List D)
  i : Env → R (List D)
def tru (x : Ex) (e : Env → R D) : Env → R Bool := fun δ => (e δ).bnd fun d δ' => match trD (rsv x d δ') with
  | some z => .ok z δ'
  | none => .no
/-- the kinds of calls that a comparison is -/
def isCK : Kf → Bool
  | .ct _ => true | .nct _ => true | .eq _ => true | .ne => true | .deq => true | .dne => true
  | .bi .eq => true | .bi .ne => true | .bi .ltS => true | .bi .ltL => true | .bi .inE => true | .bi .niE => true
  | _ => false
def truB (e : Env → R D) : Env → R Bool := fun δ => (e δ).bnd fun d δ' => match d with
  | .bl z => .ok z δ'
  | _ => .no
def noS : Env → R (List D) := fun _ => .no
def slot (i : Nat) : Env → R D := fun δ => match δ[i]? with
  | some (some d) => .ok d δ
  | _ => .no
def ofO (d : Option D) : Env → R D := fun δ => match d with
  | some d => .ok d δ
  | none => .no
def callO (T : Tb) (f : Kf) (es : Ex) (ds : List D) (δ : Env) : R D := match T.sg f, T.fn f ds with
  | some s, some (.val d ios) => .ok d (putIo s.ps es ios δ)
  | some s, some (.exc k xs ios) => .ex k xs (putIo s.ps es ios δ)
  | _, _ => .no
def callR (T : Tb) (f : Kf) (es : Ex) (a : Env → R (List D)) : Env → R D := fun δ => (a δ).bnd fun ds δ' => callO T f es ds δ'
def metV (T : Tb) (m : Str) (o es : Ex) (e : Env → R D) (a : Env → R (List D)) : Env → R D := fun δ => match e δ with
  | .ok (.ins k fs) δ1 => match fs.lookup m with
    | none => if T.sg (.cm k m) = T.sg (.mt m) then (a δ1).bnd fun ds δ2 => callO T (.cm k m) (.cons o es) (rsv o (.ins k fs) δ2 :: ds) δ2 else .no
    | some _ => .no
  | _ => .no
/-- what a method is asked of -/
def bmT : Bi → D → Bool
  | .cnt, .str _ => true
  | .ixS, .str _ => true
  | .repl, .str _ => true
  | .spl, .str _ => true
  | .joi, .str _ => true
  | .ixL, .lst _ => true
  | .get1, .dct _ => true
  | .get2, .dct _ => true
  | _, _ => false
def bmV (T : Tb) (b : Bi) (o es : Ex) (e : Env → R D) (a : Env → R (List D)) : Env → R D := fun δ => (e δ).bnd fun d δ1 => if bmT b (rsv o d δ1) = true then (a δ1).bnd fun ds δ2 => callO T (.bi b) (.cons o es) (rsv o d δ2 :: ds) δ2 else .no
def andV (a b : Env → R D) : Env → R D := fun δ => (a δ).bnd fun d δ' => match d with
  | .bl true => (b δ').bnd fun e δ2 => match e with
    | .bl z => .ok (.bl z) δ2
    | _ => .no
  | .bl false => .ok (.bl false) δ'
  | _ => .no
def orV (a b : Env → R D) : Env → R D := fun δ => (a δ).bnd fun d δ' => match d with
  | .bl false => (b δ').bnd fun e δ2 => match e with
    | .bl z => .ok (.bl z) δ2
    | _ => .no
  | .bl true => .ok (.bl true) δ'
  | _ => .no
def notV (a : Env → R D) : Env → R D := fun δ => (a δ).bnd fun d δ' => match d with
  | .bl z => .ok (.bl (!z)) δ'
  | _ => .no
def andT (a b : Env → R Bool) : Env → R Bool := fun δ => (a δ).bnd fun z δ' => if z = true then b δ' else .ok false δ'
def orT (a b : Env → R Bool) : Env → R Bool := fun δ => (a δ).bnd fun z δ' => if z = true then .ok true δ' else b δ'
def notT (a : Env → R Bool) : Env → R Bool := fun δ => (a δ).bnd fun z δ' => .ok (!z) δ'
def chnV (o1 o2 : Op) (a b c : Env → R D) : Env → R D := fun δ => (a δ).bnd fun x δ1 => (b δ1).bnd fun y δ2 => match opD o1 [x, y] with
  | some (.bl true) => (c δ2).bnd fun z δ3 => match opD o2 [y, z] with
    | some d => .ok d δ3
    | none => .no
  | some (.bl false) => .ok (.bl false) δ2
  | _ => .no
def ifeV (c : Env → R Bool) (a b : Env → R D) : Env → R D := fun δ => (c δ).bnd fun z δ' => if z = true then a δ' else b δ'
def consS (x : Ex) (a : Env → R D) (b : Env → R (List D)) : Env → R (List D) := fun δ => (a δ).bnd fun d δ1 => (b δ1).bnd fun ds δ2 => .ok (rsv x d δ2 :: ds) δ2
def opV (o : Op) (a : Env → R (List D)) : Env → R D := fun δ => (a δ).bnd fun ds δ' => match opD o ds with
  | some d => .ok d δ'
  | none => .no
def lcF {α : Type} (t : List Nat) (hasC : Bool) (c : Env → R Bool) (e : Env → R α) : D → Env → R (Option α) := fun x δ2 => match bindT t x δ2 with
  | none => .no
  | some δ3 => match hasC with
    | false => (e δ3).bnd fun y δ4 => .ok (some y) δ4
    | true => (c δ3).bnd fun z δ4 => if z = true then (e δ4).bnd fun y δ5 => .ok (some y) δ5 else .ok none δ4
def lcV (t : List Nat) (own : List (Str × Nat)) (hasC : Bool) (it : Env → R (List D)) (c : Env → R Bool) (e : Env → R D) : Env → R D := fun δ => (it δ).bnd fun ds δ1 =>
  (lcGo (lcF t hasC c e) ds [] (wip own δ1)).bnd fun ys δ' => .ok (.lst ys) (back own δ1 δ')
/-- d[k] = x -/
def putD (kvs : List (Kd × D)) (k : Kd) (x : D) : List (Kd × D) := if (kvs.any fun kv => decide (kv.1 = k)) = true then kvs.map (fun kv => if kv.1 = k then (kv.1, x) else kv) else kvs ++ [(k, x)]
/-- a dict of pairs, put in one after the other -/
def dOf : List (D × D) → List (Kd × D) → Option (List (Kd × D))
  | [], acc => some acc
  | (k, x) :: r, acc => match dKey k with
    | some k => dOf r (putD acc k x)
    | none => none
def dcV (t : List Nat) (own : List (Str × Nat)) (hasC : Bool) (it : Env → R (List D)) (c : Env → R Bool) (k e : Env → R D) : Env → R D := fun δ => (it δ).bnd fun ds δ1 =>
  (lcGo (lcF t hasC c fun δ2 => (k δ2).bnd fun x δ3 => (e δ3).bnd fun y δ4 => .ok (x, y) δ4) ds [] (wip own δ1)).bnd fun ys δ' => match dOf ys [] with
    | some kvs => .ok (.dct kvs) (back own δ1 δ')
    | none => .no
def atV (f : Str) (e : Env → R D) : Env → R D := fun δ => (e δ).bnd fun d δ1 => match d with
  | .ins _ fs => match fs.lookup f with
    | some x => .ok x δ1
    | none => .no
  | _ => .no
def slotP (i : Nat) (p : List Pe) : Env → R D := fun δ => match δ[i]? with
  | some (some d) => match getP δ p d with
    | some x => .ok x δ
    | none => .no
  | _ => .no
def muT : Mu → D → Bool
  | .dpop, .dct _ => true
  | .sdf, .dct _ => true
  | .app, .lst _ => true
  | .pop, .lst _ => true
  | .popA, .lst _ => true
  | .ins, .lst _ => true
  | _, _ => false
def muV (u : Mu) (i : Nat) (p : List Pe) (es : Env → R (List D)) : Env → R D := fun δ => match δ[i]? with
  | some (some d0) => match getP δ p d0 with
    | some x => if muT u x = true then (es δ).bnd fun ds δ1 => match muD u x ds with
        | some (y, r) => .ok r (δ1.set i (some (setP δ p d0 y)))
        | none => .no
      else .no
    | none => .no
  | _ => .no
/-- what a walk goes over -/
def isB : Ex → Bool
  | .b _ => true
  | _ => false
/-- .. of a borrowed thing: no dict -/
def itemsB (b : Bool) (d : D) : Option (List D) := match b, d with
  | true, .dct _ => none
  | _, d => items d
def itV (x : Ex) (e : Env → R D) : Env → R (List D) := fun δ => (e δ).bnd fun d δ1 => match itemsB (isB x) (rsv x d δ1) with
  | some ds => .ok ds δ1
  | none => .no
def rngV (s : Env → R (List D)) : Env → R (List D) := fun δ => (s δ).bnd fun ds δ1 => match rngD ds with
  | some ds => .ok ds δ1
  | none => .no
def val1 (x : Ex) (e : Env → R D) : E3 := ⟨e, tru x e, noS, itV x e⟩
def isNil : Ex → Bool
  | .nil => true
  | _ => false
/-- a text as data -/
def strC (s : Str) : Option D := if s.cps.toList.length ≤ LIM then some (.str s.cps.toList) else none
/-- {k: e} -/
def dspV (k : Str) (e : Env → R D) : Env → R D := fun δ => (e δ).bnd fun d δ1 => if k.cps.toList.length ≤ LIM then .ok (.dct [(.inr k.cps.toList, d)]) δ1 else .no
def ev3 (T : Tb) : Ex → E3
  | .any => ⟨fun _ => .no, fun _ => .no, noS, noS⟩
  | .non => val1 .non (ofO (some .non))
  | .bl b => val1 (.bl b) (ofO (some (.bl b)))
  | .int i => val1 (.int i) (ofO (some (.int i)))
  | .str s => val1 (.str s) (ofO (strC s))
  | .v i p => val1 (.v i p) (slotP i p)
  | .b i => val1 (.b i) (slot i)
  | .bp i p => val1 (.bp i p) (slotP i p)
  | .m i => val1 (.m i) (slot i)
  | .f i => val1 (.f i) (slot i)
  | .g x => val1 (.g x) (ofO (T.gc x))
  | .op o es => val1 (.op o es) (opV o (ev3 T es).s)
  | .and a b => ⟨andV (ev3 T a).e (ev3 T b).e, andT (ev3 T a).t (ev3 T b).t, noS, noS⟩
  | .or a b => ⟨orV (ev3 T a).e (ev3 T b).e, orT (ev3 T a).t (ev3 T b).t, noS, noS⟩
  | .not a => ⟨notV (ev3 T a).e, notT (ev3 T a).t, noS, noS⟩
  | .chn o1 o2 a b c => val1 (.chn o1 o2 a b c) (chnV o1 o2 (ev3 T a).e (ev3 T b).e (ev3 T c).e)
  | .ife c a b => val1 (.ife c a b) (ifeV (ev3 T c).t (ev3 T a).e (ev3 T b).e)
  | .fz e => val1 (.fz e) (ev3 T e).e
  | .at f e => val1 (.at f e) (atV f (ev3 T e).e)
  | .cal f es => ⟨callR T f es (ev3 T es).s, if isCK f = true then truB (callR T f es (ev3 T es).s) else tru (.cal f es) (callR T f es (ev3 T es).s), noS, itV (.cal f es) (callR T f es (ev3 T es).s)⟩
  | .met m o es => val1 (.met m o es) (metV T m o es (ev3 T o).e (ev3 T es).s)
  | .bm b o es => val1 (.bm b o es) (bmV T b o es (ev3 T o).e (ev3 T es).s)
  | .mu u i p es => val1 (.mu u i p es) (muV u i p (ev3 T es).s)
  | .rng es => ⟨fun _ => .no, fun _ => .no, noS, rngV (ev3 T es).s⟩
  | .enm e => ⟨fun _ => .no, fun _ => .no, noS, enmV (ev3 T e).e⟩
  | .zip es => ⟨fun _ => .no, fun _ => .no, noS, zipV (ev3 T es).s⟩
  | .lc e t it c own => val1 (.lc e t it c own) (lcV t own (!isNil c) (ev3 T it).i (ev3 T c).t (ev3 T e).e)
  | .dc k e t it c own => val1 (.dc k e t it c own) (dcV t own (!isNil c) (ev3 T it).i (ev3 T c).t (ev3 T k).e (ev3 T e).e)
  | .dsp k e => val1 (.dsp k e) (dspV k (ev3 T e).e)
  | .nil => ⟨fun _ => .no, fun _ => .no, fun δ => .ok [] δ, noS⟩
  | .cons e es => ⟨fun _ => .no, fun _ => .no, consS e (ev3 T e).e (ev3 T es).s, noS⟩
abbrev ev (T : Tb) (x : Ex) : Env → R D := (ev3 T x).e
abbrev evt (T : Tb) (x : Ex) : Env → R Bool := (ev3 T x).t
abbrev evs (T : Tb) (x : Ex) : Env → R (List D) := (ev3 T x).s
abbrev evi (T : Tb) (x : Ex) : Env → R (List D) := (ev3 T x).i
end Nc

set_option Elab.async false
set_option linter.all false
set_option autoImplicit false
set_option maxRecDepth 100000
set_option maxHeartbeats 4000000
/-! The operations' places in the text; lifting. -/
namespace Nc
open PySem PySem.Spec PyProof.Rows L2

/-- the text's names: slots, scope, the defs' forms -/
structure Sx where
  N : List Str
  sc : Scope
  sg : Kf → Option Sig
  ats : List Str
  fn : Str → Bool
  ex : Str → Option (Option Str)  -- the exception classes: without __init__; with one that stores a field
def gl (x : Sx) (n : Str) : Bool := decide (x.sc.names.lookup n = some .globalImplicit)
def bnames : List Str := ["len", "all", "any", "int", "list", "tuple", "range", "sorted", "isinstance", "enumerate", "set", "str", "dict", "max", "min", "sum", "zip", "bool"]
def notSl : Expr → Bool
  | .Slice _ _ _ _ => false
  | _ => true
/-- an attribute's object that is no call of super -/
def abOk : Expr → Bool
  | .Call (.Name _ _) [] [] _ => false
  | _ => true
theorem abOk_eq {o : Expr} (h : abOk o = true) (a : Str) (env : PySem.Env) (w : Sem Value) : attributeBase o a env w = w := by
  unfold attributeBase
  split
  · rename_i z
    cases h
  · rfl
theorem sub_plain {b : Expr} (h : notSl b = true) (o i : Value) : subscripted b false o i = operate [o, i] (getItem o i) := by
  cases b <;> first | rfl | (cases h)
def optL (o : Option Expr) : List Expr := match o with
  | none => []
  | some e => [e]
def binA (p : Operator) : Expr → Option (List Expr)
  | .BinOp a q b _ => if q = p then some [a, b] else none
  | _ => none
def cmpA (p : CmpOp) : Expr → Option (List Expr)
  | .Compare a [q] [b] _ => if q = p ∧ behindInMarks p b = false then some [a, b] else none
  | _ => none
def isA (p : CmpOp) : Expr → Option (List Expr)
  | .Compare a [q] [.Constant .none _ _] _ => if q = p then some [a] else none
  | _ => none
def subA : Expr → Option (List Expr)
  | .Subscript a b _ => if notSl b = true then some [a, b] else none
  | _ => none
def slA (l h : Bool) : Expr → Option (List Expr)
  | .Subscript a (.Slice lo hi none _) _ => if lo.isSome = l ∧ hi.isSome = h then some (a :: (optL lo ++ optL hi)) else none
  | _ => none
def revA : Expr → Option (List Expr)
  | .Subscript a (.Slice none none (some (.UnaryOp .USub (.Constant (.int i) _ _) _)) _) _ => if i = 1 then some [a] else none
  | _ => none
def tupA : Expr → Option (List Expr)
  | .Tuple es _ _ => some es
  | _ => none
def lstA : Expr → Option (List Expr)
  | .List es _ => some es
  | _ => none
def dct0A : Expr → Option (List Expr)
  | .Dict [] [] _ => some []
  | _ => none
/-- a written text -/
def conT : Expr → Option Str
  | .Constant (.str s) _ _ => some s
  | _ => none
def cdA (kvs : List (List Nat × List Nat)) : Expr → Option (List Expr)
  | .Dict ks vs _ => if ks.map (fun k => k.bind conT) = kvs.map (fun p => some (sOf p.1)) ∧ vs.map conT = kvs.map (fun p => some (sOf p.2)) then some [] else none
  | _ => none
/-- n(a), n a built-in -/
def calA (x : Sx) (n : Str) : Expr → Option (List Expr)
  | .Call (.Name m _) [a] [] _ => if m = n ∧ gl x n = true then some [a] else none
  | _ => none
/-- o.n(a), n a method of a built-in type -/
def mtA (n : Str) : Expr → Option (List Expr)
  | .Call (.Attribute o m p) [a] [] q => if m = n ∧ abOk o = true ∧ (p.endLine == q.line) = true then some [o, a] else none
  | _ => none
def opA (x : Sx) : Op → Expr → Option (List Expr)
  | .addI => binA .Add | .addS => binA .Add | .addL => binA .Add | .addT => binA .Add
  | .sub => binA .Sub | .mul => binA .Mult | .mulS => binA .Mult | .mod => binA .Mod | .fdiv => binA .FloorDiv | .pow => binA .Pow
  | .eq => fun _ => none | .ne => fun _ => none
  | .lt => cmpA .Lt | .le => cmpA .LtE | .gt => cmpA .Gt | .ge => cmpA .GtE
  | .isN => isA .Is | .notN => isA .IsNot
  | .inS => cmpA .In | .niS => cmpA .NotIn | .inL => cmpA .In | .niL => cmpA .NotIn | .inD => cmpA .In | .niD => cmpA .NotIn
  | .ix => subA | .ixD => subA
  | .slS l h => slA l h | .slL l h => slA l h | .slT l h => slA l h | .slA l h => slA l h
  | .revS => fun _ => none | .revL => revA
  | .tup => tupA | .lst => lstA | .dct0 => dct0A | .cdct kvs => cdA kvs
  | .len => calA x "len" | .all => calA x "all" | .any => calA x "any" | .int => calA x "int" | .listL => calA x "list" | .tupL => calA x "tuple"
  | .sortS => fun _ => none

/-- a context that the text's names fit -/
structure Gn (X : Cx) (x : Sx) : Prop where
  hN : X.N = x.N
  nd : x.N.Nodup
  hs : X.env.scope = x.sc
  calm : X.calm = true
  un : X.A.units + 200 < cLine
  bl : ∀ n ∈ bnames, X.mg n = none
  fn : ∀ n, x.fn n = true → X.fn n = true
section
variable {X : Cx} {x : Sx}
theorem Gn.gl (g : Gn X x) {n : Str} (h : Nc.gl x n = true) : Gl X n := by
  show X.env.scope.names.lookup n = _
  rw [g.hs]
  exact of_decide_eq_true h
variable {c : Cn} {e a b : Expr} {es : List Expr} {σ : L2.St} {H : Hp} {Q : VK} {pos : Pos}
theorem lift2 {r : R2} {P : List V → Hp → Prop} (h : SEs X [a, b] σ H P) (hr : ∀ u v H', P [u, v] H' → r u v H' Q) : tOp r (SE X a) (SE X b) σ H Q :=
  SE.mono h fun u H1 q => SE.mono q fun v H2 q2 => hr u v H2 q2
theorem lift1 {P : List V → Hp → Prop} {P' : VK} (h : SEs X [a] σ H P) (hr : ∀ u H', P [u] H' → P' u H') : SE X a σ H P' :=
  SE.mono h fun u H1 q => hr u H1 q
theorem lift_bin {op : Operator} {r : R2} {P : List V → Hp → Prop} (ho : OpR X (binaryOp op) r) (h : SEs X [a, b] σ H P) (hr : ∀ u v H', P [u, v] H' → r u v H' Q) : SE X (.BinOp a op b pos) σ H Q :=
  SE.of (pe_op ho pe_S pe_S) (lift2 h hr)
theorem lift_cmp {op : CmpOp} {r : R2} {P : List V → Hp → Prop} (ho : OpR X (compareOp op) r) (hm : behindInMarks op b = false) (h : SEs X [a, b] σ H P) (hr : ∀ u v H', P [u, v] H' → r u v H' Q) : SE X (.Compare a [op] [b] pos) σ H Q :=
  SE.of (pe_cmpR ho pe_S pe_S hm) (lift2 h hr)
theorem lift_callB {n : Str} {id : String} {p : Pos} {r : List V → Hp → VK → Prop} {P : List V → Hp → Prop} (hc : CallR X (.builtin id) r) (hg : Gl X n) (hm : X.mg n = none) (hv : bootBuiltins n = some (.builtin id)) (hn : n ≠ "__name__") (hd : (n == ("__debug__" : Str)) = false)
    (ha : nst a = true) (h : SEs X [a] σ H P) (hr : ∀ u H', P [u] H' → r [u] H' Q) : SE X (.Call (.Name n p) [a] [] pos) σ H Q :=
  SE.of (pe_callB hc hg hm hv (pa_S (es := [a]) (by simp [ha])) hn hd (nst_each ha _) rfl) (SE.mono h fun u H1 q => hr u H1 q)
theorem lift_callTy {n : Str} {T : String} {p : Pos} {r : List V → Hp → VK → Prop} {P : List V → Hp → Prop} (hc : CallR X (.type T) r) (hg : Gl X n) (hm : X.mg n = none) (hv : bootBuiltins n = some (.type T)) (hn : n ≠ "__name__") (hd : (n == ("__debug__" : Str)) = false)
    (ha : nst a = true) (h : SEs X [a] σ H P) (hr : ∀ u H', P [u] H' → r [u] H' Q) : SE X (.Call (.Name n p) [a] [] pos) σ H Q :=
  SE.of (pe_callTy hc hg hm hv (pa_S (es := [a]) (by simp [ha])) hn hd (nst_each ha _) rfl) (SE.mono h fun u H1 q => hr u H1 q)
/-- a slice's part, run: what stands for it -/
def PtR (o : Option Expr) (vs : List V) (u : Value) : Prop := match o with
  | none => vs = [] ∧ u = .none
  | some _ => ∃ v, vs = [v] ∧ RelV v u
theorem part_run {o : Option Expr} {P : List V → Hp → Prop} (h : SEs X (optL o) σ H P) {pins : List (Addr × Obj)} {s : Shared} (I : Inv X pins σ H s) :
    wpAny (model X.prog X.w) X.A (evalPart o X.env) (fun u s' => ∃ vs H', Inv X pins σ H' s' ∧ PtR o vs u ∧ P vs H') X.xe s := by
  cases o with
  | none =>
    rw [evalPart_none]
    exact wpAny_pure ⟨[], H, I, ⟨rfl, rfl⟩, h⟩
  | some e =>
    rw [evalPart_some]
    exact thn (h pins s I) fun u s1 ⟨v, H1, I1, r1, q1⟩ => ⟨[v], H1, I1, ⟨v, rfl, r1⟩, q1⟩
theorem SEs.app : ∀ {as bs : List Expr} {σ : L2.St} {H : Hp} {P : List V → Hp → Prop}, SEs X (as ++ bs) σ H P → SEs X as σ H (fun vs H1 => SEs X bs σ H1 fun ws H2 => P (vs ++ ws) H2)
  | [], _, _, _, _, h => h
  | a :: as, bs, _, _, _, h => SE.mono h fun v H1 q => SEs.app q
theorem ptr_parts {lo hi : Option Expr} {vs ws : List V} {vl vu : Value} {p : Option Int × Option Int} (hl : PtR lo vs vl) (hh : PtR hi ws vu) (e : partsV lo.isSome hi.isSome (vs ++ ws) = some p) : IsPart vl p.1 ∧ IsPart vu p.2 := by
  have key : ∀ {v : V} {u : Value} {i : Int}, v = .int i → RelV v u → IsPart u (some i) := fun {v u i} e r => by
    subst e
    obtain ⟨t, rfl⟩ := r
    exact .int i t
  cases lo with
  | none =>
    obtain ⟨rfl, rfl⟩ := hl
    cases hi with
    | none => obtain ⟨rfl, rfl⟩ := hh; cases e; exact ⟨.none, .none⟩
    | some hi =>
      obtain ⟨v, rfl, r⟩ := hh
      cases v <;> first | (cases e; exact ⟨.none, key rfl r⟩) | (cases e)
  | some lo =>
    obtain ⟨v, rfl, r⟩ := hl
    cases hi with
    | none => obtain ⟨rfl, rfl⟩ := hh; cases v <;> first | (cases e; exact ⟨key rfl r, .none⟩) | (cases e)
    | some hi =>
      obtain ⟨v2, rfl, r2⟩ := hh
      cases v <;> first | (cases v2 <;> first | (cases e; exact ⟨key rfl r, key rfl r2⟩) | (cases e)) | (cases e)
theorem lift_sl {l h : Bool} {lo hi : Option Expr} {p2 : Pos} {r : V → Option Int → Option Int → Hp → VK → Prop} {P : List V → Hp → Prop} (hr : L2.SlR X r) (hl : lo.isSome = l) (hh : hi.isSome = h) (hs : SEs X (a :: (optL lo ++ optL hi)) σ H P)
    (q : ∀ u vs H', P (u :: vs) H' → ∃ p, partsV l h vs = some p ∧ r u p.1 p.2 H' Q) : SE X (.Subscript a (.Slice lo hi none p2) pos) σ H Q := by
  intro pins s I
  subst hl hh
  refine Subscript_ (thn (hs pins s I) fun v s1 ⟨x, H1, I1, r1, q1⟩ => ?_)
  refine wpAny_Slice (thn (part_run (SEs.app q1) I1) fun vl s2 ⟨vs, H2, I2, pl, q2⟩ => thn (part_run q2 I2) fun vu s3 ⟨ws, H3, I3, pu, q3⟩ => ?_)
  obtain ⟨p, ep, q4⟩ := q x (vs ++ ws) H3 q3
  obtain ⟨pl', pu'⟩ := ptr_parts pl pu ep
  rw [evalPart_none]
  refine wpAny_pure ?_
  have I4 : Inv X pins σ H3 { s3 with heap := s3.heap.push { cls := .type "slice", data := .fields #[vl, vu, .none] } } := I3.kept (t' := s3.toks) fun b ob q => Heap.get?_push_of_some _ q
  obtain ⟨T, id, hT, ht, hg⟩ := hr pins { s3 with heap := s3.heap.push { cls := .type "slice", data := .fields #[vl, vu, .none] } } σ H3 x v vl vu p.1 p.2 s3.heap.objs.size Q I4 r1 (Heap.IsSliceOf.new ..) pl' pu' q4
  show wpAny (model X.prog X.w) X.A (subscriptTail a (.Slice lo hi none p2) v (.ref s3.heap.objs.size)) (EP X pins σ Q) X.xe { s3 with heap := s3.heap.push { cls := .type "slice", data := .fields #[vl, vu, .none] } }
  exact tail_any (ops := [.ref s3.heap.objs.size, v]) ht hT hg (by with_unfolding_all rfl)
end
end Nc

set_option Elab.async false
set_option linter.all false
set_option autoImplicit false
set_option maxRecDepth 100000
set_option maxHeartbeats 4000000
/-! Each operation lifted from its operands. -/
namespace Nc
open PySem PySem.Spec PyProof.Rows L2

/-- what is there ahead of an operation -/
def isSlA : Op → Bool
  | .slA _ _ => true
  | _ => false
def OpX (c : Cn) (o : Op) (vs : List V) (H1 : Hp) (Q : VK) : Prop := if isSlA o = true then OpA c (opD o) vs H1 Q else if opK o = true then OpK c (opF o) (opD o) vs H1 Q else OpP c (opF o) (opD o) vs H1 Q
section
variable {X : Cx} {x : Sx} {c : Cn} {e a b : Expr} {es : List Expr} {σ : L2.St} {H : Hp} {Q : VK} {pos : Pos}
theorem binA_inv {p : Operator} (h : binA p e = some es) : ∃ a b pos, e = .BinOp a p b pos ∧ es = [a, b] := by
  unfold binA at h
  split at h
  · split at h <;> cases h
    rename_i q; subst q
    exact ⟨_, _, _, rfl, rfl⟩
  · cases h
theorem cmpA_inv {p : CmpOp} (h : cmpA p e = some es) : ∃ a b pos, e = .Compare a [p] [b] pos ∧ es = [a, b] ∧ behindInMarks p b = false := by
  unfold cmpA at h
  split at h
  · split at h <;> cases h
    rename_i q; obtain ⟨rfl, q⟩ := q
    exact ⟨_, _, _, rfl, rfl, q⟩
  · cases h
theorem isA_inv {p : CmpOp} (h : isA p e = some es) : ∃ a j p2 pos, e = .Compare a [p] [.Constant .none j p2] pos ∧ es = [a] := by
  unfold isA at h
  split at h
  · split at h <;> cases h
    rename_i q; subst q
    exact ⟨_, _, _, _, rfl, rfl⟩
  · cases h
theorem subA_inv (h : subA e = some es) : ∃ a b pos, e = .Subscript a b pos ∧ es = [a, b] ∧ notSl b = true := by
  unfold subA at h
  split at h
  · split at h <;> cases h
    rename_i q
    exact ⟨_, _, _, rfl, rfl, q⟩
  · cases h
theorem slA_inv {l h' : Bool} (h : slA l h' e = some es) : ∃ a lo hi p2 pos, e = .Subscript a (.Slice lo hi none p2) pos ∧ es = a :: (optL lo ++ optL hi) ∧ lo.isSome = l ∧ hi.isSome = h' := by
  unfold slA at h
  split at h
  · split at h <;> cases h
    rename_i q
    exact ⟨_, _, _, _, _, rfl, rfl, q.1, q.2⟩
  · cases h
theorem revA_inv (h : revA e = some es) : ∃ a k p1 p2 p3 pos, e = .Subscript a (.Slice none none (some (.UnaryOp .USub (.Constant (.int 1) k p1) p2)) p3) pos ∧ es = [a] := by
  unfold revA at h
  split at h
  · split at h <;> cases h
    rename_i q; subst q
    exact ⟨_, _, _, _, _, _, rfl, rfl⟩
  · cases h
theorem calA_inv {n : Str} (h : calA x n e = some es) : ∃ a p pos, e = .Call (.Name n p) [a] [] pos ∧ es = [a] ∧ gl x n = true := by
  unfold calA at h
  split at h
  · split at h <;> cases h
    rename_i q; obtain ⟨rfl, q⟩ := q
    exact ⟨_, _, _, rfl, rfl, q⟩
  · cases h
theorem mtA_inv {n : Str} (h : mtA n e = some es) : ∃ o a p pos, e = .Call (.Attribute o n p) [a] [] pos ∧ es = [o, a] ∧ abOk o = true ∧ (p.endLine == pos.line) = true := by
  unfold mtA at h
  split at h
  · split at h <;> cases h
    rename_i q; obtain ⟨rfl, q1, q2⟩ := q
    exact ⟨_, _, _, _, rfl, rfl, q1, q2⟩
  · cases h
theorem nst_one {a : Expr} {as : List Expr} (h : (a :: as).all nst = true) : nst a = true := by
  rw [List.all_cons, Bool.and_eq_true] at h
  exact h.1
theorem lift_opP {o : Op} (k : opK o = false) (h : SEs X es σ H (fun vs H1 => OpX c o vs H1 Q)) (ks : isSlA o = false := by rfl) : SEs X es σ H (fun vs H1 => OpP c (opF o) (opD o) vs H1 Q) :=
  SEs.mono h fun vs H1 q => by
    unfold OpX at q
    rw [ks, k] at q
    exact q
theorem lift_opK {o : Op} (k : opK o = true) (h : SEs X es σ H (fun vs H1 => OpX c o vs H1 Q)) (ks : isSlA o = false := by rfl) : SEs X es σ H (fun vs H1 => OpK c (opF o) (opD o) vs H1 Q) :=
  SEs.mono h fun vs H1 q => by
    unfold OpX at q
    rw [ks, k] at q
    exact q
theorem lift_opA {o : Op} (k : isSlA o = true) (h : SEs X es σ H (fun vs H1 => OpX c o vs H1 Q)) : SEs X es σ H (fun vs H1 => OpA c (opD o) vs H1 Q) :=
  SEs.mono h fun vs H1 q => by
    unfold OpX at q
    rw [k] at q
    exact q
theorem cdA_inv {kvs : List (List Nat × List Nat)} (h : cdA kvs e = some es) : ∃ ks vs pos, e = .Dict ks vs pos ∧ es = [] ∧ ks.map (fun k => k.bind conT) = kvs.map (fun p => some (sOf p.1)) ∧ vs.map conT = kvs.map (fun p => some (sOf p.2)) := by
  unfold cdA at h
  split at h
  · split at h <;> cases h
    rename_i q
    exact ⟨_, _, _, rfl, rfl, q.1, q.2⟩
  · cases h
theorem conT_inv {s : Str} (h : conT e = some s) : ∃ j pos, e = .Constant (.str s) j pos := by
  unfold conT at h
  split at h
  · cases h; exact ⟨_, _, rfl⟩
  · cases h
theorem pps_cd : ∀ {kvs : List (List Nat × List Nat)} {ks : List (Option Expr)} {vs : List Expr}, ks.map (fun k => k.bind conT) = kvs.map (fun p => some (sOf p.1)) → vs.map conT = kvs.map (fun p => some (sOf p.2)) →
    ∃ trs, PPs X pos ks vs trs ∧ ks.all (·.isSome) = true ∧ ks.length = kvs.length ∧ vs.length = kvs.length ∧ ∀ σ H (Q : List (V × V) → Hp → Prop), Q (kvs.map fun p => (.str (sOf p.1), .str (sOf p.2))) H → tPairs trs σ H Q
  | [], ks, vs, h1, h2 => by
    have e1 : ks = [] := by simpa using h1
    have e2 : vs = [] := by simpa using h2
    subst e1 e2
    exact ⟨[], pps_nil, rfl, rfl, rfl, fun σ H Q q => q⟩
  | p :: kvs, ks, vs, h1, h2 => by
    cases ks with
    | nil => simp at h1
    | cons k ks =>
      cases vs with
      | nil => simp at h2
      | cons v vs =>
        simp only [List.map_cons, List.cons.injEq] at h1 h2
        obtain ⟨k1, rfl, hk⟩ := Option.bind_eq_some_iff.mp h1.1
        obtain ⟨j, q, rfl⟩ := conT_inv hk
        obtain ⟨j2, q2, rfl⟩ := conT_inv h2.1
        obtain ⟨trs, t1, t2, t3, t4, t5⟩ := pps_cd h1.2 h2.2
        exact ⟨_, pps_cons pe_str pe_str t1, by simpa using t2, by simp [t3], by simp [t4], fun σ H Q z => t5 σ H _ z⟩
theorem se_cdct {kvs : List (List Nat × List Nat)} {ks : List (Option Expr)} {vs : List Expr} (h1 : ks.map (fun k => k.bind conT) = kvs.map (fun p => some (sOf p.1))) (h2 : vs.map conT = kvs.map (fun p => some (sOf p.2)))
    (h : OpP c true (dCd kvs) [] H Q) : SE X (.Dict ks vs pos) σ H Q := by
  obtain ⟨ok, q⟩ := opr_cdct h
  unfold cdOk at ok
  simp only [Bool.and_eq_true, decide_eq_true_eq, List.all_eq_true] at ok
  obtain ⟨k1, k2, _, _⟩ := ok
  obtain ⟨trs, t1, t2, t3, t4, t5⟩ := pps_cd (X := X) (pos := pos) h1 h2
  refine SE.of (pe_disp t1 t2 (by rw [t3, t4]) (fun z => k1 (List.length_eq_zero_iff.mp (by rw [← t3, z]; rfl))) (by rw [t3]; exact k2)) ?_
  intro p hp
  refine t5 _ _ _ ⟨upd_same, kvV kvs, by unfold kvV; simp [kV], by unfold kvV; rw [List.length_map]; exact k2, ?_⟩
  have e : upd (upd H p (.dK [])) p (.dK (mergeK [] (kvV kvs))) = upd H p (.dK (mergeK [] (kvV kvs))) := by
    funext b
    by_cases hb : b = p
    · subst hb; rw [upd_same, upd_same]
    · rw [upd_ne hb, upd_ne hb, upd_ne hb]
  rw [e]
  exact q p hp
/-- comparisons -/
def isC : Op → Bool
  | .eq => true | .ne => true | .lt => true | .le => true | .gt => true | .ge => true | .isN => true | .notN => true
  | .inS => true | .niS => true | .inL => true | .niL => true | .inD => true | .niD => true
  | _ => false
theorem pc_R {op : CmpOp} {r : R2} (ho : OpR X (compareOp op) r) : PC X op a b (tOp r (SE X a) (SE X b)) :=
  ⟨fun pins s σ H Q I h => binT pe_S pe_S I h fun v u s2 x y H2 I2 rx ry q => ho pins s2 σ H2 x y v u Q I2 rx ry q⟩
/-- a comparison by its operands -/
def CmpL (c : Cn) (X : Cx) (o : Op) (e : Expr) (es : List Expr) : Prop := ∃ (op : CmpOp) (a b : Expr) (pos : Pos) (t : TE), e = .Compare a [op] [b] pos ∧ behindInMarks op b = false ∧ PC X op a b t ∧
  ∀ (σ : L2.St) (H : Hp) (Q : VK), SEs X es σ H (fun vs H1 => OpX c o vs H1 Q) → t σ H Q
theorem cmp_mk {o : Op} {p : CmpOp} {r : R2} (ho : OpR X (compareOp p) r) (h : cmpA p e = some es) (k : opK o = false) (hr : ∀ u v H' Q, OpP c (opF o) (opD o) [u, v] H' Q → r u v H' Q) (ks : isSlA o = false := by rfl) : CmpL c X o e es := by
  obtain ⟨a, b, pos, rfl, rfl, m⟩ := cmpA_inv h
  exact ⟨p, a, b, pos, _, rfl, m, pc_R ho, fun σ H Q q => lift2 (lift_opP k q ks) fun u v H' => hr u v H' Q⟩
theorem op_cmp (g : Gn X x) : ∀ (o : Op), isC o = true → opA x o e = some es → CmpL c X o e es
  | .eq, _, h => by cases h
  | .ne, _, h => by cases h
  | .lt, _, h => cmp_mk op_lt h rfl fun _ _ _ _ => opr_cmp
  | .le, _, h => cmp_mk op_le h rfl fun _ _ _ _ => opr_cmp
  | .gt, _, h => cmp_mk op_gt h rfl fun _ _ _ _ => opr_cmp
  | .ge, _, h => cmp_mk op_ge h rfl fun _ _ _ _ => opr_cmp
  | .isN, _, h => by
    obtain ⟨a, j, p2, pos, rfl, rfl⟩ := isA_inv h
    exact ⟨.Is, a, _, pos, _, rfl, rfl, pc_isN pe_S, fun σ H Q q => SE.mono (lift_opP rfl q) fun u H1 => opr_isN⟩
  | .notN, _, h => by
    obtain ⟨a, j, p2, pos, rfl, rfl⟩ := isA_inv h
    exact ⟨.IsNot, a, _, pos, _, rfl, rfl, pc_notN pe_S, fun σ H Q q => SE.mono (lift_opP rfl q) fun u H1 => opr_notN⟩
  | .inS, _, h => cmp_mk op_inS h rfl fun _ _ _ _ => opr_inS
  | .niS, _, h => cmp_mk op_notInS h rfl fun _ _ _ _ => opr_niS
  | .inL, _, h => cmp_mk op_in_seq h rfl fun _ _ _ _ => opr_inL
  | .niL, _, h => cmp_mk op_notIn_seq h rfl fun _ _ _ _ => opr_inL
  | .inD, _, h => by
    obtain ⟨a, b, pos, rfl, rfl, m⟩ := cmpA_inv h
    exact ⟨.In, a, b, pos, _, rfl, m, pc_din (by have := g.un; omega) pe_S pe_S, fun σ H Q q => SE.mono (lift_opP rfl q) fun u H1 q => SE.mono q fun v H2 q2 => opr_inD q2⟩
  | .niD, _, h => by
    obtain ⟨a, b, pos, rfl, rfl, m⟩ := cmpA_inv h
    exact ⟨.NotIn, a, b, pos, _, rfl, m, pc_dnotin (by have := g.un; omega) pe_S pe_S, fun σ H Q q => SE.mono (lift_opP rfl q) fun u H1 q => SE.mono q fun v H2 q2 => opr_niD q2⟩
theorem CmpL.val {o : Op} (h : CmpL c X o e es) (q : SEs X es σ H (fun vs H1 => OpX c o vs H1 Q)) : SE X e σ H Q := by
  obtain ⟨op, a, b, pos, t, rfl, m, pc, k⟩ := h
  exact SE.of (pe_cmp pc m) (k σ H Q q)
theorem CmpL.tst {o : Op} {Q : Bool → Hp → Prop} (h : CmpL c X o e es) (q : SEs X es σ H (fun vs H1 => OpX c o vs H1 (fun v H2 => ∃ k, v = .bl k ∧ Q k H2))) : ST X e σ H Q := by
  obtain ⟨op, a, b, pos, t, rfl, m, pc, k⟩ := h
  exact ST.of (pt_cmp pc m) (k σ H _ q)
theorem call_lenDR : CallR X (.builtin "len") (fun xs H Q => ∃ a kvs, xs = [V.ref a] ∧ Rd H a (.dK kvs) ∧ Q (.int kvs.length) H) := by
  intro pins s σ H xs us Q I r h
  obtain ⟨a, kvs, rfl, e, q⟩ := h
  obtain ⟨u, rfl, rx⟩ := vals1 r
  cases rx
  exact d_len I e fun t s' I' => ⟨.int kvs.length, H, I', ⟨t, rfl⟩, q⟩
theorem tupA_inv (h : tupA e = some es) : ∃ k pos, e = .Tuple es k pos := by
  unfold tupA at h
  split at h <;> cases h
  exact ⟨_, _, rfl⟩
theorem lstA_inv (h : lstA e = some es) : ∃ pos, e = .List es pos := by
  unfold lstA at h
  split at h <;> cases h
  exact ⟨_, rfl⟩
theorem dct0A_inv (h : dct0A e = some es) : ∃ pos, e = .Dict [] [] pos ∧ es = [] := by
  unfold dct0A at h
  split at h <;> cases h
  exact ⟨_, rfl, rfl⟩
theorem op_lift (g : Gn X x) : ∀ (o : Op), opA x o e = some es → es.all nst = true → SEs X es σ H (fun vs H1 => OpX c o vs H1 Q) → SE X e σ H Q
  | .addI, h, _, q => by obtain ⟨a, b, pos, rfl, rfl⟩ := binA_inv h; exact lift_bin op_add (lift_opP rfl q) fun _ _ _ => opr_addI
  | .addS, h, _, q => by obtain ⟨a, b, pos, rfl, rfl⟩ := binA_inv h; exact lift_bin op_add_str (lift_opP rfl q) fun _ _ _ => opr_addS
  | .addL, h, _, q => by obtain ⟨a, b, pos, rfl, rfl⟩ := binA_inv h; exact lift_bin op_catL (lift_opP rfl q) fun _ _ _ => opr_addL
  | .addT, h, _, q => by obtain ⟨a, b, pos, rfl, rfl⟩ := binA_inv h; exact lift_bin op_catA (lift_opP rfl q) fun _ _ _ => opr_addT
  | .sub, h, _, q => by obtain ⟨a, b, pos, rfl, rfl⟩ := binA_inv h; exact lift_bin op_sub (lift_opP rfl q) fun _ _ _ => opr_sub
  | .mul, h, _, q => by obtain ⟨a, b, pos, rfl, rfl⟩ := binA_inv h; exact lift_bin op_mul (lift_opP rfl q) fun _ _ _ => opr_mul
  | .mulS, h, _, q => by obtain ⟨a, b, pos, rfl, rfl⟩ := binA_inv h; exact lift_bin op_mulS (lift_opP rfl q) fun _ _ _ => opr_mulS
  | .mod, h, _, q => by obtain ⟨a, b, pos, rfl, rfl⟩ := binA_inv h; exact lift_bin op_mod (lift_opP rfl q) fun _ _ _ => opr_mod
  | .fdiv, h, _, q => by obtain ⟨a, b, pos, rfl, rfl⟩ := binA_inv h; exact lift_bin op_fdiv (lift_opP rfl q) fun _ _ _ => opr_div
  | .pow, h, _, q => by obtain ⟨a, b, pos, rfl, rfl⟩ := binA_inv h; exact lift_bin op_pow (lift_opP rfl q) fun _ _ _ => opr_pow
  | .eq, h, _, q => (op_cmp g .eq rfl h).val q
  | .ne, h, _, q => (op_cmp g .ne rfl h).val q
  | .lt, h, _, q => (op_cmp g .lt rfl h).val q
  | .le, h, _, q => (op_cmp g .le rfl h).val q
  | .gt, h, _, q => (op_cmp g .gt rfl h).val q
  | .ge, h, _, q => (op_cmp g .ge rfl h).val q
  | .isN, h, _, q => (op_cmp g .isN rfl h).val q
  | .notN, h, _, q => (op_cmp g .notN rfl h).val q
  | .inS, h, _, q => (op_cmp g .inS rfl h).val q
  | .niS, h, _, q => (op_cmp g .niS rfl h).val q
  | .inL, h, _, q => (op_cmp g .inL rfl h).val q
  | .niL, h, _, q => (op_cmp g .niL rfl h).val q
  | .inD, h, _, q => (op_cmp g .inD rfl h).val q
  | .niD, h, _, q => (op_cmp g .niD rfl h).val q
  | .ix, h, _, q => by obtain ⟨a, b, pos, rfl, rfl, m⟩ := subA_inv h; exact SE.of (pe_ix ix_seq pe_S pe_S (sub_plain m)) (lift2 (lift_opP rfl q) fun _ _ _ => opr_ix)
  | .ixD, h, _, q => by obtain ⟨a, b, pos, rfl, rfl, m⟩ := subA_inv h; exact SE.of (pe_dget (by have := g.un; omega) pe_S pe_S (sub_plain m)) (SE.mono (lift_opP rfl q) fun u H1 q => SE.mono q fun v H2 q2 => opr_ixD q2)
  | .slS l h', h, _, q => by obtain ⟨a, lo, hi, p2, pos, rfl, rfl, h1, h2⟩ := slA_inv h; exact lift_sl sl_str h1 h2 (lift_opP rfl q) fun _ _ _ => opr_slS
  | .slL l h', h, _, q => by obtain ⟨a, lo, hi, p2, pos, rfl, rfl, h1, h2⟩ := slA_inv h; exact lift_sl sl_list h1 h2 (lift_opP rfl q) fun _ _ _ => opr_slL
  | .slT l h', h, _, q => by obtain ⟨a, lo, hi, p2, pos, rfl, rfl, h1, h2⟩ := slA_inv h; exact lift_sl sl_tupA h1 h2 (lift_opP rfl q) fun _ _ _ => opr_slT
  | .slA l h', h, _, q => by obtain ⟨a, lo, hi, p2, pos, rfl, rfl, h1, h2⟩ := slA_inv h; exact lift_sl sl_U h1 h2 (lift_opA rfl q) fun _ _ _ => opr_slA
  | .cdct kvs, h, _, q => by obtain ⟨ks, vs, pos, rfl, rfl, h1, h2⟩ := cdA_inv h; exact se_cdct h1 h2 (lift_opP (es := []) (X := X) (σ := σ) (H := H) (o := .cdct kvs) rfl q)
  | .revS, h, _, q => by cases h
  | .revL, h, _, q => by obtain ⟨a, k, p1, p2, p3, pos, rfl, rfl⟩ := revA_inv h; exact SE.of (pe_revL pe_S) (lift1 (lift_opP rfl q) fun _ _ => opr_revL)
  | .tup, h, n, q => by
    obtain ⟨k, pos, rfl⟩ := tupA_inv h
    exact SE.of (pe_tup (pa_S n)) (SEs.mono (lift_opK rfl q) fun _ _ => opr_tup)
  | .lst, h, n, q => by
    obtain ⟨pos, rfl⟩ := lstA_inv h
    exact SE.of (pe_lst (pa_S n)) (SEs.mono (lift_opK rfl q) fun _ _ => opr_lst)
  | .dct0, h, _, q => by
    obtain ⟨pos, rfl, rfl⟩ := dct0A_inv h
    have q' := lift_opP (o := .dct0) rfl q
    refine SE.of pe_dnewK ?_
    obtain ⟨F, ds, d, fk, r, e, q⟩ := (show OpP c true dDct0 [] H Q from q')
    cases r
    cases e
    exact fun p hp => q _ _ (Ext.new hp) ⟨p, hp, own_dct upd_same .nil⟩
  | .len, h, n, q => by
    obtain ⟨a, p, pos, rfl, rfl, m⟩ := calA_inv h
    refine lift_callB (call_len_seq.or (call_len_str.or call_lenDR)) (g.gl m) (g.bl _ (by decide)) PySem.boot_len (by decide) (by decide) (nst_one n) (lift_opP rfl q) fun u H1 z => ?_
    rcases opr_len (X := X) z with ⟨p, ys, rfl, z1, z2⟩ | ⟨z', rfl, z1, z2⟩ | ⟨a', ks, rfl, z1, z2⟩
    · exact .inl ⟨p, ys, rfl, z1, z2⟩
    · exact .inr (.inl ⟨z', rfl, z1, z2⟩)
    · exact .inr (.inr ⟨a', ks, rfl, z1, z2⟩)
  | .all, h, n, q => by
    obtain ⟨a, p, pos, rfl, rfl, m⟩ := calA_inv h
    exact lift_callB (cr_all g.calm) (g.gl m) (g.bl _ (by decide)) (by decide +kernel) (by decide) (by decide) (nst_one n) (lift_opP rfl q) fun u H1 z => opr_all z
  | .any, h, n, q => by
    obtain ⟨a, p, pos, rfl, rfl, m⟩ := calA_inv h
    exact lift_callB (cr_any g.calm) (g.gl m) (g.bl _ (by decide)) (by decide +kernel) (by decide) (by decide) (nst_one n) (lift_opP rfl q) fun u H1 z => opr_any z
  | .int, h, n, q => by
    obtain ⟨a, p, pos, rfl, rfl, m⟩ := calA_inv h
    exact lift_callTy call_int1 (g.gl m) (g.bl _ (by decide)) (by decide +kernel) (by decide) (by decide) (nst_one n) (lift_opP rfl q) fun u H1 z => opr_int z
  | .listL, h, n, q => by
    obtain ⟨a, p, pos, rfl, rfl, m⟩ := calA_inv h
    exact lift_callTy call_list_of (g.gl m) (g.bl _ (by decide)) (by decide +kernel) (by decide) (by decide) (nst_one n) (lift_opP rfl q) fun u H1 z => opr_listL z
  | .tupL, h, n, q => by
    obtain ⟨a, p, pos, rfl, rfl, m⟩ := calA_inv h
    exact lift_callTy call_tuple_of (g.gl m) (g.bl _ (by decide)) (by decide +kernel) (by decide) (by decide) (nst_one n) (lift_opP rfl q) fun u H1 z => opr_tupL z
  | .sortS, h, _, q => by cases h
end
end Nc

set_option Elab.async false
set_option linter.all false
set_option autoImplicit false
set_option maxRecDepth 100000
set_option maxHeartbeats 4000000
/-! The check of a text against the small language. -/
namespace Nc
open PySem PySem.Spec PyProof.Rows L2

/-- frozen; new, held by m; a borrowed slot; borrowed, used at once -/
inductive Ty where
  | sh | fr (m : Mk) | bo | bp
  deriving DecidableEq
def isFr : Ty → Bool
  | .fr _ => true
  | _ => false
def grd (b : Bool) {α : Type} (a : α) : Option α := if b = true then some a else none
abbrev Ms := List Md
def gm (M : Ms) (i : Nat) : Md := (M[i]?).getD .un
/-- a slot that an expression's exception leaves as it was known -/
def exm1 : Md → Md
  | .mk .fz x => .mk .fz x
  | .mk _ .free => .un
  | m => m
def exM (M : Ms) : Ms := M.map exm1
/-- M' knows no more -/
def leM : Ms → Ms → Bool
  | [], [] => true
  | a :: M, b :: M' => (decide (a = .un) || decide (a = b)) && leM M M'
  | _, _ => false
def vis (x : Sx) (n : Str) : Bool := match x.sc.names.lookup n with
  | some .local => true
  | some .cell => true
  | some .free => true
  | _ => false
/-- the name of slot i -/
def nmA (x : Sx) (i : Nat) : Expr → Bool
  | .Name n _ => decide (x.N[i]? = some n) && (vis x n && ((n == ("__debug__" : Str)) == false && (n == ("__classdict__" : Str)) == false))
  | _ => false
/-- how what p leads to is held -/
def mkP : List Pe → Mk → Option Mk
  | [], m => some m
  | .at f :: p, m => (mkP p m).bind fun k => if isI k = true then some (atM k f) else none
  | .ix _ :: p, m => (mkP p m).bind fun k => match k with
    | .own k => some k
    | _ => none
def mkS (M : Ms) (i : Nat) (p : List Pe) : Option Mk := match gm M i with
  | .mk m _ => mkP p m
  | .bo (some m) => mkP p m
  | _ => none
/-- the text of p from slot i -/
def paE (x : Sx) (M : Ms) (i : Nat) : List Pe → Expr → Bool
  | [], e => nmA x i e
  | .at f :: p, e => match e with
    | .Attribute o g _ => decide (g = f) && (abOk o && (x.ats.contains f && paE x M i p o))
    | _ => false
  | .ix j :: p, e => match e with
    | .Subscript o k _ => nmA x j k && ((match gm M j with | .mk .fz _ => true | _ => false) && paE x M i p o)
    | _ => false
/-- how operands are wanted: borrowed, frozen, for a call -/
inductive Kn where
  | bor | kept | raw
  deriving DecidableEq
def kn : Bool → Kn
  | true => .kept
  | false => .bor
/-! ### calls -/
/-- the slots that a call changes -/
def ioS : List Pm → Ex → List Nat
  | .io _ :: ps, .cons (.b i) es => i :: ioS ps es
  | _ :: ps, .cons _ es => ioS ps es
  | _, _ => []
def argOk (M : Ms) (io : List Nat) (y : Fx) : List Pm → Ex → Bool
  | [], .nil => true
  | .fz :: ps, .cons e es => !isB e && argOk M io y ps es
  | .bo :: ps, .cons e es => (match e with
    | .b i => rdb (gm M i) && !io.contains i
    | _ => true) && argOk M io y ps es
  | .io m :: ps, .cons e es => (match e with
    | .b i => decide (gm M i = .mk m y)
    | _ => false) && argOk M io y ps es
  | _, _ => false
/-- may the operands be handed over -/
def callOk (M : Ms) (s : Sig) (es : Ex) : Bool := decide (ioS s.ps es).Nodup && (argOk M (ioS s.ps es) .free s.ps es || argOk M (ioS s.ps es) .io s.ps es)
def resT (m : Mk) : Ty := if m = .fz then .sh else .fr m
/-- names of built-in classes -/
def ikN : Ik → Str
  | .int => "int" | .bl => "bool" | .str => "str" | .lst => "list" | .tup => "tuple" | .dct => "dict" | .cls k => k
def isiA (x : Sx) (t : Ik) : Expr → Option (List Expr)
  | .Call (.Name m _) [a, .Name n _] [] _ => grd (decide (m = "isinstance") && (gl x "isinstance" && (decide (n = ikN t) && (gl x (ikN t) && (ikN t == ("__debug__" : Str)) == false)))) [a]
  | _ => none
/-- a comparison that is one of a kind -/
def cmpB (p : CmpOp) : Expr → Option (List Expr)
  | .Compare a [q] [b] _ => grd (decide (q = p) && behindInMarks p b == false) [a, b]
  | _ => none
/-- n(..), n a built-in, k operands -/
def calB (x : Sx) (n : Str) (k : Nat) : Expr → Option (List Expr)
  | .Call (.Name m _) es [] _ => grd (decide (m = n) && (decide (es.length = k) && gl x n)) es
  | _ => none
/-- n(m(a)), both built-ins -/
def calBB (x : Sx) (n m : Str) : Expr → Option (List Expr)
  | .Call (.Name n' _) [.Call (.Name m' _) [a] [] _] [] _ => grd (decide (n' = n) && (decide (m' = m) && (gl x n && gl x m))) [a]
  | _ => none
def revB : Expr → Option (List Expr)
  | .Subscript a (.Slice none none (some (.UnaryOp .USub (.Constant (.int i) _ _) _)) _) _ => if i = 1 then some [a] else none
  | _ => none
def dspB : Expr → Option (List Expr)
  | .Dict ks vs _ => if ks.length = vs.length ∧ ks.length ≤ 15 ∧ 0 < ks.length then (ks.zip vs).foldr (fun p acc => match p.1, acc with
      | some k, some r => some (k :: p.2 :: r)
      | _, _ => none) (some []) else none
  | _ => none
def mrgB : Expr → Option (List Expr)
  | .Dict [none, none] [a, b] _ => some [a, b]
  | _ => none
def mrgKB : Expr → Option (List Expr)
  | .Dict [none, some k] [a, v] _ => some [a, k, v]
  | _ => none
def biA (x : Sx) : Bi → Expr → Option (List Expr)
  | .eq => cmpB .Eq | .ne => cmpB .NotEq | .ltS => cmpB .Lt | .ltL => cmpB .Lt | .inE => cmpB .In | .niE => cmpB .NotIn
  | .cnt => fun _ => none | .ixS => fun _ => none | .ixL => fun _ => none | .get1 => fun _ => none | .get2 => fun _ => none | .repl => fun _ => none | .spl => fun _ => none | .joi => fun _ => none
  | .dctC => calB x "dict" 1 | .listS => calB x "list" 1 | .listD => calB x "list" 1 | .listR => calBB x "list" "range" | .lnset => calBB x "len" "set" | .sortS => calB x "sorted" 1 | .sortP => calB x "sorted" 1
  | .min2 => calB x "min" 2 | .max2 => calB x "max" 2 | .max3 => calB x "max" 3 | .maxP => calB x "max" 1 | .sumI => calB x "sum" 1 | .strI => calB x "str" 1 | .intS => calB x "int" 1
  | .fst => fun _ => none
  | .revS => revB | .dsp => dspB | .mrg => mrgB | .mrgK => mrgKB
/-- the calls by the text -/
def kfA (x : Sx) : Kf → Expr → Option (List Expr)
  | .fn f, .Call (.Name m _) es [] _ => grd (decide (m = f) && (gl x f && (f == ("__debug__" : Str)) == false)) es
  | .pr m, .Attribute o g _ => grd (decide (g = m) && abOk o) [o]
  | .ln _, .Call (.Name m _) [a] [] _ => grd (decide (m = "len") && gl x "len") [a]
  | .ct _, .Compare a [.In] [b] _ => grd (behindInMarks .In b == false) [a, b]
  | .nct _, .Compare a [.NotIn] [b] _ => grd (behindInMarks .NotIn b == false) [a, b]
  | .eq _, .Compare a [.Eq] [b] _ => some [a, b]
  | .deq, .Compare a [.Eq] [b] _ => some [a, b]
  | .dne, .Compare a [.NotEq] [b] _ => some [a, b]
  | .dfl f n, .Call (.Name m _) es [] _ => grd (decide (m = f) && (gl x f && ((f == ("__debug__" : Str)) == false && decide (es.length = n)))) es
  | .ne, .Compare a [.NotEq] [b] _ => some [a, b]
  | .ad _, .BinOp a .Add b _ => some [a, b]
  | .gi _, .Subscript a b _ => grd (notSl b) [a, b]
  | .tab y, .Call (.Attribute (.Name m _) g p) [a, b] [] q => grd (decide (m = y) && (decide (g = "get") && (gl x m && ((m == ("__debug__" : Str)) == false && (p.endLine == q.line) == true)))) [a, b]
  | .isi t, e => isiA x t e
  | .bi b, e => biA x b e
  | _, _ => none
def metA (m : Str) : Expr → Option (Expr × List Expr)
  | .Call (.Attribute o g p) es [] q => grd (decide (g = m) && (abOk o && ((p.endLine == q.line) == true && decide (es.length < 30)))) (o, es)
  | _ => none
def bmN : Bi → Option (Str × Nat)
  | .cnt => some ("count", 1) | .ixS => some ("index", 1) | .ixL => some ("index", 1) | .get1 => some ("get", 1) | .get2 => some ("get", 2) | .repl => some ("replace", 2) | .spl => some ("split", 1) | .joi => some ("join", 1)
  | _ => none
/-- o.n(..), n a method of a built-in type -/
def bmA (b : Bi) (e : Expr) : Option (Expr × List Expr) := (bmN b).bind fun q => (metA q.1 e).bind fun p => grd (decide (p.2.length = q.2)) p
/-! ### changes -/
def muN : Mu → Str
  | .app => "append" | .pop => "pop" | .popA => "pop" | .ins => "insert" | .dpop => "pop" | .sdf => "setdefault"
/-- how many operands -/
def muK : Mu → Nat
  | .app => 1 | .pop => 0 | .popA => 1 | .ins => 2 | .dpop => 2 | .sdf => 2
def muA (u : Mu) (e : Expr) : Option (Expr × List Expr) := (metA (muN u) e).bind fun p => grd (decide (p.2.length = muK u)) p
/-- what is borrowed in M was so in M' -/
def boS : Ms → Ms → Bool
  | [], [] => true
  | a :: M, b :: M' => (match a with
    | .bo _ => decide (b = a)
    | _ => true) && boS M M'
  | _, _ => false
/-! ### walks, comprehensions -/
def isBoM : Md → Bool
  | .bo _ => true
  | _ => false
def nmC (nm : Str) : Expr → Option (List Expr)
  | .Call (.Name m _) es [] _ => grd (decide (m = nm)) es
  | _ => none
def isTup : Expr → Bool
  | .Tuple _ _ _ => true
  | _ => false
/-- a name that may be set, slot i -/
def nmL (x : Sx) (i : Nat) : Expr → Bool
  | .Name m _ => decide (x.N[i]? = some m) && (decide (x.sc.names.lookup m = some .local) || (decide (x.sc.names.lookup m = some .cell) && x.fn m))
  | _ => false
def nmLs (x : Sx) : List Nat → List Expr → Bool
  | [], [] => true
  | i :: t, e :: es => nmL x i e && nmLs x t es
  | _, _ => false
def tgA (x : Sx) (t : List Nat) (tg : Expr) : Bool := match t, tg with
  | [i], .Name m p => nmL x i (.Name m p)
  | i :: j :: t, .Tuple es _ _ => nmLs x (i :: j :: t) es && decide (i :: j :: t).Nodup
  | _, _ => false
/-- the slots t, set to frozen things -/
def setFz (t : List Nat) (M : Ms) : Ms := t.foldl (fun M i => M.set i (.mk .fz .free)) M
/-- a comprehension's text -/
structure LcT where
  elt : Expr
  tg : Expr
  iter : Expr
  ifs : List Expr
  scope : Scope
def lcA : Expr → Option LcT
  | .ListComp elt [⟨tg, iter, ifs, 0⟩] scope _ => some ⟨elt, tg, iter, ifs, scope⟩
  | _ => none
/-- a dict's comprehension: its value's text, its key's -/
def dcA : Expr → Option (LcT × Expr)
  | .DictComp k v [⟨tg, iter, ifs, 0⟩] scope _ => some (⟨v, tg, iter, ifs, scope⟩, k)
  | _ => none
/-- within a comprehension -/
def inner (x : Sx) (scope : Scope) : Sx := { x with sc := relS scope x.sc, fn := fun n => scope.names.lookup n == some .cell }
def plainIt : Expr → Bool
  | .Set _ _ _ => false
  | _ => true
def lcOk (x : Sx) (t : List Nat) (own : List (Str × Nat)) (q : LcT) (M : Ms) : Bool := blkC x.N x.sc q.scope own && (t.all (fun i => (own.map (·.2)).contains i) && ((own.map (·.2)).all (fun i => decide (gm M i = .un)) && (tgA (inner x q.scope) t q.tg && (plainIt q.iter && decide (M.length = x.N.length)))))
def condA (f : Expr → Ms → Option Ms) (nil : Bool) (ifs : List Expr) (M : Ms) : Option Unit := match nil, ifs with
  | true, [] => some ()
  | false, [c] => (f c M).bind fun M' => grd (decide (M' = M)) ()
  | _, _ => none
structure C3 where
  e : Expr → Ms → Option (Ty × Ms)
  t : Expr → Ms → Option Ms
  s : Kn → List Expr → Ms → Option Ms
  i : Expr → Expr → Ms → Option Ms
def tOf (e : Expr → Ms → Option (Ty × Ms)) (ok : Expr → Bool) : Expr → Ms → Option Ms := fun x M => (e x M).bind fun p => grd (ok x && !isFr p.1) p.2
/-- an expression whose test is its value's truth -/
def plainT : Expr → Bool
  | .BoolOp _ _ _ => false
  | .UnaryOp .Not _ _ => false
  | .Compare _ _ _ _ => false
  | .NamedExpr _ _ _ => false
  | .IfExp _ _ _ _ => false
  | _ => true
def iOf (e : Expr → Ms → Option (Ty × Ms)) : Expr → Expr → Ms → Option Ms := fun _ x M => (e x M).bind fun p => grd (decide (p.1 = .sh)) p.2
def val3 (e : Expr → Ms → Option (Ty × Ms)) : C3 := ⟨e, tOf e plainT, fun _ _ _ => none, iOf e⟩
def bokX (k : Kn) (t : Ty) (x : Ex) (M : Ms) (l : Bool) : Bool := match t with
  | .sh => true
  | .fr _ => false
  | .bp => decide (k = .bor) && l
  | .bo => match k with
    | .bor => (match x with
      | .b i => rdb (gm M i)
      | _ => false)
    | .kept => false
    | .raw => isB x
def cnst (p : Const → Bool) : Expr → Ms → Option (Ty × Ms)
  | .Constant k _ _, M => grd (p k) (.sh, M)
  | _, _ => none
/-- an int, perhaps with a minus sign -/
def intA (i : Int) : Expr → Bool
  | .Constant (.int j) _ _ => decide (j = i)
  | .UnaryOp .USub (.Constant (.int j) _ _) _ => decide (-j = i)
  | _ => false
def boolOp2 (p : PySem.BoolOp) : Expr → Option (Expr × Expr)
  | .BoolOp q [a, b] _ => if q = p then some (a, b) else none
  | .BoolOp q (a :: b :: c :: r) pos => if q = p then some (a, .BoolOp q (b :: c :: r) pos) else none
  | _ => none
/-- the mark of a comparison -/
def opC : Op → Option CmpOp
  | .lt => some .Lt | .le => some .LtE | .gt => some .Gt | .ge => some .GtE
  | _ => none
def chnC (o1 o2 : Op) : Expr → Option (Expr × Expr × Expr)
  | .Compare p [k1, k2] [q, r] _ => grd (decide (opC o1 = some k1) && (decide (opC o2 = some k2) && (lastMarks [k1, k2] [q, r] == false))) (p, q, r)
  | _ => none
def notA : Expr → Option Expr
  | .UnaryOp .Not p _ => some p
  | _ => none
def ifA : Expr → Option (Expr × Expr × Expr)
  | .IfExp p q r _ => some (p, q, r)
  | _ => none
def mk3 (e : Expr → Ms → Option (Ty × Ms)) (t : Expr → Ms → Option Ms) : C3 := ⟨e, t, fun _ _ _ => none, iOf e⟩
/-- {k: v} -/
def dspA (k : Str) : Expr → Option Expr
  | .Dict [some (.Constant (.str z) _ _)] [v] _ => grd (decide (z = k)) v
  | _ => none
def chk3 : Sx → Ex → C3
  | x, .any => ⟨fun _ M => some (.sh, M), fun _ M => some M, fun _ es M => grd (es.all nst) M, fun _ _ M => some M⟩
  | x, .non => val3 (cnst fun k => match k with | .none => true | _ => false)
  | x, .bl b => val3 (cnst fun k => match k with | .bool c => c == b | _ => false)
  | x, .int i => val3 fun e M => grd (intA i e) (.sh, M)
  | x, .str s => val3 (cnst fun k => match k with | .str z => decide (z = s) | _ => false)
  | x, .v i p => val3 fun e M => grd (paE x M i p e && decide (mkS M i p = some .fz)) (.sh, M)
  | x, .bp i p => val3 fun e M => grd (paE x M i p e && (match mkS M i p with | some m => rd1 m | none => false)) (.bp, M)
  | x, .b i => ⟨fun e M => grd (nmA x i e && decide (gm M i ≠ .un)) (.bo, M), fun e M => grd (nmA x i e && rdb (gm M i)) M, fun _ _ _ => none, fun _ e M => grd (nmA x i e && (rdb (gm M i) && isBoM (gm M i))) M⟩
  | x, .m i => val3 fun e M => match gm M i with
    | .mk m .free => grd (nmA x i e && decide (m ≠ .fz)) (.fr m, M.set i .un)
    | _ => none
  | x, .f i => val3 fun e M => match gm M i with
    | .mk m .free => grd (nmA x i e && decide (m ≠ .fz)) (.sh, M.set i (.mk .fz .free))
    | _ => none
  | x, .g n => val3 fun e M => match e with
    | .Name m _ => grd (decide (m = n) && (gl x n && (n == ("__debug__" : Str)) == false)) (.sh, M)
    | _ => none
  | x, .op o es => mk3 (fun e M => match opA x o e with
      | some as => ((chk3 x es).s (kn (opK o)) as M).map fun M' => (if opF o = true then .fr (.own .fz) else .sh, M')
      | none => none) (fun e M => match opA x o e with
      | some as => ((chk3 x es).s (kn (opK o)) as M).bind fun M' => grd ((isC o || plainT e) && decide (opF o = false)) M'
      | none => none)
  | x, .and a b => ⟨fun e M => (boolOp2 .And e).bind fun u => ((chk3 x a).e u.1 M).bind fun r1 => ((chk3 x b).e u.2 r1.2).bind fun r2 => grd (decide (r1.1 = .sh) && (decide (r2.1 = .sh) && decide (r2.2 = r1.2))) (.sh, r1.2),
    fun e M => (boolOp2 .And e).bind fun u => ((chk3 x a).t u.1 M).bind fun M1 => ((chk3 x b).t u.2 M1).bind fun M2 => grd (decide (M2 = M1)) M1, fun _ _ _ => none, fun _ _ _ => none⟩
  | x, .or a b => ⟨fun e M => (boolOp2 .Or e).bind fun u => ((chk3 x a).e u.1 M).bind fun r1 => ((chk3 x b).e u.2 r1.2).bind fun r2 => grd (decide (r1.1 = .sh) && (decide (r2.1 = .sh) && decide (r2.2 = r1.2))) (.sh, r1.2),
    fun e M => (boolOp2 .Or e).bind fun u => ((chk3 x a).t u.1 M).bind fun M1 => ((chk3 x b).t u.2 M1).bind fun M2 => grd (decide (M2 = M1)) M1, fun _ _ _ => none, fun _ _ _ => none⟩
  | x, .not a => ⟨fun e M => (notA e).bind fun p => ((chk3 x a).e p M).bind fun r => grd (decide (r.1 = .sh)) (.sh, r.2),
    fun e M => (notA e).bind fun p => (chk3 x a).t p M, fun _ _ _ => none, fun _ _ _ => none⟩
  | x, .chn o1 o2 a b c => mk3 (fun e M => (chnC o1 o2 e).bind fun q => ((chk3 x a).e q.1 M).bind fun r1 => ((chk3 x b).e q.2.1 r1.2).bind fun r2 => ((chk3 x c).e q.2.2 r2.2).bind fun r3 =>
        grd (decide (r1.1 = .sh) && (decide (r2.1 = .sh) && (decide (r3.1 = .sh) && decide (r3.2 = r2.2)))) (.sh, r2.2)) (fun e M => (chnC o1 o2 e).bind fun q => ((chk3 x a).e q.1 M).bind fun r1 => ((chk3 x b).e q.2.1 r1.2).bind fun r2 => ((chk3 x c).e q.2.2 r2.2).bind fun r3 =>
        grd (decide (r1.1 = .sh) && (decide (r2.1 = .sh) && (decide (r3.1 = .sh) && decide (r3.2 = r2.2)))) r2.2)
  | x, .ife c a b => val3 fun e M => (ifA e).bind fun u => ((chk3 x c).t u.1 M).bind fun M1 => ((chk3 x a).e u.2.1 M1).bind fun r1 => ((chk3 x b).e u.2.2 M1).bind fun r2 => grd (decide (r1.1 = .sh) && decide (r2 = r1)) r1
  | x, .fz e => val3 fun p M => ((chk3 x e).e p M).bind fun r => grd (isFr r.1) (.sh, r.2)
  | x, .at f e => val3 fun p M => match p with
    | .Attribute o g _ => ((chk3 x e).e o M).bind fun r => grd (decide (g = f) && (abOk o && (x.ats.contains f && decide (r.1 = .sh)))) (.sh, r.2)
    | _ => none
  | x, .cal f es => mk3 (fun e M => match kfA x f e, x.sg f with
    | some as, some s => ((chk3 x es).s .raw as M).bind fun M' => grd (callOk M' s es) (resT s.res, M')
    | _, _ => none) (fun e M => match kfA x f e, x.sg f with
    | some as, some s => ((chk3 x es).s .raw as M).bind fun M' => grd (callOk M' s es && (decide (s.res = .fz) && (isCK f || plainT e))) M'
    | _, _ => none)
  | x, .met m o es => val3 fun e M => match metA m e, x.sg (.mt m) with
    | some (oe, as), some s => ((chk3 x o).e oe M).bind fun r => ((chk3 x es).s .raw as r.2).bind fun M' =>
      grd (bokX .raw r.1 o M' false && callOk M' s (.cons o es)) (resT s.res, M')
    | _, _ => none
  | x, .bm b o es => val3 fun e M => match bmA b e, x.sg (.bi b) with
    | some (oe, as), some s => ((chk3 x o).e oe M).bind fun r => ((chk3 x es).s .raw as r.2).bind fun M' =>
      grd (bokX .raw r.1 o M' false && (bokX .bor r.1 o r.2 false && callOk M' s (.cons o es))) (resT s.res, M')
    | _, _ => none
  | x, .mu u i p es => val3 fun e M => match gm M i with
    | .mk m y => (muA u e).bind fun q => grd (paE x (M.set i (.bo (some m))) i p q.1 && decide (mkP p m = some (.own .fz))) () |>.bind fun _ =>
      ((chk3 x es).s .kept q.2 (M.set i (.bo (some m)))).bind fun M2 => grd (decide (gm M2 i = .bo (some m)) && boS M2 (M.set i (.bo (some m)))) (.sh, M2.set i (.mk m y))
    | _ => none
  | x, .rng es => ⟨fun _ _ => none, fun _ _ => none, fun _ _ _ => none, fun _ e M => (nmC "range" e).bind fun as => grd (gl x "range" && (decide (as.length = 1) || decide (as.length = 2))) () |>.bind fun _ => (chk3 x es).s .bor as M⟩
  | x, .enm ex => ⟨fun _ _ => none, fun _ _ => none, fun _ _ _ => none, fun tg e M => (nmC "enumerate" e).bind fun as => match as with
    | [a] => grd (gl x "enumerate" && (isTup tg && nst a)) () |>.bind fun _ => ((chk3 x ex).e a M).bind fun r => grd (decide (r.1 = .sh)) r.2
    | _ => none⟩
  | x, .zip es => ⟨fun _ _ => none, fun _ _ => none, fun _ _ _ => none, fun tg e M => (nmC "zip" e).bind fun as => grd (gl x "zip" && (isTup tg && decide (as.length = 2))) () |>.bind fun _ => (chk3 x es).s .kept as M⟩
  | x, .lc e t it c own => val3 fun p M => (lcA p).bind fun q => ((chk3 x it).i q.tg q.iter M).bind fun M1 =>
    grd (lcOk x t own q M1) () |>.bind fun _ => (condA (chk3 (inner x q.scope) c).t (isNil c) q.ifs (setFz t M1)).bind fun _ =>
    ((chk3 (inner x q.scope) e).e q.elt (setFz t M1)).bind fun r => grd (decide (r = (.sh, setFz t M1))) (.fr (.own .fz), M1)
  | x, .dc k e t it c own => val3 fun p M => (dcA p).bind fun q => ((chk3 x it).i q.1.tg q.1.iter M).bind fun M1 =>
    grd (lcOk x t own q.1 M1) () |>.bind fun _ => (condA (chk3 (inner x q.1.scope) c).t (isNil c) q.1.ifs (setFz t M1)).bind fun _ =>
    ((chk3 (inner x q.1.scope) k).e q.2 (setFz t M1)).bind fun r1 => ((chk3 (inner x q.1.scope) e).e q.1.elt (setFz t M1)).bind fun r => grd (decide (r1 = (.sh, setFz t M1)) && decide (r = (.sh, setFz t M1))) (.fr (.own .fz), M1)
  | x, .dsp k e => val3 fun p M => (dspA k p).bind fun v => ((chk3 x e).e v M).bind fun r => grd (decide (r = (.sh, M))) (.fr (.own .fz), M)
  | x, .nil => ⟨fun _ _ => none, fun _ _ => none, fun _ as M => match as with
    | [] => some M
    | _ => none, fun _ _ _ => none⟩
  | x, .cons e es => ⟨fun _ _ => none, fun _ _ => none, fun k as M => match as with
    | a :: r => ((chk3 x e).e a M).bind fun p => ((chk3 x es).s k r p.2).bind fun M2 => grd (nst a && bokX k p.1 e M2 (isNil es)) M2
    | [] => none, fun _ _ _ => none⟩
abbrev chk (x : Sx) (ex : Ex) := (chk3 x ex).e
end Nc

set_option Elab.async false
set_option linter.all false
set_option autoImplicit false
set_option maxRecDepth 100000
set_option maxHeartbeats 4000000
/-! What a def promises. -/
namespace Nc
open PySem PySem.Spec PyProof.Rows L2

abbrev XrT := Str → List D → Value → Option Addr → Fz → Hp → Prop
/-- arguments: As what those to be changed hold, AA all of it -/
inductive ArgR (c : Cn) (F : Fz) (H : Hp) (AA : List Addr) : List Pm → List V → List D → List (List Addr) → Prop where
  | nil : ArgR c F H AA [] [] [] []
  | fz {ps v d vs ds As} (h : Rep c.cl F H v d) (r : ArgR c F H AA ps vs ds As) : ArgR c F H AA (.fz :: ps) (v :: vs) (d :: ds) As
  | bo {ps v d vs ds As B} (h : R1 c F H v d B) (n : Dis B AA) (r : ArgR c F H AA ps vs ds As) : ArgR c F H AA (.bo :: ps) (v :: vs) (d :: ds) As
  | io {ps m v d vs ds As A} (h : Own c F H m v d A) (n : Dis A As.flatten) (nf : ∀ a ∈ A, ¬ F a) (r : ArgR c F H AA ps vs ds As) : ArgR c F H AA (.io m :: ps) (v :: vs) (d :: ds) (A :: As)
/-- what those hold behind -/
inductive IoR (c : Cn) (F : Fz) (H : Hp) : List Pm → List V → List D → List (List Addr) → Prop where
  | nil : IoR c F H [] [] [] []
  | fz {ps v vs ds As} (r : IoR c F H ps vs ds As) : IoR c F H (.fz :: ps) (v :: vs) ds As
  | bo {ps v vs ds As} (r : IoR c F H ps vs ds As) : IoR c F H (.bo :: ps) (v :: vs) ds As
  | io {ps m v d vs ds As A} (h : Own c F H m v d A) (n : Dis A As.flatten) (r : IoR c F H ps vs ds As) : IoR c F H (.io m :: ps) (v :: vs) (d :: ds) (A :: As)
/-- a call's end -/
structure PostR (c : Cn) (F : Fz) (H : Hp) (AA : List Addr) (ps : List Pm) (vs : List V) (ios : List D) (F' : Fz) (H' : Hp) (As : List (List Addr)) : Prop where
  kp : Kp F H F' H'
  fk : Fok F' H'
  f1 : ∀ a, F' a → F a ∨ H a = none
  keep : ∀ a o, H a = some o → a ∉ AA → H' a = some o
  st : ∀ a ∈ AA, H' a ≠ none
  io : IoR c F' H' ps vs ios As
  ow : ∀ a ∈ As.flatten, ¬ F' a ∧ (H a = none ∨ a ∈ AA)
def ResR (c : Cn) (H : Hp) (m : Mk) (F' : Fz) (H' : Hp) (As : List (List Addr)) (v : V) (d : D) : Prop :=
  if m = .fz then Rep c.cl F' H' v d else ∃ B, Own c F' H' m v d B ∧ Dis B As.flatten ∧ ∀ a ∈ B, ¬ F' a ∧ H a = none
def spF (c : Cn) (Xr : XrT) (s : Sig) (f : List D → Option Out) : Sp := fun vs H Q E => ∃ F ds As, Fok F H ∧ ArgR c F H As.flatten s.ps vs ds As ∧ (match f ds with
  | some (.val d ios) => ∀ v F' H' As', PostR c F H As.flatten s.ps vs ios F' H' As' → ResR c H s.res F' H' As' v d → Q v H'
  | some (.exc k xs ios) => ∀ cls dx F' H' As', PostR c F H As.flatten s.ps vs ios F' H' As' → Xr k xs cls dx F' H' → E cls dx H'
  | none => False)
theorem ArgR.len {c : Cn} {F : Fz} {H : Hp} {AA : List Addr} : ∀ {ps : List Pm} {vs : List V} {ds : List D} {As : List (List Addr)}, ArgR c F H AA ps vs ds As → vs.length = ps.length
  | _, _, _, _, .nil => rfl
  | _, _, _, _, .fz h r => by simp [r.len]
  | _, _, _, _, .bo h n r => by simp [r.len]
  | _, _, _, _, .io h n nf r => by simp [r.len]
theorem spF_len {c : Cn} {Xr : XrT} {s : Sig} {f : List D → Option Out} {vs : List V} {H : Hp} {Q : VK} {E : XK} (h : spF c Xr s f vs H Q E) : vs.length = s.ps.length := let ⟨_, _, _, _, r, _⟩ := h; r.len
end Nc

set_option Elab.async false
set_option linter.all false
set_option autoImplicit false
set_option maxRecDepth 100000
set_option maxHeartbeats 4000000
/-! Soundness: expressions. -/
namespace Nc
open PySem PySem.Spec PyProof.Rows L2

/-! ### less known -/
def Le (M M' : Ms) : Prop := M.length = M'.length ∧ ∀ (i : Nat) (m : Md), M[i]? = some m → m = .un ∨ M'[i]? = some m
theorem Le.refl (M : Ms) : Le M M := ⟨rfl, fun _ _ h => .inr h⟩
theorem Le.trans {A B C : Ms} (a : Le A B) (b : Le B C) : Le A C := ⟨a.1.trans b.1, fun i m h => (a.2 i m h).elim .inl fun h => b.2 i m h⟩
theorem leM_ok : ∀ {M M' : Ms}, leM M M' = true → Le M M'
  | [], [], _ => Le.refl _
  | a :: M, b :: M', h => by
    unfold leM at h
    rw [Bool.and_eq_true, Bool.or_eq_true, decide_eq_true_eq, decide_eq_true_eq] at h
    obtain ⟨h1, h2⟩ := h
    obtain ⟨l, k⟩ := leM_ok h2
    refine ⟨by simp [l], fun i m e => ?_⟩
    cases i with
    | zero =>
      simp at e
      subst e
      rcases h1 with h1 | h1
      · exact .inl h1
      · exact .inr (by simp [h1])
    | succ i => exact k i m (by simpa using e)
  | [], _ :: _, h => by cases h
  | _ :: _, [], h => by cases h
theorem exM_get (M : Ms) (i : Nat) : (exM M)[i]? = (M[i]?).map exm1 := by unfold exM; rw [List.getElem?_map]
theorem exM_len (M : Ms) : (exM M).length = M.length := by unfold exM; rw [List.length_map]
theorem exM_le (M : Ms) : Le (exM M) M := ⟨exM_len M, fun i m h => by
  rw [exM_get] at h
  obtain ⟨a, h1, h2⟩ := Option.map_eq_some_iff.mp h
  unfold exm1 at h2
  split at h2
  · exact .inr (by rw [h1, h2])
  · exact .inl h2.symm
  · exact .inr (by rw [h1, h2])⟩
section
variable {c : Cn} {n : En} {F F' : Fz} {M M' : Ms} {σ : L2.St} {H H' : Hp} {δ : Env} {A : Nat → List Addr}
theorem RX.weak (r : RX c n F M' σ H δ A) (l : Le M M') : RX c n F M σ H δ (fun i => if (M[i]?).getD .un = .un then [] else A i) := by
  have sub : ∀ i a, a ∈ (if (M[i]?).getD .un = .un then [] else A i) → a ∈ A i := fun i a h => by
    by_cases e : (M[i]?).getD .un = .un
    · rw [if_pos e] at h; cases h
    · rw [if_neg e] at h; exact h
  refine ⟨r.ls.trans l.1.symm, r.ld.trans l.1.symm, fun i m h => ?_, fun i h => by rw [h]; rfl, fun i j ne a h1 h2 => r.dj i j ne a (sub i a h1) (sub j a h2), fun i a h => r.ow i a (sub i a h), fun i k y h hy a ha => ?_, r.kp, r.st, r.fk, r.f0, r.f1⟩
  · by_cases e : m = .un
    · subst e
      rw [h]
      exact rfl
    · rcases l.2 i m h with h' | h'
      · exact absurd h' e
      · have q := r.sl i m h'
        rw [h, if_neg (by exact e)]
        exact q
  · rcases l.2 i _ h with h' | h'
    · cases h'
    · exact r.fr i k y h' hy a (sub i a ha)
theorem RS.weak (r : RS c n F M' σ H δ) (l : Le M M') : RS c n F M σ H δ := let ⟨_, x⟩ := r; ⟨_, x.weak l⟩
end

/-! ### what is wanted behind -/
def RsT (ex : Ex) (ty : Ty) (c : Cn) (n : En) (F : Fz) (M : Ms) (σ : L2.St) (H : Hp) (δ : Env) (v : V) (d : D) : Prop := ∃ A, RX c n F M σ H δ A ∧ match ty with
  | .sh => Rep c.cl F H v d ∧ isB ex = false
  | .fr m => ∃ B, Own c F H m v d B ∧ (∀ i, Dis (A i) B) ∧ ∀ a ∈ B, ¬ F a ∧ n.H0 a = none
  | .bo => ∃ i, ex = .b i ∧ σ[i]? = some (some v)
  | .bp => isB ex = false ∧ ∃ B, R1 c F H v d B
inductive RawL (c : Cn) (F : Fz) (σ : L2.St) (H : Hp) (δ : Env) : Ex → List V → List D → Prop where
  | nil : RawL c F σ H δ .nil [] []
  | sh {e es v d vs ds} (b : isB e = false) (h : Rep c.cl F H v d) (r : RawL c F σ H δ es vs ds) : RawL c F σ H δ (.cons e es) (v :: vs) (d :: ds)
  | bo {i es v d vs ds} (h : σ[i]? = some (some v)) (h2 : ∀ z, δ[i]? = some (some z) → d = z) (r : RawL c F σ H δ es vs ds) : RawL c F σ H δ (.cons (.b i) es) (v :: vs) (d :: ds)
def RsL (k : Kn) (ex : Ex) (c : Cn) (F : Fz) (σ : L2.St) (H : Hp) (δ : Env) (vs : List V) (ds : List D) : Prop := match k with
  | .kept => RepL c.cl F H vs ds
  | .bor => R1L c F H vs ds
  | .raw => RawL c F σ H δ ex vs ds
section
variable (c : Cn) (n : En) (Xr : XrT) (W : WX)
/-- what an exception's way out asks -/
def PoX (M : Ms) (σ : L2.St) (F : Fz) (H : Hp) (k : Str) (ds : List D) (δ' : Env) : Prop := ∀ cls dx H' F', Kp F H F' H' → RS c n F' (exM M) σ H' δ' → Xr k ds cls dx F' H' → W cls dx σ H'
def PoE (M M' : Ms) (ex : Ex) (ty : Ty) (σ : L2.St) (F : Fz) (H : Hp) (r : R D) (Q : VK) : Prop := match r with
  | .no => False
  | .ok d δ' => ∀ v H' F', Kp F H F' H' → RsT ex ty c n F' M' σ H' δ' v d → Q v H'
  | .ex k ds δ' => PoX c n Xr W M σ F H k ds δ'
def PoT (M M' : Ms) (σ : L2.St) (F : Fz) (H : Hp) (r : R Bool) (Q : Bool → Hp → Prop) : Prop := match r with
  | .no => False
  | .ok z δ' => ∀ H' F', Kp F H F' H' → RS c n F' M' σ H' δ' → Q z H'
  | .ex k ds δ' => PoX c n Xr W M σ F H k ds δ'
def PoL (kp : Kn) (ex : Ex) (M M' : Ms) (σ : L2.St) (F : Fz) (H : Hp) (r : R (List D)) (Q : List V → Hp → Prop) : Prop := match r with
  | .no => False
  | .ok ds δ' => ∀ vs H' F', Kp F H F' H' → RS c n F' M' σ H' δ' → RsL kp ex c F' σ H' δ' vs ds → Q vs H'
  | .ex k ds δ' => PoX c n Xr W M σ F H k ds δ'
end
/-- how many arguments an exception class takes -/
def exN : Option Str → Nat
  | none => 0
  | some _ => 1
/-- the text of an exception's making -/
def rsA (x : Sx) (k : Str) : Expr → Option (List Expr)
  | .Call (.Name m _) es [] _ => grd (decide (m = k) && (gl x k && ((k == ("__debug__" : Str)) == false && (match x.ex k with | some f => decide (es.length = exN f) | none => false)))) es
  | _ => none
/-- does a clause for h catch k -/
def xmD (k h : Str) : Bool := decide (k = h) || decide (h = "CastError")
/-- is an exception of k one of h -/
def xmV (k h : Str) : Bool := decide (k = h) || decide (h = "ValueError")
/-- an exception's dict -/
def ErO (H : Hp) (dx : Option Addr) : Prop := dx = none ∨ ∃ dd fs, dx = some dd ∧ H dd = some (.xd fs)
/-- a def that tells of which classes an exception is, called in a suite -/
def KdOk (P : Program) (w : World) (K : PySem.W.Frag) (mg : Str → Option Value) (base : Heap) (c : Cn) (ks : List Str) (f : Addr) : Prop :=
  ∀ (A : Around) (outer : List PySem.Env) (s : Shared) (H : Hp) (p : Addr × Obj) (kk : Str) (C : Addr) (dx : Option Addr) (Q : VK), L2H.RoomH 2 A → L2H.PinOk outer H s p → Env0 P w K mg base A outer s H → Zc (.ref C) dx p.2 → (∃ us, p.2.data = .fields us) → c.xl kk = some C → ErO H dx →
    (∀ q H', Ext H H' → H q = none → H' q = some (.lst (ks.map fun h => .bl (xmV kk h))) → Q (.ref q) H') → codeAny (model P w) A (.call (.ref f) ⟨[.ref p.1], []⟩) (CR (CX P w) outer P w H s Q fun _ _ _ => False) s
/-- what is called, what is constant -/
structure GtP (X : Cx) (x : Sx) (c : Cn) (T : Tb) (Xr : XrT) (W : WX) : Prop where
  att : ∀ k C f, c.cl k = some C → x.ats.contains f = true → Cls X.K C ∧ NoAttr X.K C f
  cal : ∀ f s, x.sg f = some s → ∀ e as, kfA x f e = some as → as.all nst = true →
    (∀ σ H Q, SEs X as σ H (fun vs H1 => spF c Xr s (T.fn f) vs H1 Q fun cls d H2 => W cls d σ H2) → SE X e σ H Q) ∧
    (isCK f = true → ∀ σ H (Q : Bool → Hp → Prop), SEs X as σ H (fun vs H1 => spF c Xr s (T.fn f) vs H1 (fun v H2 => ∃ k, v = .bl k ∧ Q k H2) fun cls d H2 => W cls d σ H2) → ST X e σ H Q)
  met : ∀ k m s, T.sg (.cm k m) = some s → ∀ e o as, metA m e = some (o, as) → as.all nst = true → ∀ σ H Q,
    SE X o σ H (fun v H1 => ∃ a C dx gs, c.cl k = some C ∧ v = .ref a ∧ H1 a = some (.ins C dx gs) ∧ gs.lookup m = none ∧ SEs X as σ H1 (fun vs H2 => spF c Xr s (T.fn (.cm k m)) (v :: vs) H2 Q fun cls d H3 => W cls d σ H3)) → SE X e σ H Q
  bm : ∀ b s, x.sg (.bi b) = some s → ∀ e o as, bmA b e = some (o, as) → as.all nst = true → ∀ σ H Q,
    SE X o σ H (fun v H1 => (∃ F d A, R1 c F H1 v d A ∧ bmT b d = true) ∧ SEs X as σ H1 (fun vs H2 => spF c Xr s (T.fn (.bi b)) (v :: vs) H2 Q fun cls d H3 => W cls d σ H3)) → SE X e σ H Q
  rse : ∀ k e es, rsA x k e = some es → es.all nst = true → ∀ pos σ H D, SEs X es σ H (fun vs H1 => ∃ F ds, Fok F H1 ∧ RepL c.cl F H1 vs ds ∧ ∀ cls dx H2, Ext H1 H2 → Xr k ds cls dx F H2 → W cls dx σ H2) → SS X (.Raise (some e) none pos) D σ H
  xc : ∀ h f, x.ex h = some f → ∃ C, c.xl h = some C ∧ X.mg h = some (.ref C)
  xm : ∀ k h f C ds cls dx F H, x.ex h = some f → c.xl h = some C → Xr k ds cls dx F H → PySem.W.exmOne X.K cls (.ref C) = some (xmD k h)
  xf : ∀ k f C, x.ex k = some (some f) → c.xl k = some C → XfC X.K C ∧ PySem.W.findIn X.K (.ref C) f = some none
  xv : ∀ k f d C cls dx F H, x.ex k = some (some f) → c.xl k = some C → Xr k [d] cls dx F H → cls = .ref C ∧ ∃ dd v fs, dx = some dd ∧ H dd = some (.xd fs) ∧ fs.lookup f = some v ∧ Rep c.cl F H v d
  gc : ∀ k d, T.gc k = some d → ∃ v u, X.mg k = some u ∧ RelV v u ∧ ∀ F H, Rep c.cl F H v d
  kd : ∀ f ks s, x.sg (.knd f ks) = some s → ∃ fa : Addr, X.mg f = some (.ref fa) ∧ PySem.W.keepIn X.K (.ref fa) = true ∧ L2H.RoomH 2 X.A ∧ KdOk X.prog X.w X.K X.mg X.base c ks fa
  xk : ∀ k ds cls dx F H, Xr k ds cls dx F H → ∃ C, c.xl k = some C ∧ cls = .ref C ∧ ErO H dx
/-- a good context -/
structure Gx (X : Cx) (x : Sx) (c : Cn) (T : Tb) (Xr : XrT) (W : WX) : Prop where
  gn : Gn X x
  inj : ∀ k l C, c.cl k = some C → c.cl l = some C → k = l
  tk : Takes X W
  sgs : ∀ f s, x.sg f = some s → T.sg f = some s
  gt : ∀ X' x' W', X'.prog = X.prog → X'.w = X.w → X'.K = X.K → X'.mg = X.mg → X'.base = X.base → X'.A = X.A → Gn X' x' → Takes X' W' → x'.sg = x.sg → x'.ats = x.ats → x'.ex = x.ex → GtP X' x' c T Xr W'
section
variable {X : Cx} {x : Sx} {c : Cn} {T : Tb} {Xr : XrT} {W : WX}
theorem Gx.all (g : Gx X x c T Xr W) : GtP X x c T Xr W := g.gt X x W rfl rfl rfl rfl rfl rfl g.gn g.tk rfl rfl rfl
theorem Gx.att (g : Gx X x c T Xr W) : ∀ k C f, c.cl k = some C → x.ats.contains f = true → Cls X.K C ∧ NoAttr X.K C f := g.all.att



end
/-- sound -/
structure Snd (c : Cn) (T : Tb) (Xr : XrT) (x : Sx) (ex : Ex) : Prop where
  e : ∀ e M ty M', (chk3 x ex).e e M = some (ty, M') → Le (exM M) (exM M') ∧ ∀ n, n.Ok → ∀ X W, Gx X x c T Xr W → ∀ σ H δ F Q, RS c n F M σ H δ → PoE c n Xr W M M' ex ty σ F H (ev T ex δ) Q → SE X e σ H Q
  t : ∀ e M M', (chk3 x ex).t e M = some M' → Le (exM M) (exM M') ∧ ∀ n, n.Ok → ∀ X W, Gx X x c T Xr W → ∀ σ H δ F Q, RS c n F M σ H δ → PoT c n Xr W M M' σ F H (evt T ex δ) Q → ST X e σ H Q
  s : ∀ k es M M', (chk3 x ex).s k es M = some M' → (Le (exM M) (exM M') ∧ es.all nst = true) ∧ ∀ n, n.Ok → ∀ X W, Gx X x c T Xr W → ∀ σ H δ F Q, RS c n F M σ H δ → PoL c n Xr W k ex M M' σ F H (evs T ex δ) Q → SEs X es σ H Q

section
variable {c : Cn} {n : En} {T : Tb} {Xr : XrT} {x : Sx} {X : Cx} {W : WX} {F F' : Fz} {M M' M1 M2 : Ms} {σ : L2.St} {H H' H1 : Hp} {δ δ' : Env} {ex : Ex} {ty : Ty} {e : Expr}
/-- from a later state -/
theorem PoX.back {k : Str} {ds : List D} (h : PoX c n Xr W M σ F H k ds δ) (kp : Kp F H F' H') (l : Le (exM M) (exM M')) : PoX c n Xr W M' σ F' H' k ds δ :=
  fun cls dx H2 F2 k2 r2 z => h cls dx H2 F2 (kp.trans k2) (r2.weak l) z
theorem RsT.rs {v : V} {d : D} (h : RsT ex ty c n F M σ H δ v d) : RS c n F M σ H δ := let ⟨A, r, _⟩ := h; ⟨A, r⟩
theorem RsT.sh {v : V} {d : D} (h : RsT ex .sh c n F M σ H δ v d) : Rep c.cl F H v d := let ⟨A, _, r⟩ := h; r.1
theorem RsT.mk {v : V} {d : D} (h : RS c n F M σ H δ) (r : Rep c.cl F H v d) (b : isB ex = false) : RsT ex .sh c n F M σ H δ v d := let ⟨A, q⟩ := h; ⟨A, q, r, b⟩
/-- a chain of two -/
theorem bndE {α : Type} {r : R α} {f : α → Env → R D} {Q : VK} (h : PoE c n Xr W M M' ex ty σ F H (r.bnd f) Q) :
    match r with
    | .no => False
    | .ok a δ' => PoE c n Xr W M M' ex ty σ F H (f a δ') Q
    | .ex k ds δ' => PoX c n Xr W M σ F H k ds δ' := by
  cases r <;> exact h
end
end Nc

set_option Elab.async false
set_option linter.all false
set_option autoImplicit false
set_option maxRecDepth 100000
set_option maxHeartbeats 4000000
/-! Soundness: the cases of expressions. -/
namespace Nc
open PySem PySem.Spec PyProof.Rows L2

theorem grd_some {b : Bool} {α : Type} {a r : α} (h : grd b a = some r) : b = true ∧ a = r := by
  unfold grd at h
  split at h
  · exact ⟨by assumption, Option.some.inj h⟩
  · cases h
theorem plainT_eq {e : Expr} (h : plainT e = true) (env : PySem.Env) (w : Sem Value) : isTrue e env w = (do let v ← w; standAt e.pos; holding [v] (truthy v)) := by
  cases e with
  | UnaryOp op a pos => cases op <;> first | rfl | (cases h)
  | _ => first | rfl | (cases h)
section
variable {c : Cn} {n : En} {T : Tb} {Xr : XrT} {x : Sx} {X : Cx} {W : WX} {F F' : Fz} {M M' M1 M2 : Ms} {σ : L2.St} {H H' H1 : Hp} {δ δ' : Env} {ex : Ex} {ty : Ty} {e : Expr}
theorem tru_R1 {K : PySem.W.Frag} {v : V} {d : D} {z : Bool} {A : List Addr} (h : R1 c F H v d A) (e : trD d = some z) : TruV K v H z := by
  cases d with
  | non => rw [h.non]; cases e; rfl
  | bl b => rw [h.bl]; cases e; rfl
  | int b => rw [h.int]; cases e; rfl
  | str b =>
    rw [h.str.1]; cases e
    refine ⟨by rw [str_len]; exact h.str.2, ?_⟩
    rw [str_len]
    cases b <;> simp
    omega
  | tup b =>
    obtain ⟨a, vs, e1, e2, e3⟩ := h.tup; rw [e1]; cases e
    refine .inr (.inl ⟨vs, SqT.of e2, ?_⟩)
    cases e3 <;> rfl
  | lst b =>
    obtain ⟨a, vs, e1, e2, e3⟩ := h.lst; rw [e1]; cases e
    refine .inl ⟨vs, .inl e2, ?_⟩
    cases e3 <;> rfl
  | dct b => cases e
  | ins k b => cases e
/-- what a value is, borrowed, when it is looked at -/
theorem RsT.r1 {v : V} {d : D} (h : RsT ex ty c n F M σ H δ v d) (ok : n.Ok) (hb : bokX .bor ty ex M true = true) : ∃ A, R1 c F H v (rsv ex d δ) A := by
  obtain ⟨A, r, q⟩ := h
  cases ty with
  | sh =>
    obtain ⟨q, hb⟩ := q
    refine ⟨[], ?_⟩
    have e : rsv ex d δ = d := by cases ex <;> first | rfl | (cases hb)
    rw [e]
    exact R1.of q
  | fr m => cases hb
  | bp =>
    obtain ⟨hb, B, q⟩ := q
    refine ⟨B, ?_⟩
    have e : rsv ex d δ = d := by cases ex <;> first | rfl | (cases hb)
    rw [e]
    exact q
  | bo =>
    obtain ⟨i, rfl, hv⟩ := q
    have hb' : rdb (gm M i) = true := by simpa [bokX] using hb
    unfold gm at hb'
    cases hm : M[i]? with
    | none => rw [hm] at hb'; cases hb'
    | some m =>
      rw [hm] at hb'
      obtain ⟨v', d', B, h1, h2, h3⟩ := RS.getB ⟨A, r⟩ ok hm hb'
      rw [hv] at h1
      cases h1
      exact ⟨B, by show R1 c F H v (((δ[i]?).getD none).getD d) B; rw [h2]; exact h3⟩
/-- an expression whose own test is its truth -/
theorem snd_val {f : Expr → Ms → Option (Ty × Ms)} (hf : chk3 x ex = val3 f) (hv : (ev3 T ex).t = tru ex (ev T ex)) (hs : ∀ e M ty M', f e M = some (ty, M') → ty = .bo → bokX .bor ty ex M' true = true)
    (he : ∀ e M ty M', f e M = some (ty, M') → Le (exM M) (exM M') ∧ ∀ n, n.Ok → ∀ X W, Gx X x c T Xr W → ∀ σ H δ F Q, RS c n F M σ H δ → PoE c n Xr W M M' ex ty σ F H (ev T ex δ) Q → SE X e σ H Q) : Snd c T Xr x ex := by
  refine ⟨by rw [hf]; exact he, fun e M M' h => ?_, fun k es M M' h => by rw [hf] at h; cases h⟩
  rw [hf] at h
  obtain ⟨p, h1, h2⟩ := Option.bind_eq_some_iff.mp (show (f e M).bind (fun p => grd (plainT e && !isFr p.1) p.2) = some M' from h)
  obtain ⟨ty, M1⟩ := p
  obtain ⟨h3, h4⟩ := grd_some h2
  obtain rfl : M1 = M' := h4
  rw [Bool.and_eq_true] at h3
  obtain ⟨l, k⟩ := he e M ty M1 h1
  refine ⟨l, fun n ok X W g σ H δ F Q r po => ?_⟩
  have hb : bokX .bor ty ex M1 true = true := by
    cases ty with
    | sh => rfl
    | fr m => exact absurd (show false = true from h3.2) (fun z => nomatch z)
    | bp => rfl
    | bo => exact hs e M .bo M1 h1 rfl
  refine ST.of (pt_truth pe_S (plainT_eq h3.1 _)) (k n ok X W g σ H δ F _ r ?_)
  rw [show evt T ex = tru ex (ev T ex) from hv] at po
  unfold tru at po
  cases hr : ev T ex δ with
  | no => rw [hr] at po; exact po
  | ex kk ds δ' => rw [hr] at po; exact po
  | ok d δ' =>
    rw [hr] at po
    intro v H' F' kp rt
    have po' : PoT c n Xr W M M1 σ F H (match trD (rsv ex d δ') with | some z => .ok z δ' | none => .no) Q := po
    obtain ⟨A, r1⟩ := rt.r1 ok hb
    cases ht : trD (rsv ex d δ') with
    | none => rw [ht] at po'; exact po'.elim
    | some z =>
      rw [ht] at po'
      exact ⟨z, tru_R1 r1 ht, po' H' F' kp rt.rs⟩
/-! ### freezing -/
mutual
theorem own_nd : ∀ {m v d A}, Own c F H m v d A → A.Nodup
  | _, _, _, _, .fz r => List.nodup_nil
  | _, _, _, _, .lst h r n => List.nodup_cons.mpr ⟨n, ownL_nd r⟩
  | _, _, _, _, .dct h r n => List.nodup_cons.mpr ⟨n, ownK_nd r⟩
  | _, _, _, _, .ins hm hc h r n => List.nodup_cons.mpr ⟨n, ownA_nd r⟩
theorem ownL_nd : ∀ {m v d A}, OwnL c F H m v d A → A.Nodup
  | _, _, _, _, .nil => List.nodup_nil
  | _, _, _, _, .cons h r n => List.nodup_append.mpr ⟨own_nd h, ownL_nd r, fun a ha b hb e => n a ha (e ▸ hb)⟩
theorem ownK_nd : ∀ {m v d A}, OwnK c F H m v d A → A.Nodup
  | _, _, _, _, .nil => List.nodup_nil
  | _, _, _, _, .cons _ h r n => List.nodup_append.mpr ⟨own_nd h, ownK_nd r, fun a ha b hb e => n a ha (e ▸ hb)⟩
theorem ownA_nd : ∀ {m v d A}, OwnA c F H m v d A → A.Nodup
  | _, _, _, _, .nil => List.nodup_nil
  | _, _, _, _, .cons h r n => List.nodup_append.mpr ⟨own_nd h, ownA_nd r, fun a ha b hb e => n a ha (e ▸ hb)⟩
end
def isDK : Option HO → Bool
  | some (.dK _) => true
  | _ => false
/-- the dicts of L are locked -/
def Lk (L : List Addr) (H H' : Hp) : Prop := (∀ a ∈ L, ∃ o u, H a = some u ∧ H' a = some (.frz o u)) ∧ ∀ a, a ∉ L → H' a = H a
theorem lk_inv {X : Cx} {pins : List (Addr × Obj)} {s : Shared} : ∀ (L : List Addr) (H : Hp), L.Nodup → (∀ a ∈ L, ∃ u, H a = some u ∧ Mut (some u)) → Inv X pins σ H s → ∃ H', Lk L H H' ∧ Inv X pins σ H' s
  | [], H, _, _, I => ⟨H, ⟨fun _ h => (nomatch h), fun _ _ => rfl⟩, I⟩
  | a :: L, H, nd, h, I => by
    obtain ⟨na, nd⟩ := List.nodup_cons.mp nd
    obtain ⟨u, e, mu⟩ := h a List.mem_cons_self
    obtain ⟨od, I1⟩ := I.lock e mu
    obtain ⟨H', ⟨l1, l2⟩, I2⟩ := lk_inv L (upd H a (.frz od u)) nd (fun b hb => by
      obtain ⟨w, e', m⟩ := h b (List.mem_cons_of_mem _ hb)
      exact ⟨w, by rw [upd_ne (show b ≠ a from fun z => na (z ▸ hb))]; exact e', m⟩) I1
    refine ⟨H', ⟨fun b hb => ?_, fun b hb => ?_⟩, I2⟩
    · rcases List.mem_cons.mp hb with rfl | hb
      · exact ⟨od, u, e, by rw [l2 b na, upd_same]⟩
      · obtain ⟨o, w, e1, e2⟩ := l1 b hb
        rw [upd_ne (show b ≠ a from fun z => na (z ▸ hb))] at e1
        exact ⟨o, w, e1, e2⟩
    · rw [List.mem_cons, not_or] at hb
      rw [l2 b hb.2, upd_ne hb.1]
theorem SE.lk {Q : VK} (h : SE X e σ H (fun v H1 => ∃ L : List Addr, L.Nodup ∧ (∀ a ∈ L, ∃ u, H1 a = some u ∧ Mut (some u)) ∧ ∀ H2, Lk L H1 H2 → Q v H2)) : SE X e σ H Q := fun pins s I =>
  thn (h pins s I) fun u s' ⟨v, H1, I1, r, L, nd, hm, q⟩ => by
    obtain ⟨H2, l, I2⟩ := lk_inv L H1 nd hm I1
    exact ⟨v, H2, I2, r, q H2 l⟩
/-- what is frozen of an owned thing -/
structure Frzn (A : List Addr) (F : Fz) (H : Hp) (F' : Fz) (H' : Hp) : Prop where
  kp : Kp F H F' H'
  inF : ∀ a ∈ A, F' a
  dk : ∀ a ∈ A, ∀ ks, H a = some (.dK ks) → ∃ o, H' a = some (.frz o (.dK ks))
  ot : ∀ a ∈ A, ∀ u, H a = some u → isDK (some u) = false → H' a = some u
theorem Frzn.sub {A B : List Addr} (f : Frzn A F H F' H') (h : ∀ a ∈ B, a ∈ A) : Frzn B F H F' H' := ⟨f.kp, fun a z => f.inF a (h a z), fun a z => f.dk a (h a z), fun a z => f.ot a (h a z)⟩
mutual
theorem own_rep : ∀ {m v d A}, Own c F H m v d A → Frzn A F H F' H' → Rep c.cl F' H' v d
  | _, _, _, _, .fz r, f => r.mono f.kp
  | _, _, _, _, .lst h r n, f => .lst (f.inF _ List.mem_cons_self) (.inl (f.ot _ List.mem_cons_self _ h rfl)) (ownL_rep r (f.sub fun _ z => List.mem_cons_of_mem _ z))
  | _, _, _, _, .dct h r n, f => let ⟨o, e⟩ := f.dk _ List.mem_cons_self _ h; .dct (f.inF _ List.mem_cons_self) e (ownK_rep r (f.sub fun _ z => List.mem_cons_of_mem _ z))
  | _, _, _, _, .ins hm hc h r n, f => .ins (f.inF _ List.mem_cons_self) hc (f.ot _ List.mem_cons_self _ h rfl) (ownA_rep r (f.sub fun _ z => List.mem_cons_of_mem _ z))
theorem ownL_rep : ∀ {m v d A}, OwnL c F H m v d A → Frzn A F H F' H' → RepL c.cl F' H' v d
  | _, _, _, _, .nil, f => .nil
  | _, _, _, _, .cons h r n, f => .cons (own_rep h (f.sub fun _ z => List.mem_append_left _ z)) (ownL_rep r (f.sub fun _ z => List.mem_append_right _ z))
theorem ownK_rep : ∀ {m v d A}, OwnK c F H m v d A → Frzn A F H F' H' → RepK c.cl F' H' v d
  | _, _, _, _, .nil, f => .nil
  | _, _, _, _, .cons hk h r n, f => .cons hk (own_rep h (f.sub fun _ z => List.mem_append_left _ z)) (ownK_rep r (f.sub fun _ z => List.mem_append_right _ z))
theorem ownA_rep : ∀ {m v d A}, OwnA c F H m v d A → Frzn A F H F' H' → RepA c.cl F' H' v d
  | _, _, _, _, .nil, f => .nil
  | _, _, _, _, .cons h r n, f => .cons (own_rep h (f.sub fun _ z => List.mem_append_left _ z)) (ownA_rep r (f.sub fun _ z => List.mem_append_right _ z))
end
/-- the dicts among owned addresses -/
def dks (H : Hp) (B : List Addr) : List Addr := B.filter fun a => isDK (H a)
theorem frzn_of {B : List Addr} (hB : ∀ a ∈ B, ¬ F a ∧ ∃ o, H a = some o ∧ Ok1 o) (fk : Fok F H) (l : Lk (dks H B) H H') : Frzn B F H (fun a => a ∈ B ∨ F a) H' := by
  have out : ∀ a, a ∉ B → H' a = H a := fun a h => l.2 a fun z => h (List.mem_filter.mp z).1
  refine ⟨⟨fun a h => .inr h, fun a h => out a fun z => (hB a z).1 h, fun a xs h => ?_⟩, fun a h => .inl h, fun a h ks e => ?_, fun a h u e k => ?_⟩
  · refine (out a fun z => ?_).trans h
    obtain ⟨_, o, e, k⟩ := hB a z
    rw [h] at e
    exact k.nt xs (Option.some.inj e).symm
  · obtain ⟨o, u, e1, e2⟩ := l.1 a (List.mem_filter.mpr ⟨h, by rw [e]; rfl⟩)
    rw [e] at e1
    cases e1
    exact ⟨o, e2⟩
  · rw [l.2 a (fun z => ?_)]
    · exact e
    · have := (List.mem_filter.mp z).2
      rw [e, k] at this
      cases this
theorem fok_frz {B : List Addr} (hB : ∀ a ∈ B, ¬ F a ∧ ∃ o, H a = some o ∧ Ok1 o) (fk : Fok F H) (l : Lk (dks H B) H H') : Fok (fun a => a ∈ B ∨ F a) H' := fun a h => by
  by_cases z : a ∈ dks H B
  · obtain ⟨o, u, _, e⟩ := l.1 a z
    exact ⟨_, e⟩
  · rw [l.2 a z]
    rcases h with h | h
    · obtain ⟨_, o, e, _⟩ := hB a h; exact ⟨o, e⟩
    · exact fk a h
/-- the state behind a freezing of things that no slot holds -/
theorem RX.frz {A : Nat → List Addr} {B : List Addr} (r : RX c n F M σ H δ A) (dj : ∀ i, Dis (A i) B) (hB : ∀ a ∈ B, ¬ F a ∧ ∃ o, H a = some o ∧ Ok1 o) (h0 : ∀ a ∈ B, n.H0 a = none) (l : Lk (dks H B) H H') :
    RX c n (fun a => a ∈ B ∨ F a) M σ H' δ A := by
  have fz := frzn_of hB r.fk l
  have out : ∀ a, a ∉ B → H' a = H a := fun a h => l.2 a fun z => h (List.mem_filter.mp z).1
  refine r.step fz.kp (fun i a h => out a (dj i a h)) (fun i a h z => z.elim (dj i a h) (r.ow i a h).1) (fun a o e h => ?_) (fun a h z => ?_) (fok_frz hB r.fk l) (fun a h => h.elim (fun z => .inr (h0 a z)) (r.f1 a))
  · rw [out a (fun z => by rw [h0 a z] at e; cases e)]
    exact r.kp a o e h
  · by_cases w : a ∈ dks H B
    · obtain ⟨o, u, _, e⟩ := l.1 a w
      rw [e] at z; cases z
    · rw [l.2 a w] at z; exact r.st a h z
theorem dks_ok {B : List Addr} (nd : B.Nodup) (hB : ∀ a ∈ B, ¬ F a ∧ ∃ o, H a = some o ∧ Ok1 o) : (dks H B).Nodup ∧ ∀ a ∈ dks H B, ∃ u, H a = some u ∧ Mut (some u) :=
  ⟨nd.filter _, fun a h => by
    obtain ⟨_, o, e, k⟩ := hB a (List.mem_filter.mp h).1
    exact ⟨o, e, k.mut⟩⟩
theorem snd_cnst {p : Const → Bool} {d : D} {v : V} (hf : chk3 x ex = val3 (cnst p)) (hv : (ev3 T ex) = val1 ex (ofO (some d))) (hb : isB ex = false) (hr : ∀ F H, Rep c.cl F H v d)
    (hp : ∀ (X : Cx) k j pos, p k = true → PE X (.Constant k j pos) (tC v)) : Snd c T Xr x ex := by
  refine snd_val hf (by show (ev3 T ex).t = tru ex (ev3 T ex).e; rw [hv] <;> rfl) (fun e M ty M' h t => ?_) fun e M ty M' h => ?_
  · unfold cnst at h
    split at h
    · obtain ⟨_, h⟩ := grd_some h; cases h; cases t
    · cases h
  · unfold cnst at h
    split at h
    · rename_i k j pos
      obtain ⟨h1, h⟩ := grd_some h
      cases h
      refine ⟨Le.refl _, fun n ok X W g σ H δ F Q r po => ?_⟩
      refine SE.of (hp X k j pos h1) ?_
      rw [show ev T ex δ = .ok d δ by show (ev3 T ex).e δ = _; rw [hv] <;> rfl] at po
      exact po v H F Kp.refl (RsT.mk r (hr F H) hb)
    · cases h
theorem snd_non : Snd c T Xr x .non := snd_cnst (v := .non) rfl rfl rfl (fun _ _ => .non) fun X k j pos h => by
  cases k <;> first | exact pe_non | (cases h)
theorem snd_bl {b : Bool} : Snd c T Xr x (.bl b) := snd_cnst (v := .bl b) rfl rfl rfl (fun _ _ => .bl b) fun X k j pos h => by
  cases k with
  | bool c => obtain rfl : c = b := eq_of_beq h; exact pe_bl
  | _ => cases h
theorem intA_pe {i : Int} (X : Cx) (h : intA i e = true) : PE X e (fun σ H Q => Q (.int i) H) := by
  unfold intA at h
  split at h
  · obtain rfl := of_decide_eq_true h
    exact pe_int
  · obtain rfl := of_decide_eq_true h
    exact ⟨fun pins s σ H Q I h => (pe_un un_neg pe_int).run pins s σ H Q I ⟨_, rfl, h⟩⟩
  · cases h
theorem snd_int {i : Int} : Snd c T Xr x (.int i) := by
  refine snd_val rfl rfl (fun e M ty M' h t => ?_) fun e M ty M' h => ?_
  · obtain ⟨_, h⟩ := grd_some h; cases h; cases t
  · obtain ⟨h1, h⟩ := grd_some h
    cases h
    refine ⟨Le.refl _, fun n ok X W g σ H δ F Q r po => ?_⟩
    exact SE.of (intA_pe X h1) (po (.int i) H F Kp.refl (RsT.mk r (.int i) rfl))
theorem str_of (s : Str) : sOf s.cps.toList = s := by cases s; simp [sOf]
theorem snd_str {s : Str} : Snd c T Xr x (.str s) := by
  by_cases hl : s.cps.toList.length ≤ LIM
  · refine snd_cnst (d := .str s.cps.toList) (v := .str s) rfl (by show val1 _ (ofO (strC s)) = _; unfold strC; rw [if_pos hl]) rfl (fun _ _ => by have := Rep.str (cl := c.cl) (F := ‹_›) (H := ‹_›) s.cps.toList (by rw [lim_eq]; exact hl); rw [str_of] at this; exact this) fun X k j pos h => ?_
    cases k with
    | str z => obtain rfl : z = s := of_decide_eq_true h; exact pe_str
    | _ => cases h
  · refine snd_val rfl rfl (fun e M ty M' h t => ?_) fun e M ty M' h => ?_
    · unfold cnst at h
      split at h
      · obtain ⟨_, h⟩ := grd_some h; cases h; cases t
      · cases h
    · unfold cnst at h
      split at h
      · obtain ⟨h1, h⟩ := grd_some h
        cases h
        refine ⟨Le.refl _, fun n ok X W g σ H δ F Q r po => ?_⟩
        have e : ev T (.str s) δ = .no := by
          show ofO (if _ then _ else _) δ = _
          rw [if_neg hl] <;> rfl
        rw [e] at po
        exact po.elim
      · cases h
end
end Nc

set_option Elab.async false
set_option linter.all false
set_option autoImplicit false
set_option maxRecDepth 100000
set_option maxHeartbeats 4000000
/-! Names; things within things. -/
namespace Nc
open PySem PySem.Spec PyProof.Rows L2
section
variable {c : Cn} {n : En} {T : Tb} {Xr : XrT} {x : Sx} {X : Cx} {W : WX} {F F' : Fz} {M M' : Ms} {σ : L2.St} {H H' H1 : Hp} {δ δ' : Env} {ex : Ex} {ty : Ty} {e : Expr}
theorem nmA_inv {i : Nat} (h : nmA x i e = true) : ∃ nm pos, e = .Name nm pos ∧ x.N[i]? = some nm ∧ vis x nm = true ∧ (nm == ("__debug__" : Str)) = false ∧ (nm == ("__classdict__" : Str)) = false := by
  unfold nmA at h
  split at h
  · rename_i nm pos
    simp only [Bool.and_eq_true, decide_eq_true_eq, beq_iff_eq] at h
    exact ⟨nm, pos, rfl, h.1, h.2.1, h.2.2.1, h.2.2.2⟩
  · cases h
theorem vis_ok (g : Gn X x) {nm : Str} (h : vis x nm = true) : Vis X.env.scope nm := by
  unfold vis at h
  rw [← g.hs] at h
  unfold Vis
  cases e : X.env.scope.names.lookup nm with
  | none => rw [e] at h; cases h
  | some k =>
    rw [e] at h
    cases k with
    | «local» => exact .inl rfl
    | cell => exact .inr (.inl rfl)
    | free => exact .inr (.inr rfl)
    | _ => cases h
/-- a name read -/
theorem se_name (g : Gn X x) {i : Nat} {v : V} {Q : VK} (h : nmA x i e = true) (hv : σ[i]? = some (some v)) (q : Q v H) : SE X e σ H Q := by
  obtain ⟨nm, pos, rfl, h1, h2, h3, h4⟩ := nmA_inv h
  exact SE.of (pe_var (i := i) (by rw [g.hN]; exact h1) (vis_ok g h2) h3 h4) ⟨v, hv, q⟩
/-- a part of a list of parts: the rest, and how a changed one is put back -/
def Hol (c : Cn) (F : Fz) (H : Hp) (k : Mk) (B R : List Addr) (P : Fz → Hp → D → List Addr → Prop) : Prop := Dis B R ∧
  ∀ F' H' d' B', Kp F H F' H' → (∀ a ∈ R, H' a = H a) → ∀ v, Own c F' H' k v d' B' → Dis B' R → (∃ A', P F' H' d' A' ∧ ∀ a ∈ A', a ∈ B' ∨ a ∈ R)
theorem Dis.symm {A B : List Addr} (h : Dis A B) : Dis B A := fun a ha hb => h a hb ha
theorem ownA_at {k : Mk} {f : Str} {d : D} : ∀ {gs : List (Str × V)} {fs : List (Str × D)} {A : List Addr}, OwnA c F H k gs fs A → fs.lookup f = some d →
    ∃ v B R, gs.lookup f = some v ∧ Own c F H (atM k f) v d B ∧ (∀ a, a ∈ A ↔ a ∈ B ∨ a ∈ R) ∧ Dis B R ∧
      ∀ F' H' d' B', Kp F H F' H' → (∀ a ∈ R, H' a = H a) → Own c F' H' (atM k f) v d' B' → Dis B' R → ∃ A', OwnA c F' H' k gs (setF f d' fs) A' ∧ ∀ a ∈ A', a ∈ B' ∨ a ∈ R
  | _, _, _, .nil, e => by cases e
  | _, _, _, .cons (k := _) (f := g) (v := v) (d := y) (vs := vs) (ds := ds) (A := A) (B := B) h r nn, e => by
    rw [List.lookup_cons] at e
    by_cases z : f = g
    · subst z
      rw [beq_self_eq_true] at e
      cases e
      refine ⟨v, A, B, by rw [List.lookup_cons, beq_self_eq_true], h, fun a => List.mem_append, nn, fun F' H' d' B' kp hR o dj => ?_⟩
      refine ⟨B' ++ B, ?_, fun a => List.mem_append.mp⟩
      unfold setF
      rw [if_pos rfl]
      exact .cons o (r.mono kp hR) dj
    · rw [show (f == g) = false from beq_false_of_ne z] at e
      obtain ⟨w, B2, R2, e1, e2, e3, e4, e5⟩ := ownA_at r e
      refine ⟨w, B2, A ++ R2, by rw [List.lookup_cons, show (f == g) = false from beq_false_of_ne z]; exact e1, e2, fun a => ?_, fun a ha hb => ?_, fun F' H' d' B' kp hR o dj => ?_⟩
      · rw [List.mem_append, e3, List.mem_append]
        constructor
        · rintro (h | h | h)
          · exact .inr (.inl h)
          · exact .inl h
          · exact .inr (.inr h)
        · rintro (h | h | h)
          · exact .inr (.inl h)
          · exact .inl h
          · exact .inr (.inr h)
      · rcases List.mem_append.mp hb with hb | hb
        · exact nn a hb ((e3 a).mpr (.inl ha))
        · exact e4 a ha hb
      · obtain ⟨A', o', hA⟩ := e5 F' H' d' B' kp (fun a ha => hR a (List.mem_append_right _ ha)) o fun a ha hb => dj a ha (List.mem_append_right _ hb)
        refine ⟨A ++ A', ?_, fun a ha => ?_⟩
        · unfold setF
          rw [if_neg z]
          refine .cons (h.mono kp fun a ha => hR a (List.mem_append_left _ ha)) o' fun a ha hb => ?_
          rcases hA a hb with hb | hb
          · exact dj a hb (List.mem_append_left _ ha)
          · exact nn a ha ((e3 a).mpr (.inr hb))
        · rcases List.mem_append.mp ha with ha | ha
          · exact .inr (List.mem_append_left _ ha)
          · exact (hA a ha).imp (fun h => h) fun h => List.mem_append_right _ h
theorem ownL_at {k : Mk} {d : D} : ∀ {gs : List V} {fs : List D} {A : List Addr} {j : Nat}, OwnL c F H k gs fs A → fs[j]? = some d →
    ∃ v B R, gs[j]? = some v ∧ Own c F H k v d B ∧ (∀ a, a ∈ A ↔ a ∈ B ∨ a ∈ R) ∧ Dis B R ∧
      ∀ F' H' d' B', Kp F H F' H' → (∀ a ∈ R, H' a = H a) → Own c F' H' k v d' B' → Dis B' R → ∃ A', OwnL c F' H' k gs (fs.set j d') A' ∧ ∀ a ∈ A', a ∈ B' ∨ a ∈ R
  | _, _, _, _, .nil, e => by simp at e
  | _, _, _, 0, .cons (v := v) (d := y) (vs := vs) (ds := ds) (A := A) (B := B) h r nn, e => by
    simp at e
    subst e
    refine ⟨v, A, B, rfl, h, fun a => List.mem_append, nn, fun F' H' d' B' kp hR o dj => ?_⟩
    exact ⟨B' ++ B, .cons o (r.mono kp hR) dj, fun a => List.mem_append.mp⟩
  | _, _, _, j + 1, .cons (v := v) (d := y) (vs := vs) (ds := ds) (A := A) (B := B) h r nn, e => by
    obtain ⟨w, B2, R2, e1, e2, e3, e4, e5⟩ := ownL_at (j := j) r (by simpa using e)
    refine ⟨w, B2, A ++ R2, by simpa using e1, e2, fun a => ?_, fun a ha hb => ?_, fun F' H' d' B' kp hR o dj => ?_⟩
    · rw [List.mem_append, e3, List.mem_append]
      constructor
      · rintro (h | h | h)
        · exact .inr (.inl h)
        · exact .inl h
        · exact .inr (.inr h)
      · rintro (h | h | h)
        · exact .inr (.inl h)
        · exact .inl h
        · exact .inr (.inr h)
    · rcases List.mem_append.mp hb with hb | hb
      · exact nn a hb ((e3 a).mpr (.inl ha))
      · exact e4 a ha hb
    · obtain ⟨A', o', hA⟩ := e5 F' H' d' B' kp (fun a ha => hR a (List.mem_append_right _ ha)) o fun a ha hb => dj a ha (List.mem_append_right _ hb)
      refine ⟨A ++ A', ?_, fun a ha => ?_⟩
      · refine .cons (h.mono kp fun a ha => hR a (List.mem_append_left _ ha)) o' fun a ha hb => ?_
        rcases hA a hb with hb | hb
        · exact dj a hb (List.mem_append_left _ ha)
        · exact nn a ha ((e3 a).mpr (.inr hb))
      · rcases List.mem_append.mp ha with ha | ha
        · exact .inr (List.mem_append_left _ ha)
        · exact (hA a ha).imp (fun h => h) fun h => List.mem_append_right _ h
theorem ownK_at {k : Mk} {d : D} {q : Kd} : ∀ {gs : List (Key × V)} {fs : List (Kd × D)} {A : List Addr}, OwnK c F H k gs fs A → dGet fs q = some d →
    ∃ v B R, valV gs (kk q) = some v ∧ Own c F H k v d B ∧ (∀ a, a ∈ A ↔ a ∈ B ∨ a ∈ R) ∧ Dis B R ∧
      ∀ F' H' d' B', Kp F H F' H' → (∀ a ∈ R, H' a = H a) → Own c F' H' k v d' B' → Dis B' R → ∃ A', OwnK c F' H' k gs (setK q d' fs) A' ∧ ∀ a ∈ A', a ∈ B' ∨ a ∈ R
  | _, _, _, .nil, e => by cases e
  | _, _, _, .cons (k := g) (v := v) (d := y) (vs := vs) (ds := ds) (A := A) (B := B) hk h r nn, e => by
    unfold dGet at e
    rw [List.find?_cons] at e
    by_cases z : g = q
    · subst z
      simp only [decide_true] at e
      cases e
      refine ⟨v, A, B, by unfold valV; rw [List.find?_cons]; simp only [decide_true]; rfl, h, fun a => List.mem_append, nn, fun F' H' d' B' kp hR o dj => ?_⟩
      refine ⟨B' ++ B, ?_, fun a => List.mem_append.mp⟩
      unfold setK
      rw [if_pos rfl]
      exact .cons hk o (r.mono kp hR) dj
    · simp only [decide_eq_false z] at e
      obtain ⟨w, B2, R2, e1, e2, e3, e4, e5⟩ := ownK_at r e
      refine ⟨w, B2, A ++ R2, by unfold valV; rw [List.find?_cons]; simp only [decide_eq_false (fun y => z (kk_inj y))]; exact e1, e2, fun a => ?_, fun a ha hb => ?_, fun F' H' d' B' kp hR o dj => ?_⟩
      · rw [List.mem_append, e3, List.mem_append]
        constructor
        · rintro (h | h | h)
          · exact .inr (.inl h)
          · exact .inl h
          · exact .inr (.inr h)
        · rintro (h | h | h)
          · exact .inr (.inl h)
          · exact .inl h
          · exact .inr (.inr h)
      · rcases List.mem_append.mp hb with hb | hb
        · exact nn a hb ((e3 a).mpr (.inl ha))
        · exact e4 a ha hb
      · obtain ⟨A', o', hA⟩ := e5 F' H' d' B' kp (fun a ha => hR a (List.mem_append_right _ ha)) o fun a ha hb => dj a ha (List.mem_append_right _ hb)
        refine ⟨A ++ A', ?_, fun a ha => ?_⟩
        · unfold setK
          rw [if_neg z]
          refine .cons hk (h.mono kp fun a ha => hR a (List.mem_append_left _ ha)) o' fun a ha hb => ?_
          rcases hA a hb with hb | hb
          · exact dj a hb (List.mem_append_left _ ha)
          · exact nn a ha ((e3 a).mpr (.inr hb))
        · rcases List.mem_append.mp ha with ha | ha
          · exact .inr (List.mem_append_left _ ha)
          · exact (hA a ha).imp (fun h => h) fun h => List.mem_append_right _ h
theorem ownL_len {k : Mk} {vs : List V} {ds : List D} {A : List Addr} (r : OwnL c F H k vs ds A) : vs.length = ds.length := by
  induction ds generalizing vs A with
  | nil => cases r; rfl
  | cons d ds ih => cases r with | cons h r => simp [ih r]
theorem Own.lstI {m k : Mk} {v : V} {ds : List D} {A : List Addr} (hm : m = .own k) (h : Own c F H m v (.lst ds) A) : ∃ a vs B, v = .ref a ∧ A = a :: B ∧ H a = some (.lst vs) ∧ OwnL c F H k vs ds B ∧ a ∉ B := by
  subst hm
  cases h with | lst h r n => exact ⟨_, _, _, rfl, rfl, h, r, n⟩
theorem Own.dctI {m k : Mk} {v : V} {ds : List (Kd × D)} {A : List Addr} (hm : m = .own k) (h : Own c F H m v (.dct ds) A) : ∃ a vs B, v = .ref a ∧ A = a :: B ∧ H a = some (.dK vs) ∧ OwnK c F H k vs ds B ∧ a ∉ B := by
  subst hm
  cases h with | dct h r n => exact ⟨_, _, _, rfl, rfl, h, r, n⟩
theorem Own.insI {m : Mk} {v : V} {k : Str} {fs : List (Str × D)} {A : List Addr} (hm : isI m = true) (h : Own c F H m v (.ins k fs) A) : ∃ a C dx gs B, v = .ref a ∧ A = a :: B ∧ c.cl k = some C ∧ H a = some (.ins C dx gs) ∧ OwnA c F H m gs fs B ∧ a ∉ B := by
  cases h with
  | ins h1 hc h r n => exact ⟨_, _, _, _, _, rfl, rfl, hc, h, r, n⟩
  | fz h => cases hm
theorem hol_sub {A0 B1 R1 B2 R2 : List Addr} (s1 : ∀ a, a ∈ A0 ↔ a ∈ B1 ∨ a ∈ R1) (j1 : Dis B1 R1) (s2 : ∀ a, a ∈ B1 ↔ a ∈ B2 ∨ a ∈ R2) (j2 : Dis B2 R2) : (∀ a, a ∈ A0 ↔ a ∈ B2 ∨ a ∈ R2 ++ R1) ∧ Dis B2 (R2 ++ R1) := by
  refine ⟨fun b => ?_, fun b hb hr => ?_⟩
  · rw [s1, s2, List.mem_append, or_assoc]
  · rcases List.mem_append.mp hr with hr | hr
    · exact j2 b hb hr
    · exact j1 b ((s2 b).mpr (.inl hb)) hr
theorem hol_plug {B1 R1 B2 R2 : List Addr} {k k1 m : Mk} {v v1 v0 : V} {f g : D → D} (j1 : Dis B1 R1) (s2 : ∀ a, a ∈ B1 ↔ a ∈ B2 ∨ a ∈ R2)
    (pl1 : ∀ F' H' d' B', Kp F H F' H' → (∀ a ∈ R1, H' a = H a) → Own c F' H' k1 v1 d' B' → Dis B' R1 → ∃ A', Own c F' H' m v0 (f d') A' ∧ ∀ a ∈ A', a ∈ B' ∨ a ∈ R1)
    (pl2 : ∀ F' H' d' B', Kp F H F' H' → (∀ a ∈ R2, H' a = H a) → Own c F' H' k v d' B' → Dis B' R2 → ∃ A', Own c F' H' k1 v1 (g d') A' ∧ ∀ a ∈ A', a ∈ B' ∨ a ∈ R2) :
    ∀ F' H' d' B', Kp F H F' H' → (∀ a ∈ R2 ++ R1, H' a = H a) → Own c F' H' k v d' B' → Dis B' (R2 ++ R1) → ∃ A', Own c F' H' m v0 (f (g d')) A' ∧ ∀ a ∈ A', a ∈ B' ∨ a ∈ R2 ++ R1 := by
  intro F' H' d' B' kp hR o dj
  obtain ⟨A2, o2, h2⟩ := pl2 F' H' d' B' kp (fun b hb => hR b (List.mem_append_left _ hb)) o fun b h1 h2 => dj b h1 (List.mem_append_left _ h2)
  obtain ⟨A', o1, h1⟩ := pl1 F' H' (g d') A2 kp (fun b hb => hR b (List.mem_append_right _ hb)) o2 fun b h3 h4 => by
    rcases h2 b h3 with h3 | h3
    · exact dj b h3 (List.mem_append_right _ h4)
    · exact j1 b ((s2 b).mpr (.inr h3)) h4
  refine ⟨A', o1, fun b hb => ?_⟩
  rcases h1 b hb with h | h
  · exact (h2 b h).imp (fun h => h) fun h => List.mem_append_left _ h
  · exact .inr (List.mem_append_right _ h)
theorem cons_sub {a : Addr} {B B2 R2 : List Addr} (s2 : ∀ b, b ∈ B ↔ b ∈ B2 ∨ b ∈ R2) (j2 : Dis B2 R2) (nA : a ∉ B) : (∀ b, b ∈ a :: B ↔ b ∈ B2 ∨ b ∈ a :: R2) ∧ Dis B2 (a :: R2) := by
  refine ⟨fun b => ?_, fun b hb hr => ?_⟩
  · rw [List.mem_cons, s2, List.mem_cons]
    constructor
    · rintro (h | h | h)
      · exact .inr (.inl h)
      · exact .inl h
      · exact .inr (.inr h)
    · rintro (h | h | h)
      · exact .inr (.inl h)
      · exact .inl h
      · exact .inr (.inr h)
  · rcases List.mem_cons.mp hr with rfl | hr
    · exact nA ((s2 b).mpr (.inl hb))
    · exact j2 b hb hr
/-- what a path leads to -/
theorem own_path (g : Gx X x c T Xr W) (r : RS c n F M σ H δ) {i : Nat} {m : Mk} {v0 : V} {d0 : D} {A0 : List Addr} (hi : σ[i]? = some (some v0)) (o : Own c F H m v0 d0 A0) : ∀ (p : List Pe) (k : Mk) (d : D) (e : Expr), mkP p m = some k → getP δ p d0 = some d → paE x M i p e = true →
    ∃ v B R, Own c F H k v d B ∧ (∀ a, a ∈ A0 ↔ a ∈ B ∨ a ∈ R) ∧ Dis B R ∧
      (∀ F' H' d' B', Kp F H F' H' → (∀ a ∈ R, H' a = H a) → Own c F' H' k v d' B' → Dis B' R → ∃ A', Own c F' H' m v0 (setP δ p d0 d') A' ∧ ∀ a ∈ A', a ∈ B' ∨ a ∈ R) ∧
      ∀ Q : VK, Q v H → SE X e σ H Q
  | [], k, d, e, hm, hd, he => by
    cases hm; cases hd
    refine ⟨v0, A0, [], o, fun a => ⟨.inl, fun h => h.elim id fun z => (nomatch z)⟩, fun _ _ z => (nomatch z), fun F' H' d' B' kp hR o' _ => ⟨B', o', fun a => .inl⟩, fun Q q => se_name g.gn he hi q⟩
  | .at f :: p, k, d, e, hm, hd, he => by
    obtain ⟨k1, hm1, hm2⟩ := Option.bind_eq_some_iff.mp hm
    split at hm2
    · rename_i hI
      cases hm2
      obtain ⟨d1, hd1, hd2⟩ := Option.bind_eq_some_iff.mp hd
      unfold paE at he
      split at he
      · rename_i oe gf pos
        simp only [Bool.and_eq_true, decide_eq_true_eq] at he
        obtain ⟨rfl, h1, h2, h3⟩ := he
        obtain ⟨v1, B1, R1, o1, s1, j1, pl1, se1⟩ := own_path g r hi o p k1 d1 oe hm1 hd1 h3
        cases d1 with
        | ins cls fs =>
          have hd3 : fs.lookup gf = some d := hd2
          obtain ⟨a, C, dx, gs, B, rfl, rfl, hc, hH, oA, nA⟩ := o1.insI hI
          obtain ⟨v, B2, R2, l2, o2, s2, j2, pl2⟩ := ownA_at oA hd3
          obtain ⟨s3, j3⟩ := cons_sub s2 j2 nA
          obtain ⟨s4, j4⟩ := hol_sub s1 j1 s3 j3
          refine ⟨v, B2, _, o2, s4, j4, fun F' H' d' B' kp hR o' dj => ?_, fun Q q => ?_⟩
          · unfold setP
            rw [hd1]
            refine hol_plug (g := fun d' => .ins cls (setF gf d' fs)) j1 s3 pl1 (fun F' H' d' B' kp hR o' dj => ?_) F' H' d' B' kp hR o' dj
            obtain ⟨A2, oA2, sA2⟩ := pl2 F' H' d' B' kp (fun b hb => hR b (List.mem_cons_of_mem _ hb)) o' fun b h1 h2 => dj b h1 (List.mem_cons_of_mem _ h2)
            refine ⟨a :: A2, .ins hI hc ((hR a List.mem_cons_self).trans hH) oA2 fun z => ?_, fun b hb => ?_⟩
            · exact (sA2 a z).elim (fun z => dj a z List.mem_cons_self) fun z => nA ((s2 a).mpr (.inr z))
            · rcases List.mem_cons.mp hb with rfl | hb
              · exact .inr List.mem_cons_self
              · exact (sA2 b hb).imp (fun h => h) fun h => List.mem_cons_of_mem _ h
          · refine SE.of (pe_fld pe_S (abOk_eq h1 _ _ _)) (se1 _ ?_)
            obtain ⟨a1, a2⟩ := g.att _ _ _ hc h2
            exact ⟨a, C, dx, gs, v, rfl, hH, a1, a2, l2, q⟩
        | _ => cases hd2
      · cases he
    · cases hm2
  | .ix j :: p, k, d, e, hm, hd, he => by
    obtain ⟨k1, hm1, hm2⟩ := Option.bind_eq_some_iff.mp hm
    split at hm2
    · rename_i k0
      cases hm2
      obtain ⟨d1, hd1, hd2⟩ := Option.bind_eq_some_iff.mp hd
      unfold paE at he
      split at he
      · rename_i oe ke pos
        simp only [Bool.and_eq_true] at he
        obtain ⟨h1, h2, h3⟩ := he
        obtain ⟨v1, B1, R1, o1, s1, j1, pl1, se1⟩ := own_path g r hi o p (.own k) d1 oe hm1 hd1 h3
        obtain ⟨y, hmj⟩ : ∃ y, M[j]? = some (.mk .fz y) := by
          unfold gm at h2
          cases e : M[j]? with
          | none => rw [e] at h2; cases h2
          | some md =>
            rw [e] at h2
            cases md with
            | mk kk y =>
              cases kk with
              | fz => exact ⟨y, rfl⟩
              | _ => cases h2
            | _ => cases h2
        obtain ⟨vj, dj, e1, e2, e3⟩ := r.get hmj
        have nslj : notSl ke = true := by
          obtain ⟨nm, pos, rfl, _⟩ := nmA_inv h1
          rfl
        cases d1 with
        | lst ds =>
          have hd3 : (match δ[j]? with | some (some (.int k)) => atI ds k | _ => none) = some d := hd2
          rw [e2] at hd3
          cases dj with
          | int z =>
            have hd4 : atI ds z = some d := hd3
            obtain ⟨t, ht1, ht2⟩ := Option.bind_eq_some_iff.mp (show (ixN ds.length z).bind (fun t => ds[t]?) = some d from hd4)
            obtain ⟨a, vs, B, rfl, rfl, hH, oA, nA⟩ := o1.lstI rfl
            obtain ⟨v, B2, R2, l2, o2, s2, j2, pl2⟩ := ownL_at oA ht2
            obtain ⟨s3, j3⟩ := cons_sub s2 j2 nA
            obtain ⟨s4, j4⟩ := hol_sub s1 j1 s3 j3
            refine ⟨v, B2, _, o2, s4, j4, fun F' H' d' B' kp hR o' dj => ?_, fun Q q => ?_⟩
            · unfold setP
              rw [hd1]
              have ea : ∀ d', accS δ d' (.ix j) (.lst ds) = .lst (ds.set t d') := fun d' => by
                show (match δ[j]? with | some (some (.int k)) => (match ixN ds.length k with | some j => D.lst (ds.set j d') | none => .lst ds) | _ => .lst ds) = _
                rw [e2]
                simp only [ht1]
              show ∃ A', Own c F' H' m v0 (setP δ p d0 (accS δ d' (.ix j) (.lst ds))) A' ∧ _
              rw [ea]
              refine hol_plug (g := fun d' => .lst (ds.set t d')) j1 s3 pl1 (fun F' H' d' B' kp hR o' dj => ?_) F' H' d' B' kp hR o' dj
              obtain ⟨A2, oA2, sA2⟩ := pl2 F' H' d' B' kp (fun b hb => hR b (List.mem_cons_of_mem _ hb)) o' fun b h1 h2 => dj b h1 (List.mem_cons_of_mem _ h2)
              refine ⟨a :: A2, .lst ((hR a List.mem_cons_self).trans hH) oA2 fun z => ?_, fun b hb => ?_⟩
              · exact (sA2 a z).elim (fun z => dj a z List.mem_cons_self) fun z => nA ((s2 a).mpr (.inr z))
              · rcases List.mem_cons.mp hb with rfl | hb
                · exact .inr List.mem_cons_self
                · exact (sA2 b hb).imp (fun h => h) fun h => List.mem_cons_of_mem _ h
            · refine SE.of (pe_ix ix_seq pe_S pe_S (sub_plain nslj)) (se1 _ (se_name g.gn h1 e1 ?_))
              have hlen : vs.length = ds.length := ownL_len oA
              refine .inl ⟨a, vs, z, v, rfl, (Nc.R1.of e3).int, .inl (.inl hH), ?_, q⟩
              unfold atI
              rw [hlen, ht1]
              exact l2
          | _ => cases hd3
        | dct kvs =>
          have hd3 : (match δ[j]? with | some (some k) => (dKey k).bind (dGet kvs) | _ => none) = some d := hd2
          rw [e2] at hd3
          obtain ⟨t, ht1, ht2⟩ := Option.bind_eq_some_iff.mp (show (dKey dj).bind (dGet kvs) = some d from hd3)
          obtain ⟨a, vs, B, rfl, rfl, hH, oA, nA⟩ := o1.dctI rfl
          obtain ⟨v, B2, R2, l2, o2, s2, j2, pl2⟩ := ownK_at oA ht2
          obtain ⟨s3, j3⟩ := cons_sub s2 j2 nA
          obtain ⟨s4, j4⟩ := hol_sub s1 j1 s3 j3
          refine ⟨v, B2, _, o2, s4, j4, fun F' H' d' B' kp hR o' dj => ?_, fun Q q => ?_⟩
          · unfold setP
            rw [hd1]
            have ea : ∀ d', accS δ d' (.ix j) (.dct kvs) = .dct (setK t d' kvs) := fun d' => by
              show (match δ[j]? with | some (some k) => (match dKey k with | some k => D.dct (setK k d' kvs) | none => .dct kvs) | _ => .dct kvs) = _
              rw [e2]
              simp only [ht1]
            show ∃ A', Own c F' H' m v0 (setP δ p d0 (accS δ d' (.ix j) (.dct kvs))) A' ∧ _
            rw [ea]
            refine hol_plug (g := fun d' => .dct (setK t d' kvs)) j1 s3 pl1 (fun F' H' d' B' kp hR o' dj => ?_) F' H' d' B' kp hR o' dj
            obtain ⟨A2, oA2, sA2⟩ := pl2 F' H' d' B' kp (fun b hb => hR b (List.mem_cons_of_mem _ hb)) o' fun b h1 h2 => dj b h1 (List.mem_cons_of_mem _ h2)
            refine ⟨a :: A2, .dct ((hR a List.mem_cons_self).trans hH) oA2 fun z => ?_, fun b hb => ?_⟩
            · exact (sA2 a z).elim (fun z => dj a z List.mem_cons_self) fun z => nA ((s2 a).mpr (.inr z))
            · rcases List.mem_cons.mp hb with rfl | hb
              · exact .inr List.mem_cons_self
              · exact (sA2 b hb).imp (fun h => h) fun h => List.mem_cons_of_mem _ h
          · refine SE.of (pe_dget (by have := g.gn.un; omega) pe_S pe_S (sub_plain nslj)) (se1 _ (se_name g.gn h1 e1 ?_))
            refine ⟨a, v, rfl, .inl ⟨vs, kk t, .inl hH, key_V (Nc.R1.of e3) ht1, l2.symm⟩, q⟩
        | _ => cases hd2
      · cases he
    · cases hm2
end
end Nc

set_option Elab.async false
set_option linter.all false
set_option autoImplicit false
set_option maxRecDepth 100000
set_option maxHeartbeats 4000000
/-! Soundness: names, freezing, operations, and so on. -/
namespace Nc
open PySem PySem.Spec PyProof.Rows L2
section
variable {c : Cn} {n : En} {T : Tb} {Xr : XrT} {x : Sx} {X : Cx} {W : WX} {F F' : Fz} {M M' M1 M2 : Ms} {σ : L2.St} {H H' H1 : Hp} {δ δ' : Env} {ex : Ex} {ty : Ty} {e : Expr}
theorem slot_eq {i : Nat} {d : D} (h : δ[i]? = some (some d)) : slot i δ = .ok d δ := by unfold slot; rw [h]
theorem gm_eq {i : Nat} {m : Md} (h : gm M i = m) (hm : m ≠ .un) : M[i]? = some m := by
  unfold gm at h
  cases e : M[i]? with
  | none => rw [e] at h; exact absurd h.symm hm
  | some k => rw [e] at h; exact congrArg some h
theorem exM_set (M : Ms) (i : Nat) (m : Md) : exM (M.set i m) = (exM M).set i (exm1 m) := by
  unfold exM; rw [List.map_set]
theorem exM_own {i : Nat} {k : Mk} {m : Md} (hk : k ≠ .fz) (h : M[i]? = some (.mk k .free)) : Le (exM M) (exM (M.set i m)) := by
  refine ⟨by rw [exM_len, exM_len, List.length_set], fun j m' hj => ?_⟩
  by_cases e : j = i
  · subst e
    rw [exM_get, h] at hj
    have hj : exm1 (.mk k .free) = m' := Option.some.inj hj
    left
    rw [← hj]
    cases k <;> first | rfl | exact absurd rfl hk
  · right
    rw [exM_get, List.getElem?_set_ne (Ne.symm e), ← exM_get]
    exact hj
theorem RX.moved {A : Nat → List Addr} {i : Nat} {k : Mk} {y : Fx} (r : RX c n F M σ H δ A) (h : M[i]? = some (.mk k y)) : RX c n F (M.set i .un) σ H δ (fun j => if j = i then [] else A j) := by
  have sub : ∀ j a, a ∈ (if j = i then [] else A j) → a ∈ A j := fun j a z => by
    by_cases e : j = i
    · rw [if_pos e] at z; cases z
    · rw [if_neg e] at z; exact z
  refine ⟨by rw [r.ls, List.length_set], by rw [r.ld, List.length_set], fun j m hj => ?_, fun j hj => ?_, fun j l ne a h1 h2 => r.dj j l ne a (sub j a h1) (sub l a h2), fun j a h => r.ow j a (sub j a h), fun j k' y' h1 h2 a h3 => ?_, r.kp, r.st, r.fk, r.f0, r.f1⟩
  · by_cases e : j = i
    · subst e
      have : j < M.length := (List.getElem?_eq_some_iff.mp h).1
      rw [List.getElem?_set_self this] at hj
      cases hj
      exact if_pos rfl
    · rw [List.getElem?_set_ne (Ne.symm e)] at hj
      rw [if_neg e]
      exact r.sl j m hj
  · by_cases e : j = i
    · exact if_pos e
    · rw [List.getElem?_set_ne (Ne.symm e)] at hj
      rw [if_neg e]
      exact r.out j hj
  · by_cases e : j = i
    · rw [if_pos e] at h3; cases h3
    · rw [List.getElem?_set_ne (Ne.symm e)] at h1
      exact r.fr j k' y' h1 h2 a (sub j a h3)
theorem mkS_inv {i : Nat} {p : List Pe} {k : Mk} (h : mkS M i p = some k) : (∃ m y, M[i]? = some (.mk m y) ∧ mkP p m = some k) ∨ ∃ m, M[i]? = some (.bo (some m)) ∧ mkP p m = some k := by
  unfold mkS at h
  cases e : gm M i with
  | un => rw [e] at h; cases h
  | mk m y => rw [e] at h; exact .inl ⟨m, y, gm_eq e (fun z => nomatch z), h⟩
  | bo b =>
    rw [e] at h
    cases b with
    | none => cases h
    | some m => exact .inr ⟨m, gm_eq e (fun z => nomatch z), h⟩
/-- a thing in a slot, by its path -/
theorem slot_path (g : Gx X x c T Xr W) (ok : n.Ok) (r : RS c n F M σ H δ) {i : Nat} {p : List Pe} {k : Mk} {e : Expr} (hm : mkS M i p = some k) (he : paE x M i p e = true) :
    slotP i p δ = .no ∨ ∃ d v B, slotP i p δ = .ok d δ ∧ Own c F H k v d B ∧ ∀ Q : VK, Q v H → SE X e σ H Q := by
  have key : ∀ {m : Mk} {v0 : V} {d0 : D} {A0 : List Addr}, mkP p m = some k → σ[i]? = some (some v0) → δ[i]? = some (some d0) → Own c F H m v0 d0 A0 → slotP i p δ = .no ∨ ∃ d v B, slotP i p δ = .ok d δ ∧ Own c F H k v d B ∧ ∀ Q : VK, Q v H → SE X e σ H Q := fun {m v0 d0 A0} hp h1 h2 o => by
    unfold slotP
    rw [h2]
    cases hd : getP δ p d0 with
    | none => exact .inl (by simp only [hd])
    | some d =>
      obtain ⟨v, B, _, o2, _, _, _, se⟩ := own_path g r h1 o p k d e hp hd he
      exact .inr ⟨d, v, B, by simp only [hd], o2, se⟩
  rcases mkS_inv hm with ⟨m, y, h1, h2⟩ | ⟨m, h1, h2⟩
  · obtain ⟨A, q⟩ := id r
    obtain ⟨v, d, e1, e2, e3⟩ := q.sl i _ h1
    exact key h2 e1 e2 e3
  · obtain ⟨A, q⟩ := id r
    obtain ⟨v, d, B, e1, e2, e3, _⟩ := q.getBo ok h1
    exact key h2 e1 e2 e3
theorem snd_v {i : Nat} {p : List Pe} : Snd c T Xr x (.v i p) := by
  refine snd_val rfl rfl (fun e M ty M' h t => ?_) fun e M ty M' h => ?_
  · obtain ⟨_, h⟩ := grd_some h; cases h; cases t
  · obtain ⟨h1, h⟩ := grd_some h
    cases h
    rw [Bool.and_eq_true, decide_eq_true_eq] at h1
    obtain ⟨h1, h2⟩ := h1
    refine ⟨Le.refl _, fun n ok X W g σ H δ F Q r po => ?_⟩
    rcases slot_path g ok r h2 h1 with e4 | ⟨d, v, B, e4, o, se⟩
    · rw [show ev T (.v i p) δ = .no from e4] at po
      exact po.elim
    · rw [show ev T (.v i p) δ = .ok d δ from e4] at po
      exact se Q (po v H F Kp.refl (RsT.mk r o.rep.1 rfl))
theorem snd_bp {i : Nat} {p : List Pe} : Snd c T Xr x (.bp i p) := by
  refine snd_val rfl rfl (fun e M ty M' h t => ?_) fun e M ty M' h => ?_
  · obtain ⟨_, h⟩ := grd_some h; cases h; cases t
  · obtain ⟨h1, h⟩ := grd_some h
    cases h
    rw [Bool.and_eq_true] at h1
    obtain ⟨h1, h2⟩ := h1
    refine ⟨Le.refl _, fun n ok X W g σ H δ F Q r po => ?_⟩
    cases hm : mkS M i p with
    | none => rw [hm] at h2; cases h2
    | some k =>
      rw [hm] at h2
      rcases slot_path g ok r hm h1 with e4 | ⟨d, v, B, e4, o, se⟩
      · rw [show ev T (.bp i p) δ = .no from e4] at po
        exact po.elim
      · rw [show ev T (.bp i p) δ = .ok d δ from e4] at po
        obtain ⟨A, q⟩ := r
        exact se Q (po v H F Kp.refl ⟨A, q, rfl, B, R1.of1 h2 o⟩)
/-- any slot that is known -/
theorem RX.any {A : Nat → List Addr} (q : RX c n F M σ H δ A) (ok : n.Ok) {i : Nat} {m : Md} (h : M[i]? = some m) (hm : m ≠ .un) : ∃ v d B, σ[i]? = some (some v) ∧ δ[i]? = some (some d) ∧ ((∃ k y, m = .mk k y ∧ Own c F H k v d B) ∨ ∃ b, m = .bo b ∧ BoR c F H b v d B) := by
  cases m with
  | un => exact absurd rfl hm
  | mk k y => obtain ⟨v, d, e1, e2, e3⟩ := q.sl i _ h; exact ⟨v, d, _, e1, e2, .inl ⟨k, y, rfl, e3⟩⟩
  | bo b => obtain ⟨v, d, B, e1, e2, e3, _⟩ := q.getBo ok h; exact ⟨v, d, B, e1, e2, .inr ⟨b, rfl, e3⟩⟩
theorem snd_b {i : Nat} : Snd c T Xr x (.b i) := by
  refine ⟨fun e M ty M' h => ?_, fun e M M' h => ?_, fun _ _ _ _ h => (nomatch h)⟩
  · obtain ⟨h1, h⟩ := grd_some h
    cases h
    rw [Bool.and_eq_true, decide_eq_true_eq] at h1
    obtain ⟨h1, h2⟩ := h1
    refine ⟨Le.refl _, fun n ok X W g σ H δ F Q r po => ?_⟩
    obtain ⟨A, q⟩ := r
    obtain ⟨v, d, B, e1, e2, e3⟩ := q.any ok (gm_eq rfl h2) h2
    have e4 : ev T (.b i) δ = .ok d δ := slot_eq e2
    rw [e4] at po
    exact se_name g.gn h1 e1 (po v H F Kp.refl ⟨A, q, i, rfl, e1⟩)
  · obtain ⟨h1, h⟩ := grd_some h
    cases h
    rw [Bool.and_eq_true] at h1
    obtain ⟨h1, h2⟩ := h1
    refine ⟨Le.refl _, fun n ok X W g σ H δ F Q r po => ?_⟩
    have hm : M[i]? = some (gm M i) := gm_eq rfl fun z => by rw [z] at h2; cases h2
    obtain ⟨v, d, B, e1, e2, e3⟩ := r.getB ok hm h2
    obtain ⟨nm, pos, rfl, _⟩ := nmA_inv h1
    refine ST.of (pt_truth pe_S (plainT_eq rfl _)) (se_name g.gn h1 e1 ?_)
    have po1 : PoT c n Xr W M M σ F H ((slot i δ).bnd fun d δ' => match trD (rsv (.b i) d δ') with | some z => .ok z δ' | none => .no) Q := po
    rw [slot_eq e2] at po1
    have e5 : rsv (.b i) d δ = d := by show ((δ[i]?).getD none).getD d = d; rw [e2] <;> rfl
    have po2 : PoT c n Xr W M M σ F H (match trD (rsv (.b i) d δ) with | some z => R.ok z δ | none => .no) Q := po1
    rw [e5] at po2
    cases ht : trD d with
    | none => rw [ht] at po2; exact po2.elim
    | some z =>
      rw [ht] at po2
      exact ⟨z, tru_R1 e3 ht, po2 H F Kp.refl r⟩
theorem snd_m {i : Nat} : Snd c T Xr x (.m i) := by
  refine snd_val rfl rfl (fun e M ty M' h t => ?_) fun e M ty M' h => ?_
  · split at h
    · obtain ⟨_, h⟩ := grd_some h; cases h; cases t
    · cases h
  · split at h
    case h_2 => cases h
    rename_i k hgm
    obtain ⟨h1, h⟩ := grd_some h
    cases h
    rw [Bool.and_eq_true, decide_eq_true_eq] at h1
    obtain ⟨h1, h2⟩ := h1
    have hm : M[i]? = some (.mk k .free) := gm_eq hgm (fun z => nomatch z)
    refine ⟨exM_own h2 hm, fun n ok X W g σ H δ F Q r po => ?_⟩
    obtain ⟨A, q⟩ := r
    obtain ⟨v, d, e1, e2, e3⟩ := q.sl i _ hm
    have e4 : ev T (.m i) δ = .ok d δ := slot_eq e2
    rw [e4] at po
    refine se_name g.gn h1 e1 (po v H F Kp.refl ⟨_, q.moved hm, A i, e3, fun j a h1 h2 => ?_, fun a h => ⟨(q.ow i a h).1, q.fr i _ _ hm (fun z => nomatch z) a h⟩⟩)
    by_cases e : j = i
    · rw [if_pos e] at h1; cases h1
    · rw [if_neg e] at h1; exact q.dj j i e a h1 h2
theorem snd_f {i : Nat} : Snd c T Xr x (.f i) := by
  refine snd_val rfl rfl (fun e M ty M' h t => ?_) fun e M ty M' h => ?_
  · split at h
    · obtain ⟨_, h⟩ := grd_some h; cases h; cases t
    · cases h
  · split at h
    case h_2 => cases h
    rename_i k hgm
    obtain ⟨h1, h⟩ := grd_some h
    cases h
    rw [Bool.and_eq_true, decide_eq_true_eq] at h1
    obtain ⟨h1, h2⟩ := h1
    have hm : M[i]? = some (.mk k .free) := gm_eq hgm (fun z => nomatch z)
    refine ⟨exM_own h2 hm, fun n ok X W g σ H δ F Q r po => ?_⟩
    obtain ⟨A, q⟩ := r
    obtain ⟨v, d, e1, e2, e3⟩ := q.sl i _ hm
    have e4 : ev T (.f i) δ = .ok d δ := slot_eq e2
    rw [e4] at po
    have hB : ∀ a ∈ A i, ¬ F a ∧ ∃ o, H a = some o ∧ Ok1 o := fun a h => ⟨(q.ow i a h).1, e3.at_ a h⟩
    have h0 : ∀ a ∈ A i, n.H0 a = none := q.fr i _ _ hm (fun z => nomatch z)
    obtain ⟨nd, hk⟩ := dks_ok (own_nd e3) hB
    refine SE.lk (se_name g.gn h1 e1 ⟨dks H (A i), nd, hk, fun H2 lk => ?_⟩)
    have fz := frzn_of hB q.fk lk
    have rep := own_rep e3 fz
    have q2 := (q.moved hm).frz (B := A i) (fun j a h1 h2 => by
      by_cases e : j = i
      · rw [if_pos e] at h1; cases h1
      · rw [if_neg e] at h1; exact q.dj j i e a h1 h2) hB h0 lk
    have hlt : i < M.length := (List.getElem?_eq_some_iff.mp hm).1
    refine po v H2 _ fz.kp (RsT.mk ⟨_, ⟨by rw [q2.ls, List.length_set, List.length_set], by rw [q2.ld, List.length_set, List.length_set], fun j m hj => ?_, fun j hj => ?_, q2.dj, q2.ow, fun j k y h1 h2 => ?_, q2.kp, q2.st, q2.fk, q2.f0, q2.f1⟩⟩ rep rfl)
    · by_cases e : j = i
      · subst e
        rw [List.getElem?_set_self hlt] at hj
        cases hj
        rw [if_pos rfl]
        exact ⟨v, d, e1, e2, .fz rep⟩
      · rw [List.getElem?_set_ne (Ne.symm e)] at hj
        exact q2.sl j m (by rw [List.getElem?_set_ne (Ne.symm e)]; exact hj)
    · by_cases e : j = i
      · exact if_pos e
      · rw [List.getElem?_set_ne (Ne.symm e)] at hj
        exact q2.out j (by rw [List.getElem?_set_ne (Ne.symm e)]; exact hj)
    · by_cases e : j = i
      · subst e
        intro a ha
        rw [if_pos rfl] at ha
        cases ha
      · rw [List.getElem?_set_ne (Ne.symm e)] at h1
        exact q2.fr j k y (by rw [List.getElem?_set_ne (Ne.symm e)]; exact h1) h2
theorem snd_g {k : Str} : Snd c T Xr x (.g k) := by
  refine snd_val rfl rfl (fun e M ty M' h t => ?_) fun e M ty M' h => ?_
  · split at h
    · obtain ⟨_, h⟩ := grd_some h; cases h; cases t
    · cases h
  · split at h
    · rename_i m pos
      obtain ⟨h1, h⟩ := grd_some h
      cases h
      simp only [Bool.and_eq_true, decide_eq_true_eq, beq_iff_eq] at h1
      obtain ⟨rfl, h2, h3⟩ := h1
      refine ⟨Le.refl _, fun n ok X W g σ H δ F Q r po => ?_⟩
      cases hd : T.gc m with
      | none =>
        have e4 : ev T (.g m) δ = .no := by show ofO (T.gc m) δ = _; rw [hd] <;> rfl
        rw [e4] at po
        exact po.elim
      | some d =>
        have e4 : ev T (.g m) δ = .ok d δ := by show ofO (T.gc m) δ = _; rw [hd] <;> rfl
        rw [e4] at po
        obtain ⟨v, u, g1, g2, g3⟩ := g.all.gc m d hd
        exact SE.of (pe_glob (g.gn.gl h2) g1 g2 h3) (po v H F Kp.refl (RsT.mk r (g3 F H) rfl))
    · cases h
theorem snd_at {f : Str} {y : Ex} (s : Snd c T Xr x y) : Snd c T Xr x (.at f y) := by
  refine snd_val rfl rfl (fun e M ty M' h t => ?_) fun e M ty M' h => ?_
  · split at h
    · obtain ⟨r, _, h⟩ := Option.bind_eq_some_iff.mp h
      obtain ⟨_, h⟩ := grd_some h; cases h; cases t
    · cases h
  · split at h
    case h_2 => cases h
    rename_i o gf pos
    obtain ⟨⟨ty1, M1⟩, h1, h⟩ := Option.bind_eq_some_iff.mp h
    obtain ⟨h2, h⟩ := grd_some h
    cases h
    simp only [Bool.and_eq_true, decide_eq_true_eq] at h2
    obtain ⟨rfl, h3, h4, rfl⟩ := h2
    obtain ⟨l, k⟩ := s.e o M _ M1 h1
    refine ⟨l, fun n ok X W g σ H δ F Q r po => ?_⟩
    refine SE.of (pe_fld pe_S (abOk_eq h3 _ _ _)) (k n ok X W g σ H δ F _ r ?_)
    have po1 : PoE c n Xr W M M1 (.at gf y) .sh σ F H (atV gf (ev T y) δ) Q := po
    unfold atV at po1
    cases hr : ev T y δ with
    | no => rw [hr] at po1; exact po1
    | ex kk ds δ' => rw [hr] at po1; exact po1
    | ok d δ1 =>
      rw [hr] at po1
      simp only [R.bnd] at po1
      intro v H1 F1 kp rt
      cases d with
      | ins cls fs =>
        simp only [] at po1
        cases hl : fs.lookup gf with
        | none => rw [hl] at po1; exact po1.elim
        | some d2 =>
          rw [hl] at po1
          have rp := rt.sh
          cases rp with
          | ins hf hc hH ra =>
            obtain ⟨u, e1, e2⟩ := (ra.lookup gf).2 d2 hl
            obtain ⟨a1, a2⟩ := g.att _ _ _ hc h4
            exact ⟨_, _, _, _, u, rfl, hH, a1, a2, e1, po1 u H1 F1 kp (RsT.mk rt.rs e2 rfl)⟩
      | _ => exact po1.elim
theorem snd_fz {y : Ex} (s : Snd c T Xr x y) : Snd c T Xr x (.fz y) := by
  refine snd_val rfl rfl (fun e M ty M' h t => ?_) fun e M ty M' h => ?_
  · obtain ⟨r, _, h⟩ := Option.bind_eq_some_iff.mp h
    obtain ⟨_, h⟩ := grd_some h; cases h; cases t
  · obtain ⟨⟨ty1, M1⟩, h1, h⟩ := Option.bind_eq_some_iff.mp h
    obtain ⟨h2, h⟩ := grd_some h
    cases h
    obtain ⟨mk, rfl⟩ : ∃ mk, ty1 = .fr mk := by
      cases ty1 with
      | fr mk => exact ⟨mk, rfl⟩
      | _ => cases h2
    obtain ⟨l, k⟩ := s.e e M _ M1 h1
    refine ⟨l, fun n ok X W g σ H δ F Q r po => ?_⟩
    refine SE.lk (k n ok X W g σ H δ F _ r ?_)
    have e4 : ev T (.fz y) δ = ev T y δ := rfl
    rw [e4] at po
    cases hr : ev T y δ with
    | no => rw [hr] at po; exact po
    | ex kk ds δ' => rw [hr] at po; exact po
    | ok d δ' =>
      rw [hr] at po
      intro v H' F' kp ⟨A, q, B, e3, dj, hb⟩
      have hB : ∀ a ∈ B, ¬ F' a ∧ ∃ o, H' a = some o ∧ Ok1 o := fun a h => ⟨(hb a h).1, e3.at_ a h⟩
      obtain ⟨nd, hk⟩ := dks_ok (own_nd e3) hB
      refine ⟨dks H' B, nd, hk, fun H2 lk => ?_⟩
      have fz := frzn_of hB q.fk lk
      exact po v H2 _ (kp.trans fz.kp) (RsT.mk ⟨_, q.frz dj hB (fun a h => (hb a h).2) lk⟩ (own_rep e3 fz) rfl)
end
end Nc

set_option Elab.async false
set_option linter.all false
set_option autoImplicit false
set_option maxRecDepth 100000
set_option maxHeartbeats 4000000
/-! Soundness: operands, operations, and, or, not, chains, if. -/
namespace Nc
open PySem PySem.Spec PyProof.Rows L2
section
variable {c : Cn} {n : En} {T : Tb} {Xr : XrT} {x : Sx} {X : Cx} {W : WX} {F F' : Fz} {M M' M1 M2 : Ms} {σ : L2.St} {H H' H1 : Hp} {δ δ' : Env} {ex : Ex} {ty : Ty} {e : Expr}
theorem snd_nil : Snd c T Xr x .nil := by
  refine ⟨fun _ _ _ _ h => (nomatch h), fun _ _ _ h => (nomatch h), fun k es M M' h => ?_⟩
  cases es with
  | cons a r => cases h
  | nil =>
    cases h
    refine ⟨⟨Le.refl _, rfl⟩, fun n ok X W g σ H δ F Q r po => ?_⟩
    refine po [] H F Kp.refl r ?_
    cases k
    · exact R1L.nil
    · exact RepL.nil
    · exact RawL.nil
theorem rsl_cons {k : Kn} {es : Ex} {v : V} {d : D} {vs : List V} {ds : List D} (rt : RsT ex ty c n F M σ H δ v d) (kp : Kp F H F' H') (r2 : RS c n F' M2 σ H' δ') (ok : n.Ok) {l : Bool} (nb : ty ≠ .bp) (hb : bokX k ty ex M2 l = true) (rl : RsL k es c F' σ H' δ' vs ds) :
    RsL k (.cons ex es) c F' σ H' δ' (v :: vs) (rsv ex d δ' :: ds) := by
  cases ty with
  | sh =>
    obtain ⟨_, _, z, b⟩ := rt
    have e : rsv ex d δ' = d := by cases ex <;> first | rfl | (cases b)
    rw [e]
    cases k with
    | bor => exact R1L.cons (R1.of (z.mono kp)) rl
    | kept => exact RepL.cons (z.mono kp) rl
    | raw => exact RawL.sh b (z.mono kp) rl
  | fr m => cases hb
  | bp => exact absurd rfl nb
  | bo =>
    obtain ⟨_, _, i, rfl, hv⟩ := rt
    cases k with
    | bor =>
      obtain ⟨A, q⟩ := r2
      obtain ⟨B, z⟩ := RsT.r1 (ty := .bo) (ex := .b i) (M := M2) (d := d) ⟨A, q, i, rfl, hv⟩ ok hb
      exact R1L.cons z rl
    | kept => cases hb
    | raw =>
      refine RawL.bo hv (fun z hz => ?_) rl
      show ((δ'[i]?).getD none).getD d = z
      rw [hz] <;> rfl
theorem snd_cons {y ys : Ex} (s1 : Snd c T Xr x y) (s2 : Snd c T Xr x ys) : Snd c T Xr x (.cons y ys) := by
  refine ⟨fun _ _ _ _ h => (nomatch h), fun _ _ _ h => (nomatch h), fun k es M M' h => ?_⟩
  cases es with
  | nil => cases h
  | cons a r =>
    obtain ⟨⟨ty, M1⟩, h1, h⟩ := Option.bind_eq_some_iff.mp h
    obtain ⟨M2, h2, h⟩ := Option.bind_eq_some_iff.mp h
    obtain ⟨h3, h⟩ := grd_some h
    obtain rfl : M2 = M' := h
    rw [Bool.and_eq_true] at h3
    by_cases nb : ty = .bp
    · subst nb
      obtain ⟨l1, k1⟩ := s1.e a M _ M1 h1
      have h4 := h3.2
      unfold bokX at h4
      rw [Bool.and_eq_true] at h4
      have hk : k = .bor := of_decide_eq_true h4.1
      have hy : ys = .nil := by cases ys <;> first | rfl | cases h4.2
      subst hk hy
      cases r with
      | cons b r => cases h2
      | nil =>
        obtain rfl : M1 = M2 := Option.some.inj h2
        refine ⟨⟨l1, by rw [List.all_cons, h3.1]; rfl⟩, fun n ok X W g σ H δ F Q r po => k1 n ok X W g σ H δ F _ r ?_⟩
        have po' : PoL c n Xr W .bor (.cons y .nil) M M1 σ F H ((ev T y δ).bnd fun d δ1 => .ok [rsv y d δ1] δ1) Q := po
        cases hr : ev T y δ with
        | no => rw [hr] at po'; exact po'
        | ex kk ds δ' => rw [hr] at po'; exact po'
        | ok d δ1 =>
          rw [hr] at po'
          intro v H1 F1 kp rt
          obtain ⟨B, z⟩ := RsT.r1 rt ok (ty := .bp) (by rfl)
          exact po' [v] H1 F1 kp rt.rs (.cons z .nil)
    obtain ⟨l1, k1⟩ := s1.e a M ty M1 h1
    obtain ⟨⟨l2, n2⟩, k2⟩ := s2.s k r M1 M2 h2
    refine ⟨⟨l1.trans l2, by rw [List.all_cons, h3.1, n2]; rfl⟩, fun n ok X W g σ H δ F Q r po => ?_⟩
    refine k1 n ok X W g σ H δ F _ r ?_
    have po' : PoL c n Xr W k (.cons y ys) M M2 σ F H ((ev T y δ).bnd fun d δ1 => (evs T ys δ1).bnd fun ds δ2 => .ok (rsv y d δ2 :: ds) δ2) Q := po
    cases hr : ev T y δ with
    | no => rw [hr] at po'; exact po'
    | ex kk ds δ' => rw [hr] at po'; exact po'
    | ok d δ1 =>
      rw [hr] at po'
      intro v H1 F1 kp rt
      refine k2 n ok X W g σ H1 δ1 F1 _ rt.rs ?_
      have po2 : PoL c n Xr W k (.cons y ys) M M2 σ F H ((evs T ys δ1).bnd fun ds δ2 => .ok (rsv y d δ2 :: ds) δ2) Q := po'
      cases hr2 : evs T ys δ1 with
      | no => rw [hr2] at po2; exact po2
      | ex kk ds δ' => rw [hr2] at po2; exact PoX.back po2 kp l1
      | ok ds δ2 =>
        rw [hr2] at po2
        intro vs H2 F2 kp2 r2 rl
        exact po2 (v :: vs) H2 F2 (kp.trans kp2) r2 (rsl_cons rt kp2 r2 ok nb h3.2 rl)
/-- what an operation gives, behind its operands -/
theorem op_po {o : Op} {ds : List D} {vs : List V} {d : D} {Q : VK} (r : RS c n F M σ H δ) {ys : Ex} (rl : RsL (kn (opK o)) ys c F σ H δ vs ds) (e : opD o ds = some d) (hb : isB ex = false)
    (q : ∀ v H' F', Kp F H F' H' → RsT ex (if opF o = true then .fr (.own .fz) else .sh) c n F' M σ H' δ v d → Q v H') : OpX c o vs H Q := by
  have fin : ∀ v H2, Ext H H2 → RsO (opF o) c F H H2 v d → Q v H2 := fun v H2 x ro => by
    obtain ⟨A, rx⟩ := r
    have kp : Kp F H F H2 := Kp.ext rx.fk x
    have rx2 : RX c n F M σ H2 δ A := by
      refine rx.step kp (fun i a h => ?_) (fun i a h => (rx.ow i a h).1) (fun a u h1 h2 => x a u (rx.kp a u h1 h2)) (fun a h z => ?_) (fun a h => ?_) rx.f1
      · obtain ⟨u, e, _⟩ := rx.at_ h
        rw [e]; exact x a u e
      · cases e : H a with
        | none => exact rx.st a h e
        | some u => rw [x a u e] at z; cases z
      · obtain ⟨u, e⟩ := rx.fk a h
        exact ⟨u, x a u e⟩
    refine q v H2 F kp ?_
    cases hf : opF o with
    | false =>
      rw [hf] at ro
      exact RsT.mk ⟨A, rx2⟩ ro hb
    | true =>
      rw [hf] at ro
      obtain ⟨a, h0, ow⟩ := ro
      refine ⟨A, rx2, [a], ow, fun i b hi hb => ?_, fun b hb => ?_⟩
      · obtain rfl := List.mem_singleton.mp hb
        obtain ⟨u, e, _⟩ := rx.at_ hi
        rw [h0] at e; cases e
      · obtain rfl := List.mem_singleton.mp hb
        refine ⟨fun z => ?_, ?_⟩
        · obtain ⟨u, e⟩ := rx.fk b z
          rw [h0] at e; cases e
        · exact rx.fresh0 h0
  unfold OpX
  cases hs : isSlA o with
  | true =>
    have hk : opK o = false := by cases o <;> first | (cases hs; done) | rfl
    have hf : opF o = false := by cases o <;> first | (cases hs; done) | rfl
    rw [hk] at rl
    rw [hf] at fin q
    refine ⟨F, ds, d, r.fk, rl, e, fin, fun v H2 a xs x h0 hl ow => ?_⟩
    obtain ⟨A, rx⟩ := r
    have kp : Kp F H F H2 := Kp.ext rx.fk x
    have rx2 : RX c n F M σ H2 δ A := by
      refine rx.step kp (fun i a h => ?_) (fun i a h => (rx.ow i a h).1) (fun a u h1 h2 => x a u (rx.kp a u h1 h2)) (fun a h z => ?_) (fun a h => ?_) rx.f1
      · obtain ⟨u, e, _⟩ := rx.at_ h
        rw [e]; exact x a u e
      · cases e : H a with
        | none => exact rx.st a h e
        | some u => rw [x a u e] at z; cases z
      · obtain ⟨u, e⟩ := rx.fk a h
        exact ⟨u, x a u e⟩
    have hB : ∀ b ∈ [a], ¬ F b ∧ ∃ o, H2 b = some o ∧ Ok1 o := fun b hb => by
      obtain rfl := List.mem_singleton.mp hb
      refine ⟨fun z => ?_, _, hl, .inl ⟨xs, rfl⟩⟩
      obtain ⟨u, e⟩ := rx.fk b z
      rw [h0] at e; cases e
    have hd : dks H2 [a] = [] := by
      unfold dks
      rw [List.filter_cons, hl]; rfl
    have lk : Lk (dks H2 [a]) H2 H2 := by
      rw [hd]
      exact ⟨fun b hb => (nomatch hb), fun _ _ => rfl⟩
    have fz := frzn_of hB rx2.fk lk
    refine q v H2 _ (kp.trans fz.kp) (RsT.mk ⟨_, rx2.frz (fun i b hi hb => ?_) hB (fun b hb => ?_) lk⟩ (own_rep ow fz) hb)
    · obtain rfl := List.mem_singleton.mp hb
      obtain ⟨u, e, _⟩ := rx.at_ hi
      rw [h0] at e; cases e
    · obtain rfl := List.mem_singleton.mp hb
      exact rx.fresh0 h0
  | false =>
  simp only [Bool.false_eq_true, if_false]
  cases hk : opK o with
  | true =>
    rw [hk] at rl
    exact ⟨F, ds, d, r.fk, rl, e, fin⟩
  | false =>
    rw [hk] at rl
    exact ⟨F, ds, d, r.fk, rl, e, fin⟩
theorem bl_of {ds : List D} {d : D} : ∀ {o : Op}, isC o = true → opD o ds = some d → ∃ b, d = .bl b := fun {o} h e => by
  cases o <;> first | (cases h; done) | (simp only [opD] at e; first | (cases e; done) | skip)
  all_goals first
    | (unfold dCmp at e; split at e <;> cases e; exact ⟨_, rfl⟩)
    | (unfold dIsN at e; split at e <;> cases e; exact ⟨_, rfl⟩)
    | (unfold dInS at e; split at e <;> cases e; exact ⟨_, rfl⟩)
    | (unfold dInL at e; split at e <;> first | (split at e <;> cases e; exact ⟨_, rfl⟩) | cases e)
    | (unfold dInD at e; split at e <;> first | (obtain ⟨_, _, e⟩ := Option.map_eq_some_iff.mp e; cases e; exact ⟨_, rfl⟩) | cases e)
theorem snd_op {o : Op} {ys : Ex} (s2 : Snd c T Xr x ys) : Snd c T Xr x (.op o ys) := by
  have core : ∀ (as : List Expr) M M', (chk3 x ys).s (kn (opK o)) as M = some M' → (Le (exM M) (exM M') ∧ as.all nst = true) ∧ ∀ n, n.Ok → ∀ X W, Gx X x c T Xr W → ∀ σ H δ F (Q : VK), RS c n F M σ H δ →
      PoE c n Xr W M M' (.op o ys) (if opF o = true then .fr (.own .fz) else .sh) σ F H (ev T (.op o ys) δ) Q → SEs X as σ H (fun vs H1 => OpX c o vs H1 Q) := fun as M M' h => by
    obtain ⟨l, k⟩ := s2.s _ as M M' h
    refine ⟨l, fun n ok X W g σ H δ F Q r po => k n ok X W g σ H δ F _ r ?_⟩
    have po' : PoE c n Xr W M M' (.op o ys) (if opF o = true then .fr (.own .fz) else .sh) σ F H ((evs T ys δ).bnd fun ds δ' => match opD o ds with | some d => .ok d δ' | none => .no) Q := po
    cases hr : evs T ys δ with
    | no => rw [hr] at po'; exact po'
    | ex kk ds δ' => rw [hr] at po'; exact po'
    | ok ds δ1 =>
      rw [hr] at po'
      intro vs H1 F1 kp r1 rl
      have po2 : PoE c n Xr W M M' (.op o ys) (if opF o = true then .fr (.own .fz) else .sh) σ F H (match opD o ds with | some d => R.ok d δ1 | none => .no) Q := po'
      cases hd : opD o ds with
      | none => rw [hd] at po2; exact po2.elim
      | some d =>
        rw [hd] at po2
        exact op_po r1 rl hd rfl fun v H' F' k' rt => po2 v H' F' (kp.trans k') rt
  refine ⟨fun e M ty M' h => ?_, fun e M M' h => ?_, fun _ _ _ _ h => (nomatch h)⟩
  · have h' : (match opA x o e with | some as => ((chk3 x ys).s (kn (opK o)) as M).map fun M' => (if opF o = true then Ty.fr (.own .fz) else .sh, M') | none => none) = some (ty, M') := h
    cases ha : opA x o e with
    | none => rw [ha] at h'; cases h'
    | some as =>
      rw [ha] at h'
      obtain ⟨M1, h1, h2⟩ := Option.map_eq_some_iff.mp h'
      cases h2
      obtain ⟨⟨l, nn⟩, k⟩ := core as M M' h1
      exact ⟨l, fun n ok X W g σ H δ F Q r po => op_lift g.gn o ha nn (k n ok X W g σ H δ F Q r po)⟩
  · have h' : (match opA x o e with | some as => ((chk3 x ys).s (kn (opK o)) as M).bind fun M' => grd ((isC o || plainT e) && decide (opF o = false)) M' | none => none) = some M' := h
    cases ha : opA x o e with
    | none => rw [ha] at h'; cases h'
    | some as =>
      rw [ha] at h'
      obtain ⟨M1, h1, h2⟩ := Option.bind_eq_some_iff.mp h'
      obtain ⟨h3, h4⟩ := grd_some h2
      cases h4
      rw [Bool.and_eq_true, decide_eq_true_eq, Bool.or_eq_true] at h3
      obtain ⟨⟨l, nn⟩, k⟩ := core as M M' h1
      rw [h3.2] at k
      have tr : evt T (.op o ys) = tru (.op o ys) (ev T (.op o ys)) := rfl
      refine ⟨l, fun n ok X W g σ H δ F Q r po => ?_⟩
      rcases h3.1 with hc | hp
      · refine (op_cmp g.gn o hc ha).tst (k n ok X W g σ H δ F _ r ?_)
        rw [tr] at po
        unfold tru at po
        cases hr : ev T (.op o ys) δ with
        | no => rw [hr] at po; exact po
        | ex kk ds δ' => rw [hr] at po; exact po
        | ok d δ' =>
          rw [hr] at po
          intro v H' F' kp rt
          obtain ⟨b, rfl⟩ : ∃ b, d = .bl b := by
            have hr' : (evs T ys δ).bnd (fun ds δ' => match opD o ds with | some d => R.ok d δ' | none => .no) = .ok d δ' := hr
            cases hr2 : evs T ys δ with
            | no => rw [hr2] at hr'; cases hr'
            | ex kk ds δ' => rw [hr2] at hr'; cases hr'
            | ok ds δ2 =>
              rw [hr2] at hr'
              have hr3 : (match opD o ds with | some d => R.ok d δ2 | none => .no) = .ok d δ' := hr'
              cases hd : opD o ds with
              | none => rw [hd] at hr3; cases hr3
              | some d2 =>
                rw [hd] at hr3
                cases hr3
                exact bl_of hc hd
          refine ⟨b, (R1.bl (R1.of rt.sh)), ?_⟩
          exact po H' F' kp rt.rs
      · refine ST.of (pt_truth pe_S (plainT_eq hp _)) (op_lift g.gn o ha nn (k n ok X W g σ H δ F _ r ?_))
        rw [tr] at po
        unfold tru at po
        cases hr : ev T (.op o ys) δ with
        | no => rw [hr] at po; exact po
        | ex kk ds δ' => rw [hr] at po; exact po
        | ok d δ' =>
          rw [hr] at po
          intro v H' F' kp rt
          have po' : PoT c n Xr W M M' σ F H (match trD d with | some z => .ok z δ' | none => .no) Q := po
          cases ht : trD d with
          | none => rw [ht] at po'; exact po'.elim
          | some z =>
            rw [ht] at po'
            exact ⟨z, tru_R1 (R1.of rt.sh) ht, po' H' F' kp rt.rs⟩
end
end Nc

set_option Elab.async false
set_option linter.all false
set_option autoImplicit false
set_option maxRecDepth 100000
set_option maxHeartbeats 4000000
/-! Soundness: and, or, not, chains, if. -/
namespace Nc
open PySem PySem.Spec PyProof.Rows L2
section
variable {c : Cn} {n : En} {T : Tb} {Xr : XrT} {x : Sx} {X : Cx} {W : WX} {F F' : Fz} {M M' M1 M2 : Ms} {σ : L2.St} {H H' H1 : Hp} {δ δ' : Env} {ex : Ex} {ty : Ty} {e : Expr}
theorem boolOp2_inv {p : PySem.BoolOp} {a b : Expr} (h : boolOp2 p e = some (a, b)) : (∃ pos, e = .BoolOp p [a, b] pos) ∨ ∃ b' c' r pos, e = .BoolOp p (a :: b' :: c' :: r) pos ∧ b = .BoolOp p (b' :: c' :: r) pos := by
  unfold boolOp2 at h
  split at h
  · split at h <;> cases h
    rename_i q; subst q
    exact .inl ⟨_, rfl⟩
  · split at h <;> cases h
    rename_i q; subst q
    exact .inr ⟨_, _, _, _, rfl, rfl⟩
  · cases h
theorem sw_bool {p : PySem.BoolOp} {a : Expr} {r : List Expr} {pos : Pos} {Q : Bool → Hp → Prop} (h : ST X (.BoolOp p (a :: r) pos) σ H Q) : SW X (.BoolOp p (a :: r) pos) σ H Q := fun wh pins s I => h pins s I
/-- a chain of two tests -/
theorem se_and {a b : Expr} {Q : VK} (h : boolOp2 .And e = some (a, b)) (q : SE X a σ H fun v H1 => ∃ k, v = .bl k ∧ if k = true then SE X b σ H1 Q else Q (.bl false) H1) : SE X e σ H Q := by
  rcases boolOp2_inv h with ⟨pos, rfl⟩ | ⟨b', c', r, pos, rfl, rfl⟩
  · exact SE.of (pe_and pe_S (pe_one pe_S)) q
  · exact SE.of (pe_and pe_S pe_S) q
theorem se_or {a b : Expr} {Q : VK} (h : boolOp2 .Or e = some (a, b)) (q : SE X a σ H fun v H1 => ∃ k, v = .bl k ∧ if k = true then Q (.bl true) H1 else SE X b σ H1 Q) : SE X e σ H Q := by
  rcases boolOp2_inv h with ⟨pos, rfl⟩ | ⟨b', c', r, pos, rfl, rfl⟩
  · exact SE.of (pe_or pe_S (pe_one pe_S)) q
  · exact SE.of (pe_or pe_S pe_S) q
theorem st_and {a b : Expr} {Q : Bool → Hp → Prop} (h : boolOp2 .And e = some (a, b)) (q : ST X a σ H fun k H1 => if k = true then ST X b σ H1 Q else Q false H1) : ST X e σ H Q := by
  rcases boolOp2_inv h with ⟨pos, rfl⟩ | ⟨b', c', r, pos, rfl, rfl⟩
  · exact ST.of (pw_and pt_S (pw_and1 pt_S)).pt q
  · refine ST.of (pw_and pt_S pw_S).pt ?_
    refine ST.mono q fun k H1 z => ?_
    cases k with
    | true => exact sw_bool z
    | false => exact z
theorem st_or {a b : Expr} {Q : Bool → Hp → Prop} (h : boolOp2 .Or e = some (a, b)) (q : ST X a σ H fun k H1 => if k = true then Q true H1 else ST X b σ H1 Q) : ST X e σ H Q := by
  rcases boolOp2_inv h with ⟨pos, rfl⟩ | ⟨b', c', r, pos, rfl, rfl⟩
  · exact ST.of (pw_or pt_S (pw_or1 pt_S)).pt q
  · refine ST.of (pw_or pt_S pw_S).pt ?_
    refine ST.mono q fun k H1 z => ?_
    cases k with
    | false => exact sw_bool z
    | true => exact z
theorem and3 {a b c : Bool} (h : (a && (b && c)) = true) : a = true ∧ b = true ∧ c = true := by
  rw [Bool.and_eq_true, Bool.and_eq_true] at h; exact h
theorem snd_and {y z : Ex} (s1 : Snd c T Xr x y) (s2 : Snd c T Xr x z) : Snd c T Xr x (.and y z) := by
  refine ⟨fun e M ty M' h => ?_, fun e M M' h => ?_, fun _ _ _ _ h => (nomatch h)⟩
  · obtain ⟨⟨p, q⟩, hb, h'⟩ := Option.bind_eq_some_iff.mp h
    · skip
      obtain ⟨⟨t1, M1⟩, h1, h'⟩ := Option.bind_eq_some_iff.mp h'
      obtain ⟨⟨t2, M2⟩, h2, h'⟩ := Option.bind_eq_some_iff.mp h'
      obtain ⟨h3, h4⟩ := grd_some h'
      cases h4
      obtain ⟨e1, e2, e3⟩ := and3 h3
      obtain rfl : t1 = .sh := of_decide_eq_true e1
      obtain rfl : t2 = .sh := of_decide_eq_true e2
      obtain rfl : M2 = M1 := of_decide_eq_true e3
      obtain ⟨l1, k1⟩ := s1.e p M _ _ h1
      obtain ⟨l2, k2⟩ := s2.e q _ _ _ h2
      refine ⟨l1, fun n ok X W g σ H δ F Q r po => se_and hb (k1 n ok X W g σ H δ F _ r ?_)⟩
      have po1 : PoE c n Xr W M M2 (.and y z) .sh σ F H ((ev T y δ).bnd fun d δ' => match d with | .bl true => (ev T z δ').bnd (fun e δ2 => match e with | .bl z => .ok (.bl z) δ2 | _ => .no) | .bl false => .ok (.bl false) δ' | _ => .no) Q := po
      cases hr : ev T y δ with
      | no => rw [hr] at po1; exact po1
      | ex kk ds δ' => rw [hr] at po1; exact po1
      | ok d δ1 =>
        rw [hr] at po1
        intro v H1 F1 kp rt
        cases d with
        | bl b =>
          refine ⟨b, R1.bl (R1.of rt.sh), ?_⟩
          cases b with
          | false =>
            refine po1 _ H1 F1 kp (RsT.mk rt.rs ?_ rfl)
            exact .bl false
          | true =>
            refine k2 n ok X W g σ H1 δ1 F1 _ rt.rs ?_
            have po2 : PoE c n Xr W M M2 (.and y z) .sh σ F H ((ev T z δ1).bnd fun e δ2 => match e with | .bl z => .ok (.bl z) δ2 | _ => .no) Q := po1
            cases hr2 : ev T z δ1 with
            | no => rw [hr2] at po2; exact po2
            | ex kk ds δ' => rw [hr2] at po2; exact PoX.back po2 kp l1
            | ok d2 δ2 =>
              rw [hr2] at po2
              intro v2 H2 F2 kp2 rt2
              cases d2 with
              | bl b2 => exact po2 v2 H2 F2 (kp.trans kp2) (RsT.mk rt2.rs rt2.sh rfl)
              | _ => exact po2.elim
        | _ => exact po1.elim
  · obtain ⟨⟨p, q⟩, hb, h'⟩ := Option.bind_eq_some_iff.mp h
    · skip
      obtain ⟨Mq, h1, h'⟩ := Option.bind_eq_some_iff.mp h'
      obtain ⟨M2, h2, h'⟩ := Option.bind_eq_some_iff.mp h'
      obtain ⟨h3, h4⟩ := grd_some h'
      have h5 : M2 = Mq := of_decide_eq_true h3
      subst h4
      subst h5
      obtain ⟨l1, k1⟩ := s1.t p M _ h1
      obtain ⟨l2, k2⟩ := s2.t q _ _ h2
      refine ⟨l1, fun n ok X W g σ H δ F Q r po => st_and hb (k1 n ok X W g σ H δ F _ r ?_)⟩
      have po1 : PoT c n Xr W M M2 σ F H ((evt T y δ).bnd fun z' δ' => if z' = true then evt T z δ' else .ok false δ') Q := po
      cases hr : evt T y δ with
      | no => rw [hr] at po1; exact po1
      | ex kk ds δ' => rw [hr] at po1; exact po1
      | ok b δ1 =>
        rw [hr] at po1
        intro H1 F1 kp rt
        cases b with
        | false => exact po1 H1 F1 kp rt
        | true =>
          refine k2 n ok X W g σ H1 δ1 F1 _ rt ?_
          have po2 : PoT c n Xr W M M2 σ F H (evt T z δ1) Q := po1
          cases hr2 : evt T z δ1 with
          | no => rw [hr2] at po2; exact po2
          | ex kk ds δ' => rw [hr2] at po2; exact PoX.back po2 kp l1
          | ok d2 δ2 =>
            rw [hr2] at po2
            exact fun H2 F2 kp2 rt2 => po2 H2 F2 (kp.trans kp2) rt2
theorem snd_or {y z : Ex} (s1 : Snd c T Xr x y) (s2 : Snd c T Xr x z) : Snd c T Xr x (.or y z) := by
  refine ⟨fun e M ty M' h => ?_, fun e M M' h => ?_, fun _ _ _ _ h => (nomatch h)⟩
  · obtain ⟨⟨p, q⟩, hb, h'⟩ := Option.bind_eq_some_iff.mp h
    · skip
      obtain ⟨⟨t1, M1⟩, h1, h'⟩ := Option.bind_eq_some_iff.mp h'
      obtain ⟨⟨t2, M2⟩, h2, h'⟩ := Option.bind_eq_some_iff.mp h'
      obtain ⟨h3, h4⟩ := grd_some h'
      cases h4
      obtain ⟨e1, e2, e3⟩ := and3 h3
      obtain rfl : t1 = .sh := of_decide_eq_true e1
      obtain rfl : t2 = .sh := of_decide_eq_true e2
      obtain rfl : M2 = M1 := of_decide_eq_true e3
      obtain ⟨l1, k1⟩ := s1.e p M _ _ h1
      obtain ⟨l2, k2⟩ := s2.e q _ _ _ h2
      refine ⟨l1, fun n ok X W g σ H δ F Q r po => se_or hb (k1 n ok X W g σ H δ F _ r ?_)⟩
      have po1 : PoE c n Xr W M M2 (.or y z) .sh σ F H ((ev T y δ).bnd fun d δ' => match d with | .bl false => (ev T z δ').bnd (fun e δ2 => match e with | .bl z => .ok (.bl z) δ2 | _ => .no) | .bl true => .ok (.bl true) δ' | _ => .no) Q := po
      cases hr : ev T y δ with
      | no => rw [hr] at po1; exact po1
      | ex kk ds δ' => rw [hr] at po1; exact po1
      | ok d δ1 =>
        rw [hr] at po1
        intro v H1 F1 kp rt
        cases d with
        | bl b =>
          refine ⟨b, R1.bl (R1.of rt.sh), ?_⟩
          cases b with
          | true =>
            refine po1 _ H1 F1 kp (RsT.mk rt.rs ?_ rfl)
            exact .bl true
          | false =>
            refine k2 n ok X W g σ H1 δ1 F1 _ rt.rs ?_
            have po2 : PoE c n Xr W M M2 (.or y z) .sh σ F H ((ev T z δ1).bnd fun e δ2 => match e with | .bl z => .ok (.bl z) δ2 | _ => .no) Q := po1
            cases hr2 : ev T z δ1 with
            | no => rw [hr2] at po2; exact po2
            | ex kk ds δ' => rw [hr2] at po2; exact PoX.back po2 kp l1
            | ok d2 δ2 =>
              rw [hr2] at po2
              intro v2 H2 F2 kp2 rt2
              cases d2 with
              | bl b2 => exact po2 v2 H2 F2 (kp.trans kp2) (RsT.mk rt2.rs rt2.sh rfl)
              | _ => exact po2.elim
        | _ => exact po1.elim
  · obtain ⟨⟨p, q⟩, hb, h'⟩ := Option.bind_eq_some_iff.mp h
    · skip
      obtain ⟨Mq, h1, h'⟩ := Option.bind_eq_some_iff.mp h'
      obtain ⟨M2, h2, h'⟩ := Option.bind_eq_some_iff.mp h'
      obtain ⟨h3, h4⟩ := grd_some h'
      have h5 : M2 = Mq := of_decide_eq_true h3
      subst h4
      subst h5
      obtain ⟨l1, k1⟩ := s1.t p M _ h1
      obtain ⟨l2, k2⟩ := s2.t q _ _ h2
      refine ⟨l1, fun n ok X W g σ H δ F Q r po => st_or hb (k1 n ok X W g σ H δ F _ r ?_)⟩
      have po1 : PoT c n Xr W M M2 σ F H ((evt T y δ).bnd fun z' δ' => if z' = true then .ok true δ' else evt T z δ') Q := po
      cases hr : evt T y δ with
      | no => rw [hr] at po1; exact po1
      | ex kk ds δ' => rw [hr] at po1; exact po1
      | ok b δ1 =>
        rw [hr] at po1
        intro H1 F1 kp rt
        cases b with
        | true => exact po1 H1 F1 kp rt
        | false =>
          refine k2 n ok X W g σ H1 δ1 F1 _ rt ?_
          have po2 : PoT c n Xr W M M2 σ F H (evt T z δ1) Q := po1
          cases hr2 : evt T z δ1 with
          | no => rw [hr2] at po2; exact po2
          | ex kk ds δ' => rw [hr2] at po2; exact PoX.back po2 kp l1
          | ok d2 δ2 =>
            rw [hr2] at po2
            exact fun H2 F2 kp2 rt2 => po2 H2 F2 (kp.trans kp2) rt2
theorem notA_inv {p : Expr} (h : notA e = some p) : ∃ pos, e = .UnaryOp .Not p pos := by
  unfold notA at h
  split at h <;> cases h
  exact ⟨_, rfl⟩
theorem ifA_inv {p q r : Expr} (h : ifA e = some (p, q, r)) : ∃ pos, e = .IfExp p q r pos := by
  unfold ifA at h
  split at h <;> cases h
  exact ⟨_, rfl⟩
theorem snd_not {y : Ex} (s1 : Snd c T Xr x y) : Snd c T Xr x (.not y) := by
  refine ⟨fun e M ty M' h => ?_, fun e M M' h => ?_, fun _ _ _ _ h => (nomatch h)⟩
  · obtain ⟨p, hb, h'⟩ := Option.bind_eq_some_iff.mp h
    · obtain ⟨pos, rfl⟩ := notA_inv hb
      obtain ⟨⟨t1, M1⟩, h1, h'⟩ := Option.bind_eq_some_iff.mp h'
      obtain ⟨h3, h4⟩ := grd_some h'
      cases h4
      obtain rfl : t1 = .sh := of_decide_eq_true h3
      obtain ⟨l1, k1⟩ := s1.e p M _ _ h1
      refine ⟨l1, fun n ok X W g σ H δ F Q r po => SE.of (pe_not pe_S) (k1 n ok X W g σ H δ F _ r ?_)⟩
      have po1 : PoE c n Xr W M M1 (.not y) .sh σ F H ((ev T y δ).bnd fun d δ' => match d with | .bl z => .ok (.bl (!z)) δ' | _ => .no) Q := po
      cases hr : ev T y δ with
      | no => rw [hr] at po1; exact po1
      | ex kk ds δ' => rw [hr] at po1; exact po1
      | ok d δ1 =>
        rw [hr] at po1
        intro v H1 F1 kp rt
        cases d with
        | bl b => exact ⟨b, R1.bl (R1.of rt.sh), po1 _ H1 F1 kp (RsT.mk rt.rs (.bl _) rfl)⟩
        | _ => exact po1.elim
  · obtain ⟨p, hb, h'⟩ := Option.bind_eq_some_iff.mp h
    · obtain ⟨pos, rfl⟩ := notA_inv hb
      obtain ⟨l1, k1⟩ := s1.t p M _ h'
      refine ⟨l1, fun n ok X W g σ H δ F Q r po => ST.of (pt_not pt_S) (k1 n ok X W g σ H δ F _ r ?_)⟩
      have po1 : PoT c n Xr W M M' σ F H ((evt T y δ).bnd fun z δ' => .ok (!z) δ') Q := po
      cases hr : evt T y δ with
      | no => rw [hr] at po1; exact po1
      | ex kk ds δ' => rw [hr] at po1; exact po1
      | ok b δ1 =>
        rw [hr] at po1
        exact fun H1 F1 kp rt => po1 H1 F1 kp rt
theorem snd_ife {k y z : Ex} (s0 : Snd c T Xr x k) (s1 : Snd c T Xr x y) (s2 : Snd c T Xr x z) : Snd c T Xr x (.ife k y z) := by
  have inv : ∀ {e : Expr} {M : Ms} {ty : Ty} {M' : Ms}, ((ifA e).bind fun u => ((chk3 x k).t u.1 M).bind fun M1 => ((chk3 x y).e u.2.1 M1).bind fun r1 => ((chk3 x z).e u.2.2 M1).bind fun r2 => grd (decide (r1.1 = Ty.sh) && decide (r2 = r1)) r1) = some (ty, M') →
      ty = .sh ∧ ∃ p q r pos M1, e = .IfExp p q r pos ∧ (chk3 x k).t p M = some M1 ∧ (chk3 x y).e q M1 = some (.sh, M') ∧ (chk3 x z).e r M1 = some (.sh, M') := fun {e M ty M'} h => by
    obtain ⟨⟨p, q, r⟩, h0, h⟩ := Option.bind_eq_some_iff.mp h
    obtain ⟨Mq, h1, h⟩ := Option.bind_eq_some_iff.mp h
    obtain ⟨r1, h2, h⟩ := Option.bind_eq_some_iff.mp h
    obtain ⟨r2, h3, h⟩ := Option.bind_eq_some_iff.mp h
    obtain ⟨h4, h5⟩ := grd_some h
    rw [Bool.and_eq_true, decide_eq_true_eq, decide_eq_true_eq] at h4
    obtain ⟨h4, rfl⟩ := h4
    subst h5
    obtain rfl : ty = .sh := h4
    obtain ⟨pos, rfl⟩ := ifA_inv h0
    exact ⟨rfl, _, _, _, _, _, rfl, h1, h2, h3⟩
  refine snd_val rfl rfl (fun e M ty M' h t => ?_) fun e M ty M' h => ?_
  · obtain ⟨rfl, _⟩ := inv h
    cases t
  · obtain ⟨rfl, p, q, r, pos, M1, rfl, h0, h1, h2⟩ := inv h
    obtain ⟨l0, k0⟩ := s0.t p M _ h0
    obtain ⟨l1, k1⟩ := s1.e q _ _ _ h1
    obtain ⟨l2, k2⟩ := s2.e r _ _ _ h2
    refine ⟨l0.trans l1, fun n ok X W g σ H δ F Q r po => SE.of (pe_ifExp pt_S pe_S pe_S) (k0 n ok X W g σ H δ F _ r ?_)⟩
    have po1 : PoE c n Xr W M M' (.ife k y z) .sh σ F H ((evt T k δ).bnd fun z' δ' => if z' = true then ev T y δ' else ev T z δ') Q := po
    cases hr : evt T k δ with
    | no => rw [hr] at po1; exact po1
    | ex kk ds δ' => rw [hr] at po1; exact po1
    | ok b δ1 =>
      rw [hr] at po1
      intro H1 F1 kp rt
      cases b with
      | true =>
        refine k1 n ok X W g σ H1 δ1 F1 _ rt ?_
        have po2 : PoE c n Xr W M M' (.ife k y z) .sh σ F H (ev T y δ1) Q := po1
        cases hr2 : ev T y δ1 with
        | no => rw [hr2] at po2; exact po2
        | ex kk ds δ' => rw [hr2] at po2; exact PoX.back po2 kp l0
        | ok d2 δ2 =>
          rw [hr2] at po2
          exact fun v2 H2 F2 kp2 rt2 => po2 v2 H2 F2 (kp.trans kp2) (RsT.mk rt2.rs rt2.sh rfl)
      | false =>
        refine k2 n ok X W g σ H1 δ1 F1 _ rt ?_
        have po2 : PoE c n Xr W M M' (.ife k y z) .sh σ F H (ev T z δ1) Q := po1
        cases hr2 : ev T z δ1 with
        | no => rw [hr2] at po2; exact po2
        | ex kk ds δ' => rw [hr2] at po2; exact PoX.back po2 kp l0
        | ok d2 δ2 =>
          rw [hr2] at po2
          exact fun v2 H2 F2 kp2 rt2 => po2 v2 H2 F2 (kp.trans kp2) (RsT.mk rt2.rs rt2.sh rfl)
end
end Nc

set_option Elab.async false
set_option linter.all false
set_option autoImplicit false
set_option maxRecDepth 100000
set_option maxHeartbeats 4000000
/-! Soundness: chains of comparisons. -/
namespace Nc
open PySem PySem.Spec PyProof.Rows L2
section
variable {c : Cn} {n : En} {T : Tb} {Xr : XrT} {x : Sx} {X : Cx} {W : WX} {F F' : Fz} {M M' : Ms} {σ : L2.St} {H H' H1 : Hp} {δ δ' : Env} {ex : Ex} {ty : Ty} {e : Expr}
theorem chnC_inv {o1 o2 : Op} {p q r : Expr} (h : chnC o1 o2 e = some (p, q, r)) : ∃ k1 k2 pos, e = .Compare p [k1, k2] [q, r] pos ∧ opC o1 = some k1 ∧ opC o2 = some k2 ∧ lastMarks [k1, k2] [q, r] = false := by
  unfold chnC at h
  split at h
  · obtain ⟨h1, h2⟩ := grd_some h
    cases h2
    obtain ⟨e1, e2, e3⟩ := and3 h1
    exact ⟨_, _, _, rfl, of_decide_eq_true e1, of_decide_eq_true e2, eq_of_beq e3⟩
  · cases h
theorem opC_C {o : Op} {k : CmpOp} (h : opC o = some k) : isC o = true := by
  cases o <;> first | (cases h; done) | rfl
theorem opC_fr {o : Op} {k : CmpOp} (h : opC o = some k) : opF o = false ∧ opK o = false ∧ isSlA o = false := by
  cases o <;> first | (cases h; done) | exact ⟨rfl, rfl, rfl⟩
theorem opC_R (c : Cn) (X : Cx) {o : Op} {k : CmpOp} (h : opC o = some k) : ∃ r : R2, OpR X (compareOp k) r ∧ ∀ u v H' Q, OpP c false (opD o) [u, v] H' Q → r u v H' Q := by
  cases o <;> first | (cases h; done) | skip
  · cases h; exact ⟨_, op_lt, fun _ _ _ _ => opr_cmp⟩
  · cases h; exact ⟨_, op_le, fun _ _ _ _ => opr_cmp⟩
  · cases h; exact ⟨_, op_gt, fun _ _ _ _ => opr_cmp⟩
  · cases h; exact ⟨_, op_ge, fun _ _ _ _ => opr_cmp⟩
theorem chn_ty {o1 o2 : Op} {a b k : Env → R D} {d : D} (h1 : isC o1 = true) (h2 : isC o2 = true) (h : chnV o1 o2 a b k δ = .ok d δ') : ∃ z, d = .bl z := by
  unfold chnV at h
  cases e1 : a δ with
  | no => rw [e1] at h; cases h
  | ex _ _ _ => rw [e1] at h; cases h
  | ok x δ1 =>
    rw [e1] at h
    simp only [R.bnd] at h
    cases e2 : b δ1 with
    | no => rw [e2] at h; cases h
    | ex _ _ _ => rw [e2] at h; cases h
    | ok y δ2 =>
      rw [e2] at h
      simp only [] at h
      split at h
      · cases e3 : k δ2 with
        | no => rw [e3] at h; cases h
        | ex _ _ _ => rw [e3] at h; cases h
        | ok z δ3 =>
          rw [e3] at h
          simp only [] at h
          split at h
          · cases h
            rename_i e4
            exact bl_of h2 e4
          · cases h
      · cases h; exact ⟨_, rfl⟩
      · cases h
theorem snd_chn {o1 o2 : Op} {y1 y2 y3 : Ex} (s1 : Snd c T Xr x y1) (s2 : Snd c T Xr x y2) (s3 : Snd c T Xr x y3) : Snd c T Xr x (.chn o1 o2 y1 y2 y3) := by
  have core : ∀ e M M', ((chnC o1 o2 e).bind fun q => ((chk3 x y1).e q.1 M).bind fun r1 => ((chk3 x y2).e q.2.1 r1.2).bind fun r2 => ((chk3 x y3).e q.2.2 r2.2).bind fun r3 =>
        grd (decide (r1.1 = .sh) && (decide (r2.1 = .sh) && (decide (r3.1 = .sh) && decide (r3.2 = r2.2)))) r2.2) = some M' →
      isC o1 = true ∧ isC o2 = true ∧ Le (exM M) (exM M') ∧ ∀ n, n.Ok → ∀ X W, Gx X x c T Xr W → ∃ (t : TE), PE X e t ∧ PT X e (tTest t) ∧ ∀ σ H δ F Q, RS c n F M σ H δ → PoE c n Xr W M M' (.chn o1 o2 y1 y2 y3) .sh σ F H (ev T (.chn o1 o2 y1 y2 y3) δ) Q → t σ H Q := fun e M M' h => by
    obtain ⟨⟨p, q, r⟩, h0, h⟩ := Option.bind_eq_some_iff.mp h
    obtain ⟨⟨t1, Ma⟩, h1, h⟩ := Option.bind_eq_some_iff.mp h
    obtain ⟨⟨t2, Mb⟩, h2, h⟩ := Option.bind_eq_some_iff.mp h
    obtain ⟨⟨t3, Mc⟩, h3, h⟩ := Option.bind_eq_some_iff.mp h
    obtain ⟨h4, h5⟩ := grd_some h
    simp only [Bool.and_eq_true, decide_eq_true_eq] at h4
    obtain ⟨e1, e2, e3, e4⟩ := h4
    subst h5 e1 e2 e3 e4
    obtain ⟨k1, k2, pos, rfl, c1, c2, lm⟩ := chnC_inv h0
    obtain ⟨l1, g1⟩ := s1.e _ _ _ _ h1
    obtain ⟨l2, g2⟩ := s2.e _ _ _ _ h2
    obtain ⟨l3, g3⟩ := s3.e _ _ _ _ h3
    refine ⟨opC_C c1, opC_C c2, (l1.trans l2), fun n ok X W g => ?_⟩
    obtain ⟨r1, or1, f1⟩ := opC_R c X c1
    obtain ⟨r2, or2, f2⟩ := opC_R c X c2
    refine ⟨_, pe_chain or1 or2 pe_S pe_S pe_S lm, pt_chain or1 or2 pe_S pe_S pe_S lm, fun σ H δ F Q r po => ?_⟩
    have po1 : PoE c n Xr W M Mc (.chn o1 o2 y1 y2 y3) .sh σ F H (chnV o1 o2 (ev T y1) (ev T y2) (ev T y3) δ) Q := po
    unfold chnV at po1
    refine g1 n ok X W g σ H δ F _ r ?_
    cases hr : ev T y1 δ with
    | no => rw [hr] at po1; exact po1
    | ex kk ds δ' => rw [hr] at po1; exact po1
    | ok d1 δ1 =>
    rw [hr] at po1
    simp only [R.bnd] at po1
    intro v1 H1 F1 kp1 rt1
    refine g2 n ok X W g σ H1 δ1 F1 _ rt1.rs ?_
    cases hr2 : ev T y2 δ1 with
    | no => rw [hr2] at po1; exact po1
    | ex kk ds δ' => rw [hr2] at po1; exact PoX.back po1 kp1 l1
    | ok d2 δ2 =>
    rw [hr2] at po1
    simp only [] at po1
    intro v2 H2 F2 kp2 rt2
    have rl1 : RsL (kn (opK o1)) .nil c F2 σ H2 δ2 [v1, v2] [d1, d2] := by
      rw [(opC_fr c1).2.1]
      exact .cons (R1.of (rt1.sh.mono kp2)) (.cons (R1.of rt2.sh) .nil)
    have toP : ∀ {vs : List V} {o : Op} {H : Hp} {Q : VK}, opF o = false ∧ opK o = false ∧ isSlA o = false → OpX c o vs H Q → OpP c false (opD o) vs H Q := fun k z => by
      unfold OpX at z
      rw [k.2.2, k.1, k.2.1] at z
      exact z
    cases hd : opD o1 [d1, d2] with
    | none => rw [hd] at po1; exact po1.elim
    | some z1 =>
    rw [hd] at po1
    obtain ⟨b1, rfl⟩ := bl_of (opC_C c1) hd
    refine f1 _ _ _ _ (toP (opC_fr c1) (op_po (ex := .non) rt2.rs rl1 hd rfl fun v3 H3 F3 kp3 rt3 => ?_))
    rw [(opC_fr c1).1] at rt3
    refine ⟨b1, R1.bl (R1.of (RsT.sh rt3)), ?_⟩
    cases b1 with
    | false => exact po1 _ H3 F3 ((kp1.trans kp2).trans kp3) (RsT.mk rt3.rs (.bl _) rfl)
    | true =>
      simp only [] at po1
      refine g3 n ok X W g σ H3 δ2 F3 _ rt3.rs ?_
      cases hr3 : ev T y3 δ2 with
      | no => rw [hr3] at po1; exact po1
      | ex kk ds δ' => rw [hr3] at po1; exact PoX.back po1 ((kp1.trans kp2).trans kp3) (l1.trans l2)
      | ok d3 δ3 =>
      rw [hr3] at po1
      simp only [] at po1
      intro v4 H4 F4 kp4 rt4
      have rl2 : RsL (kn (opK o2)) .nil c F4 σ H4 δ3 [v2, v4] [d2, d3] := by
        rw [(opC_fr c2).2.1]
        exact .cons (R1.of (rt2.sh.mono (kp3.trans kp4))) (.cons (R1.of rt4.sh) .nil)
      cases hd2 : opD o2 [d2, d3] with
      | none => rw [hd2] at po1; exact po1.elim
      | some z2 =>
      rw [hd2] at po1
      refine f2 _ _ _ _ (toP (opC_fr c2) (op_po (ex := .non) rt4.rs rl2 hd2 rfl fun v5 H5 F5 kp5 rt5 => ?_))
      rw [(opC_fr c2).1] at rt5
      exact po1 v5 H5 F5 ((((kp1.trans kp2).trans kp3).trans kp4).trans kp5) (RsT.mk rt5.rs (RsT.sh rt5) rfl)
  refine ⟨fun e M ty M' h => ?_, fun e M M' h => ?_, fun _ _ _ _ h => (nomatch h)⟩
  · obtain ⟨q, h0, h⟩ := Option.bind_eq_some_iff.mp h
    obtain ⟨r1, h1, h⟩ := Option.bind_eq_some_iff.mp h
    obtain ⟨r2, h2, h⟩ := Option.bind_eq_some_iff.mp h
    obtain ⟨r3, h3, h⟩ := Option.bind_eq_some_iff.mp h
    obtain ⟨h4, h5⟩ := grd_some h
    cases h5
    obtain ⟨_, _, l, k⟩ := core e M r2.2 (by simp only [h0, h1, h2, h3, Option.bind_some]; unfold grd; rw [if_pos h4])
    refine ⟨l, fun n ok X W g σ H δ F Q r po => ?_⟩
    obtain ⟨t, pe, pt, q⟩ := k n ok X W g
    exact SE.of pe (q σ H δ F Q r po)
  · obtain ⟨i1, i2, l, k⟩ := core e M M' h
    refine ⟨l, fun n ok X W g σ H δ F Q r po => ?_⟩
    obtain ⟨t, pe, pt, q⟩ := k n ok X W g
    refine ST.of pt (q σ H δ F _ r ?_)
    have po1 : PoT c n Xr W M M' σ F H ((ev T (.chn o1 o2 y1 y2 y3) δ).bnd fun d δ' => match trD d with | some z => .ok z δ' | none => .no) Q := po
    cases hr : ev T (.chn o1 o2 y1 y2 y3) δ with
    | no => rw [hr] at po1; exact po1
    | ex kk ds δ' => rw [hr] at po1; exact po1
    | ok d δ1 =>
      rw [hr] at po1
      intro v H1 F1 kp rt
      obtain ⟨b, rfl⟩ := chn_ty i1 i2 hr
      exact ⟨b, R1.bl (R1.of rt.sh), po1 H1 F1 kp rt.rs⟩
end
end Nc

set_option Elab.async false
set_option linter.all false
set_option autoImplicit false
set_option maxRecDepth 100000
set_option maxHeartbeats 4000000
/-! Soundness: calls. -/
namespace Nc
open PySem PySem.Spec PyProof.Rows L2
section
variable {c : Cn} {n : En} {T : Tb} {Xr : XrT} {x : Sx} {X : Cx} {W : WX} {F F' : Fz} {M M' : Ms} {σ : L2.St} {H H' : Hp} {δ δ' : Env} {ex : Ex} {ty : Ty} {e : Expr} {A : Nat → List Addr}
def clr (L : List Nat) (M : Ms) : Ms := M.mapIdx fun j m => if j ∈ L then .un else m
theorem clr_len (L : List Nat) (M : Ms) : (clr L M).length = M.length := by unfold clr; rw [List.length_mapIdx]
theorem clr_get (L : List Nat) (M : Ms) (j : Nat) : (clr L M)[j]? = (M[j]?).map fun m => if j ∈ L then .un else m := by unfold clr; rw [List.getElem?_mapIdx]
theorem clr_nil (M : Ms) : clr [] M = M := by
  apply List.ext_getElem?
  intro j
  rw [clr_get]
  cases M[j]? <;> simp
theorem clr_set {L : List Nat} {i : Nat} {m : Md} (h : M[i]? = some m) (hn : i ∉ L) : (clr (i :: L) M).set i m = clr L M := by
  apply List.ext_getElem?
  intro j
  by_cases e : j = i
  · subst e
    rw [List.getElem?_set_self (by rw [clr_len]; exact (List.getElem?_eq_some_iff.mp h).1), clr_get, h]
    simp [hn]
  · rw [List.getElem?_set_ne (Ne.symm e), clr_get, clr_get]
    cases M[j]? with
    | none => rfl
    | some k => simp [e]
/-- slots left aside -/
theorem RX.drop (r : RX c n F M σ H δ A) (L : List Nat) : RX c n F (clr L M) σ H δ (fun j => if j ∈ L then [] else A j) := by
  have sub : ∀ j a, a ∈ (if j ∈ L then [] else A j) → j ∉ L ∧ a ∈ A j := fun j a z => by
    by_cases e : j ∈ L
    · rw [if_pos e] at z; cases z
    · rw [if_neg e] at z; exact ⟨e, z⟩
  refine ⟨by rw [clr_len]; exact r.ls, by rw [clr_len]; exact r.ld, fun j m hj => ?_, fun j hj => ?_, fun j l ne a h1 h2 => r.dj j l ne a (sub j a h1).2 (sub l a h2).2, fun j a h => r.ow j a (sub j a h).2, fun j k y h1 h2 a h3 => ?_, r.kp, r.st, r.fk, r.f0, r.f1⟩
  · rw [clr_get] at hj
    obtain ⟨k, h1, h2⟩ := Option.map_eq_some_iff.mp hj
    by_cases e : j ∈ L
    · rw [if_pos e] at h2 ⊢
      subst h2
      exact rfl
    · rw [if_neg e] at h2 ⊢
      subst h2
      exact r.sl j k h1
  · rw [clr_get] at hj
    by_cases e : j ∈ L
    · rw [if_pos e]
    · rw [if_neg e]
      exact r.out j (by cases h : M[j]? with | none => rfl | some k => rw [h] at hj; cases hj)
  · obtain ⟨e, h3⟩ := sub j a h3
    rw [clr_get] at h1
    obtain ⟨k', g1, g2⟩ := Option.map_eq_some_iff.mp h1
    rw [if_neg e] at g2
    subst g2
    exact r.fr j k y g1 h2 a h3
/-- a slot takes something -/
theorem RX.give (r : RX c n F M σ H δ A) {i : Nat} {m : Mk} {y : Fx} {v : V} {d : D} {B : List Addr} (hi : i < M.length) (hu : A i = []) (hv : σ[i]? = some (some v)) (o : Own c F H m v d B) (dj : ∀ j, Dis (A j) B)
    (ow : ∀ a ∈ B, ¬ F a ∧ (n.H0 a = none ∨ a ∈ n.A0)) (fr : y ≠ .io → ∀ a ∈ B, n.H0 a = none) : RX c n F (M.set i (.mk m y)) σ H (δ.set i (some d)) (fun j => if j = i then B else A j) := by
  refine ⟨by rw [List.length_set]; exact r.ls, by rw [List.length_set, List.length_set]; exact r.ld, fun j k hj => ?_, fun j hj => ?_, fun j l ne a h1 h2 => ?_, fun j a h => ?_, fun j k z h1 h2 a h3 => ?_, r.kp, r.st, r.fk, r.f0, r.f1⟩
  · by_cases e : j = i
    · subst e
      rw [List.getElem?_set_self hi] at hj
      cases hj
      rw [if_pos rfl]
      exact ⟨v, d, hv, List.getElem?_set_self (by rw [r.ld]; exact hi), o⟩
    · rw [List.getElem?_set_ne (Ne.symm e)] at hj
      rw [if_neg e, List.getElem?_set_ne (Ne.symm e)]
      exact r.sl j k hj
  · by_cases e : j = i
    · subst e
      rw [List.getElem?_set_self hi] at hj; cases hj
    · rw [List.getElem?_set_ne (Ne.symm e)] at hj
      rw [if_neg e]; exact r.out j hj
  · by_cases e1 : j = i
    · rw [if_pos e1] at h1
      by_cases e2 : l = i
      · exact ne (e1.trans e2.symm)
      · rw [if_neg e2] at h2; exact dj l a h2 h1
    · rw [if_neg e1] at h1
      by_cases e2 : l = i
      · rw [if_pos e2] at h2; exact dj j a h1 h2
      · rw [if_neg e2] at h2; exact r.dj j l ne a h1 h2
  · by_cases e : j = i
    · rw [if_pos e] at h; exact ow a h
    · rw [if_neg e] at h; exact r.ow j a h
  · by_cases e : j = i
    · subst e
      rw [List.getElem?_set_self hi] at h1
      cases h1
      rw [if_pos rfl] at h3
      exact fr h2 a h3
    · rw [List.getElem?_set_ne (Ne.symm e)] at h1
      rw [if_neg e] at h3
      exact r.fr j k z h1 h2 a h3
theorem mem_flatA {L : List Nat} {a : Addr} : a ∈ (L.map A).flatten ↔ ∃ j ∈ L, a ∈ A j := by
  rw [List.mem_flatten]
  constructor
  · rintro ⟨B, h, z⟩
    obtain ⟨j, hj, rfl⟩ := List.mem_map.mp h
    exact ⟨j, hj, z⟩
  · rintro ⟨j, hj, z⟩
    exact ⟨_, List.mem_map.mpr ⟨j, hj, rfl⟩, z⟩
/-- the arguments, as the callee wants them -/
theorem args_of (r : RX c n F M σ H δ A) (ok : n.Ok) {io : List Nat} {y : Fx} : ∀ {es : Ex} {vs : List V} {ds : List D} {ps : List Pm}, RawL c F σ H δ es vs ds → argOk M io y ps es = true → (ioS ps es).Nodup → (∀ i ∈ ioS ps es, i ∈ io) →
    ArgR c F H (io.map A).flatten ps vs ds ((ioS ps es).map A)
  | _, _, _, [], .nil, _, _, _ => .nil
  | _, _, _, p :: _, .nil, h, _, _ => by cases p <;> exact (nomatch (show false = true from h))
  | _, _, _, [], .sh b h q, hk, _, _ => by cases hk
  | _, _, _, [], .bo h h2 q, hk, _, _ => by cases hk
  | _, _, _, .fz :: ps, .sh (e := e) (es := es) b h q, hk, nd, hs => by
    unfold argOk at hk
    rw [Bool.and_eq_true] at hk
    have ei : ioS (.fz :: ps) (.cons e es) = ioS ps es := rfl
    rw [ei] at nd hs ⊢
    exact .fz h (args_of r ok q hk.2 nd hs)
  | _, _, _, .fz :: ps, .bo h h2 q, hk, nd, hs => by
    unfold argOk at hk
    rw [Bool.and_eq_true] at hk
    cases hk.1
  | _, _, _, .bo :: ps, .sh (e := e) (es := es) b h q, hk, nd, hs => by
    unfold argOk at hk
    rw [Bool.and_eq_true] at hk
    have ei : ioS (.bo :: ps) (.cons e es) = ioS ps es := rfl
    rw [ei] at nd hs ⊢
    exact .bo (R1.of h) (fun _ z => (nomatch z)) (args_of r ok q hk.2 nd hs)
  | _, _, _, .bo :: ps, .bo (i := i) (es := es) h h2 q, hk, nd, hs => by
    unfold argOk at hk
    rw [Bool.and_eq_true] at hk
    have ei : ioS (.bo :: ps) (.cons (.b i) es) = ioS ps es := rfl
    rw [ei] at nd hs ⊢
    obtain ⟨h3, h4⟩ := hk
    have h3' : (rdb (gm M i) && !io.contains i) = true := h3
    rw [Bool.and_eq_true] at h3'
    have hni : i ∉ io := fun z => by
      have := h3'.2
      rw [List.contains_iff_mem.mpr z] at this
      cases this
    have hm : M[i]? = some (gm M i) := gm_eq rfl fun z => by rw [z] at h3'; cases h3'.1
    have key : ∃ z B, δ[i]? = some (some z) ∧ (∀ v', σ[i]? = some (some v') → R1 c F H v' z B) ∧ Dis B (io.map A).flatten := by
      cases hg : gm M i with
      | un => rw [hg] at h3'; cases h3'.1
      | mk k yy =>
        rw [hg] at hm h3'
        obtain ⟨v, d, e1, e2, e3⟩ := r.sl i _ hm
        refine ⟨d, A i, e2, fun v' hv => ?_, fun a ha hb => ?_⟩
        · rw [e1] at hv; cases hv; exact R1.of1 h3'.1 e3
        · obtain ⟨j, hj, z⟩ := mem_flatA.mp hb
          exact r.dj i j (fun q => hni (q ▸ hj)) a ha z
      | bo b =>
        rw [hg] at hm h3'
        obtain ⟨v, d, B, e1, e2, e3, e4, e5⟩ := r.getBo ok hm
        refine ⟨d, B, e2, fun v' hv => ?_, fun a ha hb => ?_⟩
        · rw [e1] at hv; cases hv
          cases b with
          | none => exact e3
          | some k => exact R1.of1 h3'.1 e3
        · obtain ⟨j, hj, z⟩ := mem_flatA.mp hb
          exact (r.ow j a z).2.elim (e5 a ha) (e4 a ha)
    obtain ⟨z, B, e2, e3, e4⟩ := key
    rw [h2 z e2]
    exact .bo (e3 _ h) e4 (args_of r ok q h4 nd hs)
  | _, _, _, .io m :: ps, .sh (e := e) (es := es) b h q, hk, nd, hs => by
    unfold argOk at hk
    rw [Bool.and_eq_true] at hk
    obtain ⟨h3, h4⟩ := hk
    cases e <;> first | (cases b; done) | (cases h3; done)
  | _, _, _, .io m :: ps, .bo (i := i) (es := es) h h2 q, hk, nd, hs => by
    unfold argOk at hk
    rw [Bool.and_eq_true] at hk
    obtain ⟨h3, h4⟩ := hk
    have ei : ioS (.io m :: ps) (.cons (.b i) es) = i :: ioS ps es := rfl
    rw [ei] at nd hs ⊢
    have h5 : gm M i = .mk m y := of_decide_eq_true h3
    have hm := gm_eq h5 (fun z => nomatch z)
    obtain ⟨v, d, e1, e2, e3⟩ := r.sl i _ hm
    rw [e1] at h
    cases h
    rw [h2 d e2]
    refine .io e3 (fun a ha hb => ?_) (fun a ha => (r.ow i a ha).1) (args_of r ok q h4 (List.nodup_cons.mp nd).2 fun j hj => hs j (List.mem_cons_of_mem _ hj))
    obtain ⟨j, hj, z⟩ := mem_flatA.mp hb
    exact r.dj i j (fun w => (List.nodup_cons.mp nd).1 (w ▸ hj)) a ha z
theorem argOk_cons {io : List Nat} {y : Fx} {p : Pm} {ps : List Pm} {ex : Ex} (h : argOk M io y (p :: ps) ex = true) : ∃ e es, ex = .cons e es := by
  cases ex <;> first | exact ⟨_, _, rfl⟩ | (cases p <;> exact (nomatch (show false = true from h)))
theorem io_mk {io : List Nat} {y : Fx} {l : Nat} {ps : List Pm} : ∀ {es : Ex}, argOk M io y ps es = true → l ∈ ioS ps es → ∃ k, M[l]? = some (.mk k y) := by
  induction ps with
  | nil => intro es _ h; cases h
  | cons p ps ih =>
    intro ex hk h
    obtain ⟨e, es, rfl⟩ := argOk_cons hk
    cases p with
    | fz =>
      have hk : (!isB e && argOk M io y ps es) = true := hk
      rw [Bool.and_eq_true] at hk
      exact ih hk.2 h
    | bo =>
      unfold argOk at hk
      rw [Bool.and_eq_true] at hk
      exact ih hk.2 h
    | io m =>
      unfold argOk at hk
      rw [Bool.and_eq_true] at hk
      obtain ⟨h5, h6⟩ := hk
      cases e with
      | b i =>
        have h' : l ∈ i :: ioS ps es := h
        rcases List.mem_cons.mp h' with rfl | h'
        · exact ⟨m, gm_eq (of_decide_eq_true h5) (fun z => nomatch z)⟩
        · exact ih h6 h'
      | _ => cases h5
theorem RawL.consI {δ0 : Env} {e es : Ex} {vs : List V} {ds : List D} (h : RawL c F σ H δ0 (.cons e es) vs ds) : ∃ v vs' d ds', vs = v :: vs' ∧ ds = d :: ds' ∧ RawL c F σ H δ0 es vs' ds' ∧ ∀ i, e = .b i → σ[i]? = some (some v) := by
  cases h with
  | sh b h r => exact ⟨_, _, _, _, rfl, rfl, r, fun i z => by subst z; cases b⟩
  | bo h h2 r => exact ⟨_, _, _, _, rfl, rfl, r, fun i z => by cases z; exact h⟩
/-- what was changed comes back into the slots -/
theorem give_all {io : List Nat} {y : Fx} {δ0 : Env} {ps : List Pm} : ∀ {vs : List V} {ios : List D} {As : List (List Addr)} {es : Ex} {ds : List D} {δ : Env} {A : Nat → List Addr}, IoR c F H ps vs ios As → RawL c F' σ H' δ0 es vs ds → argOk M io y ps es = true → (ioS ps es).Nodup →
    RX c n F (clr (ioS ps es) M) σ H δ A → (∀ i ∈ ioS ps es, A i = []) → (∀ j, Dis (A j) As.flatten) → (∀ a ∈ As.flatten, ¬ F a ∧ (n.H0 a = none ∨ a ∈ n.A0)) → (y ≠ .io → ∀ a ∈ As.flatten, n.H0 a = none) →
    ∃ A2, RX c n F M σ H (putIo ps es ios δ) A2 ∧ ∀ j a, a ∈ A2 j → a ∈ A j ∨ a ∈ As.flatten := by
  induction ps with
  | nil =>
    intro vs ios As es ds δ A q rw' hk nd r h1 h2 h3 h4
    have r' : RX c n F (clr [] M) σ H δ A := r
    rw [clr_nil] at r'
    have : putIo [] es ios δ = δ := rfl
    rw [this]
    exact ⟨A, r', fun j a h => .inl h⟩
  | cons p ps ih =>
    intro vs ios As ex ds δ A q rw' hk nd r h1 h2 h3 h4
    obtain ⟨e, es, rfl⟩ := argOk_cons hk
    obtain ⟨v, vs', d, ds', rfl, rfl, rw2, hv⟩ := rw'.consI
    cases p with
    | fz =>
      have hk : (!isB e && argOk M io y ps es) = true := hk
      rw [Bool.and_eq_true] at hk
      cases q with
      | fz q => exact ih q rw2 hk.2 nd r h1 h2 h3 h4
    | bo =>
      unfold argOk at hk
      rw [Bool.and_eq_true] at hk
      cases q with
      | bo q => exact ih q rw2 hk.2 nd r h1 h2 h3 h4
    | io m =>
      unfold argOk at hk
      rw [Bool.and_eq_true] at hk
      obtain ⟨h5, h6⟩ := hk
      cases e with
      | b i =>
        cases q with
        | @io _ _ _ d2 _ ios' As' B o dj q =>
          have h5 : gm M i = .mk m y := of_decide_eq_true h5
          have hm := gm_eq h5 (fun z => nomatch z)
          have nd' : (i :: ioS ps es).Nodup := nd
          obtain ⟨nd1, nd2⟩ := List.nodup_cons.mp nd'
          have r' : RX c n F (clr (i :: ioS ps es) M) σ H δ A := r
          have fl : ∀ a, a ∈ (B :: As').flatten ↔ a ∈ B ∨ a ∈ As'.flatten := fun a => by rw [List.flatten_cons, List.mem_append]
          have r2 := r'.give (i := i) (m := m) (y := y) (by rw [clr_len]; exact (List.getElem?_eq_some_iff.mp hm).1) (h1 i List.mem_cons_self) (hv i rfl) o (fun j a z w => h2 j a z ((fl a).mpr (.inl w))) (fun a z => h3 a ((fl a).mpr (.inl z))) fun hy a z => h4 hy a ((fl a).mpr (.inl z))
          rw [clr_set hm nd1] at r2
          obtain ⟨A2, r3, g⟩ := ih q rw2 h6 nd2 r2 (fun j hj => by
            have ne : j ≠ i := fun z => nd1 (z ▸ hj)
            rw [if_neg ne]
            exact h1 j (List.mem_cons_of_mem _ hj)) (fun j a z w => by
            by_cases e : j = i
            · rw [if_pos e] at z; exact dj a z w
            · rw [if_neg e] at z; exact h2 j a z ((fl a).mpr (.inr w))) (fun a z => h3 a ((fl a).mpr (.inr z))) fun hy a z => h4 hy a ((fl a).mpr (.inr z))
          refine ⟨A2, r3, fun j a z => ?_⟩
          rcases g j a z with z | z
          · by_cases e : j = i
            · rw [if_pos e] at z; exact .inr ((fl a).mpr (.inl z))
            · rw [if_neg e] at z; exact .inl z
          · exact .inr ((fl a).mpr (.inr z))
      | _ => cases h5
/-- the caller's state behind a call -/
theorem post_call (r : RX c n F M σ H δ A) (ok : n.Ok) {y : Fx} {es : Ex} {vs : List V} {ds : List D} {ps : List Pm} {ios : List D} {As : List (List Addr)} (q : RawL c F σ H δ es vs ds) (hk : argOk M (ioS ps es) y ps es = true) (nd : (ioS ps es).Nodup)
    (p : PostR c F H ((ioS ps es).map A).flatten ps vs ios F' H' As) : ∃ A2, RX c n F' M σ H' (putIo ps es ios δ) A2 ∧ ∀ j a, a ∈ A2 j → H a ≠ none ∨ a ∈ As.flatten := by
  have alive : ∀ j a, a ∈ A j → ∃ o, H a = some o := fun j a h => let ⟨o, e, _⟩ := r.at_ h; ⟨o, e⟩
  have sub : ∀ j a, a ∈ (if j ∈ ioS ps es then [] else A j) → j ∉ ioS ps es ∧ a ∈ A j := fun j a z => by
    by_cases e : j ∈ ioS ps es
    · rw [if_pos e] at z; cases z
    · rw [if_neg e] at z; exact ⟨e, z⟩
  have out : ∀ j a, j ∉ ioS ps es → a ∈ A j → a ∉ ((ioS ps es).map A).flatten := fun j a hj ha hb => by
    obtain ⟨l, hl, z⟩ := mem_flatA.mp hb
    exact r.dj j l (fun w => hj (w ▸ hl)) a ha z
  have naa : ∀ a o, n.H0 a = some o → a ∉ n.A0 → a ∉ ((ioS ps es).map A).flatten := fun a o h1 h2 hb => by
    obtain ⟨l, hl, z⟩ := mem_flatA.mp hb
    rcases (r.ow l a z).2 with w | w
    · rw [w] at h1; cases h1
    · exact h2 w
  have r1 := (r.drop (ioS ps es)).step p.kp (fun j a h => by
      obtain ⟨h1, h2⟩ := sub j a h
      obtain ⟨o, e⟩ := alive j a h2
      rw [e]; exact p.keep a o e (out j a h1 h2)) (fun j a h f => by
      obtain ⟨h1, h2⟩ := sub j a h
      rcases p.f1 a f with w | w
      · exact (r.ow j a h2).1 w
      · obtain ⟨o, e⟩ := alive j a h2
        rw [w] at e; cases e) (fun a o h1 h2 => p.keep a o (r.kp a o h1 h2) (naa a o h1 h2)) (fun a h z => by
      by_cases w : a ∈ ((ioS ps es).map A).flatten
      · exact p.st a w z
      · cases e : H a with
        | none => exact r.st a h e
        | some o => rw [p.keep a o e w] at z; cases z) p.fk (fun a f => (p.f1 a f).elim (r.f1 a) fun w => .inr (r.fresh0 w))
  have own0 : ∀ a, a ∈ ((ioS ps es).map A).flatten → n.H0 a = none ∨ a ∈ n.A0 := fun a h => by
    obtain ⟨l, hl, z⟩ := mem_flatA.mp h
    exact (r.ow l a z).2
  have h4 : y ≠ .io → ∀ a ∈ As.flatten, n.H0 a = none := fun hy a w => by
    rcases (p.ow a w).2 with z | z
    · exact r.fresh0 z
    · obtain ⟨l, hl, z2⟩ := mem_flatA.mp z
      obtain ⟨k, hm⟩ := io_mk hk hl
      exact r.fr l k y hm hy a z2
  obtain ⟨A2, r2, g⟩ := give_all (c := c) (n := n) (F := F') (F' := F) (H := H') (H' := H) (δ0 := δ) (io := ioS ps es) (y := y) p.io q hk nd r1 (fun i hi => if_pos hi) (fun j a h w => by
      obtain ⟨h1, h2⟩ := sub j a h
      rcases (p.ow a w).2 with z | z
      · obtain ⟨o, e⟩ := alive j a h2
        rw [z] at e; cases e
      · exact out j a h1 h2 z) (fun a w => ⟨(p.ow a w).1, (p.ow a w).2.elim (fun z => .inl (r.fresh0 z)) (own0 a)⟩) h4
  refine ⟨A2, r2, fun j a h => ?_⟩
  rcases g j a h with z | z
  · obtain ⟨h1, h2⟩ := sub j a z
    obtain ⟨o, e⟩ := alive j a h2
    exact .inl (by rw [e]; exact fun z => nomatch z)
  · exact .inr z
end
end Nc

set_option Elab.async false
set_option linter.all false
set_option autoImplicit false
set_option maxRecDepth 100000
set_option maxHeartbeats 4000000
/-! Soundness: calls. -/
namespace Nc
open PySem PySem.Spec PyProof.Rows L2
section
variable {c : Cn} {n : En} {T : Tb} {Xr : XrT} {x : Sx} {X : Cx} {W : WX} {F F' : Fz} {M M' : Ms} {σ : L2.St} {H H' H1 : Hp} {δ δ' δ1 : Env} {ex : Ex} {ty : Ty} {e : Expr} {A : Nat → List Addr}
theorem call_po {f : Kf} {s : Sig} {es : Ex} {vs : List V} {ds : List D} {Q : VK} (hs : T.sg f = some s) (ok : n.Ok) (r : RS c n F' M' σ H' δ1) (kp : Kp F H F' H') (l : Le (exM M) (exM M')) (hb : isB ex = false) (q : RawL c F' σ H' δ1 es vs ds) (hk : callOk M' s es = true)
    (po : PoE c n Xr W M M' ex (resT s.res) σ F H (callO T f es ds δ1) Q) : spF c Xr s (T.fn f) vs H' Q (fun cls d H2 => W cls d σ H2) := by
  unfold callOk at hk
  rw [Bool.and_eq_true, decide_eq_true_eq, Bool.or_eq_true] at hk
  obtain ⟨nd, hk⟩ := hk
  obtain ⟨y, hk⟩ : ∃ y, argOk M' (ioS s.ps es) y s.ps es = true := hk.elim (fun h => ⟨_, h⟩) fun h => ⟨_, h⟩
  obtain ⟨A, r⟩ := r
  refine ⟨F', ds, (ioS s.ps es).map A, r.fk, args_of r ok q hk nd fun i h => h, ?_⟩
  unfold callO at po
  rw [hs] at po
  cases hf : T.fn f ds with
  | none => rw [hf] at po; exact po.elim
  | some out =>
    rw [hf] at po
    cases out with
    | val d ios =>
      intro v F2 H2 As' p rr
      obtain ⟨A2, r2, g⟩ := post_call r ok q hk nd p
      refine po v H2 F2 (kp.trans p.kp) ⟨A2, r2, ?_⟩
      unfold resT
      unfold ResR at rr
      by_cases hm : s.res = .fz
      · rw [if_pos hm] at rr ⊢
        exact ⟨rr, hb⟩
      · rw [if_neg hm] at rr ⊢
        obtain ⟨B, o, dj, h0⟩ := rr
        exact ⟨B, o, fun i a h1 h2 => (g i a h1).elim (fun z => z (h0 a h2).2) fun z => dj a h2 z, fun a h => ⟨(h0 a h).1, r.fresh0 (h0 a h).2⟩⟩
    | exc k xs ios =>
      intro cls dx F2 H2 As' p rr
      obtain ⟨A2, r2, g⟩ := post_call r ok q hk nd p
      exact po cls dx H2 F2 (kp.trans p.kp) (RS.weak ⟨A2, r2⟩ (l.trans (exM_le M'))) rr
theorem isB_cal {f : Kf} {es : Ex} : isB (.cal f es) = false := rfl
theorem snd_cal {f : Kf} {ys : Ex} (s2 : Snd c T Xr x ys) : Snd c T Xr x (.cal f ys) := by
  have core : ∀ e as s M M', kfA x f e = some as → T.sg f = some s → ((chk3 x ys).s .raw as M).bind (fun M' => grd (callOk M' s ys) M') = some M' → Le (exM M) (exM M') ∧ as.all nst = true ∧ ∀ n, n.Ok → ∀ X W, Gx X x c T Xr W → ∀ σ H δ F (Q : VK), RS c n F M σ H δ →
      PoE c n Xr W M M' (.cal f ys) (resT s.res) σ F H (callR T f ys (evs T ys) δ) Q → SEs X as σ H (fun vs H1 => spF c Xr s (T.fn f) vs H1 Q fun cls d H2 => W cls d σ H2) := fun e as s M M' ha hs h => by
    obtain ⟨M1, h1, h⟩ := Option.bind_eq_some_iff.mp h
    obtain ⟨h2, h⟩ := grd_some h
    subst h
    obtain ⟨⟨l, nn⟩, k⟩ := s2.s _ as M M1 h1
    refine ⟨l, nn, fun n ok X W g σ H δ F Q r po => k n ok X W g σ H δ F _ r ?_⟩
    have po' : PoE c n Xr W M M1 (.cal f ys) (resT s.res) σ F H ((evs T ys δ).bnd fun ds δ' => callO T f ys ds δ') Q := po
    cases hr : evs T ys δ with
    | no => rw [hr] at po'; exact po'
    | ex kk ds δ' => rw [hr] at po'; exact po'
    | ok ds δ1 =>
      rw [hr] at po'
      intro vs H1 F1 kp r1 rl
      exact call_po hs ok r1 kp l rfl rl h2 po'
  refine ⟨fun e M ty M' h => ?_, fun e M M' h => ?_, fun _ _ _ _ h => (nomatch h)⟩
  · have h' : (match kfA x f e, x.sg f with | some as, some s => ((chk3 x ys).s .raw as M).bind fun M' => grd (callOk M' s ys) (resT s.res, M') | _, _ => none) = some (ty, M') := h
    cases ha : kfA x f e with
    | none => rw [ha] at h'; cases h'
    | some as =>
      cases hs : x.sg f with
      | none => rw [ha, hs] at h'; cases h'
      | some s =>
        rw [ha, hs] at h'
        obtain ⟨M1, h1, h2⟩ := Option.bind_eq_some_iff.mp h'
        obtain ⟨h3, h4⟩ := grd_some h2
        cases h4
        refine ⟨((s2.s _ as M M' h1).1).1, fun n ok X W g σ H δ F Q r po => ?_⟩
        have hs' : T.sg f = some s := g.sgs _ _ hs
        obtain ⟨l, nn, k⟩ := core e as s M M' ha hs' (by rw [h1]; show grd _ M' = _; unfold grd; rw [if_pos h3])
        exact (g.all.cal f s hs e as ha nn).1 σ H Q (k n ok X W g σ H δ F Q r po)
  · have h' : (match kfA x f e, x.sg f with | some as, some s => ((chk3 x ys).s .raw as M).bind fun M' => grd (callOk M' s ys && (decide (s.res = .fz) && (isCK f || plainT e))) M' | _, _ => none) = some M' := h
    cases ha : kfA x f e with
    | none => rw [ha] at h'; cases h'
    | some as =>
      cases hs : x.sg f with
      | none => rw [ha, hs] at h'; cases h'
      | some s =>
        rw [ha, hs] at h'
        obtain ⟨M1, h1, h2⟩ := Option.bind_eq_some_iff.mp h'
        obtain ⟨h3, h4⟩ := grd_some h2
        subst h4
        rw [Bool.and_eq_true, Bool.and_eq_true, decide_eq_true_eq, Bool.or_eq_true] at h3
        refine ⟨((s2.s _ as M M1 h1).1).1, fun n ok X W g σ H δ F Q r po => ?_⟩
        have hs' : T.sg f = some s := g.sgs _ _ hs
        obtain ⟨l, nn, k⟩ := core e as s M M1 ha hs' (by rw [h1]; show grd _ M1 = _; unfold grd; rw [if_pos h3.1])
        have eT : resT s.res = .sh := by unfold resT; rw [if_pos h3.2.1]
        rw [eT] at k
        have po' : PoT c n Xr W M M1 σ F H ((if isCK f = true then truB (callR T f ys (evs T ys)) else tru (.cal f ys) (callR T f ys (evs T ys))) δ) Q := po
        by_cases hc : isCK f = true
        · rw [if_pos hc] at po'
          refine (g.all.cal f s hs e as ha nn).2 hc σ H Q (k n ok X W g σ H δ F _ r ?_)
          unfold truB at po'
          cases hr : callR T f ys (evs T ys) δ with
          | no => rw [hr] at po'; exact po'
          | ex kk ds δ' => rw [hr] at po'; exact po'
          | ok d δ1 =>
            rw [hr] at po'
            intro v H1 F1 kp rt
            cases d with
            | bl b => exact ⟨b, R1.bl (R1.of rt.sh), po' H1 F1 kp rt.rs⟩
            | _ => exact (show False from po').elim
        · rw [if_neg hc] at po'
          have hp : plainT e = true := h3.2.2.resolve_left hc
          refine ST.of (pt_truth pe_S (plainT_eq hp _)) ((g.all.cal f s hs e as ha nn).1 σ H _ (k n ok X W g σ H δ F _ r ?_))
          unfold tru at po'
          cases hr : callR T f ys (evs T ys) δ with
          | no => rw [hr] at po'; exact po'
          | ex kk ds δ' => rw [hr] at po'; exact po'
          | ok d δ1 =>
            rw [hr] at po'
            intro v H1 F1 kp rt
            have po2 : PoT c n Xr W M M1 σ F H (match trD d with | some z => R.ok z δ1 | none => .no) Q := po'
            cases ht : trD d with
            | none => rw [ht] at po2; exact po2.elim
            | some z =>
              rw [ht] at po2
              exact ⟨z, tru_R1 (R1.of rt.sh) ht, po2 H1 F1 kp rt.rs⟩
theorem ownA_no {k : Mk} {f : Str} : ∀ {gs : List (Str × V)} {fs : List (Str × D)} {A : List Addr}, OwnA c F H k gs fs A → fs.lookup f = none → gs.lookup f = none
  | _, _, _, .nil, e => rfl
  | _, _, _, .cons (f := g) h r nn, e => by
    rw [List.lookup_cons] at e ⊢
    cases z : (f == g) with
    | true => rw [z] at e; cases e
    | false => rw [z] at e; exact ownA_no r e
theorem snd_met {m : Str} {o ys : Ex} (s1 : Snd c T Xr x o) (s2 : Snd c T Xr x ys) : Snd c T Xr x (.met m o ys) := by
  have inv : ∀ {e M ty M'}, (match metA m e, x.sg (.mt m) with | some (oe, as), some s => ((chk3 x o).e oe M).bind fun r => ((chk3 x ys).s .raw as r.2).bind fun M' => grd (bokX .raw r.1 o M' false && callOk M' s (.cons o ys)) (resT s.res, M') | _, _ => none) = some (ty, M') →
      ∃ oe as s t1 M1, metA m e = some (oe, as) ∧ x.sg (.mt m) = some s ∧ (chk3 x o).e oe M = some (t1, M1) ∧ (chk3 x ys).s .raw as M1 = some M' ∧ bokX .raw t1 o M' false = true ∧ callOk M' s (.cons o ys) = true ∧ ty = resT s.res := fun {e M ty M'} h => by
    cases ha : metA m e with
    | none => rw [ha] at h; cases h
    | some p =>
      obtain ⟨oe, as⟩ := p
      cases hs : x.sg (.mt m) with
      | none => rw [ha, hs] at h; cases h
      | some s =>
        rw [ha, hs] at h
        obtain ⟨⟨t1, M1⟩, h1, h⟩ := Option.bind_eq_some_iff.mp h
        obtain ⟨M2, h2, h⟩ := Option.bind_eq_some_iff.mp h
        obtain ⟨h3, h4⟩ := grd_some h
        cases h4
        rw [Bool.and_eq_true] at h3
        exact ⟨oe, as, s, t1, M1, rfl, rfl, h1, h2, h3.1, h3.2, rfl⟩
  refine snd_val rfl rfl (fun e M ty M' h t => ?_) fun e M ty M' h => ?_
  · obtain ⟨_, _, s, _, _, _, _, _, _, _, _, rfl⟩ := inv h
    unfold resT at t
    split at t <;> cases t
  · obtain ⟨oe, as, s, t1, M1, ha, hs, h1, h2, h3, h4, rfl⟩ := inv h
    obtain ⟨l1, k1⟩ := s1.e oe M t1 M1 h1
    obtain ⟨⟨l2, nn⟩, k2⟩ := s2.s _ as M1 M' h2
    refine ⟨l1.trans l2, fun n ok X W g σ H δ F Q r po => ?_⟩
    have hs' : T.sg (.mt m) = some s := g.sgs _ _ hs
    have po' : PoE c n Xr W M M' (.met m o ys) (resT s.res) σ F H (metV T m o ys (ev T o) (evs T ys) δ) Q := po
    unfold metV at po'
    cases hr : ev T o δ with
    | no => rw [hr] at po'; exact po'.elim
    | ex kk ds δ' => rw [hr] at po'; exact po'.elim
    | ok d δ1 =>
      rw [hr] at po'
      cases d with
      | ins k fs =>
        have po2 : PoE c n Xr W M M' (.met m o ys) (resT s.res) σ F H (match fs.lookup m with | none => if T.sg (.cm k m) = T.sg (.mt m) then (evs T ys δ1).bnd fun ds δ2 => callO T (.cm k m) (.cons o ys) (rsv o (.ins k fs) δ2 :: ds) δ2 else .no | some _ => .no) Q := po'
        cases hl : fs.lookup m with
        | some _ => rw [hl] at po2; exact po2.elim
        | none =>
          rw [hl] at po2
          by_cases hc : T.sg (.cm k m) = T.sg (.mt m)
          · have po3 : PoE c n Xr W M M' (.met m o ys) (resT s.res) σ F H ((evs T ys δ1).bnd fun ds δ2 => callO T (.cm k m) (.cons o ys) (rsv o (.ins k fs) δ2 :: ds) δ2) Q := by
              have z : PoE c n Xr W M M' (.met m o ys) (resT s.res) σ F H (if T.sg (.cm k m) = T.sg (.mt m) then (evs T ys δ1).bnd fun ds δ2 => callO T (.cm k m) (.cons o ys) (rsv o (.ins k fs) δ2 :: ds) δ2 else .no) Q := po2
              rw [if_pos hc] at z
              exact z
            have hsk : T.sg (.cm k m) = some s := hc.trans hs'
            refine g.all.met k m s hsk e oe as ha nn σ H Q (k1 n ok X W g σ H δ F _ r ?_)
            rw [hr]
            intro v H1 F1 kp rt
            have inst : ∃ a C dx gs, c.cl k = some C ∧ v = .ref a ∧ H1 a = some (.ins C dx gs) ∧ gs.lookup m = none := by
              cases t1 with
              | sh =>
                have rp := rt.sh
                cases rp with
                | ins hf hC hH ra => exact ⟨_, _, _, _, hC, rfl, hH, (ra.lookup m).1 hl⟩
              | fr _ => cases h3
              | bp => cases h3
              | bo =>
                obtain ⟨A, q, i, rfl, hv⟩ := rt
                obtain ⟨g1, g2⟩ := grd_some (show grd (nmA x i oe && decide (gm M i ≠ .un)) (Ty.bo, M) = some (.bo, M1) from h1)
                cases g2
                rw [Bool.and_eq_true, decide_eq_true_eq] at g1
                have hr' : slot i δ = .ok (.ins k fs) δ1 := hr
                have hd : δ1[i]? = some (some (.ins k fs)) := by
                  unfold slot at hr'
                  split at hr'
                  · rename_i d0 e0; cases hr'; exact e0
                  · cases hr'
                obtain ⟨v', d, B, e1, e2, e3⟩ := q.any ok (gm_eq rfl g1.2) g1.2
                rw [hv] at e1; cases e1
                rw [hd] at e2; cases e2
                have own : ∀ {mk : Mk}, Own c F1 H1 mk v (.ins k fs) B → ∃ a C dx gs, c.cl k = some C ∧ v = .ref a ∧ H1 a = some (.ins C dx gs) ∧ gs.lookup m = none := fun {mk} o => by
                  cases o with
                  | fz rp => cases rp with | ins hf hC hH ra => exact ⟨_, _, _, _, hC, rfl, hH, (ra.lookup m).1 hl⟩
                  | ins hm hC hH oa nn => exact ⟨_, _, _, _, hC, rfl, hH, ownA_no oa hl⟩
                rcases e3 with ⟨kk, yy, _, o⟩ | ⟨b, _, o⟩
                · exact own o
                · cases b with
                  | none => exact o.elim own own
                  | some mm => exact own o
            obtain ⟨a, C, dx, gs, i1, i2, i3, i4⟩ := inst
            refine ⟨a, C, dx, gs, i1, i2, i3, i4, k2 n ok X W g σ H1 δ1 F1 _ rt.rs ?_⟩
            cases hr2 : evs T ys δ1 with
            | no => rw [hr2] at po3; exact po3
            | ex kk ds δ' => rw [hr2] at po3; exact PoX.back po3 kp l1
            | ok ds δ2 =>
              rw [hr2] at po3
              intro vs H2 F2 kp2 r2 rl
              refine call_po hsk ok r2 (kp.trans kp2) (l1.trans l2) rfl ?_ h4 po3
              have hnb : t1 ≠ .bp := fun z => by subst z; cases h3
              exact rsl_cons (k := .raw) (l := false) rt kp2 r2 ok hnb h3 rl
          · have z : PoE c n Xr W M M' (.met m o ys) (resT s.res) σ F H (if T.sg (.cm k m) = T.sg (.mt m) then (evs T ys δ1).bnd fun ds δ2 => callO T (.cm k m) (.cons o ys) (rsv o (.ins k fs) δ2 :: ds) δ2 else .no) Q := po2
            rw [if_neg hc] at z
            exact z.elim
      | _ => exact (show False from po').elim
theorem snd_bm {b : Bi} {o ys : Ex} (s1 : Snd c T Xr x o) (s2 : Snd c T Xr x ys) : Snd c T Xr x (.bm b o ys) := by
  have inv : ∀ {e M ty M'}, (match bmA b e, x.sg (.bi b) with | some (oe, as), some s => ((chk3 x o).e oe M).bind fun r => ((chk3 x ys).s .raw as r.2).bind fun M' => grd (bokX .raw r.1 o M' false && (bokX .bor r.1 o r.2 false && callOk M' s (.cons o ys))) (resT s.res, M') | _, _ => none) = some (ty, M') →
      ∃ oe as s t1 M1, bmA b e = some (oe, as) ∧ x.sg (.bi b) = some s ∧ (chk3 x o).e oe M = some (t1, M1) ∧ (chk3 x ys).s .raw as M1 = some M' ∧ bokX .raw t1 o M' false = true ∧ bokX .bor t1 o M1 false = true ∧ callOk M' s (.cons o ys) = true ∧ ty = resT s.res := fun {e M ty M'} h => by
    cases ha : bmA b e with
    | none => rw [ha] at h; cases h
    | some p =>
      obtain ⟨oe, as⟩ := p
      cases hs : x.sg (.bi b) with
      | none => rw [ha, hs] at h; cases h
      | some s =>
        rw [ha, hs] at h
        obtain ⟨⟨t1, M1⟩, h1, h⟩ := Option.bind_eq_some_iff.mp h
        obtain ⟨M2, h2, h⟩ := Option.bind_eq_some_iff.mp h
        obtain ⟨h3, h4⟩ := grd_some h
        cases h4
        rw [Bool.and_eq_true, Bool.and_eq_true] at h3
        exact ⟨oe, as, s, t1, M1, rfl, rfl, h1, h2, h3.1, h3.2.1, h3.2.2, rfl⟩
  refine snd_val rfl rfl (fun e M ty M' h t => ?_) fun e M ty M' h => ?_
  · obtain ⟨_, _, s, _, _, _, _, _, _, _, _, _, rfl⟩ := inv h
    unfold resT at t
    split at t <;> cases t
  · obtain ⟨oe, as, s, t1, M1, ha, hs, h1, h2, h3, h5, h4, rfl⟩ := inv h
    obtain ⟨l1, k1⟩ := s1.e oe M t1 M1 h1
    obtain ⟨⟨l2, nn⟩, k2⟩ := s2.s _ as M1 M' h2
    refine ⟨l1.trans l2, fun n ok X W g σ H δ F Q r po => ?_⟩
    have hsk : T.sg (.bi b) = some s := g.sgs _ _ hs
    have po' : PoE c n Xr W M M' (.bm b o ys) (resT s.res) σ F H (bmV T b o ys (ev T o) (evs T ys) δ) Q := po
    unfold bmV at po'
    refine g.all.bm b s hs e oe as ha nn σ H Q (k1 n ok X W g σ H δ F _ r ?_)
    cases hr : ev T o δ with
    | no => rw [hr] at po'; exact po'.elim
    | ex kk ds δ' => rw [hr] at po'; exact po'
    | ok d δ1 =>
      rw [hr] at po'
      have po2 : PoE c n Xr W M M' (.bm b o ys) (resT s.res) σ F H (if bmT b (rsv o d δ1) = true then (evs T ys δ1).bnd fun ds δ2 => callO T (.bi b) (.cons o ys) (rsv o d δ2 :: ds) δ2 else .no) Q := po'
      by_cases hb : bmT b (rsv o d δ1) = true
      · rw [if_pos hb] at po2
        intro v H1 F1 kp rt
        have hnb : t1 ≠ .bp := fun z => by subst z; cases h3
        have h5' : bokX .bor t1 o M1 true = true := by
          cases t1 <;> first | exact h5 | exact absurd rfl hnb
        obtain ⟨B, rr⟩ := RsT.r1 rt ok h5'
        refine ⟨⟨F1, _, B, rr, hb⟩, k2 n ok X W g σ H1 δ1 F1 _ rt.rs ?_⟩
        cases hr2 : evs T ys δ1 with
        | no => rw [hr2] at po2; exact po2
        | ex kk ds δ' => rw [hr2] at po2; exact PoX.back po2 kp l1
        | ok ds δ2 =>
          rw [hr2] at po2
          intro vs H2 F2 kp2 r2 rl
          refine call_po hsk ok r2 (kp.trans kp2) (l1.trans l2) rfl ?_ h4 po2
          exact rsl_cons (k := .raw) (l := false) rt kp2 r2 ok hnb h3 rl
      · rw [if_neg hb] at po2
        exact po2.elim
end
end Nc

set_option Elab.async false
set_option linter.all false
set_option autoImplicit false
set_option maxRecDepth 100000
set_option maxHeartbeats 4000000
/-! Soundness: what changes things. -/
namespace Nc
open PySem PySem.Spec PyProof.Rows L2
section
variable {c : Cn} {n : En} {T : Tb} {Xr : XrT} {x : Sx} {X : Cx} {W : WX} {F F' : Fz} {M M' : Ms} {σ σ' : L2.St} {H H' H1 : Hp} {δ δ' δ1 : Env} {ex : Ex} {ty : Ty} {e : Expr} {A : Nat → List Addr}
/-- what a slot holds is changed -/
theorem RX.alter (r : RX c n F M σ H δ A) (ok : n.Ok) {i : Nat} {m : Mk} {y : Fx} {d : D} {A1 : List Addr} {v : V} (hm : M[i]? = some (.mk m y)) (hv : σ[i]? = some (some v)) (kp : Kp F H F H') (on : ∀ a, a ∉ A i → H' a = H a) (st : ∀ a, H a ≠ none → H' a ≠ none)
    (o : Own c F H' m v d A1) (sub : ∀ a ∈ A1, a ∈ A i) : RX c n F M σ H' (δ.set i (some d)) (fun j => if j = i then A1 else A j) := by
  have hi : i < M.length := (List.getElem?_eq_some_iff.mp hm).1
  have sub2 : ∀ j a, a ∈ (if j = i then A1 else A j) → a ∈ A j := fun j a h => by
    by_cases e : j = i
    · rw [if_pos e] at h; rw [e]; exact sub a h
    · rw [if_neg e] at h; exact h
  refine ⟨r.ls, by rw [List.length_set]; exact r.ld, fun j k hj => ?_, fun j hj => ?_, fun j l ne a h1 h2 => r.dj j l ne a (sub2 j a h1) (sub2 l a h2), fun j a h => r.ow j a (sub2 j a h), fun j k z h1 h2 a h3 => r.fr j k z h1 h2 a (sub2 j a h3), fun a u e h => ?_, fun a h => st a (r.st a h), fun a f => ?_, r.f0, r.f1⟩
  · by_cases e : j = i
    · subst e
      rw [hm] at hj
      cases hj
      rw [if_pos rfl]
      exact ⟨v, d, hv, List.getElem?_set_self (by rw [r.ld]; exact hi), o⟩
    · rw [if_neg e, List.getElem?_set_ne (Ne.symm e)]
      have q := r.sl j k hj
      cases k with
      | un => exact q
      | mk k z => obtain ⟨w, d', h1, h2, o'⟩ := q; exact ⟨w, d', h1, h2, o'.mono kp fun a ha => on a fun z => r.dj j i e a ha z⟩
      | bo b => exact q
  · by_cases e : j = i
    · subst e; rw [hm] at hj; cases hj
    · rw [if_neg e]; exact r.out j hj
  · rw [on a fun z => (r.ow i a z).2.elim (fun w => by rw [w] at e; cases e) h]
    exact r.kp a u e h
  · obtain ⟨u, e⟩ := r.fk a f
    cases h : H' a with
    | none => exact absurd h (st a (by rw [e]; exact fun z => nomatch z))
    | some o => exact ⟨o, rfl⟩
theorem boS_ok : ∀ {M M' : Ms}, boS M M' = true → M.length = M'.length ∧ ∀ (j : Nat) (b : Option Mk), M[j]? = some (.bo b) → M'[j]? = some (.bo b)
  | [], [], _ => ⟨rfl, fun j b h => by simp at h⟩
  | a :: M, b :: M', h => by
    unfold boS at h
    rw [Bool.and_eq_true] at h
    obtain ⟨h1, h2⟩ := h
    obtain ⟨l, k⟩ := boS_ok h2
    refine ⟨by simp [l], fun j bb e => ?_⟩
    cases j with
    | zero =>
      simp at e
      subst e
      have h1' : decide (b = .bo bb) = true := h1
      simp [of_decide_eq_true h1']
    | succ j => exact k j bb (by simpa using e)
  | [], _ :: _, h => by cases h
  | _ :: _, [], h => by cases h
/-- a list, a dict that may be changed -/
def MuC (u : Mu) (v : V) (H : Hp) : Prop := match u with
  | .dpop => ∃ a kvs, v = .ref a ∧ H a = some (.dK kvs)
  | .sdf => ∃ a kvs, v = .ref a ∧ H a = some (.dK kvs)
  | _ => ∃ a xs, v = .ref a ∧ H a = some (.lst xs)
/-- the change by the heap -/
def MuR (u : Mu) (v : V) (vs : List V) (H : Hp) (Q : VK) : Prop := match u with
  | .app => ∃ a xs y, v = .ref a ∧ vs = [y] ∧ H a = some (.lst xs) ∧ xs.length < sizeLine ∧ Q .non (upd H a (.lst (xs ++ [y])))
  | .pop => ∃ a xs y, v = .ref a ∧ vs = [] ∧ H a = some (.lst xs) ∧ xs[xs.length - 1]? = some y ∧ Q y (upd H a (.lst xs.dropLast))
  | .popA => ∃ a xs i k y, v = .ref a ∧ vs = [.int i] ∧ H a = some (.lst xs) ∧ ixN xs.length i = some k ∧ xs.length ≤ sizeLine ∧ xs[k]? = some y ∧ Q y (upd H a (.lst (xs.eraseIdx k)))
  | .ins => ∃ a xs i y, v = .ref a ∧ vs = [.int i, y] ∧ H a = some (.lst xs) ∧ xs.length < sizeLine ∧ 0 ≤ i ∧ i ≤ xs.length ∧ Q .non (upd H a (.lst (xs.take i.toNat ++ [y] ++ xs.drop i.toNat)))
  | .dpop => ∃ a kvs k z, v = .ref a ∧ vs = [kV k, z] ∧ H a = some (.dK kvs) ∧ (∀ w, valV kvs k = some w → Q w (upd H a (.dK (dropK kvs k)))) ∧ (valV kvs k = none → Q z H)
  | .sdf => ∃ a kvs k z, v = .ref a ∧ vs = [kV k, z] ∧ H a = some (.dK kvs) ∧ kvs.length < sizeLine ∧ (∀ w, valV kvs k = some w → Q w H) ∧ (valV kvs k = none → Q z (upd H a (.dK (putK kvs k z))))
theorem starEach_nst : ∀ {es : List Expr} {env : PySem.Env} {pos : Pos}, es.all nst = true → (backTo pos (starEach es env)).all (fun x => !x.1) = true
  | [], _, _, _ => rfl
  | e :: es, env, pos, h => by
    rw [List.all_cons, Bool.and_eq_true] at h
    rw [nst_each h.1]
    have := starEach_nst (es := es) (env := env) (pos := pos) h.2
    unfold backTo at this ⊢
    rw [List.map_cons, List.all_cons, this]
    rfl
theorem few_of {a : Expr} {as : List Expr} {env : PySem.Env} {pos : Pos} {k : Nat} (h : (a :: as).all nst = true) (hl : (a :: as).length = k) (hk : k < 30 := by decide) : ((backTo pos (starEach (a :: as) env)).all (fun x => !x.1) && (backToKw pos (keywordEach [] env)).all (fun x => x.1.isSome)
      && decide ((a :: as).length + ([] : List Keyword).length + (if ([] : List Keyword).isEmpty then 0 else 1) < 30)) = true := by
  rw [starEach_nst h, Bool.true_and]
  have : (backToKw pos (keywordEach [] env)).all (fun x => x.1.isSome) = true := rfl
  rw [this, Bool.true_and, decide_eq_true_eq]
  show (a :: as).length + 0 + 0 < 30
  omega
theorem plain_of {a : Expr} {as : List Expr} {env : PySem.Env} {pos : Pos} (h : (a :: as).all nst = true) : (backTo pos (starEach as env)).any (·.1) = false := by
  rw [List.all_cons, Bool.and_eq_true] at h
  exact nst_any h.2
theorem m2_of {o a1 a2 : Expr} {m : Str} {p q : Pos} (base : attributeBase o m X.env (eval o X.env) = eval o X.env) (ln : (p.endLine == q.line) = true) (h : [a1, a2].all nst = true) : M2 X o m p a1 a2 q := by
  refine ⟨base, few_of (k := 2) h rfl (by decide), ln, ?_⟩
  have h1 := nst_one h
  have h2 : nst a2 = true := by rw [List.all_cons, Bool.and_eq_true] at h; exact nst_one h.2
  rw [nst_each h1, nst_each h2] <;> rfl
theorem metA_inv {m : Str} {o : Expr} {as : List Expr} (h : metA m e = some (o, as)) : ∃ p q, e = .Call (.Attribute o m p) as [] q ∧ abOk o = true ∧ (p.endLine == q.line) = true := by
  unfold metA at h
  split at h
  · obtain ⟨h1, h2⟩ := grd_some h
    cases h2
    simp only [Bool.and_eq_true, decide_eq_true_eq, beq_iff_eq] at h1
    obtain ⟨rfl, h2, h3, _⟩ := h1
    exact ⟨_, _, rfl, h2, by rw [beq_iff_eq]; exact h3⟩
  · cases h
theorem metA_few {m : Str} {o : Expr} {as : List Expr} (h : metA m e = some (o, as)) : as.length < 30 := by
  unfold metA at h
  split at h
  · obtain ⟨h1, h2⟩ := grd_some h
    cases h2
    simp only [Bool.and_eq_true, decide_eq_true_eq, beq_iff_eq] at h1
    exact h1.2.2.2
  · cases h
/-- the change, run -/
theorem mu_lift (g : Gn X x) {u : Mu} {o : Expr} {as : List Expr} {Q : VK} (h : muA u e = some (o, as)) (hn : as.all nst = true) (q : SE X o σ H fun v H1 => MuC u v H1 ∧ SEs X as σ H1 fun vs H2 => MuR u v vs H2 Q) : SE X e σ H Q := by
  obtain ⟨⟨o', as'⟩, h1, h2⟩ := Option.bind_eq_some_iff.mp h
  obtain ⟨h3, h4⟩ := grd_some h2
  cases h4
  obtain ⟨p, pos, rfl, ab, ln⟩ := metA_inv h1
  have hl : as.length = muK u := of_decide_eq_true h3
  have base := abOk_eq ab (muN u) X.env (eval o X.env)
  cases u with
  | pop =>
    cases as with
    | nil =>
      refine SE.of (pe_bm0 PySem.F.plainAttrs_list PySem.F.slot_list_pop PySem.F.type_list_pop mt_pop pe_S base ln) (SE.mono q fun v H1 ⟨⟨a, xs, hv, hH⟩, q2⟩ => ?_)
      subst hv
      refine ⟨.inl ⟨rfl, xs, .inl (.inl hH)⟩, ?_⟩
      exact q2
    | cons a as => cases hl
  | app =>
    cases as with
    | nil => cases hl
    | cons a1 as =>
      have hn1 := nst_one hn
      refine SE.of (pe_bm PySem.F.plainAttrs_list PySem.F.slot_list_append PySem.F.type_list_append mt_append pe_S (pa_S hn) base (few_of hn hl) ln (nst_each hn1 _) (plain_of hn)) (SE.mono q fun v H1 ⟨⟨a, xs, hv, hH⟩, q2⟩ => ?_)
      subst hv
      refine ⟨.inl ⟨rfl, xs, .inl (.inl hH)⟩, SEs.mono q2 fun vs H2 q3 => ?_⟩
      exact q3
  | popA =>
    cases as with
    | nil => cases hl
    | cons a1 as =>
      have hn1 := nst_one hn
      refine SE.of (pe_bm PySem.F.plainAttrs_list PySem.F.slot_list_pop PySem.F.type_list_pop mt_popAt pe_S (pa_S hn) base (few_of hn hl) ln (nst_each hn1 _) (plain_of hn)) (SE.mono q fun v H1 ⟨⟨a, xs, hv, hH⟩, q2⟩ => ?_)
      subst hv
      refine ⟨.inl ⟨rfl, xs, .inl (.inl hH)⟩, SEs.mono q2 fun vs H2 q3 => ?_⟩
      obtain ⟨b, ys, i, k, y, e1, e2, e3, e4, e5, e6, q4⟩ := q3
      obtain ⟨e7, e8, e9, e10⟩ := ixN_seq e4
      have hz : (ys.length : Int) ≤ 16777216 := by rw [sizeLine_eq] at e5; omega
      exact ⟨b, ys, i, k, y, e1, e2, e3, by omega, by omega, e7, e6, q4⟩
  | ins =>
    cases as with
    | nil => cases hl
    | cons a1 as =>
      have hn1 := nst_one hn
      refine SE.of (pe_bm PySem.F.plainAttrs_list PySem.F.slot_list_insert PySem.F.type_list_insert mt_insert pe_S (pa_S hn) base (few_of hn hl) ln (nst_each hn1 _) (plain_of hn)) (SE.mono q fun v H1 ⟨⟨a, xs, hv, hH⟩, q2⟩ => ?_)
      subst hv
      refine ⟨.inl ⟨rfl, xs, .inl (.inl hH)⟩, SEs.mono q2 fun vs H2 q3 => ?_⟩
      obtain ⟨b, ys, i, y, e1, e2, e3, e4, e5, e6, q4⟩ := q3
      have hz : (ys.length : Int) ≤ 16777216 := by rw [sizeLine_eq] at e4; omega
      exact ⟨b, ys, i, y, e1, e2, e3, e4, e5, by omega, q4⟩
  | dpop =>
    cases as with
    | nil => cases hl
    | cons a1 as =>
    cases as with
    | nil => cases hl
    | cons a2 as =>
    cases as with
    | cons a3 as => cases hl
    | nil =>
      refine SE.of (pe_dpop2 pe_S pe_S pe_S (m2_of base ln hn)) (SE.mono q fun v H1 ⟨⟨a, kvs, hv, hH⟩, q2⟩ => ?_)
      subst hv
      refine ⟨a, rfl, .inl ⟨kvs, .inl hH⟩, SE.mono q2 fun y H2 q3 => SE.mono q3 fun z H3 q4 => ?_⟩
      obtain ⟨a', kvs', k, w, e1, e2, e3, q5⟩ := (show MuR .dpop (.ref a) [y, z] H3 Q from q4)
      cases e1
      obtain ⟨rfl, h2⟩ := List.cons.inj e2
      obtain ⟨rfl, _⟩ := List.cons.inj h2
      exact ⟨kvs', k, e3, rfl, q5⟩
  | sdf =>
    cases as with
    | nil => cases hl
    | cons a1 as =>
    cases as with
    | nil => cases hl
    | cons a2 as =>
    cases as with
    | cons a3 as => cases hl
    | nil =>
      refine SE.of (pe_dsetd pe_S pe_S pe_S (m2_of base ln hn)) (SE.mono q fun v H1 ⟨⟨a, kvs, hv, hH⟩, q2⟩ => ?_)
      subst hv
      refine ⟨a, rfl, .inl ⟨kvs, .inl hH⟩, SE.mono q2 fun y H2 q3 => SE.mono q3 fun z H3 q4 => ?_⟩
      obtain ⟨a', kvs', k, w, e1, e2, e3, q5⟩ := (show MuR .sdf (.ref a) [y, z] H3 Q from q4)
      cases e1
      obtain ⟨rfl, h2⟩ := List.cons.inj e2
      obtain ⟨rfl, _⟩ := List.cons.inj h2
      exact ⟨kvs', k, e3, rfl, q5⟩
theorem list1 {vs : List V} {d : D} (h : RepL c.cl F H vs [d]) : ∃ v, vs = [v] ∧ Rep c.cl F H v d := by
  cases h with | cons h r => cases r; exact ⟨_, rfl, h⟩
theorem list2 {vs : List V} {d d2 : D} (h : RepL c.cl F H vs [d, d2]) : ∃ v w, vs = [v, w] ∧ Rep c.cl F H v d ∧ Rep c.cl F H w d2 := by
  cases h with | cons h r => cases r with | cons h2 r => cases r; exact ⟨_, _, rfl, h, h2⟩
theorem RepK.filter {k : Kd} : ∀ {vs : List (Key × V)} {ds : List (Kd × D)}, RepK c.cl F H vs ds → RepK c.cl F H (dropK vs (kk k)) (ds.filter fun kv => decide (kv.1 ≠ k))
  | _, _, .nil => .nil
  | _, _, .cons (k := k') hk h r => by
    unfold dropK
    rw [List.filter_cons, List.filter_cons]
    by_cases e : k' = k
    · subst e
      simp only [ne_eq, not_true_eq_false, decide_false, Bool.false_eq_true, if_false]
      exact RepK.filter r
    · have e2 : ¬ kk k' = kk k := fun z => e (kk_inj z)
      simp only [ne_eq, e, e2, not_false_eq_true, decide_true, if_true]
      exact .cons hk h (RepK.filter r)
theorem filter_no {k : Kd} : ∀ {ds : List (Kd × D)}, dGet ds k = none → ds.filter (fun kv => decide (kv.1 ≠ k)) = ds
  | [], _ => rfl
  | (k', d) :: ds, h => by
    unfold dGet at h
    rw [List.find?_cons] at h
    by_cases e : k' = k
    · subst e
      simp only [decide_true] at h
      cases h
    · simp only [decide_eq_false e] at h
      rw [List.filter_cons]
      simp only [ne_eq, e, not_false_eq_true, decide_true, if_true]
      rw [filter_no h]
theorem RepK.app {vs ws : List (Key × V)} {ds es : List (Kd × D)} (r : RepK c.cl F H vs ds) (q : RepK c.cl F H ws es) : RepK c.cl F H (vs ++ ws) (ds ++ es) := by
  induction ds generalizing vs with
  | nil => cases r; exact q
  | cons d ds ih => cases r with | cons hk h r => exact .cons hk h (ih r)
theorem key_ok {v : V} {d : D} {k : Kd} {B : List Addr} (h : R1 c F H v d B) (e : dKey d = some k) : kOk k := by
  cases d with
  | int i => cases e; exact trivial
  | str s => cases e; exact h.str.2
  | _ => cases e
theorem mu_data {u : Mu} {v : V} {d : D} {B : List Addr} {vs : List V} {ds : List D} {y r : D} {Q : VK} (o : Own c F H (.own .fz) v d B) (nf : ∀ b ∈ B, ¬ F b) (rl : RepL c.cl F H vs ds) (e : muD u d ds = some (y, r))
    (q : ∀ H3 w A1, Kp F H F H3 → (∀ b, b ∉ B → H3 b = H b) → (∀ b, H b ≠ none → H3 b ≠ none) → Own c F H3 (.own .fz) v y A1 → (∀ b ∈ A1, b ∈ B) → Rep c.cl F H3 w r → Q w H3) : MuR u v vs H Q := by
  have lst : ∀ {xs : List D}, d = .lst xs → ∃ a zs, v = .ref a ∧ B = [a] ∧ H a = some (.lst zs) ∧ RepL c.cl F H zs xs := fun {xs} z => by
    subst z
    obtain ⟨a, zs, B', rfl, rfl, h, r, n⟩ := o.lstI rfl
    obtain ⟨r', rfl⟩ := OwnL.rep r
    exact ⟨a, zs, rfl, rfl, h, r'⟩
  have dct : ∀ {xs : List (Kd × D)}, d = .dct xs → ∃ a zs, v = .ref a ∧ B = [a] ∧ H a = some (.dK zs) ∧ RepK c.cl F H zs xs := fun {xs} z => by
    subst z
    obtain ⟨a, zs, B', rfl, rfl, h, r, n⟩ := o.dctI rfl
    obtain ⟨r', rfl⟩ := OwnK.rep r
    exact ⟨a, zs, rfl, rfl, h, r'⟩
  have st : ∀ {a : Addr} {ob : HO} (b : Addr), H b ≠ none → upd H a ob b ≠ none := fun {a ob} b h => by
    by_cases z : b = a
    · subst z; rw [upd_same]; exact fun z => nomatch z
    · rw [upd_ne z]; exact h
  have nl : ∀ {a : Addr} {zs zs' : List V} {xs' : List D} {w : V}, v = .ref a → B = [a] → H a = some (.lst zs) → RepL c.cl F H zs' xs' → y = .lst xs' → Rep c.cl F H w r → Q w (upd H a (.lst zs')) := fun {a zs zs' xs' w} e1 e2 e3 e4 e5 e6 => by
    subst e1 e2 e5
    have kp : Kp F H F (upd H a (.lst zs')) := Kp.upd (nf a List.mem_cons_self) e3 (fun _ z => nomatch z)
    exact q _ w [a] kp (fun b hb => upd_ne fun z => hb (z ▸ List.mem_cons_self)) st (own_lst upd_same (e4.mono kp)) (fun b h => h) (e6.mono kp)
  have nd : ∀ {a : Addr} {zs zs' : List (Key × V)} {xs' : List (Kd × D)} {w : V}, v = .ref a → B = [a] → H a = some (.dK zs) → RepK c.cl F H zs' xs' → y = .dct xs' → Rep c.cl F H w r → Q w (upd H a (.dK zs')) := fun {a zs zs' xs' w} e1 e2 e3 e4 e5 e6 => by
    subst e1 e2 e5
    have kp : Kp F H F (upd H a (.dK zs')) := Kp.upd (nf a List.mem_cons_self) e3 (fun _ z => nomatch z)
    exact q _ w [a] kp (fun b hb => upd_ne fun z => hb (z ▸ List.mem_cons_self)) st (own_dct upd_same (e4.mono kp)) (fun b h => h) (e6.mono kp)
  have onl : ∀ {f : List D → List D → Option (D × D)}, onL f d ds = some (y, r) → ∃ xs, d = .lst xs ∧ f xs ds = some (y, r) := fun {f} h => by
    cases d with
    | lst xs => exact ⟨xs, rfl, h⟩
    | _ => cases h
  have onk : ∀ {f : List (Kd × D) → List D → Option (D × D)}, onK f d ds = some (y, r) → ∃ xs, d = .dct xs ∧ f xs ds = some (y, r) := fun {f} h => by
    cases d with
    | dct xs => exact ⟨xs, rfl, h⟩
    | _ => cases h
  cases u with
  | app =>
    obtain ⟨xs, hd, e⟩ := onl e
    obtain ⟨a, zs, e1, e2, e3, e4⟩ := lst hd
    unfold mApp at e
    split at e
    · split at e <;> cases e
      obtain ⟨w, rfl, rw'⟩ := list1 rl
      exact ⟨a, zs, w, e1, rfl, e3, by rw [e4.length, lim_eq]; assumption, nl e1 e2 e3 (e4.append (.cons rw' .nil)) rfl .non⟩
    · cases e
  | pop =>
    obtain ⟨xs, hd, e⟩ := onl e
    obtain ⟨a, zs, e1, e2, e3, e4⟩ := lst hd
    unfold mPop at e
    split at e
    · obtain ⟨z, ez, e⟩ := Option.map_eq_some_iff.mp e
      cases e
      cases rl
      rw [← e4.length] at ez
      obtain ⟨w, ew, rw'⟩ := e4.get ez
      refine ⟨a, zs, w, e1, rfl, e3, ew, nl e1 e2 e3 ?_ rfl rw'⟩
      rw [List.dropLast_eq_take, List.dropLast_eq_take, e4.length]
      exact e4.take _
    · cases e
  | popA =>
    obtain ⟨xs, hd, e⟩ := onl e
    obtain ⟨a, zs, e1, e2, e3, e4⟩ := lst hd
    unfold mPopA at e
    split at e
    · split at e
      · cases e
      · rename_i hz
        obtain ⟨k, ek, e⟩ := Option.bind_eq_some_iff.mp e
        obtain ⟨z, ez, e⟩ := Option.map_eq_some_iff.mp e
        cases e
        obtain ⟨w, rfl, ri⟩ := list1 rl
        obtain ⟨u, eu, ru⟩ := e4.get ez
        refine ⟨a, zs, _, k, u, e1, by rw [(R1.of ri).int], e3, by rw [e4.length]; exact ek, by rw [e4.length, lim_eq]; omega, eu, nl e1 e2 e3 (e4.eraseIdx k) rfl ru⟩
    · cases e
  | ins =>
    obtain ⟨xs, hd, e⟩ := onl e
    obtain ⟨a, zs, e1, e2, e3, e4⟩ := lst hd
    unfold mIns at e
    split at e
    · split at e <;> cases e
      rename_i hz
      obtain ⟨w, w2, rfl, ri, r2⟩ := list2 rl
      refine ⟨a, zs, _, w2, e1, by rw [(R1.of ri).int], e3, by rw [e4.length, lim_eq]; exact hz.1, hz.2.1, by rw [e4.length]; exact hz.2.2, nl e1 e2 e3 ?_ rfl .non⟩
      exact ((e4.take _).append (.cons r2 .nil)).append (e4.drop _)
    · cases e
  | dpop =>
    obtain ⟨xs, hd, e⟩ := onk e
    obtain ⟨a, zs, e1, e2, e3, e4⟩ := dct hd
    unfold mDpop at e
    split at e
    · obtain ⟨k, ek, e⟩ := Option.map_eq_some_iff.mp e
      cases e
      obtain ⟨w, w2, rfl, ri, r2⟩ := list2 rl
      obtain ⟨h1, h2⟩ := RepK.val k e4
      refine ⟨a, zs, kk k, w2, e1, by rw [key_V (R1.of ri) ek], e3, fun v' hv => ?_, fun hv => ?_⟩
      · cases hg : dGet xs k with
        | none => rw [h1 hg] at hv; cases hv
        | some d2 =>
          obtain ⟨v2, g1, g2⟩ := h2 d2 hg
          rw [g1] at hv; cases hv
          rw [hg] at nd q
          exact nd e1 e2 e3 e4.filter rfl g2
      · cases hg : dGet xs k with
        | some d2 =>
          obtain ⟨v2, g1, g2⟩ := h2 d2 hg
          rw [g1] at hv; cases hv
        | none =>
          rw [hg] at q
          rw [filter_no hg] at q
          subst hd
          exact q H w2 B Kp.refl (fun _ _ => rfl) (fun _ h => h) o (fun _ h => h) r2
    · cases e
  | sdf =>
    obtain ⟨xs, hd, e⟩ := onk e
    obtain ⟨a, zs, e1, e2, e3, e4⟩ := dct hd
    unfold mSdf at e
    split at e
    · split at e
      · rename_i hz
        obtain ⟨k, ek, e⟩ := Option.map_eq_some_iff.mp e
        obtain ⟨w, w2, rfl, ri, r2⟩ := list2 rl
        obtain ⟨h1, h2⟩ := RepK.val k e4
        refine ⟨a, zs, kk k, w2, e1, by rw [key_V (R1.of ri) ek], e3, by rw [e4.length, lim_eq]; exact hz, fun v' hv => ?_, fun hv => ?_⟩
        · cases hg : dGet xs k with
          | none => rw [h1 hg] at hv; cases hv
          | some d2 =>
            rw [hg] at e
            cases e
            obtain ⟨v2, g1, g2⟩ := h2 _ hg
            rw [g1] at hv; cases hv
            subst hd
            exact q H _ B Kp.refl (fun _ _ => rfl) (fun _ h => h) o (fun _ h => h) g2
        · cases hg : dGet xs k with
          | some d2 =>
            obtain ⟨v2, g1, g2⟩ := h2 d2 hg
            rw [g1] at hv; cases hv
          | none =>
            rw [hg] at e
            cases e
            rw [putK_new _ hv]
            exact nd e1 e2 e3 (e4.app (.cons (key_ok (R1.of ri) ek) r2 .nil)) rfl r2
      · cases e
    · cases e
theorem mu_con {u : Mu} {v : V} {d : D} {B : List Addr} (o : Own c F H (.own .fz) v d B) (h : muT u d = true) : MuC u v H := by
  have lst : ∀ {xs : List D}, d = .lst xs → ∃ a zs, v = .ref a ∧ H a = some (.lst zs) := fun {xs} z => by
    subst z
    obtain ⟨a, zs, B', rfl, rfl, h, r, n⟩ := o.lstI rfl
    exact ⟨a, zs, rfl, h⟩
  have dct : ∀ {xs : List (Kd × D)}, d = .dct xs → ∃ a zs, v = .ref a ∧ H a = some (.dK zs) := fun {xs} z => by
    subst z
    obtain ⟨a, zs, B', rfl, rfl, h, r, n⟩ := o.dctI rfl
    exact ⟨a, zs, rfl, h⟩
  cases u <;> cases d <;> first | (cases h; done) | exact lst rfl | exact dct rfl
theorem RX.lendG (r : RX c n F M σ H δ A) (ok : n.Ok) {i : Nat} {m : Mk} {y : Fx} (hm : M[i]? = some (.mk m y)) (inj : ∀ x y C, c.cl x = some C → c.cl y = some C → x = y) {M2 : Ms} (hb : boS M2 (M.set i (.bo (some m))) = true) (hi : gm M2 i = .bo (some m)) {A' : Nat → List Addr}
    (r' : RX c (prot n F H A i) F' M2 σ H' δ' A') : RX c n F' (M2.set i (.mk m y)) σ H' δ' (fun j => if j = i then A i else A' j) := by
  obtain ⟨hl, hb⟩ := boS_ok hb
  refine r.unlend ok inj hm r' (gm_eq hi (fun z => nomatch z)) (fun j b e hj => ?_) rfl
  have := hb j b hj
  rw [List.getElem?_set_ne (Ne.symm e)] at this
  exact ⟨this, rfl⟩
theorem exM_lend {i : Nat} {m : Mk} {y : Fx} {M2 : Ms} (hm : M[i]? = some (.mk m y)) (hi : gm M2 i = .bo (some m)) (l : Le (exM (M.set i (.bo (some m)))) (exM M2)) : Le (exM M) (exM (M2.set i (.mk m y))) := by
  have hl : M.length = M2.length := by have := l.1; rw [exM_len, exM_len, List.length_set] at this; exact this
  refine ⟨by rw [exM_len, exM_len, List.length_set]; exact hl, fun j k hj => ?_⟩
  have hlt : i < M2.length := by rw [← hl]; exact (List.getElem?_eq_some_iff.mp hm).1
  by_cases e : j = i
  · subst e
    right
    rw [exM_set, List.getElem?_set_self (by rw [exM_len]; exact hlt)]
    rw [exM_get, hm] at hj
    exact hj
  · rw [exM_set, List.getElem?_set_ne (Ne.symm e)]
    refine l.2 j k ?_
    rw [exM_set, List.getElem?_set_ne (Ne.symm e)]
    exact hj
theorem boS_exM {M M1 : Ms} (h : boS M M1 = true) : boS (exM M) M1 = true := by
  induction M generalizing M1 with
  | nil => cases M1 <;> first | rfl | cases h
  | cons a M ih =>
    cases M1 with
    | nil => cases h
    | cons b M1 =>
      unfold boS at h
      rw [Bool.and_eq_true] at h
      show boS (exm1 a :: exM M) (b :: M1) = true
      unfold boS
      rw [Bool.and_eq_true]
      refine ⟨?_, ih h.2⟩
      cases a with
      | un => rfl
      | bo z => exact h.1
      | mk k z => cases k <;> cases z <;> rfl
theorem boS_refl : ∀ (M : Ms), boS M M = true
  | [] => rfl
  | a :: M => by
    unfold boS
    rw [Bool.and_eq_true]
    refine ⟨?_, boS_refl M⟩
    cases a with
    | bo b => exact decide_eq_true rfl
    | _ => rfl
theorem gm_of {i : Nat} {m : Md} (h : M[i]? = some m) : gm M i = m := by unfold gm; rw [h]; rfl
theorem snd_mu {u : Mu} {i : Nat} {p : List Pe} {ys : Ex} (s2 : Snd c T Xr x ys) : Snd c T Xr x (.mu u i p ys) := by
  have inv : ∀ {e : Expr} {M : Ms} {ty : Ty} {M' : Ms}, (match gm M i with
    | .mk m y => (muA u e).bind fun q => grd (paE x (M.set i (.bo (some m))) i p q.1 && decide (mkP p m = some (.own .fz))) () |>.bind fun _ =>
      ((chk3 x ys).s .kept q.2 (M.set i (.bo (some m)))).bind fun M2 => grd (decide (gm M2 i = .bo (some m)) && boS M2 (M.set i (.bo (some m)))) (Ty.sh, M2.set i (.mk m y))
    | _ => none) = some (ty, M') → ∃ m y o as M2, M[i]? = some (.mk m y) ∧ muA u e = some (o, as) ∧ paE x (M.set i (.bo (some m))) i p o = true ∧ mkP p m = some (.own .fz) ∧ (chk3 x ys).s .kept as (M.set i (.bo (some m))) = some M2 ∧
      gm M2 i = .bo (some m) ∧ boS M2 (M.set i (.bo (some m))) = true ∧ ty = .sh ∧ M' = M2.set i (.mk m y) := fun {e M ty M'} h => by
    cases hg : gm M i with
    | mk m y =>
      rw [hg] at h
      obtain ⟨⟨o, as⟩, h1, h⟩ := Option.bind_eq_some_iff.mp h
      obtain ⟨_, h2, h⟩ := Option.bind_eq_some_iff.mp h
      obtain ⟨h3, _⟩ := grd_some h2
      obtain ⟨M2, h4, h⟩ := Option.bind_eq_some_iff.mp h
      obtain ⟨h5, h6⟩ := grd_some h
      cases h6
      rw [Bool.and_eq_true, decide_eq_true_eq] at h3 h5
      exact ⟨m, y, o, as, M2, gm_eq hg (fun z => nomatch z), h1, h3.1, h3.2, h4, h5.1, h5.2, rfl, rfl⟩
    | _ => rw [hg] at h; cases h
  refine snd_val rfl rfl (fun e M ty M' h t => ?_) fun e M ty M' h => ?_
  · obtain ⟨_, _, _, _, _, _, _, _, _, _, _, _, rfl, _⟩ := inv h
    cases t
  · obtain ⟨m, y, oe, as, M2, hm, hA, he, hp, h2, hi, hb, rfl, rfl⟩ := inv h
    obtain ⟨⟨l2, nn⟩, k2⟩ := s2.s _ as _ M2 h2
    have le := exM_lend hm hi l2
    refine ⟨le, fun n ok X W g σ H δ F Q r po => ?_⟩
    obtain ⟨A, q⟩ := r
    obtain ⟨ok1, q1⟩ := q.lend ok hm
    obtain ⟨v0, d0, e1, e2, o0⟩ := q.sl i _ hm
    have po1 : PoE c n Xr W M (M2.set i (.mk m y)) (.mu u i p ys) .sh σ F H (muV u i p (evs T ys) δ) Q := po
    unfold muV at po1
    rw [e2] at po1
    simp only [] at po1
    cases hd : getP δ p d0 with
    | none => rw [hd] at po1; exact po1.elim
    | some z =>
    rw [hd] at po1
    simp only [] at po1
    by_cases hT : muT u z = true
    case neg => rw [if_neg hT] at po1; exact po1.elim
    rw [if_pos hT] at po1
    obtain ⟨v, B, R, o2, s3, dj, plug, se⟩ := own_path g ⟨_, q1⟩ e1 o0 p (.own .fz) z oe hp hd he
    refine mu_lift g.gn hA nn (se _ ⟨mu_con o2 hT, k2 _ ok1 X W g σ H δ F _ ⟨_, q1⟩ ?_⟩)
    cases hr : evs T ys δ with
    | no => rw [hr] at po1; exact po1
    | ex kk ds δ' =>
      rw [hr] at po1
      intro cls dx H2 F2 kp2 ⟨A2, q2⟩ w
      refine po1 cls dx H2 F2 kp2 ?_ w
      have hm2 : (M.set i (.bo (some m)))[i]? = some (.bo (some m)) := List.getElem?_set_self (List.getElem?_eq_some_iff.mp hm).1
      have q3 := q.lendG ok hm g.inj (boS_exM (boS_refl _)) (gm_of (by rw [exM_get, hm2]; rfl)) q2
      refine RS.weak ⟨_, q3⟩ ⟨by rw [exM_len, List.length_set, exM_len, List.length_set], fun j k hj => ?_⟩
      by_cases e : j = i
      · subst e
        rw [exM_get, hm] at hj
        have hj : exm1 (.mk m y) = k := Option.some.inj hj
        rw [List.getElem?_set_self (by rw [exM_len, List.length_set]; exact (List.getElem?_eq_some_iff.mp hm).1)]
        subst hj
        cases m <;> cases y <;> first | exact .inl rfl | exact .inr rfl
      · right
        rw [List.getElem?_set_ne (Ne.symm e), exM_set, List.getElem?_set_ne (Ne.symm e)]
        exact hj
    | ok ds δ1 =>
      rw [hr] at po1
      intro vs H2 F2 kp2 ⟨A2, q2⟩ rl
      have po2 : PoE c n Xr W M (M2.set i (.mk m y)) (.mu u i p ys) .sh σ F H (match muD u z ds with | some (y, r) => Nc.R.ok r (δ1.set i (some (setP δ p d0 y))) | none => .no) Q := po1
      cases hM : muD u z ds with
      | none => rw [hM] at po2; exact po2.elim
      | some yr =>
        obtain ⟨z2, r2⟩ := yr
        rw [hM] at po2
        have bk := q.bk q2
        have q3 := q.lendG ok hm g.inj hb hi q2
        have inA : ∀ a, a ∈ B → a ∈ A i := fun a h => (s3 a).mpr (.inl h)
        have inR : ∀ a, a ∈ R → a ∈ A i := fun a h => (s3 a).mpr (.inr h)
        have o3 : Own c F2 H2 (.own .fz) v z B := o2.mono bk.kp fun a h => bk.on a (inA a h)
        refine mu_data o3 (fun a h => bk.nf a (inA a h)) rl hM fun H3 w A1 kp3 on3 st3 o4 sub4 rw3 => ?_
        have kp : Kp F H F2 H3 := bk.kp.trans kp3
        obtain ⟨A', o5, s5⟩ := plug F2 H3 z2 A1 kp (fun a h => (on3 a (fun z => dj a z h)).trans (bk.on a (inR a h))) o4 fun a h1 h2 => dj a (sub4 a h1) h2
        have hm3 : (M2.set i (.mk m y))[i]? = some (.mk m y) := List.getElem?_set_self (by rw [← (boS_ok hb).1.symm, List.length_set]; exact (List.getElem?_eq_some_iff.mp hm).1)
        have q4 := q3.alter ok (i := i) (d := setP δ p d0 z2) (A1 := A') hm3 e1 kp3 (fun a h => on3 a fun z => h (by rw [if_pos rfl]; exact inA a z)) st3 o5 (fun a h => by
          rw [if_pos rfl]
          exact (s5 a h).elim (fun z => inA a (sub4 a z)) (inR a))
        exact po2 w H3 F2 (kp2.trans kp3) (RsT.mk ⟨_, q4⟩ rw3 rfl)
end
end Nc

set_option Elab.async false
set_option linter.all false
set_option autoImplicit false
set_option maxRecDepth 100000
set_option maxHeartbeats 4000000
/-! Soundness: what a walk goes over. -/
namespace Nc
open PySem PySem.Spec PyProof.Rows L2
/-- the weakest readings of a walk's ground, of targets -/
def SI (X : Cx) (tg iter : Expr) : TI := fun σ H R => ∀ pins s, Inv X pins σ H s → wpAny (model X.prog X.w) X.A (eval iter X.env) (fun v s1 => wpAny (model X.prog X.w) X.A (pyIter v) (PIE X pins σ tg R) X.xe s1) X.xe s
theorem pi_S {X : Cx} {tg e : Expr} : PI X tg e (SI X tg e) := ⟨fun pins s _ _ _ I h => h pins s I⟩
theorem SI.of {X : Cx} {tg e : Expr} {t : TI} {σ : L2.St} {H : Hp} {R} (h : PI X tg e t) (q : t σ H R) : SI X tg e σ H R := fun pins s I => h.run pins s σ H R I q
def SG (X : Cx) (tg : Expr) : TG := fun v σ H Q => ∀ pins s u, Inv X pins σ H s → RelV v u → wpAny (model X.prog X.w) X.A (assign tg X.env u) (fun _ s' => ∃ σ' H', Inv X pins σ' H' s' ∧ Q σ' H') X.xe s
theorem pg_S {X : Cx} {tg : Expr} : PG X tg (SG X tg) := ⟨fun pins s _ _ _ u _ I r h => h pins s u I r⟩
theorem SG.of {X : Cx} {tg : Expr} {t : TG} {v : V} {σ : L2.St} {H : Hp} {Q} (h : PG X tg t) (q : t v σ H Q) : SG X tg v σ H Q := fun pins s u I r => h.run pins s σ H v u Q I r q
section
variable {c : Cn} {n : En} {T : Tb} {Xr : XrT} {x : Sx} {X : Cx} {W : WX} {F F' : Fz} {M M' : Ms} {σ σ' : L2.St} {H H' H1 : Hp} {δ δ' δ1 : Env} {ex : Ex} {ty : Ty} {e tg : Expr} {A : Nat → List Addr}
/-- what comes out of an iterator, turn by turn -/
structure ItOk (c : Cn) (n : En) (F1 : Fz) (H1 : Hp) (J : It) (ds : List D) : Prop where
  go : ∀ F H i, Fok F H → Kp F1 H1 F H → (∀ a o, n.H0 a = some o → a ∉ n.A0 → H a = some o) → i < ds.length → J.go i H ∧ ∀ v H', J.yld i H v H' → Ext H H' ∧ ∃ d, ds[i]? = some d ∧ Rep c.cl F H' v d
  stop : ∀ F H, Kp F1 H1 F H → (∀ a o, n.H0 a = some o → a ∉ n.A0 → H a = some o) → J.stop ds.length H
def boI (M : Ms) : Ex → Bool
  | .b i => rdb (gm M i) && isBoM (gm M i)
  | _ => false
def PoI (c : Cn) (n : En) (Xr : XrT) (W : WX) (M M' : Ms) (σ : L2.St) (F : Fz) (H : Hp) (r : R (List D)) (Q : It → Hp → Prop) : Prop := match r with
  | .no => False
  | .ok ds δ' => ∀ J H' F', Kp F H F' H' → RS c n F' M' σ H' δ' → ItOk c n F' H' J ds → Q J H'
  | .ex k ds δ' => PoX c n Xr W M σ F H k ds δ'
def SndI (c : Cn) (T : Tb) (Xr : XrT) (x : Sx) (ex : Ex) : Prop := ∀ tg e M M', (chk3 x ex).i tg e M = some M' → Le (exM M) (exM M') ∧ ∀ n, n.Ok → ∀ X W, Gx X x c T Xr W → ∀ σ H δ F Q, RS c n F M σ H δ → PoI c n Xr W M M' σ F H (evi T ex δ) Q → SI X tg e σ H Q
theorem RS.kp0' (r : RS c n F M σ H δ) (ok : n.Ok) : Kp n.F0 n.H0 F H := let ⟨_, q⟩ := r; q.kp0 ok
/-- frozen things stay, what was there at the entry stays -/
theorem itl_ok {a : Addr} {vs : List V} {ds : List D} {K : PySem.W.Frag} (h : ∀ F H, Kp F' H' F H → (∀ a o, n.H0 a = some o → a ∉ n.A0 → H a = some o) → Rd H a (.lst vs) ∧ RepL c.cl F H vs ds) : ItOk c n F' H' (Itl K a) ds := by
  refine ⟨fun F H i fk kp k0 hi => ?_, fun F H kp k0 => ?_⟩
  · obtain ⟨h1, h2⟩ := h F H kp k0
    obtain ⟨d, hd⟩ : ∃ d, ds[i]? = some d := ⟨ds[i], by simp [hi]⟩
    obtain ⟨v, hv, rv⟩ := h2.get hd
    refine ⟨⟨vs, v, .inl h1, hv⟩, fun v' H2 ⟨e, hy⟩ => ?_⟩
    subst e
    have := hy vs (.inl h1)
    rw [hv] at this
    cases this
    exact ⟨Ext.refl _, d, hd, rv⟩
  · obtain ⟨h1, h2⟩ := h F H kp k0
    exact ⟨vs, .inl h1, by rw [h2.length]; exact Nat.le_refl _⟩
theorem itt_ok {a : Addr} {vs : List V} {ds : List D} {K : PySem.W.Frag} (h : ∀ F H, Kp F' H' F H → H a = some (.tup vs) ∧ RepL c.cl F H vs ds) : ItOk c n F' H' (Itt K a) ds := by
  refine ⟨fun F H i fk kp k0 hi => ?_, fun F H kp k0 => ?_⟩
  · obtain ⟨h1, h2⟩ := h F H kp
    obtain ⟨d, hd⟩ : ∃ d, ds[i]? = some d := ⟨ds[i], by simp [hi]⟩
    obtain ⟨v, hv, rv⟩ := h2.get hd
    refine ⟨⟨vs, v, SqT.of h1, hv⟩, fun v' H2 ⟨e, hy⟩ => ?_⟩
    subst e
    have := hy vs (SqT.of h1)
    rw [hv] at this
    cases this
    exact ⟨Ext.refl _, d, hd, rv⟩
  · obtain ⟨h1, h2⟩ := h F H kp
    exact ⟨vs, SqT.of h1, by rw [h2.length]; exact Nat.le_refl _⟩
theorem its_ok {s : List Nat} : ItOk c n F' H' (Its (sOf s)) (s.map fun a => .str [a]) := by
  refine ⟨fun F H i fk kp k0 hi => ?_, fun F H kp k0 => ?_⟩
  · rw [List.length_map] at hi
    refine ⟨by show i < s.toArray.size; rw [List.size_toArray]; exact hi, fun v H2 ⟨e, k, hk, hv⟩ => ?_⟩
    subst e hv
    refine ⟨Ext.refl _, .str [k], ?_, .str [k] (by rw [lim_eq]; show 1 ≤ LIM; decide)⟩
    rw [List.getElem?_map]
    have : s[i]? = some k := by simpa using hk
    rw [this]; rfl
  · show s.toArray.size ≤ _
    rw [List.size_toArray, List.length_map]
    exact Nat.le_refl _
theorem kget : ∀ {vs : List (Key × V)} {ds : List (Kd × D)} {i : Nat} {k : Key} {v : V}, RepK c.cl F H vs ds → vs[i]? = some (k, v) → ∃ q d, ds[i]? = some (q, d) ∧ k = kk q ∧ kOk q
  | _, _, i, k, v, .nil, h => by simp at h
  | _, _, 0, k, v, .cons hk _ r, h => by simp at h; obtain ⟨rfl, rfl⟩ := h; exact ⟨_, _, rfl, rfl, hk⟩
  | _, _, i + 1, k, v, .cons hk _ r, h => by
    obtain ⟨q, d, e1, e2, e3⟩ := kget (i := i) r (by simpa using h)
    exact ⟨q, d, by simpa using e1, e2, e3⟩
theorem rep_key {q : Kd} (h : kOk q) : Rep c.cl F H (kV (kk q)) (kD q) := by
  cases q with
  | inl i => exact .int i
  | inr s => exact .str s h
theorem itk_ok {a : Addr} {o : Obj} {vs : List (Key × V)} {ds : List (Kd × D)} (f : F' a) (h : H' a = some (.frz o (.dK vs))) (r : RepK c.cl F' H' vs ds) : ItOk c n F' H' (Itk a o vs) (ds.map fun kv => kD kv.1) := by
  refine ⟨fun F H i fk kp k0 hi => ?_, fun F H kp k0 => ?_⟩
  · rw [List.length_map] at hi
    refine ⟨⟨(kp.fz a f).trans h, by rw [r.length]; exact hi⟩, fun v H2 ⟨e, k, w, hk, hv⟩ => ?_⟩
    subst e hv
    obtain ⟨q, d, e1, e2, e3⟩ := kget r hk
    refine ⟨Ext.refl _, kD q, by rw [List.getElem?_map, e1]; rfl, by rw [e2]; exact rep_key e3⟩
  · exact ⟨(kp.fz a f).trans h, by rw [r.length, List.length_map]; exact Nat.le_refl _⟩
/-- a frozen thing walked -/
theorem si_rep {v : V} {d : D} {ds : List D} (hi : items d = some ds) (K : PySem.W.Frag) (hK : K = X.K) (se : ∀ Q : VK, (∀ v H2 F2, Kp F H F2 H2 → RS c n F2 M' σ H2 δ' → Rep c.cl F2 H2 v d → Q v H2) → SE X e σ H Q) {Q : It → Hp → Prop}
    (q : ∀ J H' F', Kp F H F' H' → RS c n F' M' σ H' δ' → ItOk c n F' H' J ds → Q J H') : SI X tg e σ H Q := by
  cases d with
  | lst ds' =>
    cases hi
    refine SI.of (pi_list pe_S) (se _ fun v H2 F2 kp r2 rp => ?_)
    cases rp with
    | lst f h r => exact ⟨_, rfl, ⟨_, .inl h⟩, q _ H2 F2 kp r2 (itl_ok fun F3 H3 k3 _ => ⟨k3.rd f h, r.mono k3⟩)⟩
  | tup ds' =>
    cases hi
    refine SI.of (pi_tup pe_S) (se _ fun v H2 F2 kp r2 rp => ?_)
    cases rp with
    | tup h r => exact ⟨_, rfl, ⟨_, SqT.of h⟩, q _ H2 F2 kp r2 (itt_ok fun F3 H3 k3 => ⟨k3.tup _ _ h, r.mono k3⟩)⟩
  | str s =>
    cases hi
    refine SI.of (pi_str pe_S) (se _ fun v H2 F2 kp r2 rp => ?_)
    cases rp with
    | str _ h => exact ⟨_, rfl, q _ H2 F2 kp r2 its_ok⟩
  | dct kvs =>
    cases hi
    refine SI.of (pi_keys pe_S) (se _ fun v H2 F2 kp r2 rp => ?_)
    cases rp with
    | dct f h r => exact ⟨_, _, rfl, .inl ⟨_, h, q _ H2 F2 kp r2 (itk_ok f h r)⟩⟩
  | _ => cases hi
def isIt : Ex → Bool
  | .rng _ => true | .enm _ => true | .zip _ => true | .any => true
  | _ => false
theorem evi_def (h : isIt ex = false) : evi T ex = itV ex (ev T ex) ∨ evi T ex = noS := by
  cases ex <;> first | exact .inl rfl | exact .inr rfl | cases h
theorem chkI_def (h : isIt ex = false) {M M' : Ms} (hc : (chk3 x ex).i tg e M = some M') : (((chk3 x ex).e e M).bind fun r => grd ((!isB ex && decide (r.1 = .sh)) || boI M ex) r.2) = some M' := by
  have gen : ∀ {f : Expr → Ms → Option (Ty × Ms)}, iOf f tg e M = some M' → ((f e M).bind fun r => grd ((true && decide (r.1 = .sh)) || false) r.2) = some M' := fun {f} hc => by
    obtain ⟨r, h1, h2⟩ := Option.bind_eq_some_iff.mp hc
    rw [h1]
    show grd _ _ = _
    rw [Bool.true_and, Bool.or_false]
    exact h2
  cases ex <;> first | (cases h; done) | (cases hc; done) | exact gen hc | skip
  rename_i i
  obtain ⟨h1, h2⟩ := grd_some (show grd (nmA x i e && (rdb (gm M i) && isBoM (gm M i))) M = some M' from hc)
  subst h2
  rw [Bool.and_eq_true] at h1
  have h3 : gm M i ≠ .un := fun z => by rw [z] at h1; cases h1.2
  show (Option.bind (grd (nmA x i e && decide (gm M i ≠ .un)) (Ty.bo, M)) fun r => grd ((false && decide (r.1 = .sh)) || boI M (.b i)) r.2) = some M
  unfold grd
  rw [if_pos (by rw [h1.1, decide_eq_true h3]; rfl)]
  show (if ((false && _) || (rdb (gm M i) && isBoM (gm M i))) = true then some M else none) = some M
  rw [h1.2, Bool.or_true, if_pos rfl]
theorem boI_inv {M : Ms} (h : boI M ex = true) : ∃ i b, ex = .b i ∧ M[i]? = some (.bo b) ∧ (∀ m, b = some m → rd1 m = true) := by
  cases ex <;> first | cases h | skip
  rename_i i
  have h' : (rdb (gm M i) && isBoM (gm M i)) = true := h
  rw [Bool.and_eq_true] at h'
  cases hg : gm M i with
  | bo b =>
    refine ⟨i, b, rfl, gm_eq hg (fun z => nomatch z), fun m hm => ?_⟩
    subst hm
    rw [hg] at h'
    exact h'.1
  | _ => rw [hg] at h'; cases h'.2
theorem items_of {b : Bool} {d : D} {ds : List D} (h : itemsB b d = some ds) : items d = some ds := by
  unfold itemsB at h
  split at h
  · cases h
  · exact h
theorem sndI_def (h : isIt ex = false) (s : Snd c T Xr x ex) : SndI c T Xr x ex := by
  intro tg e M M' hc
  have hc := chkI_def h hc
  obtain ⟨⟨ty, M1⟩, h1, hc⟩ := Option.bind_eq_some_iff.mp hc
  obtain ⟨h2, hc⟩ := grd_some hc
  subst hc
  obtain ⟨l, k⟩ := s.e e M ty M1 h1
  refine ⟨l, fun n ok X W g σ H δ F Q r po => ?_⟩
  rcases evi_def (T := T) h with ei | ei
  case inr => rw [ei] at po; exact po.elim
  rw [ei] at po
  unfold itV at po
  cases hr : ev T ex δ with
  | no => rw [hr] at po; exact po.elim
  | ex kk ds δ' =>
    rw [hr] at po
    refine SI.of (pi_list (tl := fun σ H Q => SE X e σ H Q) pe_S) (k n ok X W g σ H δ F _ r ?_)
    rw [hr]
    exact po
  | ok d δ1 =>
    rw [hr] at po
    have po1 : PoI c n Xr W M M1 σ F H (match itemsB (isB ex) (rsv ex d δ1) with | some ds => Nc.R.ok ds δ1 | none => .no) Q := po
    cases hi : itemsB (isB ex) (rsv ex d δ1) with
    | none => rw [hi] at po1; exact po1.elim
    | some ds =>
    rw [hi] at po1
    rw [Bool.or_eq_true, Bool.and_eq_true, decide_eq_true_eq] at h2
    rcases h2 with ⟨h2, h3⟩ | h2
    · have hb : isB ex = false := by cases hb : isB ex <;> first | rfl | (rw [hb] at h2; cases h2)
      have e1 : rsv ex d δ1 = d := by cases ex <;> first | rfl | cases hb
      rw [e1] at hi
      have ety : ty = .sh := h3
      subst ety
      refine si_rep (c := c) (n := n) (M' := M1) (δ' := δ1) (v := .non) (items_of hi) X.K rfl (fun Q q => k n ok X W g σ H δ F Q r ?_) po1
      rw [hr]
      exact fun v H2 F2 kp rt => q v H2 F2 kp rt.rs rt.sh
    · obtain ⟨i, b, rfl, hm, hb⟩ := boI_inv h2
      obtain ⟨h3, hz⟩ := grd_some (show grd (nmA x i e && decide (gm M i ≠ .un)) (Ty.bo, M) = some (ty, M1) from h1)
      cases hz
      rw [Bool.and_eq_true, decide_eq_true_eq] at h3
      have hr' : slot i δ = .ok d δ1 := hr
      have hd : δ[i]? = some (some d) ∧ δ1 = δ := by
        unfold slot at hr'
        split at hr'
        · rename_i d0 e0; cases hr'; exact ⟨e0, rfl⟩
        · cases hr'
      obtain ⟨hd, rfl⟩ := hd
      have e1 : rsv (.b i) d δ1 = d := by show ((δ1[i]?).getD none).getD d = d; rw [hd] <;> rfl
      rw [e1] at hi
      obtain ⟨A, q⟩ := r
      obtain ⟨_, v, d', B, g1, g2, g3, g4⟩ := q.sl i _ hm
      rw [hd] at g2
      have ed : d' = d := (Option.some.inj (Option.some.inj g2)).symm
      subst ed
      have kp0 := q.kp0 ok
      have fro : Rep c.cl n.F0 n.H0 v d' → SI X tg e σ H Q := fun rp =>
        si_rep (c := c) (n := n) (M' := M) (δ' := δ1) (v := v) (items_of hi) X.K rfl (fun Q2 q2 => se_name g.gn h3.1 g1 (q2 v H F Kp.refl ⟨A, q⟩ (rp.mono kp0))) fun J H2 F2 kp r2 it => po1 J H2 F2 kp r2 it
      have one : ∀ {m : Mk}, Own c n.F0 n.H0 m v d' B → rd1 m = true → SI X tg e σ H Q := fun {m} o h1 => by
        cases m with
        | fz => exact fro o.rep.1
        | own m =>
          cases m with
          | fz =>
            cases d' with
            | lst ds' =>
              cases hi
              obtain ⟨a, vs, B', rfl, rfl, h, r, _⟩ := o.lstI rfl
              have hl : ∀ F2 H2, Kp F H F2 H2 → (∀ a o, n.H0 a = some o → a ∉ n.A0 → H2 a = some o) → Rd H2 a (.lst vs) ∧ RepL c.cl F2 H2 vs ds := fun F2 H2 kp k0 => ⟨.inl (k0 a _ h (g4 a List.mem_cons_self)), (OwnL.rep r).1.mono (kp0.trans kp)⟩
              refine SI.of (pi_list pe_S) (se_name g.gn h3.1 g1 ?_)
              have hl0 := hl F H Kp.refl q.kp
              exact ⟨a, rfl, ⟨vs, .inl hl0.1⟩, po1 _ H F Kp.refl ⟨A, q⟩ (itl_ok hl)⟩
            | dct kvs => cases hi
            | ins k fs => cases hi
            | _ => cases o
          | _ => cases h1
        | _ => cases h1
      cases b with
      | none => exact g3.elim (fun o => one o rfl) fun o => one o rfl
      | some m => exact one g3 (hb m rfl)
theorem nmC_inv {nm : Str} {as : List Expr} (h : nmC nm e = some as) : ∃ p pos, e = .Call (.Name nm p) as [] pos := by
  unfold nmC at h
  split at h
  · obtain ⟨h1, h2⟩ := grd_some h
    cases h2
    obtain rfl := of_decide_eq_true h1
    exact ⟨_, _, rfl⟩
  · cases h
theorem R1L.len {vs : List V} {ds : List D} (r : R1L c F H vs ds) : vs.length = ds.length := by
  induction ds generalizing vs with
  | nil => cases r; rfl
  | cons d ds ih => cases r with | cons h r => simp [ih r]
theorem r1_1 {vs : List V} {d : D} (r : R1L c F H vs [d]) : ∃ v B, vs = [v] ∧ R1 c F H v d B := by
  cases r with | cons h r => cases r; exact ⟨_, _, rfl, h⟩
theorem r1_2 {vs : List V} {d d2 : D} (r : R1L c F H vs [d, d2]) : ∃ v w B B2, vs = [v, w] ∧ R1 c F H v d B ∧ R1 c F H w d2 B2 := by
  cases r with | cons h r => cases r with | cons h2 r => cases r; exact ⟨_, _, _, _, rfl, h, h2⟩
theorem itr_ok {lo : Int} {k : Nat} : ItOk c n F' H' (Itr lo k) ((List.range k).map fun (j : Nat) => .int (lo + j)) := by
  refine ⟨fun F H i fk kp k0 hi => ?_, fun F H kp k0 => ?_⟩
  · rw [List.length_map, List.length_range] at hi
    refine ⟨hi, fun v H2 ⟨e, hv⟩ => ?_⟩
    subst e hv
    refine ⟨Ext.refl _, .int (lo + i), ?_, .int _⟩
    rw [List.getElem?_map, List.getElem?_range hi]
    rfl
  · show k ≤ _
    rw [List.length_map, List.length_range]
    exact Nat.le_refl _
theorem SEs.len : ∀ {as : List Expr} {σ : L2.St} {H : Hp} {Q : List V → Hp → Prop}, SEs X as σ H (fun vs H1 => vs.length = as.length → Q vs H1) → SEs X as σ H Q
  | [], _, _, _, h => h rfl
  | a :: as, _, _, _, h => SE.mono h fun v H1 q => SEs.len (SEs.mono q fun vs H2 z hl => z (by rw [List.length_cons, List.length_cons, hl]))
theorem sndI_rng {ys : Ex} (s2 : Snd c T Xr x ys) : SndI c T Xr x (.rng ys) := by
  intro tg e M M' hc
  obtain ⟨as, h1, hc⟩ := Option.bind_eq_some_iff.mp hc
  obtain ⟨_, h2, hc⟩ := Option.bind_eq_some_iff.mp hc
  obtain ⟨h4, _⟩ := grd_some h2
  rw [Bool.and_eq_true, Bool.or_eq_true, decide_eq_true_eq, decide_eq_true_eq] at h4
  obtain ⟨hgl, h3⟩ := h4
  obtain ⟨⟨l, nn⟩, k⟩ := s2.s _ as M M' hc
  refine ⟨l, fun n ok X W g σ H δ F Q r po => ?_⟩
  obtain ⟨p, pos, rfl⟩ := nmC_inv h1
  have po1 : PoI c n Xr W M M' σ F H ((evs T ys δ).bnd fun ds δ1 => match rngD ds with | some ds => Nc.R.ok ds δ1 | none => .no) Q := po
  have mk : ∀ (Q2 : List V → Hp → Prop), (∀ vs H' F' δ' ds, vs.length = as.length → Kp F H F' H' → RS c n F' M' σ H' δ' → R1L c F' H' vs ds → PoI c n Xr W M M' σ F H (match rngD ds with | some ds => Nc.R.ok ds δ' | none => .no) Q → Q2 vs H') → SEs X as σ H Q2 := fun Q2 q => SEs.len (k n ok X W g σ H δ F _ r (by
    cases hr : evs T ys δ with
    | no => rw [hr] at po1; exact po1
    | ex kk ds δ' => rw [hr] at po1; exact po1
    | ok ds δ1 => rw [hr] at po1; exact fun vs H' F' kp r1 rl hl => q vs H' F' δ1 ds hl kp r1 rl po1))
  have hL : (LIM : Int) = 16777216 := rfl
  rcases h3 with h3 | h3
  · obtain ⟨a, rfl⟩ := List.length_eq_one_iff.mp h3
    refine SI.of (pi_range1 (g.gn.gl hgl) (g.gn.bl _ (by decide)) (pa_S nn) (nst_each (nst_one nn) _)) (mk _ fun vs H' F' δ' ds hl kp r1 rl po2 => ?_)
    have hl2 := rl.len
    rw [hl] at hl2
    unfold rngD at po2
    split at po2
    case h_2 => exact po2.elim
    rename_i ds' hd
    split at hd
    · split at hd <;> cases hd
      rename_i hz
      obtain ⟨v, B, rfl, rv⟩ := r1_1 rl
      refine ⟨_, by rw [rv.int], by omega, by omega, po2 (Itr 0 _) H' F' kp r1 ?_⟩
      have e : ∀ (k : Nat), ((List.range k).map fun (j : Nat) => D.int (j : Int)) = (List.range k).map fun (j : Nat) => D.int (0 + (j : Int)) := fun k => by
        congr 1; funext j; rw [Int.zero_add]
      rw [e]
      exact itr_ok
    · cases hl2
    · cases hd
  · obtain ⟨a, b, rfl⟩ : ∃ a b, as = [a, b] := by
      match as, h3 with
      | [a, b], _ => exact ⟨a, b, rfl⟩
    have nb : nst b = true := by rw [List.all_cons, Bool.and_eq_true] at nn; exact nst_one nn.2
    refine SI.of (pi_range2 (g.gn.gl hgl) (g.gn.bl _ (by decide)) (pa_S nn) (by rw [nst_each (nst_one nn), nst_each nb]; rfl) (by rw [nst_each nb]; rfl)) (mk _ fun vs H' F' δ' ds hl kp r1 rl po2 => ?_)
    have hl2 := rl.len
    rw [hl] at hl2
    unfold rngD at po2
    split at po2
    case h_2 => exact po2.elim
    rename_i ds' hd
    split at hd
    · cases hl2
    · split at hd <;> cases hd
      rename_i hz
      obtain ⟨v, w, B, B2, rfl, rv, rw'⟩ := r1_2 rl
      exact ⟨_, _, by rw [rv.int, rw'.int], ⟨by omega, by omega, by omega, by omega⟩, po2 _ H' F' kp r1 itr_ok⟩
    · cases hd
theorem enm_get : ∀ {ds : List D} {k i : Nat}, (enmL k ds)[i]? = (ds[i]?).map fun d => .tup [.int ((k + i : Nat) : Int), d]
  | [], k, i => by simp [enmL]
  | d :: ds, k, 0 => by simp [enmL]
  | d :: ds, k, i + 1 => by
    show (enmL (k + 1) ds)[i]? = _
    rw [enm_get]
    have : k + 1 + i = k + (i + 1) := by omega
    rw [this]
    simp
theorem enm_len {ds : List D} : ∀ {k : Nat}, (enmL k ds).length = ds.length := by
  induction ds with
  | nil => intro k; rfl
  | cons d ds ih => intro k; show (enmL (k + 1) ds).length + 1 = _; rw [ih]; rfl
theorem sndI_enm {y : Ex} (s1 : Snd c T Xr x y) : SndI c T Xr x (.enm y) := by
  intro tg e M M' hc
  obtain ⟨as, h1, hc⟩ := Option.bind_eq_some_iff.mp hc
  split at hc
  case h_2 => cases hc
  rename_i a
  obtain ⟨_, h2, hc⟩ := Option.bind_eq_some_iff.mp hc
  obtain ⟨h4, _⟩ := grd_some h2
  obtain ⟨hgl, ht, hn⟩ := and3 h4
  obtain ⟨⟨ty, M1⟩, h5, hc⟩ := Option.bind_eq_some_iff.mp hc
  obtain ⟨h6, hc⟩ := grd_some hc
  subst hc
  have ety : ty = .sh := of_decide_eq_true h6
  subst ety
  obtain ⟨l, k⟩ := s1.e a M _ M1 h5
  refine ⟨l, fun n ok X W g σ H δ F Q r po => ?_⟩
  obtain ⟨p, pos, rfl⟩ := nmC_inv h1
  obtain ⟨elts, kk, tpos, rfl⟩ : ∃ elts kk tpos, tg = .Tuple elts kk tpos := by
    cases tg <;> first | exact ⟨_, _, _, rfl⟩ | cases ht
  refine SI.of (pi_enumA (g.gn.gl hgl) (g.gn.bl _ (by decide)) (pa_S (es := [a]) (by simp [hn])) (nst_each hn _)) (k n ok X W g σ H δ F _ r ?_)
  have po1 : PoI c n Xr W M M1 σ F H (enmV (ev T y) δ) Q := po
  unfold enmV at po1
  cases hr : ev T y δ with
  | no => rw [hr] at po1; exact po1
  | ex kk ds δ' => rw [hr] at po1; exact po1
  | ok d δ1 =>
    rw [hr] at po1
    simp only [R.bnd] at po1
    intro v H1 F1 kp rt
    cases d with
    | lst ds =>
      simp only [] at po1
      have rp := rt.sh
      cases rp with
      | @lst a' vs _ f h r' =>
        refine .inl ⟨a', rfl, .inl ⟨vs, .inl h, po1 _ H1 F1 kp rt.rs ⟨fun F2 H2 i fk kp2 k0 hi => ?_, fun F2 H2 kp2 k0 => ?_⟩⟩⟩
        · rw [enm_len] at hi
          obtain ⟨d, hd⟩ : ∃ d, ds[i]? = some d := ⟨ds[i], by simp [hi]⟩
          obtain ⟨v, hv, rv⟩ := (r'.mono kp2).get hd
          refine ⟨⟨vs, v, .inl (kp2.rd f h), hv⟩, fun v' H3 ⟨t, w, e1, e2, e3, e4⟩ => ?_⟩
          have := e4 vs (.inl (kp2.rd f h))
          rw [hv] at this
          cases this
          subst e1 e3
          have kp3 : Kp F2 H2 F2 (upd H2 t (.tup [.int (i : Nat), v])) := Kp.new fk e2
          refine ⟨Ext.new e2, .tup [.int (i : Nat), d], by rw [enm_get, hd]; simp, .tup upd_same (.cons (.int _) (.cons (rv.mono kp3) .nil))⟩
        · exact ⟨vs, .inl (kp2.rd f h), by rw [enm_len, r'.length]; exact Nat.le_refl _⟩
    | tup ds =>
      simp only [] at po1
      have rp := rt.sh
      cases rp with
      | @tup a' vs _ h r' =>
        refine .inl ⟨a', rfl, .inr ⟨vs, SqT.of h, po1 _ H1 F1 kp rt.rs ⟨fun F2 H2 i fk kp2 k0 hi => ?_, fun F2 H2 kp2 k0 => ?_⟩⟩⟩
        · rw [enm_len] at hi
          obtain ⟨d, hd⟩ : ∃ d, ds[i]? = some d := ⟨ds[i], by simp [hi]⟩
          obtain ⟨v, hv, rv⟩ := (r'.mono kp2).get hd
          refine ⟨⟨vs, v, SqT.of (kp2.tup _ _ h), hv⟩, fun v' H3 ⟨t, w, e1, e2, e3, e4⟩ => ?_⟩
          have := e4 vs (SqT.of (kp2.tup _ _ h))
          rw [hv] at this
          cases this
          subst e1 e3
          have kp3 : Kp F2 H2 F2 (upd H2 t (.tup [.int (i : Nat), v])) := Kp.new fk e2
          refine ⟨Ext.new e2, .tup [.int (i : Nat), d], by rw [enm_get, hd]; simp, .tup upd_same (.cons (.int _) (.cons (rv.mono kp3) .nil))⟩
        · exact ⟨vs, SqT.of (kp2.tup _ _ h), by rw [enm_len, r'.length]; exact Nat.le_refl _⟩
    | str z =>
      simp only [] at po1
      have rp := rt.sh
      cases rp with
      | str _ hz =>
        have sz : (sOf z).cps.size = z.length := by simp [sOf]
        refine .inr ⟨sOf z, rfl, po1 _ H1 F1 kp rt.rs ⟨fun F2 H2 i fk kp2 k0 hi => ?_, fun F2 H2 kp2 k0 => ?_⟩⟩
        · rw [enm_len, List.length_map] at hi
          refine ⟨(show i < (sOf z).cps.size by rw [sz]; exact hi), fun v' H3 ⟨t, ch, e1, e2, e3, e4⟩ => ?_⟩
          subst e1 e4
          have e5 : z[i]? = some ch := by simpa [sOf] using e3
          refine ⟨Ext.new e2, .tup [.int (i : Nat), .str [ch]], by rw [enm_get, List.getElem?_map, e5]; simp, .tup upd_same (.cons (.int _) (.cons (.str [ch] (by rw [lim_eq]; show 1 ≤ LIM; decide)) .nil))⟩
        · show (enmL 0 _).length = (sOf z).cps.size
          rw [enm_len, List.length_map, sz]
    | _ => exact po1.elim
end
end Nc

set_option Elab.async false
set_option linter.all false
set_option autoImplicit false
set_option maxRecDepth 100000
set_option maxHeartbeats 4000000
/-! Soundness: targets. -/
namespace Nc
open PySem PySem.Spec PyProof.Rows L2
section
variable {c : Cn} {n : En} {T : Tb} {Xr : XrT} {x : Sx} {X : Cx} {W : WX} {F F' : Fz} {M M' : Ms} {σ σ' : L2.St} {H H' H1 : Hp} {δ δ' δ1 : Env} {ex : Ex} {ty : Ty} {e tg : Expr} {A : Nat → List Addr}
/-- a slot is set -/
theorem RX.asg (r : RX c n F M σ H δ A) {i : Nat} {m : Mk} {v : V} {d : D} {B : List Addr} (hi : i < M.length) (o : Own c F H m v d B) (dj : ∀ j, j ≠ i → Dis (A j) B) (ow : ∀ a ∈ B, ¬ F a ∧ n.H0 a = none) :
    RX c n F (M.set i (.mk m .free)) (σ.set i (some v)) H (δ.set i (some d)) (fun j => if j = i then B else A j) := by
  refine ⟨by rw [List.length_set, List.length_set]; exact r.ls, by rw [List.length_set, List.length_set]; exact r.ld, fun j k hj => ?_, fun j hj => ?_, fun j l ne a h1 h2 => ?_, fun j a h => ?_, fun j k z h1 h2 a h3 => ?_, r.kp, r.st, r.fk, r.f0, r.f1⟩
  · by_cases e : j = i
    · subst e
      rw [List.getElem?_set_self hi] at hj
      cases hj
      rw [if_pos rfl]
      exact ⟨v, d, List.getElem?_set_self (by rw [r.ls]; exact hi), List.getElem?_set_self (by rw [r.ld]; exact hi), o⟩
    · rw [List.getElem?_set_ne (Ne.symm e)] at hj
      rw [if_neg e, List.getElem?_set_ne (Ne.symm e), List.getElem?_set_ne (Ne.symm e)]
      exact r.sl j k hj
  · by_cases e : j = i
    · subst e
      rw [List.getElem?_set_self hi] at hj; cases hj
    · rw [List.getElem?_set_ne (Ne.symm e)] at hj
      rw [if_neg e]; exact r.out j hj
  · by_cases e1 : j = i
    · rw [if_pos e1] at h1
      by_cases e2 : l = i
      · exact ne (e1.trans e2.symm)
      · rw [if_neg e2] at h2; exact dj l e2 a h2 h1
    · rw [if_neg e1] at h1
      by_cases e2 : l = i
      · rw [if_pos e2] at h2; exact dj j e1 a h1 h2
      · rw [if_neg e2] at h2; exact r.dj j l ne a h1 h2
  · by_cases e : j = i
    · rw [if_pos e] at h; exact ⟨(ow a h).1, .inl (ow a h).2⟩
    · rw [if_neg e] at h; exact r.ow j a h
  · by_cases e : j = i
    · subst e
      rw [if_pos rfl] at h3
      exact (ow a h3).2
    · rw [List.getElem?_set_ne (Ne.symm e)] at h1
      rw [if_neg e] at h3
      exact r.fr j k z h1 h2 a h3
theorem RX.asgF (r : RX c n F M σ H δ A) {i : Nat} {v : V} {d : D} (hi : i < M.length) (o : Rep c.cl F H v d) : RX c n F (M.set i (.mk .fz .free)) (σ.set i (some v)) H (δ.set i (some d)) (fun j => if j = i then [] else A j) :=
  r.asg hi (.fz o) (fun _ _ _ _ z => (nomatch z)) fun _ z => (nomatch z)
theorem nmL_inv {i : Nat} (h : nmL x i e = true) : ∃ nm pos, e = .Name nm pos ∧ x.N[i]? = some nm ∧ (x.sc.names.lookup nm = some .local ∨ x.sc.names.lookup nm = some .cell ∧ x.fn nm = true) := by
  unfold nmL at h
  split at h
  · rw [Bool.and_eq_true, decide_eq_true_eq, Bool.or_eq_true, decide_eq_true_eq, Bool.and_eq_true, decide_eq_true_eq] at h
    exact ⟨_, _, rfl, h.1, h.2⟩
  · cases h
theorem pg_nm (g : Gn X x) {i : Nat} (h : nmL x i e = true) : PG X e (gName i) ∧ i < x.N.length := by
  obtain ⟨nm, pos, rfl, h1, h2⟩ := nmL_inv h
  refine ⟨?_, (List.getElem?_eq_some_iff.mp h1).1⟩
  rcases h2 with h2 | ⟨h2, h3⟩
  · exact pg_name (by rw [g.hN]; exact g.nd) (by rw [g.hN]; exact h1) (.inl (by rw [g.hs]; exact h2)) (.inr (by rw [g.hs]; exact h2))
  · exact pg_name (by rw [g.hN]; exact g.nd) (by rw [g.hN]; exact h1) (.inr (by rw [g.hs]; exact h2)) (.inl (g.fn _ h3))
def gNms : List Nat → TGs
  | [] => gNil
  | i :: t => gCons (gName i) (gNms t)
theorem asgE : ∀ {t : List Nat} {es : List Expr} {env : PySem.Env}, nmLs x t es = true → assignEach es env = es.map fun e => (false, assign e env)
  | [], [], _, _ => rfl
  | i :: t, e :: es, env, h => by
    unfold nmLs at h
    rw [Bool.and_eq_true] at h
    obtain ⟨nm, pos, rfl, _⟩ := nmL_inv h.1
    have := asgE (env := env) h.2
    show (false, assign (.Name nm pos) env) :: assignEach es env = _
    rw [this]
    rfl
  | [], _ :: _, _, h => by cases h
  | _ :: _, [], _, h => by cases h
theorem pgs_nms (g : Gn X x) : ∀ {t : List Nat} {es : List Expr}, nmLs x t es = true → PGs X es (gNms t) ∧ (∀ i ∈ t, i < x.N.length) ∧ es.length = t.length
  | [], [], _ => ⟨pgs_nil, fun _ h => (nomatch h), rfl⟩
  | i :: t, e :: es, h => by
    unfold nmLs at h
    rw [Bool.and_eq_true] at h
    obtain ⟨h1, h2⟩ := pg_nm g h.1
    obtain ⟨h3, h4, h5⟩ := pgs_nms g h.2
    obtain ⟨nm, pos, rfl, _⟩ := nmL_inv h.1
    refine ⟨pgs_cons h1 h3 rfl, fun j hj => ?_, by simp [h5]⟩
    rcases List.mem_cons.mp hj with rfl | hj
    · exact h2
    · exact h4 j hj
  | [], _ :: _, h => by cases h
  | _ :: _, [], h => by cases h
theorem gNms_run : ∀ {t : List Nat} {vs : List V} {ds : List D} {M : Ms} {σ : L2.St} {δ δ' : Env} {A : Nat → List Addr} {Q : L2.St → Hp → Prop}, RX c n F M σ H δ A → RepL c.cl F H vs ds → setS t ds δ = some δ' → (∀ i ∈ t, i < M.length) →
    (∀ σ' A', RX c n F (setFz t M) σ' H δ' A' → (∀ i, i ∉ t → σ'[i]? = σ[i]?) → (∀ i a, a ∈ A' i → a ∈ A i) → Q σ' H) → gNms t vs σ H Q
  | [], vs, ds, M, σ, δ, δ', A, Q, r, rl, hs, hl, q => by
    cases ds with
    | cons d ds => cases hs
    | nil =>
      cases rl
      cases hs
      exact ⟨rfl, q σ A r (fun _ _ => rfl) fun _ _ h => h⟩
  | i :: t, vs, ds, M, σ, δ, δ', A, Q, r, rl, hs, hl, q => by
    cases ds with
    | nil => cases hs
    | cons d ds =>
      cases rl with
      | cons rv rl =>
        refine ⟨_, _, rfl, ?_⟩
        refine gNms_run (r.asgF (hl i List.mem_cons_self) rv) rl hs (fun j hj => by rw [List.length_set]; exact hl j (List.mem_cons_of_mem _ hj)) fun σ' A' r' h1 h2 => q σ' A' r' (fun j hj => ?_) fun j a ha => ?_
        · have ne : i ≠ j := fun z => hj (by rw [← z]; exact List.mem_cons_self)
          rw [h1 j fun z => hj (List.mem_cons_of_mem _ z), List.getElem?_set_ne ne]
        · have := h2 j a ha
          by_cases e : j = i
          · rw [if_pos e] at this; cases this
          · rw [if_neg e] at this; exact this
/-- a target takes a frozen thing -/
theorem sg_tgt (g : Gn X x) {t : List Nat} {v : V} {d : D} {Q : L2.St → Hp → Prop} (h : tgA x t tg = true) (r : RX c n F M σ H δ A) (hM : M.length = x.N.length) (rv : Rep c.cl F H v d) (hb : bindT t d δ = some δ')
    (q : ∀ σ' A', RX c n F (setFz t M) σ' H δ' A' → (∀ i, i ∉ t → σ'[i]? = σ[i]?) → (∀ i a, a ∈ A' i → a ∈ A i) → Q σ' H) : SG X tg v σ H Q := by
  unfold tgA at h
  split at h
  · rename_i i m p
    obtain ⟨pg, hi⟩ := pg_nm g h
    refine SG.of pg ?_
    have hb' : some (δ.set i (some d)) = some δ' := hb
    cases hb'
    refine q _ _ (r.asgF (by rw [hM]; exact hi) rv) (fun j hj => ?_) fun j a ha => ?_
    · have ne : i ≠ j := fun z => hj (by rw [← z]; exact List.mem_cons_self)
      rw [List.getElem?_set_ne ne]
    · by_cases e : j = i
      · rw [if_pos e] at ha; cases ha
      · rw [if_neg e] at ha; exact ha
  · rename_i i j t es k p
    rw [Bool.and_eq_true] at h
    obtain ⟨pg, hl, hlen⟩ := pgs_nms g h.1
    cases d with
    | tup ds =>
      have hb' : setS (i :: j :: t) ds δ = some δ' := hb
      cases rv with
      | @tup a vs _ hH rl =>
        have hlv : vs.length = es.length := by
          have h1 := rl.length
          have h2 : ∀ {t : List Nat} {ds : List D} {δ δ' : Env}, setS t ds δ = some δ' → ds.length = t.length := fun {t} => by
            induction t with
            | nil => intro ds δ δ' h; cases ds <;> first | rfl | cases h
            | cons i t ih => intro ds δ δ' h; cases ds <;> first | cases h | (simp [ih h])
          rw [h1, h2 hb', hlen]
        refine SG.of (pg_tup g.calm pg (n := es.length) (by rw [asgE h.1, List.length_map]) (by
          rw [asgE h.1]
          rw [List.findIdx?_eq_none_iff]
          intro y hy
          obtain ⟨z, _, rfl⟩ := List.mem_map.mp hy
          rfl)) ⟨a, vs, rfl, SqT.of hH, hlv, gNms_run r rl hb' (fun l hl' => by rw [hM]; exact hl l hl') q⟩
    | _ => cases hb
  · cases h
end
end Nc

set_option Elab.async false
set_option linter.all false
set_option autoImplicit false
set_option maxRecDepth 100000
set_option maxHeartbeats 4000000
/-! Soundness: comprehensions. -/
namespace Nc
open PySem PySem.Spec PyProof.Rows L2
section
variable {c : Cn} {n : En} {T : Tb} {Xr : XrT} {x : Sx} {X : Cx} {W : WX} {F F' : Fz} {M M' M1 : Ms} {σ σ' : L2.St} {H H' H1 : Hp} {δ δ' δ1 : Env} {ex : Ex} {ty : Ty} {e tg : Expr} {A : Nat → List Addr}
theorem wipe_get {a : L2.St} : ∀ {vs : List Nat} {j : Nat}, (wipe a vs)[j]? = if j ∈ vs then (a[j]?).map (fun _ => none) else a[j]?
  | [], j => by rw [if_neg (fun z => nomatch z)]; rfl
  | v :: vs, j => by
    unfold wipe
    by_cases e : v = j
    · subst e
      rw [if_pos List.mem_cons_self]
      by_cases h : v < (wipe a vs).length
      · rw [List.getElem?_set_self h]
        rw [wipe_length] at h
        rw [List.getElem?_eq_getElem h]; rfl
      · rw [List.getElem?_eq_none (by rw [List.length_set]; omega)]
        rw [wipe_length] at h
        rw [List.getElem?_eq_none (by omega)]; rfl
    · rw [List.getElem?_set_ne e, wipe_get (vs := vs)]
      have : (j ∈ v :: vs) ↔ j ∈ vs := by rw [List.mem_cons]; exact ⟨fun h => h.resolve_left (Ne.symm e), .inr⟩
      by_cases h : j ∈ vs
      · rw [if_pos h, if_pos (this.mpr h)]
      · rw [if_neg h, if_neg fun z => h (this.mp z)]
theorem wipe_ext {a b : L2.St} {vs : List Nat} (hl : a.length = b.length) (h : ∀ i, i ∉ vs → a[i]? = b[i]?) : wipe a vs = wipe b vs := by
  apply List.ext_getElem?
  intro j
  rw [wipe_get, wipe_get]
  by_cases e : j ∈ vs
  · rw [if_pos e, if_pos e]
    by_cases hj : j < a.length
    · rw [List.getElem?_eq_getElem hj, List.getElem?_eq_getElem (by omega)]; rfl
    · rw [List.getElem?_eq_none (by omega), List.getElem?_eq_none (by omega)]
  · rw [if_neg e, if_neg e]; exact h j e
theorem wip_len : ∀ (own : List (Str × Nat)) (δ : Env), (wip own δ).length = δ.length
  | [], _ => rfl
  | p :: own, δ => by show (wip own (δ.set p.2 none)).length = _; rw [wip_len, List.length_set]
theorem wip_get : ∀ {own : List (Str × Nat)} {δ : Env} {j : Nat}, j ∉ own.map (·.2) → (wip own δ)[j]? = δ[j]?
  | [], _, _, _ => rfl
  | p :: own, δ, j, h => by
    rw [List.map_cons, List.mem_cons, not_or] at h
    show (wip own (δ.set p.2 none))[j]? = _
    rw [wip_get h.2, List.getElem?_set_ne (Ne.symm h.1)]
theorem back_len : ∀ (own : List (Str × Nat)) (δ δ' : Env), (back own δ δ').length = δ'.length
  | [], _, _ => rfl
  | p :: own, δ, δ' => by show (back own δ (δ'.set p.2 _)).length = _; rw [back_len, List.length_set]
theorem back_get : ∀ {own : List (Str × Nat)} {δ δ' : Env} {j : Nat}, j ∉ own.map (·.2) → (back own δ δ')[j]? = δ'[j]?
  | [], _, _, _, _ => rfl
  | p :: own, δ, δ', j, h => by
    rw [List.map_cons, List.mem_cons, not_or] at h
    show (back own δ (δ'.set p.2 _))[j]? = _
    rw [back_get h.2, List.getElem?_set_ne (Ne.symm h.1)]
theorem lcGo_ex {α : Type} {f : D → Env → R (Option α)} {k : Str} {es : List D} : ∀ {ds : List D} {acc : List α} {δ : Env}, lcGo f ds acc δ ≠ .ex k es δ'
  | [], acc, δ => fun z => nomatch z
  | d :: ds, acc, δ => fun z => by
    unfold lcGo at z
    split at z
    · cases z
    · cases z
    · exact lcGo_ex z
    · split at z
      · exact lcGo_ex z
      · cases z
/-- within a comprehension -/
theorem Gx.blk (g : Gx X x c T Xr W) (s : Shared) (H0 : Hp) (scope : Scope) (cl : List (Str × Addr)) (C : Addr) (fp : List Addr) : Gx (X.blk s H0 scope (compEnvC scope cl C X.env) fp) (inner x scope) c T Xr (fun _ _ _ _ => False) := by
  refine ⟨⟨g.gn.hN, g.gn.nd, ?_, g.gn.calm, g.gn.un, g.gn.bl, fun m h => h⟩, g.inj, fun _ _ ⟨_, _, _, _, _, _, _, _, _, _, _, _, _, _, _, _, w⟩ => w.elim, g.sgs, fun X' x' W' h1 h2 h3 h4 h5 h6 h7 h8 h9 h10 => g.gt X' x' W' h1 h2 h3 h4 h5 h6 h7 h8 h9 h10⟩
  show relabel scope X.env = relS scope x.sc
  rw [← g.gn.hs]
  rfl
theorem setFz_len : ∀ (t : List Nat) (M : Ms), (setFz t M).length = M.length
  | [], _ => rfl
  | i :: t, M => by show (setFz t (M.set i _)).length = _; rw [setFz_len, List.length_set]
theorem setFz_get : ∀ {t : List Nat} {M : Ms} {j : Nat}, j ∉ t → (setFz t M)[j]? = M[j]?
  | [], _, _, _ => rfl
  | i :: t, M, j, h => by
    rw [List.mem_cons, not_or] at h
    show (setFz t (M.set i _))[j]? = _
    rw [setFz_get h.2, List.getElem?_set_ne (Ne.symm h.1)]
theorem RX.ext (r : RX c n F M σ H δ A) (e : Ext H H') : RX c n F M σ H' δ A := by
  refine r.step (Kp.ext r.fk e) (fun i a h => ?_) (fun i a h => (r.ow i a h).1) (fun a u h1 h2 => e a u (r.kp a u h1 h2)) (fun a h z => ?_) (fun a h => ?_) r.f1
  · obtain ⟨u, e', _⟩ := r.at_ h
    rw [e']; exact e a u e'
  · cases e' : H a with
    | none => exact r.st a h e'
    | some u => rw [e a u e'] at z; cases z
  · obtain ⟨u, e'⟩ := r.fk a h
    exact ⟨u, e a u e'⟩
end
/-- a comprehension's state at a turn -/
structure LcI (c : Cn) (n : En) (F1 : Fz) (H1 : Hp) (M : Ms) (σ : L2.St) (Dd : Addr) (H : Hp) (δ : Env) (acc : List D) (F : Fz) (A : Nat → List Addr) (vs : List V) : Prop where
  kp : Kp F1 H1 F H
  rx : RX c n F M σ H δ A
  at_ : H Dd = some (.lst vs)
  rl : RepL c.cl F H vs acc.reverse
  na : ∀ j, Dd ∉ A j
  nf : ¬ F Dd
  n0 : n.H0 Dd = none
section
variable {c : Cn} {n : En} {T : Tb} {Xr : XrT} {x : Sx} {X : Cx} {W : WX} {F F' : Fz} {M M' M1 : Ms} {σ σ' : L2.St} {H H' H1 : Hp} {δ δ' δ1 : Env} {ex : Ex} {ty : Ty} {e tg : Expr} {A : Nat → List Addr}
theorem lcA_inv {q : LcT} (h : lcA e = some q) : ∃ pos, e = .ListComp q.elt [⟨q.tg, q.iter, q.ifs, 0⟩] q.scope pos := by
  unfold lcA at h
  split at h
  · cases h; exact ⟨_, rfl⟩
  · cases h
theorem fold_plain {it : Expr} {env : PySem.Env} (h : plainIt it = true) : ∀ v, foldedSetIterable it env v = pure v := fun v => by
  unfold foldedSetIterable
  split
  · cases h
  · rfl
end
end Nc

set_option Elab.async false
set_option linter.all false
set_option autoImplicit false
set_option maxRecDepth 100000
set_option maxHeartbeats 4000000
/-! Soundness: list comprehensions. -/
namespace Nc
open PySem PySem.Spec PyProof.Rows L2
section
variable {c : Cn} {n : En} {T : Tb} {Xr : XrT} {x : Sx} {X : Cx} {W : WX} {F F' F1 : Fz} {M M' M1 : Ms} {σ σ' : L2.St} {H H' H1 : Hp} {δ δ' δ1 : Env} {ex : Ex} {ty : Ty} {e tg : Expr} {A : Nat → List Addr}
def gB (X : Cx) (scope : Scope) (tg : Expr) : TG := fun v σ H Q => ∀ s H0 C cl fp, SG (X.blk s H0 scope (compEnvC scope cl C X.env) fp) tg v σ H Q
def eB (X : Cx) (scope : Scope) (e : Expr) : TE := fun σ H Q => ∀ s H0 C cl fp, SE (X.blk s H0 scope (compEnvC scope cl C X.env) fp) e σ H Q
def tB' (X : Cx) (scope : Scope) (e : Expr) : TT := fun σ H Q => ∀ s H0 C cl fp, ST (X.blk s H0 scope (compEnvC scope cl C X.env) fp) e σ H Q
def tC (X : Cx) (scope : Scope) : List Expr → TT
  | [] => tYes
  | e :: _ => tB' X scope e
/-- one turn of a comprehension: a value and what is kept -/
theorem lc_turn (g : Gx X x c T Xr W) (ok : n.Ok) {scope : Scope} {t : List Nat} {vs : List Nat} {cd el : Ex} {ifs : List Expr} {elt : Expr} (sc : ∀ x, Snd c T Xr x cd) (se : ∀ x, Snd c T Xr x el) (hM : M1.length = x.N.length) (ht : ∀ i ∈ t, i ∈ vs) (hu : ∀ i ∈ vs, gm M1 i = .un)
    (htg : tgA (inner x scope) t tg = true) (hc : condA (chk3 (inner x scope) cd).t (isNil cd) ifs (setFz t M1) = some ()) (he : (chk3 (inner x scope) el).e elt (setFz t M1) = some (.sh, setFz t M1))
    {Dd : Addr} {acc : List D} {av : List V} {v : V} {d : D} {Nx : Hp → Prop} (I : LcI c n F1 H1 M1 (wipe σ vs) Dd H δ acc F A av) (rv : Rep c.cl F H v d) {r : Option D} (hz : ∀ y, r = some y → acc.length < LIM)
    (hr : lcF t (!isNil cd) (evt T cd) (ev T el) d δ = .ok r δ')
    (q : ∀ H3 F3 A3 av3, LcI c n F1 H1 M1 (wipe σ vs) Dd H3 δ' (match r with | some y => y :: acc | none => acc) F3 A3 av3 → Nx H3) :
    gB X scope tg v (wipe σ vs) H fun σ2 H2 => wipe σ2 vs = wipe σ vs ∧ tC X scope ifs σ2 H2 fun b H3 =>
      if b = true then eB X scope elt σ2 H3 fun y H4 => ∃ acc, H4 Dd = some (.lst acc) ∧ acc.length < sizeLine ∧ Nx (upd H4 Dd (.lst (acc ++ [y]))) else Nx H3 := by
  intro s H0 C cl fp
  have g' := g.blk s H0 scope cl C fp
  unfold lcF at hr
  cases hb : bindT t d δ with
  | none => rw [hb] at hr; cases hr
  | some δ3 =>
  rw [hb] at hr
  simp only [] at hr
  refine sg_tgt g'.gn htg I.rx hM rv hb fun σ2 A2 r2 h1 h2 => ?_
  have hl : σ2.length = (wipe σ vs).length := by rw [r2.ls, I.rx.ls, setFz_len]
  refine ⟨?_, ?_⟩
  · rw [wipe_ext hl fun i hi => h1 i fun z => hi (ht i z)]
    exact wipe_ext (wipe_length _ _) fun i hi => by rw [wipe_get, if_neg hi]
  have hk : A2 (setFz t M1).length = [] := r2.out _ (by rw [List.getElem?_eq_none (Nat.le_refl _)])
  obtain ⟨ok2, rg⟩ := r2.guard ok hk
  have na2 : ∀ j, Dd ∉ A2 j := fun j z => I.na j (h2 j _ z)
  have unT : ∀ i m, M1[i]? = some m → m ≠ .un → i ∉ vs := fun i m h3 h4 h5 => h4 (by have := hu i h5; rw [gm_of h3] at this; exact this)
  have leT : Le M1 (setFz t M1) := ⟨(setFz_len _ _).symm, fun i m h3 => by
    by_cases z : m = .un
    · exact .inl z
    · exact .inr (by rw [setFz_get fun w => unT i m h3 z (ht i w)]; exact h3)⟩
  -- the end of a turn, by a later state
  have fin : ∀ {H4 : Hp} {F4 : Fz} {δ4 : Env} {A4 : Nat → List Addr}, RX c (prot n F H A2 (setFz t M1).length) F4 (setFz t M1) σ2 H4 δ4 A4 →
      H4 Dd = some (.lst av) ∧ LcI c n F1 H1 M1 (wipe σ vs) Dd H4 δ4 acc F4 (fun i => if (M1[i]?).getD .un = .un then [] else A4 i) av := fun {H4 F4 δ4 A4} r4 => by
    obtain ⟨o1, o2, o3⟩ := r2.off r4 na2 I.at_ I.nf
    have kp4 := (r2.bk r4).kp
    have r5 := r2.unguard ok g.inj r4 hk fun j b h => ⟨h, rfl⟩
    have r6 := (r5.weak leT).sig (σ' := wipe σ vs) (by rw [← hl]) fun i m h3 h4 => by
      rw [h1 i fun w => unT i m h3 h4 (ht i w)]
    refine ⟨o1, ⟨I.kp.trans kp4, r6, o1, I.rl.mono kp4, fun j z => ?_, o2, I.n0⟩⟩
    by_cases w : (M1[j]?).getD .un = .un
    · rw [if_pos w] at z; cases z
    · rw [if_neg w] at z; exact o3 j z
  -- the element
  have elem : ∀ {H3 : Hp} {F3 : Fz} {δ4 : Env} {A3 : Nat → List Addr} {y : D}, RX c (prot n F H A2 (setFz t M1).length) F3 (setFz t M1) σ2 H3 δ4 A3 → ev T el δ4 = .ok y δ' → r = some y →
      eB X scope elt σ2 H3 fun y H4 => ∃ acc, H4 Dd = some (.lst acc) ∧ acc.length < sizeLine ∧ Nx (upd H4 Dd (.lst (acc ++ [y]))) := fun {H3 F3 δ4 A3 y} r3 hy hr' => by
    intro s H0 C cl fp
    have g' := g.blk s H0 scope cl C fp
    refine ((se _).e elt _ _ _ he).2 _ ok2 _ _ g' σ2 H3 δ4 F3 _ ⟨A3, r3⟩ ?_
    rw [hy]
    intro w H4 F4 kp rt
    have rw4 := rt.sh
    obtain ⟨A4, r4⟩ := rt.rs
    obtain ⟨o1, I4⟩ := fin r4
    refine ⟨av, o1, by rw [I4.rl.length, List.length_reverse, lim_eq]; exact hz y hr', ?_⟩
    obtain ⟨kp5, r5⟩ := I4.rx.updO (o := .lst (av ++ [w])) I4.na I4.nf I4.n0 o1 (fun _ z => nomatch z)
    refine q _ F4 _ (av ++ [w]) ⟨I4.kp.trans kp5, r5, upd_same, ?_, I4.na, I4.nf, I4.n0⟩
    rw [hr']
    show RepL c.cl F4 _ _ (y :: acc).reverse
    rw [List.reverse_cons]
    exact (I4.rl.mono kp5).append (.cons (rw4.mono kp5) .nil)
  cases hn : isNil cd with
  | true =>
    rw [hn] at hc hr
    have hr' : ((ev T el δ3).bnd fun y δ4 => Nc.R.ok (some y) δ4) = .ok r δ' := hr
    cases ifs with
    | cons a b => cases hc
    | nil =>
      show (if true = true then (eB X scope elt σ2 H fun y H4 => ∃ acc, H4 Dd = some (.lst acc) ∧ acc.length < sizeLine ∧ Nx (upd H4 Dd (.lst (acc ++ [y])))) else Nx H)
      rw [if_pos rfl]
      cases hy : ev T el δ3 with
      | no => rw [hy] at hr'; cases hr'
      | ex _ _ _ => rw [hy] at hr'; cases hr'
      | ok y δ4 =>
        rw [hy] at hr'
        cases hr'
        exact elem rg hy rfl
  | false =>
    rw [hn] at hc hr
    have hr' : ((evt T cd δ3).bnd fun z δ4 => if z = true then (ev T el δ4).bnd fun y δ5 => Nc.R.ok (some y) δ5 else .ok none δ4) = .ok r δ' := hr
    match ifs, hc with
    | [ce], hc =>
      obtain ⟨Mc, hc1, hc2⟩ := Option.bind_eq_some_iff.mp hc
      obtain ⟨hc3, _⟩ := grd_some hc2
      have hc4 : Mc = setFz t M1 := of_decide_eq_true hc3
      subst hc4
      intro s H0 C cl fp
      have g' := g.blk s H0 scope cl C fp
      refine ((sc _).t ce _ _ hc1).2 _ ok2 _ _ g' σ2 H δ3 F _ ⟨A2, rg⟩ ?_
      cases hy : evt T cd δ3 with
      | no => rw [hy] at hr'; cases hr'
      | ex _ _ _ => rw [hy] at hr'; cases hr'
      | ok z δ4 =>
        rw [hy] at hr'
        intro H3 F3 kp ⟨A3, r3⟩
        cases z with
        | true =>
          rw [if_pos rfl]
          have hr2 : ((ev T el δ4).bnd fun y δ5 => Nc.R.ok (some y) δ5) = .ok r δ' := hr'
          cases hy2 : ev T el δ4 with
          | no => rw [hy2] at hr2; cases hr2
          | ex _ _ _ => rw [hy2] at hr2; cases hr2
          | ok y δ5 =>
            rw [hy2] at hr2
            cases hr2
            exact elem r3 hy2 rfl
        | false =>
          rw [if_neg Bool.false_ne_true]
          have hr2 : Nc.R.ok none δ4 = .ok r δ' := hr'
          cases hr2
          exact q H3 F3 _ av (fin r3).2
theorem lcOk_inv {t : List Nat} {own : List (Str × Nat)} {q : LcT} {M : Ms} (h : lcOk x t own q M = true) : BlkOk x.N x.sc q.scope own ∧ (∀ i ∈ t, i ∈ own.map (·.2)) ∧ (∀ i ∈ own.map (·.2), gm M i = .un) ∧ tgA (inner x q.scope) t q.tg = true ∧ plainIt q.iter = true ∧ M.length = x.N.length := by
  unfold lcOk at h
  simp only [Bool.and_eq_true, List.all_eq_true, decide_eq_true_eq] at h
  obtain ⟨h1, h2, h3, h4, h5⟩ := h
  exact ⟨blkOk_by h1, fun i hi => List.contains_iff_mem.mp (h2 i hi), h3, h4, h5⟩
theorem pts_of {ifs : List Expr} {scope : Scope} (hc : ifs.length ≤ 1) (s : Shared) (H0 : Hp) (C : Addr) (cl : List (Str × Addr)) (fp : List Addr) : PTs (X.blk s H0 scope (compEnvC scope cl C X.env) fp) ifs (tC X scope ifs) := by
  match ifs, hc with
  | [], _ => exact pts_nil
  | [e], _ => exact pts_one ⟨fun pins s' σ H Q I h => h s H0 C cl fp pins s' I⟩
theorem condA_len {f : Expr → Ms → Option Ms} {b : Bool} {ifs : List Expr} (h : condA f b ifs M = some ()) : ifs.length ≤ 1 := by
  unfold condA at h
  split at h
  · exact Nat.zero_le _
  · exact Nat.le_refl _
  · cases h
/-- the walk of a comprehension -/
theorem lc_walk (g : Gx X x c T Xr W) (ok : n.Ok) {q : LcT} {t : List Nat} {own : List (Str × Nat)} {cd el : Ex} (sc : ∀ x, Snd c T Xr x cd) (se : ∀ x, Snd c T Xr x el) (hM : M1.length = x.N.length) (hk : lcOk x t own q M1 = true)
    (hc : condA (chk3 (inner x q.scope) cd).t (isNil cd) q.ifs (setFz t M1) = some ()) (he : (chk3 (inner x q.scope) el).e q.elt (setFz t M1) = some (.sh, setFz t M1)) {J : It} {ds ys : List D} (r : RS c n F1 M1 σ H1 δ1) (it : ItOk c n F1 H1 J ds)
    (hr : lcGo (lcF t (!isNil cd) (evt T cd) (ev T el)) ds [] (wip own δ1) = .ok ys δ') {Q : VK}
    (po : ∀ v H' F', Kp F1 H1 F' H' → (∃ A, RX c n F' M1 σ H' (back own δ1 δ') A ∧ ∃ B, Own c F' H' (.own .fz) v (.lst ys) B ∧ (∀ i, Dis (A i) B) ∧ ∀ a ∈ B, ¬ F' a ∧ n.H0 a = none) → Q v H') :
    ∀ Dd, H1 Dd = none → ∃ Wv : Nat → Nat → Hp → Prop, (∃ m, Wv 0 m (upd H1 Dd (.lst []))) ∧ ∀ i m H, Wv i m H →
      (J.stop i H ∧ Q (.ref Dd) H) ∨ (J.go i H ∧ ∃ Nx : Hp → Prop, (∀ H', Nx H' → ∃ m', m' < m ∧ Wv (i + 1) m' H') ∧ ∀ v H', J.yld i H v H' → gB X q.scope q.tg v (wipe σ (own.map (·.2))) H' fun σ2 H2 => wipe σ2 (own.map (·.2)) = wipe σ (own.map (·.2)) ∧ tC X q.scope q.ifs σ2 H2 fun b H3 =>
        if b = true then eB X q.scope q.elt σ2 H3 fun y H4 => ∃ acc, H4 Dd = some (.lst acc) ∧ acc.length < sizeLine ∧ Nx (upd H4 Dd (.lst (acc ++ [y]))) else Nx H3) := by
  intro Dd hD
  obtain ⟨bo, ht, hu, htg, hp, _⟩ := lcOk_inv hk
  have unO : ∀ i m, M1[i]? = some m → m ≠ .un → i ∉ own.map (·.2) := fun i m h3 h4 h5 => h4 (by have := hu i h5; rw [gm_of h3] at this; exact this)
  obtain ⟨A, r⟩ := r
  refine ⟨fun i m H => m = ds.length - i ∧ i ≤ ds.length ∧ ∃ δi acc F A av, LcI c n F1 H1 M1 (wipe σ (own.map (·.2))) Dd H δi acc F A av ∧ lcGo (lcF t (!isNil cd) (evt T cd) (ev T el)) (ds.drop i) acc δi = .ok ys δ',
    ⟨ds.length, by omega, Nat.zero_le _, wip own δ1, [], F1, A, [], ⟨Kp.new r.fk hD, ?_, upd_same, .nil, fun j z => ?_, fun f => ?_, r.fresh0 hD⟩, hr⟩, ?_⟩
  · refine ((r.new hD).sig (wipe_length _ _) fun i m h3 h4 => ?_).env (wip_len _ _) fun i m h3 h4 => wip_get (unO i m h3 h4)
    rw [wipe_get, if_neg (unO i m h3 h4)]
  · obtain ⟨o, e, _⟩ := r.at_ z
    rw [hD] at e; cases e
  · obtain ⟨o, e⟩ := r.fk Dd f
    rw [hD] at e; cases e
  · rintro i m H ⟨rfl, hi, δi, acc, F, A, av, I, hg⟩
    by_cases hlt : i < ds.length
    · right
      obtain ⟨go, yl⟩ := it.go F H i I.rx.fk I.kp I.rx.kp hlt
      refine ⟨go, fun H' => ∃ δi acc F A av, LcI c n F1 H1 M1 (wipe σ (own.map (·.2))) Dd H' δi acc F A av ∧ lcGo (lcF t (!isNil cd) (evt T cd) (ev T el)) (ds.drop (i + 1)) acc δi = .ok ys δ', fun H' ⟨a, b, c', d, e, h⟩ => ⟨ds.length - (i + 1), by omega, rfl, hlt, a, b, c', d, e, h⟩, fun v H' hy => ?_⟩
      obtain ⟨ex, d, hd, rv⟩ := yl v H' hy
      have hdrop : ds.drop i = d :: ds.drop (i + 1) := by
        rw [List.drop_eq_getElem_cons hlt]
        have : ds[i] = d := by
          rw [List.getElem?_eq_getElem hlt] at hd
          exact Option.some.inj hd
        rw [this]
      rw [hdrop] at hg
      have kp2 : Kp F H F H' := Kp.ext I.rx.fk ex
      have I2 : LcI c n F1 H1 M1 (wipe σ (own.map (·.2))) Dd H' δi acc F A av := ⟨I.kp.trans kp2, I.rx.ext ex, ex _ _ I.at_, I.rl.mono kp2, I.na, I.nf, I.n0⟩
      unfold lcGo at hg
      cases hf : lcF t (!isNil cd) (evt T cd) (ev T el) d δi with
      | no => rw [hf] at hg; cases hg
      | ex _ _ _ => rw [hf] at hg; cases hg
      | ok r2 δ2 =>
        rw [hf] at hg
        have hz : ∀ y, r2 = some y → acc.length < LIM := fun y hy => by
          subst hy
          by_cases hz : acc.length < LIM
          · exact hz
          · have hg' : (if acc.length < LIM then lcGo (lcF t (!isNil cd) (evt T cd) (ev T el)) (ds.drop (i + 1)) (y :: acc) δ2 else .no) = .ok ys δ' := hg
            rw [if_neg hz] at hg'
            cases hg'
        refine lc_turn g ok sc se hM ht hu htg hc he I2 rv hz hf fun H3 F3 A3 av3 I3 => ⟨δ2, _, F3, A3, av3, I3, ?_⟩
        cases r2 with
        | none => exact hg
        | some y =>
          have hg' : (if acc.length < LIM then lcGo (lcF t (!isNil cd) (evt T cd) (ev T el)) (ds.drop (i + 1)) (y :: acc) δ2 else .no) = .ok ys δ' := hg
          rw [if_pos (hz y rfl)] at hg'
          exact hg'
    · left
      have e : i = ds.length := by omega
      subst e
      rw [List.drop_length] at hg
      have hg' : Nc.R.ok acc.reverse δi = .ok ys δ' := hg
      cases hg'
      refine ⟨it.stop F H I.kp I.rx.kp, po _ H F I.kp ⟨A, ?_, [Dd], own_lst I.at_ I.rl, fun j a h1 h2 => ?_, fun a h => ?_⟩⟩
      · refine (I.rx.sig (σ' := σ) (wipe_length _ _).symm fun i m h3 h4 => ?_).env (back_len _ _ _) fun i m h3 h4 => back_get (unO i m h3 h4)
        rw [wipe_get, if_neg (unO i m h3 h4)]
      · obtain rfl := List.mem_singleton.mp h2
        exact I.na j h1
      · obtain rfl := List.mem_singleton.mp h
        exact ⟨I.nf, I.n0⟩
theorem lc_inv {el it cd : Ex} {t : List Nat} {own : List (Str × Nat)} (h : (chk3 x (.lc el t it cd own)).e e M = some (ty, M')) :
      ∃ q, lcA e = some q ∧ (chk3 x it).i q.tg q.iter M = some M' ∧ lcOk x t own q M' = true ∧ condA (chk3 (inner x q.scope) cd).t (isNil cd) q.ifs (setFz t M') = some () ∧ (chk3 (inner x q.scope) el).e q.elt (setFz t M') = some (.sh, setFz t M') ∧ ty = .fr (.own .fz) := by
  obtain ⟨q, h1, h⟩ := Option.bind_eq_some_iff.mp h
  obtain ⟨M1, h2, h⟩ := Option.bind_eq_some_iff.mp h
  obtain ⟨_, h3, h⟩ := Option.bind_eq_some_iff.mp h
  obtain ⟨h3, _⟩ := grd_some h3
  obtain ⟨_, h4, h⟩ := Option.bind_eq_some_iff.mp h
  obtain ⟨r, h5, h⟩ := Option.bind_eq_some_iff.mp h
  obtain ⟨h6, h7⟩ := grd_some h
  cases h7
  have h6 := of_decide_eq_true h6
  subst h6
  exact ⟨q, h1, h2, h3, h4, h5, rfl⟩
/-- a list comprehension's reading -/
theorem lc_read {el it cd : Ex} {t : List Nat} {own : List (Str × Nat)} (si : ∀ x, SndI c T Xr x it) (sc : ∀ x, Snd c T Xr x cd) (se : ∀ x, Snd c T Xr x el) {q : LcT} (h2 : (chk3 x it).i q.tg q.iter M = some M') (h3 : lcOk x t own q M' = true)
    (h4 : condA (chk3 (inner x q.scope) cd).t (isNil cd) q.ifs (setFz t M') = some ()) (h5 : (chk3 (inner x q.scope) el).e q.elt (setFz t M') = some (.sh, setFz t M')) (ok : n.Ok) (g : Gx X x c T Xr W) {Q : VK} (r : RS c n F M σ H δ)
    (po : PoE c n Xr W M M' (.lc el t it cd own) (.fr (.own .fz)) σ F H (ev T (.lc el t it cd own) δ) Q) : tLc (SI X q.tg q.iter) (gB X q.scope q.tg) (tC X q.scope q.ifs) (eB X q.scope q.elt) (own.map (·.2)) σ H Q := by
  obtain ⟨l, k⟩ := si x q.tg q.iter M M' h2
  obtain ⟨bo, ht, hu, htg, hp, hM⟩ := lcOk_inv h3
  refine k n ok X W g σ H δ F _ r ?_
  have po1 : PoE c n Xr W M M' (.lc el t it cd own) (.fr (.own .fz)) σ F H ((evi T it δ).bnd fun ds δ1 => (lcGo (lcF t (!isNil cd) (evt T cd) (ev T el)) ds [] (wip own δ1)).bnd fun ys δ' => .ok (.lst ys) (back own δ1 δ')) Q := po
  cases hr : evi T it δ with
  | no => rw [hr] at po1; exact po1
  | ex kk ds δ' => rw [hr] at po1; exact po1
  | ok ds δ1 =>
    rw [hr] at po1
    have po2 : PoE c n Xr W M M' (.lc el t it cd own) (.fr (.own .fz)) σ F H ((lcGo (lcF t (!isNil cd) (evt T cd) (ev T el)) ds [] (wip own δ1)).bnd fun ys δ' => .ok (.lst ys) (back own δ1 δ')) Q := po1
    intro J H1 F1 kp r1 iok
    cases hg : lcGo (lcF t (!isNil cd) (evt T cd) (ev T el)) ds [] (wip own δ1) with
    | no => rw [hg] at po2; exact po2.elim
    | ex kk es δ' => exact absurd hg lcGo_ex
    | ok ys δ' =>
      rw [hg] at po2
      exact lc_walk g ok sc se hM h3 h4 h5 r1 iok hg fun v H' F' kp2 rt => po2 v H' F' (kp.trans kp2) rt
theorem snd_lc {el it cd : Ex} {t : List Nat} {own : List (Str × Nat)} (si : ∀ x, SndI c T Xr x it) (sc : ∀ x, Snd c T Xr x cd) (se : ∀ x, Snd c T Xr x el) : Snd c T Xr x (.lc el t it cd own) := by
  refine snd_val rfl rfl (fun e M ty M' h t => ?_) fun e M ty M' h => ?_
  · obtain ⟨q, _, _, _, _, _, rfl⟩ := lc_inv h
    cases t
  · obtain ⟨q, h1, h2, h3, h4, h5, rfl⟩ := lc_inv h
    refine ⟨(si x q.tg q.iter M M' h2).1, fun n ok X W g σ H δ F Q r po => ?_⟩
    obtain ⟨pos, rfl⟩ := lcA_inv h1
    obtain ⟨bo, ht, hu, htg, hp, hM⟩ := lcOk_inv h3
    exact SE.of (pe_lc (g := gB X q.scope q.tg) (tt := tC X q.scope q.ifs) (te := eB X q.scope q.elt) (own := own) g.gn.calm (by rw [g.gn.hN]; exact g.gn.nd) (pi_S (tg := q.tg)) (by rw [g.gn.hN, g.gn.hs]; exact bo)
      (fun s H0 C cl fp => ⟨fun pins s' σ H v u Q I r h => h s H0 C cl fp pins s' u I r⟩) (fun s H0 C cl fp => pts_of (condA_len h4) s H0 C cl fp) (fun s H0 C cl fp => ⟨fun pins s' σ H Q I h => h s H0 C cl fp pins s' I⟩) (fold_plain hp)) (lc_read si sc se h2 h3 h4 h5 ok g r po)
theorem zip_get : ∀ {as bs : List D} {i : Nat}, (zipL as bs)[i]? = (as[i]?).bind fun a => (bs[i]?).map fun b => .tup [a, b]
  | [], bs, i => by simp [zipL]
  | a :: as, [], i => by
    show ([] : List D)[i]? = _
    cases (a :: as)[i]? <;> simp
  | a :: as, b :: bs, 0 => by simp [zipL]
  | a :: as, b :: bs, i + 1 => by
    show (zipL as bs)[i]? = _
    rw [zip_get]
    simp
theorem zip_len : ∀ {as bs : List D}, (zipL as bs).length = min as.length bs.length
  | [], bs => by simp [zipL]
  | a :: as, [] => by simp [zipL]
  | a :: as, b :: bs => by show (zipL as bs).length + 1 = _; rw [zip_len]; simp
theorem sndI_zip {ys : Ex} (s2 : Snd c T Xr x ys) : SndI c T Xr x (.zip ys) := by
  intro tg e M M' hc
  obtain ⟨as, h1, hc⟩ := Option.bind_eq_some_iff.mp hc
  obtain ⟨_, h2, hc⟩ := Option.bind_eq_some_iff.mp hc
  obtain ⟨h4, _⟩ := grd_some h2
  obtain ⟨hgl, ht, hn⟩ := and3 h4
  have hn := of_decide_eq_true hn
  obtain ⟨⟨l, nn⟩, k⟩ := s2.s _ as M M' hc
  refine ⟨l, fun n ok X W g σ H δ F Q r po => ?_⟩
  obtain ⟨p, pos, rfl⟩ := nmC_inv h1
  obtain ⟨elts, kk, tpos, rfl⟩ : ∃ elts kk tpos, tg = .Tuple elts kk tpos := by
    cases tg <;> first | exact ⟨_, _, _, rfl⟩ | cases ht
  obtain ⟨a, b, rfl⟩ : ∃ a b, as = [a, b] := by
    match as, hn with
    | [a, b], _ => exact ⟨a, b, rfl⟩
  have nb : nst b = true := by rw [List.all_cons, Bool.and_eq_true] at nn; exact nst_one nn.2
  refine SI.of (pi_zip (g.gn.gl hgl) (g.gn.bl _ (by decide)) (pa_S nn) (nst_each (nst_one nn) _) (by rw [nst_each nb] <;> rfl)) (k n ok X W g σ H δ F _ r ?_)
  have po1 : PoI c n Xr W M M' σ F H (zipV (evs T ys) δ) Q := po
  unfold zipV at po1
  cases hr : evs T ys δ with
  | no => rw [hr] at po1; exact po1
  | ex kk ds δ' => rw [hr] at po1; exact po1
  | ok ds δ1 =>
    rw [hr] at po1
    intro vs H1 F1 kp r1 rl
    have po2 : PoI c n Xr W M M' σ F H (match zipD ds with | some r => Nc.R.ok r δ1 | none => .no) Q := po1
    cases hz : zipD ds with
    | none => rw [hz] at po2; exact po2.elim
    | some zs =>
    rw [hz] at po2
    obtain ⟨as, bs, rfl, rfl⟩ : ∃ as bs, ds = [.lst as, .lst bs] ∧ zs = zipL as bs := by
      unfold zipD at hz
      split at hz <;> cases hz
      exact ⟨_, _, rfl, rfl⟩
    obtain ⟨v, w, rfl, rv, rw'⟩ := list2 rl
    cases rv with
    | @lst a1 vs1 _ f1 h1 q1 =>
      cases rw' with
      | @lst a2 vs2 _ f2 h2 q2 =>
        refine ⟨a1, a2, vs1, vs2, rfl, .inl h1, .inl h2, po2 _ H1 F1 kp r1 ⟨fun F2 H2 i fk kp2 k0 hi => ?_, fun F2 H2 kp2 k0 => ?_⟩⟩
        · rw [zip_len] at hi
          obtain ⟨d, hd⟩ : ∃ d, as[i]? = some d := ⟨as[i]'(by omega), List.getElem?_eq_getElem (by omega)⟩
          obtain ⟨d2, hd2⟩ : ∃ d, bs[i]? = some d := ⟨bs[i]'(by omega), List.getElem?_eq_getElem (by omega)⟩
          obtain ⟨v, hv, rv⟩ := (q1.mono kp2).get hd
          obtain ⟨w, hw, rw'⟩ := (q2.mono kp2).get hd2
          refine ⟨⟨vs1, vs2, v, w, .inl (kp2.rd f1 h1), .inl (kp2.rd f2 h2), hv, hw⟩, fun v' H3 ⟨t, z1, z2, e1, e2, e3, e4, e5⟩ => ?_⟩
          have e6 := e4 vs1 (.inl (kp2.rd f1 h1))
          have e7 := e5 vs2 (.inl (kp2.rd f2 h2))
          rw [hv] at e6
          rw [hw] at e7
          cases e6
          cases e7
          subst e1 e3
          have kp3 : Kp F2 H2 F2 (upd H2 t (.tup [v, w])) := Kp.new fk e2
          exact ⟨Ext.new e2, .tup [d, d2], by rw [zip_get, hd, hd2]; rfl, .tup upd_same (.cons (rv.mono kp3) (.cons (rw'.mono kp3) .nil))⟩
        · refine ⟨vs1, vs2, .inl (kp2.rd f1 h1), .inl (kp2.rd f2 h2), ?_⟩
          rw [zip_len, q1.length, q2.length]
          omega
theorem snd_any : Snd c T Xr x .any := by
  refine ⟨fun e M ty M' h => ?_, fun e M M' h => ?_, fun k es M M' h => ?_⟩
  · have h : some (Ty.sh, M) = some (ty, M') := h
    cases h
    exact ⟨Le.refl _, fun n ok X W g σ H δ F Q r po => (show False from po).elim⟩
  · have h : some M = some M' := h
    cases h
    exact ⟨Le.refl _, fun n ok X W g σ H δ F Q r po => (show False from po).elim⟩
  · obtain ⟨h1, h2⟩ := grd_some (show grd (es.all nst) M = some M' from h)
    subst h2
    exact ⟨⟨Le.refl _, h1⟩, fun n ok X W g σ H δ F Q r po => (show False from po).elim⟩
theorem sndI_any : SndI c T Xr x .any := by
  intro tg e M M' h
  have h : some M = some M' := h
  cases h
  exact ⟨Le.refl _, fun n ok X W g σ H δ F Q r po => (show False from po).elim⟩
end
end Nc

set_option Elab.async false
set_option linter.all false
set_option autoImplicit false
set_option maxRecDepth 100000
set_option maxHeartbeats 4000000
/-! Soundness: dict comprehensions. -/
namespace Nc
open PySem PySem.Spec PyProof.Rows L2
section
variable {c : Cn} {n : En} {T : Tb} {Xr : XrT} {x : Sx} {X : Cx} {W : WX} {F F' F1 : Fz} {M M' M1 : Ms} {σ σ' : L2.St} {H H' H1 : Hp} {δ δ' δ1 : Env} {ex : Ex} {ty : Ty} {e tg : Expr} {A : Nat → List Addr}
theorem any_key {q : Kd} : ∀ {vs : List (Key × V)} {ds : List (Kd × D)}, RepK c.cl F H vs ds → (vs.any fun kv => decide (kv.1 = kk q)) = ds.any fun kv => decide (kv.1 = q)
  | _, _, .nil => rfl
  | _, _, .cons (k := k') hk h r => by
    rw [List.any_cons, List.any_cons, any_key r]
    congr 1
    by_cases e : k' = q
    · subst e; simp
    · have : ¬ kk k' = kk q := fun z => e (kk_inj z)
      simp [e, this]
theorem map_key {q : Kd} {v : V} {d : D} (rv : Rep c.cl F H v d) : ∀ {vs : List (Key × V)} {ds : List (Kd × D)}, RepK c.cl F H vs ds → RepK c.cl F H (vs.map fun kv => if kv.1 = kk q then (kv.1, v) else kv) (ds.map fun kv => if kv.1 = q then (kv.1, d) else kv)
  | _, _, .nil => .nil
  | _, _, .cons (k := k') hk h r => by
    rw [List.map_cons, List.map_cons]
    by_cases e : k' = q
    · subst e
      rw [if_pos rfl, if_pos rfl]
      exact .cons hk rv (map_key rv r)
    · have : ¬ kk k' = kk q := fun z => e (kk_inj z)
      rw [if_neg e, if_neg this]
      exact .cons hk h (map_key rv r)
theorem RepK.put {q : Kd} {v : V} {d : D} {vs : List (Key × V)} {ds : List (Kd × D)} (r : RepK c.cl F H vs ds) (hk : kOk q) (rv : Rep c.cl F H v d) : RepK c.cl F H (putK vs (kk q) v) (putD ds q d) := by
  unfold putK putD
  rw [any_key r]
  by_cases h : (ds.any fun kv => decide (kv.1 = q)) = true
  · rw [if_pos h, if_pos h]
    exact map_key rv r
  · rw [if_neg h, if_neg h]
    exact r.app (.cons hk rv .nil)
theorem dcA_inv {q : LcT × Expr} (h : dcA e = some q) : ∃ pos, e = .DictComp q.2 q.1.elt [⟨q.1.tg, q.1.iter, q.1.ifs, 0⟩] q.1.scope pos := by
  unfold dcA at h
  split at h
  · cases h; exact ⟨_, rfl⟩
  · cases h
theorem dOf_app {r : List (Kd × D)} : ∀ {a b : List (D × D)} {acc : List (Kd × D)}, dOf (a ++ b) acc = some r → ∃ m, dOf a acc = some m ∧ dOf b m = some r
  | [], b, acc, h => ⟨acc, rfl, h⟩
  | (k, x) :: a, b, acc, h => by
    have h : (match dKey k with
      | some k => dOf (a ++ b) (putD acc k x)
      | none => none) = some r := h
    show ∃ m, (match dKey k with
      | some k => dOf a (putD acc k x)
      | none => none) = some m ∧ _
    cases e : dKey k with
    | none => rw [e] at h; cases h
    | some k' =>
      rw [e] at h
      exact dOf_app h
theorem putD_len {q : Kd} {y : D} {ds : List (Kd × D)} : (putD ds q y).length ≤ ds.length + 1 := by
  unfold putD
  split
  · rw [List.length_map]; omega
  · rw [List.length_append]; simp
theorem dOf_len {r : List (Kd × D)} : ∀ {a : List (D × D)} {acc : List (Kd × D)}, dOf a acc = some r → r.length ≤ a.length + acc.length
  | [], acc, h => by
    cases (show some acc = some r from h)
    simp
  | (k, x) :: a, acc, h => by
    have h : (match dKey k with
      | some k => dOf a (putD acc k x)
      | none => none) = some r := h
    cases e : dKey k with
    | none => rw [e] at h; cases h
    | some k' =>
      rw [e] at h
      have h1 := dOf_len h
      have h2 := putD_len (q := k') (y := x) (ds := acc)
      rw [List.length_cons]
      omega
theorem lcGo_app {α : Type} {f : D → Env → R (Option α)} {ys : List α} : ∀ {ds : List D} {acc : List α} {δ : Env}, lcGo f ds acc δ = .ok ys δ' → ∃ zs, ys = acc.reverse ++ zs
  | [], acc, δ, h => by
    cases (show Nc.R.ok acc.reverse δ = .ok ys δ' from h)
    exact ⟨[], (List.append_nil _).symm⟩
  | d :: ds, acc, δ, h => by
    unfold lcGo at h
    split at h
    · cases h
    · cases h
    · exact lcGo_app h
    · rename_i y δ2 _
      by_cases hz : acc.length < LIM
      · rw [if_pos hz] at h
        obtain ⟨zs, e⟩ := lcGo_app h
        exact ⟨y :: zs, by rw [e, List.reverse_cons, List.append_assoc]; rfl⟩
      · rw [if_neg hz] at h; cases h
/-- a dict's comprehension at a turn -/
structure DcI (c : Cn) (n : En) (F1 : Fz) (H1 : Hp) (M : Ms) (σ : L2.St) (Dd : Addr) (H : Hp) (δ : Env) (acc : List (D × D)) (F : Fz) (A : Nat → List Addr) (vs : List (Key × V)) : Prop where
  kp : Kp F1 H1 F H
  rx : RX c n F M σ H δ A
  at_ : H Dd = some (.dK vs)
  rl : ∃ kvs, dOf acc.reverse [] = some kvs ∧ RepK c.cl F H vs kvs
  na : ∀ j, Dd ∉ A j
  nf : ¬ F Dd
  n0 : n.H0 Dd = none
theorem dOf_end {k : D} {x : D} {q : Kd} (e : dKey k = some q) : ∀ {a : List (D × D)} {acc m : List (Kd × D)}, dOf a acc = some m → dOf (a ++ [(k, x)]) acc = some (putD m q x)
  | [], acc, m, h => by
    cases (show some acc = some m from h)
    show (match dKey k with
      | some k => dOf [] (putD acc k x)
      | none => none) = _
    rw [e]
    rfl
  | (g, y) :: a, acc, m, h => by
    have h : (match dKey g with
      | some k => dOf a (putD acc k y)
      | none => none) = some m := h
    show (match dKey g with
      | some k => dOf (a ++ [_]) (putD acc k y)
      | none => none) = _
    cases e2 : dKey g with
    | none => rw [e2] at h; cases h
    | some k' =>
      rw [e2] at h
      exact dOf_end e h
def dcE (k e : Env → R D) : Env → R (D × D) := fun δ2 => (k δ2).bnd fun x δ3 => (e δ3).bnd fun y δ4 => .ok (x, y) δ4
/-- one turn of a dict's comprehension: a value and what is kept -/
theorem dc_turn (g : Gx X x c T Xr W) (ok : n.Ok) {scope : Scope} {t : List Nat} {vs : List Nat} {cd kx el : Ex} {ifs : List Expr} {kt elt : Expr} (sc : ∀ x, Snd c T Xr x cd) (sk : ∀ x, Snd c T Xr x kx) (se : ∀ x, Snd c T Xr x el) (hM : M1.length = x.N.length) (ht : ∀ i ∈ t, i ∈ vs) (hu : ∀ i ∈ vs, gm M1 i = .un)
    (htg : tgA (inner x scope) t tg = true) (hc : condA (chk3 (inner x scope) cd).t (isNil cd) ifs (setFz t M1) = some ()) (hke : (chk3 (inner x scope) kx).e kt (setFz t M1) = some (.sh, setFz t M1)) (he : (chk3 (inner x scope) el).e elt (setFz t M1) = some (.sh, setFz t M1))
    {Dd : Addr} {acc : List (D × D)} {av : List (Key × V)} {v : V} {d : D} {Nx : Hp → Prop} (I : DcI c n F1 H1 M1 (wipe σ vs) Dd H δ acc F A av) (rv : Rep c.cl F H v d) {r : Option (D × D)} (hz : ∀ y, r = some y → acc.length < LIM ∧ ∃ kvs, dOf (y :: acc).reverse [] = some kvs)
    (hr : lcF t (!isNil cd) (evt T cd) (dcE (ev T kx) (ev T el)) d δ = .ok r δ')
    (q : ∀ H3 F3 A3 av3, DcI c n F1 H1 M1 (wipe σ vs) Dd H3 δ' (match r with | some y => y :: acc | none => acc) F3 A3 av3 → Nx H3) :
    gB X scope tg v (wipe σ vs) H fun σ2 H2 => wipe σ2 vs = wipe σ vs ∧ tC X scope ifs σ2 H2 fun b H3 =>
      if b = true then eB X scope kt σ2 H3 fun y H4 => eB X scope elt σ2 H4 fun z H5 => ∃ kvs k, y = kV k ∧ H5 Dd = some (.dK kvs) ∧ kvs.length < sizeLine ∧ Nx (upd H5 Dd (.dK (putK kvs k z))) else Nx H3 := by
  intro s H0 C cl fp
  have g' := g.blk s H0 scope cl C fp
  unfold lcF at hr
  cases hb : bindT t d δ with
  | none => rw [hb] at hr; cases hr
  | some δ3 =>
  rw [hb] at hr
  simp only [] at hr
  refine sg_tgt g'.gn htg I.rx hM rv hb fun σ2 A2 r2 h1 h2 => ?_
  have hl : σ2.length = (wipe σ vs).length := by rw [r2.ls, I.rx.ls, setFz_len]
  refine ⟨?_, ?_⟩
  · rw [wipe_ext hl fun i hi => h1 i fun z => hi (ht i z)]
    exact wipe_ext (wipe_length _ _) fun i hi => by rw [wipe_get, if_neg hi]
  have hk : A2 (setFz t M1).length = [] := r2.out _ (by rw [List.getElem?_eq_none (Nat.le_refl _)])
  obtain ⟨ok2, rg⟩ := r2.guard ok hk
  have na2 : ∀ j, Dd ∉ A2 j := fun j z => I.na j (h2 j _ z)
  have unT : ∀ i m, M1[i]? = some m → m ≠ .un → i ∉ vs := fun i m h3 h4 h5 => h4 (by have := hu i h5; rw [gm_of h3] at this; exact this)
  have leT : Le M1 (setFz t M1) := ⟨(setFz_len _ _).symm, fun i m h3 => by
    by_cases z : m = .un
    · exact .inl z
    · exact .inr (by rw [setFz_get fun w => unT i m h3 z (ht i w)]; exact h3)⟩
  -- the end of a turn, by a later state
  have fin : ∀ {H4 : Hp} {F4 : Fz} {δ4 : Env} {A4 : Nat → List Addr}, RX c (prot n F H A2 (setFz t M1).length) F4 (setFz t M1) σ2 H4 δ4 A4 →
      H4 Dd = some (.dK av) ∧ DcI c n F1 H1 M1 (wipe σ vs) Dd H4 δ4 acc F4 (fun i => if (M1[i]?).getD .un = .un then [] else A4 i) av := fun {H4 F4 δ4 A4} r4 => by
    obtain ⟨o1, o2, o3⟩ := r2.off r4 na2 I.at_ I.nf
    have kp4 := (r2.bk r4).kp
    have r5 := r2.unguard ok g.inj r4 hk fun j b h => ⟨h, rfl⟩
    have r6 := (r5.weak leT).sig (σ' := wipe σ vs) (by rw [← hl]) fun i m h3 h4 => by
      rw [h1 i fun w => unT i m h3 h4 (ht i w)]
    refine ⟨o1, ⟨I.kp.trans kp4, r6, o1, I.rl.imp fun _ z => ⟨z.1, z.2.mono kp4⟩, fun j z => ?_, o2, I.n0⟩⟩
    by_cases w : (M1[j]?).getD .un = .un
    · rw [if_pos w] at z; cases z
    · rw [if_neg w] at z; exact o3 j z
  -- the element
  have elem : ∀ {H3 : Hp} {F3 : Fz} {δ4 : Env} {A3 : Nat → List Addr} {y : D × D}, RX c (prot n F H A2 (setFz t M1).length) F3 (setFz t M1) σ2 H3 δ4 A3 → dcE (ev T kx) (ev T el) δ4 = .ok y δ' → r = some y →
      eB X scope kt σ2 H3 fun y H4 => eB X scope elt σ2 H4 fun z H5 => ∃ kvs k, y = kV k ∧ H5 Dd = some (.dK kvs) ∧ kvs.length < sizeLine ∧ Nx (upd H5 Dd (.dK (putK kvs k z))) := fun {H3 F3 δ4 A3 y} r3 hy hr' => by
    intro s H0 C cl fp
    have g' := g.blk s H0 scope cl C fp
    have hy : ((ev T kx δ4).bnd fun x δ5 => (ev T el δ5).bnd fun z δ6 => Nc.R.ok (x, z) δ6) = .ok y δ' := hy
    refine ((sk _).e kt _ _ _ hke).2 _ ok2 _ _ g' σ2 H3 δ4 F3 _ ⟨A3, r3⟩ ?_
    cases hyk : ev T kx δ4 with
    | no => rw [hyk] at hy; cases hy
    | ex _ _ _ => rw [hyk] at hy; cases hy
    | ok kd δ5 =>
    rw [hyk] at hy
    have hy : ((ev T el δ5).bnd fun z δ6 => Nc.R.ok (kd, z) δ6) = .ok y δ' := hy
    intro wk H5 F5 kpk rtk
    have rk := rtk.sh
    obtain ⟨A5, r5⟩ := rtk.rs
    intro s H0 C cl fp
    have g'' := g.blk s H0 scope cl C fp
    refine ((se _).e elt _ _ _ he).2 _ ok2 _ _ g'' σ2 H5 δ5 F5 _ ⟨A5, r5⟩ ?_
    cases hyv : ev T el δ5 with
    | no => rw [hyv] at hy; cases hy
    | ex _ _ _ => rw [hyv] at hy; cases hy
    | ok z δ6 =>
    rw [hyv] at hy
    have hy : Nc.R.ok (kd, z) δ6 = .ok y δ' := hy
    cases hy
    intro w H4 F4 kp rt
    have rw4 := rt.sh
    obtain ⟨A4, r4⟩ := rt.rs
    obtain ⟨o1, I4⟩ := fin r4
    have rk4 := rk.mono kp
    obtain ⟨hlen, kvs', hall⟩ := hz _ hr'
    obtain ⟨kvs, hkvs, rkv⟩ := I4.rl
    rw [List.reverse_cons] at hall
    obtain ⟨m, hm, hall⟩ := dOf_app hall
    have em : kvs = m := Option.some.inj (hkvs.symm.trans hm)
    subst em
    have hall : (match dKey kd with
      | some k => dOf [] (putD kvs k z)
      | none => none) = some kvs' := hall
    cases hdk : dKey kd with
    | none => rw [hdk] at hall; cases hall
    | some k =>
    rw [hdk] at hall
    have hall : some (putD kvs k z) = some kvs' := hall
    have hl := dOf_len hkvs
    rw [List.length_reverse] at hl
    have hl : kvs.length ≤ acc.length + 0 := hl
    refine ⟨av, kk k, key_V (R1.of rk4) hdk, o1, by rw [rkv.length, lim_eq]; omega, ?_⟩
    obtain ⟨kp5, r5⟩ := I4.rx.updO (o := .dK (putK av (kk k) w)) I4.na I4.nf I4.n0 o1 (fun _ z => nomatch z)
    refine q _ F4 _ (putK av (kk k) w) ⟨I4.kp.trans kp5, r5, upd_same, ?_, I4.na, I4.nf, I4.n0⟩
    rw [hr']
    refine ⟨putD kvs k z, ?_, (rkv.mono kp5).put (key_ok (R1.of rk4) hdk) (rw4.mono kp5)⟩
    show dOf ((kd, z) :: acc).reverse [] = _
    rw [List.reverse_cons]
    exact dOf_end hdk hkvs
  cases hn : isNil cd with
  | true =>
    rw [hn] at hc hr
    have hr' : ((dcE (ev T kx) (ev T el) δ3).bnd fun y δ4 => Nc.R.ok (some y) δ4) = .ok r δ' := hr
    cases ifs with
    | cons a b => cases hc
    | nil =>
      show (if true = true then (eB X scope kt σ2 H fun y H4 => eB X scope elt σ2 H4 fun z H5 => ∃ kvs k, y = kV k ∧ H5 Dd = some (.dK kvs) ∧ kvs.length < sizeLine ∧ Nx (upd H5 Dd (.dK (putK kvs k z)))) else Nx H)
      rw [if_pos rfl]
      cases hy : dcE (ev T kx) (ev T el) δ3 with
      | no => rw [hy] at hr'; cases hr'
      | ex _ _ _ => rw [hy] at hr'; cases hr'
      | ok y δ4 =>
        rw [hy] at hr'
        cases hr'
        exact elem rg hy rfl
  | false =>
    rw [hn] at hc hr
    have hr' : ((evt T cd δ3).bnd fun z δ4 => if z = true then (dcE (ev T kx) (ev T el) δ4).bnd fun y δ5 => Nc.R.ok (some y) δ5 else .ok none δ4) = .ok r δ' := hr
    match ifs, hc with
    | [ce], hc =>
      obtain ⟨Mc, hc1, hc2⟩ := Option.bind_eq_some_iff.mp hc
      obtain ⟨hc3, _⟩ := grd_some hc2
      have hc4 : Mc = setFz t M1 := of_decide_eq_true hc3
      subst hc4
      intro s H0 C cl fp
      have g' := g.blk s H0 scope cl C fp
      refine ((sc _).t ce _ _ hc1).2 _ ok2 _ _ g' σ2 H δ3 F _ ⟨A2, rg⟩ ?_
      cases hy : evt T cd δ3 with
      | no => rw [hy] at hr'; cases hr'
      | ex _ _ _ => rw [hy] at hr'; cases hr'
      | ok z δ4 =>
        rw [hy] at hr'
        intro H3 F3 kp ⟨A3, r3⟩
        cases z with
        | true =>
          rw [if_pos rfl]
          have hr2 : ((dcE (ev T kx) (ev T el) δ4).bnd fun y δ5 => Nc.R.ok (some y) δ5) = .ok r δ' := hr'
          cases hy2 : dcE (ev T kx) (ev T el) δ4 with
          | no => rw [hy2] at hr2; cases hr2
          | ex _ _ _ => rw [hy2] at hr2; cases hr2
          | ok y δ5 =>
            rw [hy2] at hr2
            cases hr2
            exact elem r3 hy2 rfl
        | false =>
          rw [if_neg Bool.false_ne_true]
          have hr2 : Nc.R.ok none δ4 = .ok r δ' := hr'
          cases hr2
          exact q H3 F3 _ av (fin r3).2
theorem dc_end {ys : List (D × D)} {kvs : List (Kd × D)} {vs : List (Key × V)} (h : dOf ys [] = some kvs) (r : ∃ kvs, dOf ys [] = some kvs ∧ RepK c.cl F H vs kvs) : RepK c.cl F H vs kvs := by
  obtain ⟨k2, h2, r⟩ := r
  cases h.symm.trans h2
  exact r
/-- the walk of a dict's comprehension -/
theorem dc_walk (g : Gx X x c T Xr W) (ok : n.Ok) {q : LcT} {t : List Nat} {own : List (Str × Nat)} {cd kx el : Ex} {kt : Expr} {kvs : List (Kd × D)} (sc : ∀ x, Snd c T Xr x cd) (sk : ∀ x, Snd c T Xr x kx) (se : ∀ x, Snd c T Xr x el) (hM : M1.length = x.N.length) (hk : lcOk x t own q M1 = true)
    (hc : condA (chk3 (inner x q.scope) cd).t (isNil cd) q.ifs (setFz t M1) = some ()) (hke : (chk3 (inner x q.scope) kx).e kt (setFz t M1) = some (.sh, setFz t M1)) (he : (chk3 (inner x q.scope) el).e q.elt (setFz t M1) = some (.sh, setFz t M1)) {J : It} {ds : List D} {ys : List (D × D)} (r : RS c n F1 M1 σ H1 δ1) (it : ItOk c n F1 H1 J ds)
    (hr : lcGo (lcF t (!isNil cd) (evt T cd) (dcE (ev T kx) (ev T el))) ds [] (wip own δ1) = .ok ys δ') (hdo : dOf ys [] = some kvs) {Q : VK}
    (po : ∀ v H' F', Kp F1 H1 F' H' → (∃ A, RX c n F' M1 σ H' (back own δ1 δ') A ∧ ∃ B, Own c F' H' (.own .fz) v (.dct kvs) B ∧ (∀ i, Dis (A i) B) ∧ ∀ a ∈ B, ¬ F' a ∧ n.H0 a = none) → Q v H') :
    ∀ Dd, H1 Dd = none → ∃ Wv : Nat → Nat → Hp → Prop, (∃ m, Wv 0 m (upd H1 Dd (.dK []))) ∧ ∀ i m H, Wv i m H →
      (J.stop i H ∧ Q (.ref Dd) H) ∨ (J.go i H ∧ ∃ Nx : Hp → Prop, (∀ H', Nx H' → ∃ m', m' < m ∧ Wv (i + 1) m' H') ∧ ∀ v H', J.yld i H v H' → gB X q.scope q.tg v (wipe σ (own.map (·.2))) H' fun σ2 H2 => wipe σ2 (own.map (·.2)) = wipe σ (own.map (·.2)) ∧ tC X q.scope q.ifs σ2 H2 fun b H3 =>
        if b = true then eB X q.scope kt σ2 H3 fun y H4 => eB X q.scope q.elt σ2 H4 fun z H5 => ∃ kvs k, y = kV k ∧ H5 Dd = some (.dK kvs) ∧ kvs.length < sizeLine ∧ Nx (upd H5 Dd (.dK (putK kvs k z))) else Nx H3) := by
  intro Dd hD
  obtain ⟨bo, ht, hu, htg, hp, _⟩ := lcOk_inv hk
  have unO : ∀ i m, M1[i]? = some m → m ≠ .un → i ∉ own.map (·.2) := fun i m h3 h4 h5 => h4 (by have := hu i h5; rw [gm_of h3] at this; exact this)
  obtain ⟨A, r⟩ := r
  refine ⟨fun i m H => m = ds.length - i ∧ i ≤ ds.length ∧ ∃ δi acc F A av, DcI c n F1 H1 M1 (wipe σ (own.map (·.2))) Dd H δi acc F A av ∧ lcGo (lcF t (!isNil cd) (evt T cd) (dcE (ev T kx) (ev T el))) (ds.drop i) acc δi = .ok ys δ',
    ⟨ds.length, by omega, Nat.zero_le _, wip own δ1, [], F1, A, [], ⟨Kp.new r.fk hD, ?_, upd_same, ⟨[], rfl, .nil⟩, fun j z => ?_, fun f => ?_, r.fresh0 hD⟩, hr⟩, ?_⟩
  · refine ((r.new hD).sig (wipe_length _ _) fun i m h3 h4 => ?_).env (wip_len _ _) fun i m h3 h4 => wip_get (unO i m h3 h4)
    rw [wipe_get, if_neg (unO i m h3 h4)]
  · obtain ⟨o, e, _⟩ := r.at_ z
    rw [hD] at e; cases e
  · obtain ⟨o, e⟩ := r.fk Dd f
    rw [hD] at e; cases e
  · rintro i m H ⟨rfl, hi, δi, acc, F, A, av, I, hg⟩
    by_cases hlt : i < ds.length
    · right
      obtain ⟨go, yl⟩ := it.go F H i I.rx.fk I.kp I.rx.kp hlt
      refine ⟨go, fun H' => ∃ δi acc F A av, DcI c n F1 H1 M1 (wipe σ (own.map (·.2))) Dd H' δi acc F A av ∧ lcGo (lcF t (!isNil cd) (evt T cd) (dcE (ev T kx) (ev T el))) (ds.drop (i + 1)) acc δi = .ok ys δ', fun H' ⟨a, b, c', d, e, h⟩ => ⟨ds.length - (i + 1), by omega, rfl, hlt, a, b, c', d, e, h⟩, fun v H' hy => ?_⟩
      obtain ⟨ex, d, hd, rv⟩ := yl v H' hy
      have hdrop : ds.drop i = d :: ds.drop (i + 1) := by
        rw [List.drop_eq_getElem_cons hlt]
        have : ds[i] = d := by
          rw [List.getElem?_eq_getElem hlt] at hd
          exact Option.some.inj hd
        rw [this]
      rw [hdrop] at hg
      have kp2 : Kp F H F H' := Kp.ext I.rx.fk ex
      have I2 : DcI c n F1 H1 M1 (wipe σ (own.map (·.2))) Dd H' δi acc F A av := ⟨I.kp.trans kp2, I.rx.ext ex, ex _ _ I.at_, I.rl.imp fun _ z => ⟨z.1, z.2.mono kp2⟩, I.na, I.nf, I.n0⟩
      unfold lcGo at hg
      cases hf : lcF t (!isNil cd) (evt T cd) (dcE (ev T kx) (ev T el)) d δi with
      | no => rw [hf] at hg; cases hg
      | ex _ _ _ => rw [hf] at hg; cases hg
      | ok r2 δ2 =>
        rw [hf] at hg
        have hz : ∀ y, r2 = some y → acc.length < LIM ∧ ∃ kvs, dOf (y :: acc).reverse [] = some kvs := fun y hy => by
          subst hy
          by_cases hz : acc.length < LIM
          · have hg' : (if acc.length < LIM then lcGo (lcF t (!isNil cd) (evt T cd) (dcE (ev T kx) (ev T el))) (ds.drop (i + 1)) (y :: acc) δ2 else .no) = .ok ys δ' := hg
            rw [if_pos hz] at hg'
            obtain ⟨zs, ez⟩ := lcGo_app hg'
            rw [ez] at hdo
            obtain ⟨m, hm, _⟩ := dOf_app hdo
            exact ⟨hz, m, hm⟩
          · have hg' : (if acc.length < LIM then lcGo (lcF t (!isNil cd) (evt T cd) (dcE (ev T kx) (ev T el))) (ds.drop (i + 1)) (y :: acc) δ2 else .no) = .ok ys δ' := hg
            rw [if_neg hz] at hg'
            cases hg'
        refine dc_turn g ok sc sk se hM ht hu htg hc hke he I2 rv hz hf fun H3 F3 A3 av3 I3 => ⟨δ2, _, F3, A3, av3, I3, ?_⟩
        cases r2 with
        | none => exact hg
        | some y =>
          have hg' : (if acc.length < LIM then lcGo (lcF t (!isNil cd) (evt T cd) (dcE (ev T kx) (ev T el))) (ds.drop (i + 1)) (y :: acc) δ2 else .no) = .ok ys δ' := hg
          rw [if_pos (hz y rfl).1] at hg'
          exact hg'
    · left
      have e : i = ds.length := by omega
      subst e
      rw [List.drop_length] at hg
      have hg' : Nc.R.ok acc.reverse δi = .ok ys δ' := hg
      cases hg'
      refine ⟨it.stop F H I.kp I.rx.kp, po _ H F I.kp ⟨A, ?_, [Dd], own_dct I.at_ (dc_end hdo I.rl), fun j a h1 h2 => ?_, fun a h => ?_⟩⟩
      · refine (I.rx.sig (σ' := σ) (wipe_length _ _).symm fun i m h3 h4 => ?_).env (back_len _ _ _) fun i m h3 h4 => back_get (unO i m h3 h4)
        rw [wipe_get, if_neg (unO i m h3 h4)]
      · obtain rfl := List.mem_singleton.mp h2
        exact I.na j h1
      · obtain rfl := List.mem_singleton.mp h
        exact ⟨I.nf, I.n0⟩
theorem dc_inv {kx el it cd : Ex} {t : List Nat} {own : List (Str × Nat)} (h : (chk3 x (.dc kx el t it cd own)).e e M = some (ty, M')) :
      ∃ q, dcA e = some q ∧ (chk3 x it).i q.1.tg q.1.iter M = some M' ∧ lcOk x t own q.1 M' = true ∧ condA (chk3 (inner x q.1.scope) cd).t (isNil cd) q.1.ifs (setFz t M') = some () ∧ (chk3 (inner x q.1.scope) kx).e q.2 (setFz t M') = some (.sh, setFz t M') ∧ (chk3 (inner x q.1.scope) el).e q.1.elt (setFz t M') = some (.sh, setFz t M') ∧ ty = .fr (.own .fz) := by
  obtain ⟨q, h1, h⟩ := Option.bind_eq_some_iff.mp h
  obtain ⟨M1, h2, h⟩ := Option.bind_eq_some_iff.mp h
  obtain ⟨_, h3, h⟩ := Option.bind_eq_some_iff.mp h
  obtain ⟨h3, _⟩ := grd_some h3
  obtain ⟨_, h4, h⟩ := Option.bind_eq_some_iff.mp h
  obtain ⟨rk, hk, h⟩ := Option.bind_eq_some_iff.mp h
  obtain ⟨r, h5, h⟩ := Option.bind_eq_some_iff.mp h
  obtain ⟨h6, h7⟩ := grd_some h
  cases h7
  rw [Bool.and_eq_true, decide_eq_true_eq, decide_eq_true_eq] at h6
  obtain ⟨h6, h8⟩ := h6
  subst h6 h8
  exact ⟨q, h1, h2, h3, h4, hk, h5, rfl⟩
/-- a dict comprehension's reading -/
theorem dc_read {kx el it cd : Ex} {t : List Nat} {own : List (Str × Nat)} (si : ∀ x, SndI c T Xr x it) (sc : ∀ x, Snd c T Xr x cd) (sk : ∀ x, Snd c T Xr x kx) (se : ∀ x, Snd c T Xr x el) {q : LcT} {kt : Expr} (h2 : (chk3 x it).i q.tg q.iter M = some M') (h3 : lcOk x t own q M' = true)
    (h4 : condA (chk3 (inner x q.scope) cd).t (isNil cd) q.ifs (setFz t M') = some ()) (hk : (chk3 (inner x q.scope) kx).e kt (setFz t M') = some (.sh, setFz t M')) (h5 : (chk3 (inner x q.scope) el).e q.elt (setFz t M') = some (.sh, setFz t M')) (ok : n.Ok) (g : Gx X x c T Xr W) {Q : VK} (r : RS c n F M σ H δ)
    (po : PoE c n Xr W M M' (.dc kx el t it cd own) (.fr (.own .fz)) σ F H (ev T (.dc kx el t it cd own) δ) Q) : tDc (SI X q.tg q.iter) (gB X q.scope q.tg) (tC X q.scope q.ifs) (eB X q.scope kt) (eB X q.scope q.elt) (own.map (·.2)) σ H Q := by
  obtain ⟨l, k⟩ := si x q.tg q.iter M M' h2
  obtain ⟨bo, ht, hu, htg, hp, hM⟩ := lcOk_inv h3
  refine k n ok X W g σ H δ F _ r ?_
  have po1 : PoE c n Xr W M M' (.dc kx el t it cd own) (.fr (.own .fz)) σ F H ((evi T it δ).bnd fun ds δ1 => (lcGo (lcF t (!isNil cd) (evt T cd) (dcE (ev T kx) (ev T el))) ds [] (wip own δ1)).bnd fun ys δ' => match dOf ys [] with
    | some kvs => .ok (.dct kvs) (back own δ1 δ')
    | none => .no) Q := po
  cases hr : evi T it δ with
  | no => rw [hr] at po1; exact po1
  | ex kk ds δ' => rw [hr] at po1; exact po1
  | ok ds δ1 =>
    rw [hr] at po1
    have po2 : PoE c n Xr W M M' (.dc kx el t it cd own) (.fr (.own .fz)) σ F H ((lcGo (lcF t (!isNil cd) (evt T cd) (dcE (ev T kx) (ev T el))) ds [] (wip own δ1)).bnd fun ys δ' => match dOf ys [] with
      | some kvs => .ok (.dct kvs) (back own δ1 δ')
      | none => .no) Q := po1
    intro J H1 F1 kp r1 iok
    cases hg : lcGo (lcF t (!isNil cd) (evt T cd) (dcE (ev T kx) (ev T el))) ds [] (wip own δ1) with
    | no => rw [hg] at po2; exact po2.elim
    | ex kk es δ' => exact absurd hg lcGo_ex
    | ok ys δ' =>
      rw [hg] at po2
      have po3 : PoE c n Xr W M M' (.dc kx el t it cd own) (.fr (.own .fz)) σ F H (match dOf ys [] with
        | some kvs => .ok (.dct kvs) (back own δ1 δ')
        | none => .no) Q := po2
      cases hd : dOf ys [] with
      | none => rw [hd] at po3; exact po3.elim
      | some kvs =>
      rw [hd] at po3
      exact dc_walk g ok sc sk se hM h3 h4 hk h5 r1 iok hg hd fun v H' F' kp2 rt => po3 v H' F' (kp.trans kp2) rt
theorem snd_dc {kx el it cd : Ex} {t : List Nat} {own : List (Str × Nat)} (si : ∀ x, SndI c T Xr x it) (sc : ∀ x, Snd c T Xr x cd) (sk : ∀ x, Snd c T Xr x kx) (se : ∀ x, Snd c T Xr x el) : Snd c T Xr x (.dc kx el t it cd own) := by
  refine snd_val rfl rfl (fun e M ty M' h t => ?_) fun e M ty M' h => ?_
  · obtain ⟨q, _, _, _, _, _, _, rfl⟩ := dc_inv h
    cases t
  · obtain ⟨q, h1, h2, h3, h4, hk, h5, rfl⟩ := dc_inv h
    refine ⟨(si x q.1.tg q.1.iter M M' h2).1, fun n ok X W g σ H δ F Q r po => ?_⟩
    obtain ⟨pos, rfl⟩ := dcA_inv h1
    obtain ⟨bo, ht, hu, htg, hp, hM⟩ := lcOk_inv h3
    exact SE.of (pe_dc (g := gB X q.1.scope q.1.tg) (tt := tC X q.1.scope q.1.ifs) (tk := eB X q.1.scope q.2) (tv := eB X q.1.scope q.1.elt) (own := own) g.gn.calm (by rw [g.gn.hN]; exact g.gn.nd) (pi_S (tg := q.1.tg)) (by rw [g.gn.hN, g.gn.hs]; exact bo)
      (fun s H0 C cl fp => ⟨fun pins s' σ H v u Q I r h => h s H0 C cl fp pins s' u I r⟩) (fun s H0 C cl fp => pts_of (condA_len h4) s H0 C cl fp) (fun s H0 C cl fp => ⟨fun pins s' σ H Q I h => h s H0 C cl fp pins s' I⟩) (fun s H0 C cl fp => ⟨fun pins s' σ H Q I h => h s H0 C cl fp pins s' I⟩) (fold_plain hp)) (dc_read si sc sk se h2 h3 h4 hk h5 ok g r po)
end
end Nc

set_option Elab.async false
set_option linter.all false
set_option autoImplicit false
set_option maxRecDepth 100000
set_option maxHeartbeats 4000000
/-! Soundness: {k: e}, k written. -/
namespace Nc
open PySem PySem.Spec PyProof.Rows L2
section
variable {c : Cn} {n : En} {T : Tb} {Xr : XrT} {x : Sx} {X : Cx} {W : WX} {F F' F1 : Fz} {M M' M1 : Ms} {σ σ' : L2.St} {H H' H1 : Hp} {δ δ' δ1 : Env} {ex : Ex} {ty : Ty} {e tg : Expr} {A : Nat → List Addr}
theorem dspA_inv {k : Str} {v : Expr} (h : dspA k e = some v) : ∃ j p pos, e = .Dict [some (.Constant (.str k) j p)] [v] pos := by
  unfold dspA at h
  split at h
  · obtain ⟨h1, h2⟩ := grd_some h
    cases h2
    cases of_decide_eq_true h1
    exact ⟨_, _, _, rfl⟩
  · cases h
theorem snd_dsp {k : Str} {y : Ex} (s : Snd c T Xr x y) : Snd c T Xr x (.dsp k y) := by
  refine snd_val rfl rfl (fun e M ty M' h t => ?_) fun e M ty M' h => ?_
  · obtain ⟨v, _, h⟩ := Option.bind_eq_some_iff.mp h
    obtain ⟨r, _, h⟩ := Option.bind_eq_some_iff.mp h
    obtain ⟨_, h⟩ := grd_some h; cases h; cases t
  · obtain ⟨v, h1, h⟩ := Option.bind_eq_some_iff.mp h
    obtain ⟨r, h2, h⟩ := Option.bind_eq_some_iff.mp h
    obtain ⟨h3, h⟩ := grd_some h
    cases h
    have h3 : r = (.sh, M) := of_decide_eq_true h3
    subst h3
    refine ⟨Le.refl _, fun n ok X W g σ H δ F Q r po => ?_⟩
    obtain ⟨j, p, pos, rfl⟩ := dspA_inv h1
    refine SE.of (pe_disp (pps_cons pe_str pe_S pps_nil) rfl rfl (by simp) (by simp)) fun Dd hD => ?_
    show SE X v σ (upd H Dd (.dK [])) fun y H2 => H2 Dd = some (.dK []) ∧ ∃ kvs : List (Key × V), [(V.str k, y)] = kvs.map (fun kv => (kV kv.1, kv.2)) ∧ kvs.length ≤ 15 ∧ Q (.ref Dd) (upd H2 Dd (.dK (mergeK [] kvs)))
    obtain ⟨A, r⟩ := r
    have hk : A M.length = [] := r.out _ (by rw [List.getElem?_eq_none (Nat.le_refl _)])
    have r1 := r.new (o := .dK []) hD
    have naA : ∀ i, Dd ∉ A i := fun i z => by
      obtain ⟨o, e, _⟩ := r.at_ z
      rw [hD] at e; cases e
    have nfA : ¬ F Dd := fun f => by
      obtain ⟨o, e⟩ := r.fk Dd f
      rw [hD] at e; cases e
    have n0 := r.fresh0 hD
    obtain ⟨ok2, rg⟩ := r1.guard ok hk
    have kp0 : Kp F H F (upd H Dd (.dK [])) := Kp.new r.fk hD
    refine ((s.e v M _ M h2).2 _ ok2 X W g σ _ δ F _ ⟨A, rg⟩ ?_)
    have e4 : ev T (.dsp k y) δ = dspV k (ev T y) δ := rfl
    rw [e4] at po
    unfold dspV at po
    cases hr : ev T y δ with
    | no => rw [hr] at po; exact po
    | ex kk ds δ' =>
      rw [hr] at po
      intro cls dx H' F' kp ⟨A', r'⟩ xr
      have r5 := r1.unguard ok g.inj r' hk fun j b h => by
        rw [exM_get] at h
        obtain ⟨m, z1, z2⟩ := Option.map_eq_some_iff.mp h
        refine ⟨?_, rfl⟩
        unfold exm1 at z2
        split at z2 <;> first | (cases z2; done) | (rw [z1, ← z2]) | (subst z2; exact z1)
      exact po cls dx H' F' (kp0.trans kp) ⟨A', r5⟩ xr
    | ok d δ' =>
      rw [hr] at po
      intro w H2 F2 kp rt
      have rw2 := rt.sh
      obtain ⟨A2, r2⟩ := rt.rs
      obtain ⟨o1, o2, o3⟩ := r1.off r2 naA upd_same nfA
      have r5 := r1.unguard ok g.inj r2 hk fun j b h => ⟨h, rfl⟩
      have po2 : PoE c n Xr W M M (.dsp k y) (.fr (.own .fz)) σ F H (if k.cps.toList.length ≤ LIM then Nc.R.ok (.dct [(.inr k.cps.toList, d)]) δ' else .no) Q := po
      by_cases hl : k.cps.toList.length ≤ LIM
      · rw [if_pos hl] at po2
        refine ⟨o1, [(kk (.inr k.cps.toList), w)], ?_, by simp, ?_⟩
        · show [(V.str k, w)] = [(V.str (sOf k.cps.toList), w)]
          rw [show sOf k.cps.toList = k from str_of _]
        · obtain ⟨kp5, r6⟩ := r5.updO (o := .dK [(kk (.inr k.cps.toList), w)]) o3 o2 n0 o1 (fun _ z => nomatch z)
          refine po2 _ _ F2 ((kp0.trans (r1.bk r2).kp).trans kp5) ⟨A2, r6, [Dd], own_dct upd_same (.cons (k := .inr k.cps.toList) (by show k.cps.toList.length ≤ sizeLine; rw [lim_eq]; exact hl) (rw2.mono kp5) .nil), fun i a h1 h2 => ?_, fun a h => ?_⟩
          · obtain rfl := List.mem_singleton.mp h2
            exact o3 i h1
          · obtain rfl := List.mem_singleton.mp h
            exact ⟨o2, n0⟩
      · rw [if_neg hl] at po2
        exact po2.elim
end
end Nc

set_option Elab.async false
set_option linter.all false
set_option autoImplicit false
set_option maxRecDepth 100000
set_option maxHeartbeats 4000000
/-! Soundness: all expressions. -/
namespace Nc
open PySem PySem.Spec PyProof.Rows L2
section
variable {c : Cn} {n : En} {T : Tb} {Xr : XrT} {x : Sx} {X : Cx} {W : WX} {F F' F1 : Fz} {M M' M1 : Ms} {σ σ' : L2.St} {H H' H1 : Hp} {δ δ' δ1 : Env} {ex : Ex} {ty : Ty} {e tg : Expr} {A : Nat → List Addr}
theorem snd_all : ∀ (ex : Ex) (x : Sx), Snd c T Xr x ex ∧ SndI c T Xr x ex := by
  have d : ∀ {ex : Ex} {x : Sx}, isIt ex = false → Snd c T Xr x ex → Snd c T Xr x ex ∧ SndI c T Xr x ex := fun h s => ⟨s, sndI_def h s⟩
  have nn : ∀ {ex : Ex} {x : Sx}, (∀ e M, (chk3 x ex).e e M = none) → (∀ e M, (chk3 x ex).t e M = none) → (∀ k e M, (chk3 x ex).s k e M = none) → Snd c T Xr x ex := fun h1 h2 h3 =>
    ⟨fun e M ty M' h => (by rw [h1] at h; cases h), fun e M M' h => (by rw [h2] at h; cases h), fun k e M M' h => (by rw [h3] at h; cases h)⟩
  intro ex
  induction ex with
  | nil => exact fun x => d rfl snd_nil
  | any => exact fun x => ⟨snd_any, sndI_any⟩
  | cons a b iha ihb => exact fun x => d rfl (snd_cons (iha x).1 (ihb x).1)
  | non => exact fun x => d rfl snd_non
  | bl b => exact fun x => d rfl snd_bl
  | int i => exact fun x => d rfl snd_int
  | str s => exact fun x => d rfl snd_str
  | v i p => exact fun x => d rfl snd_v
  | b i => exact fun x => d rfl snd_b
  | bp i p => exact fun x => d rfl snd_bp
  | m i => exact fun x => d rfl snd_m
  | f i => exact fun x => d rfl snd_f
  | g k => exact fun x => d rfl snd_g
  | op o es ih => exact fun x => d rfl (snd_op (ih x).1)
  | and a b iha ihb => exact fun x => d rfl (snd_and (iha x).1 (ihb x).1)
  | or a b iha ihb => exact fun x => d rfl (snd_or (iha x).1 (ihb x).1)
  | not a ih => exact fun x => d rfl (snd_not (ih x).1)
  | chn o1 o2 a b k iha ihb ihc => exact fun x => d rfl (snd_chn (iha x).1 (ihb x).1 (ihc x).1)
  | ife k a b ihc iha ihb => exact fun x => d rfl (snd_ife (ihc x).1 (iha x).1 (ihb x).1)
  | fz a ih => exact fun x => d rfl (snd_fz (ih x).1)
  | «at» f a ih => exact fun x => d rfl (snd_at (ih x).1)
  | cal f es ih => exact fun x => d rfl (snd_cal (ih x).1)
  | met m o es iho ihs => exact fun x => d rfl (snd_met (iho x).1 (ihs x).1)
  | bm b o es iho ihs => exact fun x => d rfl (snd_bm (iho x).1 (ihs x).1)
  | mu u i p es ih => exact fun x => d rfl (snd_mu (ih x).1)
  | rng es ih => exact fun x => ⟨nn (fun _ _ => rfl) (fun _ _ => rfl) (fun _ _ _ => rfl), sndI_rng (ih x).1⟩
  | enm a ih => exact fun x => ⟨nn (fun _ _ => rfl) (fun _ _ => rfl) (fun _ _ _ => rfl), sndI_enm (ih x).1⟩
  | zip es ih => exact fun x => ⟨nn (fun _ _ => rfl) (fun _ _ => rfl) (fun _ _ _ => rfl), sndI_zip (ih x).1⟩
  | lc e t it k own ihe ihi ihk => exact fun x => d rfl (snd_lc (fun x => (ihi x).2) (fun x => (ihk x).1) (fun x => (ihe x).1))
  | dsp k a ih => exact fun x => d rfl (snd_dsp (ih x).1)
  | dc q e t it k own ihq ihe ihi ihk => exact fun x => d rfl (snd_dc (fun x => (ihi x).2) (fun x => (ihk x).1) (fun x => (ihq x).1) (fun x => (ihe x).1))
end
end Nc

set_option Elab.async false
set_option linter.all false
set_option autoImplicit false
set_option maxRecDepth 100000
set_option maxHeartbeats 4000000
/-! Statements: the small language, its evaluator, its check. -/
namespace Nc
open PySem PySem.Spec PyProof.Rows L2
/-- what an except clause stores: a constant, a field of the exception, a tuple or list of such -/
inductive Hx where
  | non | bl (b : Bool) | str (s : Str) | fld (f : Str) | tup1 (s : Str) | tup2 (s f : Str) | lst1 (s : Str) | knd (f : Str) (ks : List Str)
  deriving DecidableEq
/-- except k [as slot a]: slot t = r -/
structure Hd where
  k : Str
  a : Option Nat
  t : Nat
  r : Hx
  deriving DecidableEq
inductive Sm where
  | nil | cons (s r : Sm)
  | any    -- never come to
  | pas | brk | cnt | doc
  | exp (e : Ex)
  | set (t : List Nat) (e : Ex)
  | par (i j : Nat) (es : Ex)
  | aug (i : Nat) (e : Ex)
  | sti (i : Nat) (p : List Pe) (k e : Ex)   -- slot.p[k] = e
  | sta (i : Nat) (p : List Pe) (f : Str) (e : Ex)   -- slot.p.f = e
  | ite (c : Ex) (a b : Sm)
  | whl (c : Ex) (b : Sm)
  | fr (t : List Nat) (it : Ex) (b : Sm)
  | ret (e : Ex) | retN
  | rse (k : Str) (es : Ex)
  | tri (b : Sm) (hs : List Hd)
  | att2 (i : Nat) (f g : Str) (e : Ex)   -- slot.f, slot.g = e
  | drp (i : Nat)     -- no text: the slot is not known any more
  deriving Inhabited
inductive S3 where
  | no
  | nx (δ : Env) | rt (d : D) (δ : Env) | bk (δ : Env) | ct (δ : Env)
  | ex (k : Str) (ds : List D) (δ : Env)
def S3.seq (r : S3) (f : Env → S3) : S3 := match r with
  | .nx δ => f δ
  | r => r
def R.st {α : Type} (r : R α) (f : α → Env → S3) : S3 := match r with
  | .no => .no
  | .ok a δ => f a δ
  | .ex k ds δ => .ex k ds δ
def whlGo (c : Env → R Bool) (b : Env → S3) : Nat → Env → S3
  | 0, _ => .no
  | k + 1, δ => (c δ).st fun z δ1 => if z = true then match b δ1 with
      | .nx δ2 => whlGo c b k δ2
      | .ct δ2 => whlGo c b k δ2
      | .bk δ2 => .nx δ2
      | r => r
    else .nx δ1
def forGo (t : List Nat) (b : Env → S3) : List D → Env → S3
  | [], δ => .nx δ
  | d :: ds, δ => match bindT t d δ with
    | none => .no
    | some δ1 => match b δ1 with
      | .nx δ2 => forGo t b ds δ2
      | .ct δ2 => forGo t b ds δ2
      | .bk δ2 => .nx δ2
      | r => r
def setV (t : List Nat) (e : Env → R D) : Env → S3 := fun δ => (e δ).st fun d δ1 => match bindT t d δ1 with
  | some δ2 => .nx δ2
  | none => .no
def augV (i : Nat) (e : Env → R D) : Env → S3 := fun δ => match δ[i]? with
  | some (some (.int a)) => (e δ).st fun d δ1 => match d with
    | .int b => .nx (δ1.set i (some (.int (a + b))))
    | _ => .no
  | _ => .no
def parV (i j : Nat) (es : Env → R (List D)) : Env → S3 := fun δ => (es δ).st fun ds δ1 => match ds with
  | [a, b] => .nx ((δ1.set i (some a)).set j (some b))
  | _ => .no
/-- what a store gives -/
def stD : D → D → D → Option D
  | .lst xs, .int k, x => (ixN xs.length k).map fun j => .lst (xs.set j x)
  | .dct kvs, k, x => if kvs.length < LIM then (dKey k).map fun k => .dct (putD kvs k x) else none
  | _, _, _ => none
def stiV (i : Nat) (p : List Pe) (k e : Env → R D) : Env → S3 := fun δ => (e δ).st fun x δ1 => match δ1[i]? with
  | some (some d0) => match getP δ1 p d0 with
    | some d => (k δ1).st fun q δ2 => match stD d q x with
      | some y => .nx (δ2.set i (some (setP δ1 p d0 y)))
      | none => .no
    | none => .no
  | _ => .no
/-- x.f = e -/
def staV (i : Nat) (p : List Pe) (f : Str) (e : Env → R D) : Env → S3 := fun δ => (e δ).st fun x δ1 => match δ1[i]? with
  | some (some d0) => match getP δ1 p d0 with
    | some (.ins k fs) => if fs.length < 1000 then .nx (δ1.set i (some (setP δ1 p d0 (.ins k (setF f x fs))))) else .no
    | _ => .no
  | _ => .no
def strD (s : Str) : Option D := if s.cps.toList.length ≤ LIM then some (.str s.cps.toList) else none
/-- what a clause stores; ds: the exception's fields -/
def hxD : Hx → List D → Option D
  | .non, _ => some .non
  | .bl b, _ => some (.bl b)
  | .str s, _ => strD s
  | .fld _, [d] => some d
  | .tup1 s, _ => (strD s).map fun a => .tup [a]
  | .tup2 s _, [d] => (strD s).map fun a => .tup [a, d]
  | .lst1 s, _ => (strD s).map fun a => .lst [a]
  | _, _ => none
def hxK (k : Str) : Hx → List D → Option D
  | .knd _ ks, _ => some (.lst (ks.map fun h => .bl (xmV k h)))
  | r, ds => hxD r ds
def hdV : List Hd → Str → List D → Env → S3
  | [], k, ds, δ => .ex k ds δ
  | h :: hs, k, ds, δ => if xmD k h.k = true then match hxK k h.r ds with
      | some d => .nx (δ.set h.t (some d))
      | none => .no
    else hdV hs k ds δ
def triV (b : Env → S3) (hs : List Hd) : Env → S3 := fun δ => match b δ with
  | .ex k ds δ1 => hdV hs k ds δ1
  | r => r
def evS (T : Tb) : Sm → Env → S3
  | .any => fun _ => .no
  | .nil => fun δ => .nx δ
  | .cons s r => fun δ => (evS T s δ).seq (evS T r)
  | .pas => fun δ => .nx δ
  | .doc => fun δ => .nx δ
  | .brk => fun δ => .bk δ
  | .cnt => fun δ => .ct δ
  | .exp e => fun δ => (ev T e δ).st fun _ δ1 => .nx δ1
  | .set t e => setV t (ev T e)
  | .par i j es => parV i j (evs T es)
  | .aug i e => augV i (ev T e)
  | .sti i p k e => stiV i p (ev T k) (ev T e)
  | .sta i p f e => staV i p f (ev T e)
  | .ite c a b => fun δ => (evt T c δ).st fun z δ1 => if z = true then evS T a δ1 else evS T b δ1
  | .whl c b => whlGo (evt T c) (evS T b) T.fuel
  | .fr t it b => fun δ => (evi T it δ).st fun ds δ1 => forGo t (evS T b) ds δ1
  | .ret e => fun δ => (ev T e δ).st fun d δ1 => .rt d δ1
  | .retN => fun δ => .rt .non δ
  | .rse k es => fun δ => (evs T es δ).st fun ds δ1 => .ex k ds δ1
  | .tri b hs => triV (evS T b) hs
  | .att2 _ _ _ _ => fun _ => .no
  | .drp _ => fun δ => .nx δ

/-! ### the check -/
structure Kc where
  x : Sx
  res : Mk
  Mr : Ms
  bk : Option Ms
  ct : Option Ms
  Xm : Ms
def stM : Md → Bool
  | .bo _ => true
  | .mk _ .io => true
  | _ => false
/-- what is borrowed or handed in stays so -/
def stB : Ms → Ms → Bool
  | [], [] => true
  | a :: M, b :: M' => (!stM a || decide (b = a)) && stB M M'
  | _, _ => false
def meet : Ms → Ms → Ms
  | a :: M, b :: M' => (if a = b then a else .un) :: meet M M'
  | _, _ => []
def meetO : Option Ms → Option Ms → Option Ms
  | some a, some b => some (meet a b)
  | some a, none => some a
  | none, b => b
/-- no test of the text is a comprehension on its target's line -/
def swB (x : Sx) (v : Expr) (t : Str) (tl : Nat) : Bool :=
  match (match v with
    | .ListComp _ _ s _ => some s
    | .SetComp _ _ s _ => some s
    | .DictComp _ _ _ s _ => some s
    | _ => none) with
  | none => false
  | some s => (x.sc.names.lookup t == some NameKind.local) && tl == v.pos.line && !(s.names.any fun (n, k) => n == t && (k == .local || k == .cell))
def isComp : Expr → Bool
  | .ListComp _ _ _ _ => true
  | .SetComp _ _ _ _ => true
  | .DictComp _ _ _ _ _ => true
  | _ => false
def setTy (i : Nat) (ty : Ty) (M : Ms) : Option Ms := match ty with
  | .sh => some (M.set i (.mk .fz .free))
  | .fr m => some (M.set i (.mk m .free))
  | _ => none
structure C2 where
  s : List Stmt → Ms → Option (Option Ms)
  o : Stmt → Ms → Option (Option Ms)
def one (o : Stmt → Ms → Option (Option Ms)) : C2 := ⟨fun _ _ => none, o⟩
def isGh : Sm → Bool
  | .drp _ => true
  | _ => false
def gh : Sm → Ms → Option Ms
  | .drp i, M => match gm M i with
    | .mk _ .free => some (M.set i .un)
    | .un => some M
    | _ => none
  | _, _ => none
def xOk (K : Kc) (M : Ms) : Bool := leM K.Xm (exM M)
def fall (K : Kc) (M M' : Ms) : Option (Option Ms) := grd (stB M M' && xOk K M) (some M')
def isLc : Ex → Bool
  | .lc _ _ _ _ _ => true
  | .fz (.lc _ _ _ _ _) => true
  | _ => false
def nameSet (K : Kc) (i : Nat) (tg v : Expr) (e : Ex) : Bool := nmL K.x i tg && (match tg with
  | .Name n p => !swB K.x v n p.line || isLc e
  | _ => false)
def subS : Stmt → Option (Expr × Expr × Expr)
  | .Assign [.Subscript o kx _] v _ => some (o, kx, v)
  | _ => none
def tupS : Stmt → Option (Expr × Expr)
  | .Assign [tg] v _ => some (tg, v)
  | _ => none
def attS : Stmt → Option (Expr × Str × Expr)
  | .Assign [.Attribute o f _] v _ => some (o, f, v)
  | _ => none
/-- how what is stored is held -/
def tyM : Ty → Option Mk
  | .sh => some .fz
  | .fr m => some m
  | _ => none
def docA : Stmt → Bool
  | .Expr (.Constant (.str _) _ _) _ => true
  | _ => false
def consC (o : Stmt → Ms → Option (Option Ms)) (s : List Stmt → Ms → Option (Option Ms)) : List Stmt → Ms → Option (Option Ms)
  | a :: as, M => (o a M).bind fun q => match q with
    | some M' => s as M'
    | none => grd as.isEmpty none
  | [], _ => none
def swpB (x : Sx) (nx ny : Str) (lx ly : Nat) (a b : Expr) : Bool := decide (x.sc.names.lookup nx = some .local) && (decide (x.sc.names.lookup ny = some .local) && (decide (lx = ly) && (decide (nx ≠ ny) && (nst a && (nst b && (!([a, b].all (foldedForSure 8)) && !([a, b].all (constantsAlone 8))))))))
/-- a pair of names, a pair of values -/
def parA (x : Sx) (i j : Nat) : Stmt → Option (List Expr)
  | .Assign [.Tuple [.Name nx px, .Name ny py] _ _] (.Tuple [a, b] _ _) _ => grd (swpB x nx ny px.line py.line a b && (decide (x.N[i]? = some nx) && (decide (x.N[j]? = some ny) && decide (i ≠ j)))) [a, b]
  | _ => none
/-- the text of what a clause stores; a: the exception's slot -/
def isStr (s : Str) : Expr → Bool
  | .Constant (.str z) _ _ => decide (z = s)
  | _ => false
def isFld (x : Sx) (k : Str) (a : Option Nat) (f : Str) : Expr → Bool
  | .Attribute o g _ => decide (g = f) && (decide (x.ex k = some (some f)) && (abOk o && (match a with | some i => nmA x i o | none => false)))
  | _ => false
def hxA (x : Sx) (k : Str) (a : Option Nat) : Hx → Expr → Bool
  | .non, .Constant .none _ _ => true
  | .bl b, .Constant (.bool c) _ _ => c == b
  | .str s, e => isStr s e
  | .fld f, e => isFld x k a f e
  | .tup1 s, .Tuple [e] _ _ => isStr s e
  | .tup2 s f, .Tuple [e, e2] _ _ => isStr s e && isFld x k a f e2
  | .lst1 s, .List [e] _ => isStr s e
  | .knd f ks, .Call (.Name m _) [o] [] _ => decide (m = f) && (gl x f && ((f == ("__debug__" : Str)) == false && ((x.sg (.knd f ks)).isSome && (match a with | some i => nmA x i o | none => false))))
  | _, _ => false
def hxTy : Hx → Mk
  | .lst1 _ => .own .fz
  | .knd _ _ => .own .fz
  | _ => .fz
/-- a class that a clause may name -/
def exOk (x : Sx) (k : Str) : Bool := (x.ex k).isSome && (decide (k ≠ "CastError") || decide (x.ex k = some none))
/-- the text of a clause -/
def hdA (x : Sx) (h : Hd) : ExceptHandler → Bool
  | .ExceptHandler (some (.Name m _)) n [.Assign [tg] v _] _ => decide (m = h.k) && (gl x h.k && ((h.k == ("__debug__" : Str)) == false && (exOk x h.k && (nmL x h.t tg && (hxA x h.k h.a h.r v && (match h.a, n with
    | none, none => true
    | some i, some n => decide (x.N[i]? = some n) && (decide (x.sc.names.lookup n = some .local) && decide (i ≠ h.t))
    | _, _ => false))))))
  | _ => false
def hdM (M : Ms) (h : Hd) : Ms := match h.a with
  | none => M.set h.t (.mk (hxTy h.r) .free)
  | some i => (M.set h.t (.mk (hxTy h.r) .free)).set i .un
/-- the clauses, and what is known behind them; M: what is known at an exception -/
def hdsA (x : Sx) (M : Ms) : List Hd → List ExceptHandler → Option (Option Ms)
  | [], [] => some none
  | h :: hs, e :: es => (hdsA x M hs es).bind fun o => grd (hdA x h e && (!stM (gm M h.t) && (match h.a with | some i => decide (gm M i = .un) | none => true))) (meetO (some (hdM M h)) o)
  | _, _ => none
def chk2 : Kc → Sm → C2
  | K, .nil => ⟨fun as M => match as with
    | [] => some (some M)
    | _ => none, fun _ _ => none⟩
  | K, .cons s r => ⟨fun as M => if isGh s = true then (gh s M).bind fun M' => (chk2 K r).s as M'
      else consC (chk2 K s).o (chk2 K r).s as M, fun _ _ => none⟩
  | K, .pas => one fun a M => match a with
    | .Pass _ => some (some M)
    | _ => none
  | K, .doc => one fun a M => grd (docA a) (some M)
  | K, .brk => one fun a M => match a with
    | .Break _ => K.bk.bind fun B => grd (leM B M) none
    | _ => none
  | K, .cnt => one fun a M => match a with
    | .Continue _ => K.ct.bind fun B => grd (leM B M) none
    | _ => none
  | K, .exp e => one fun a M => match a with
    | .Expr p _ => grd (!isComp p) () |>.bind fun _ => ((chk3 K.x e).e p M).bind fun r => fall K M r.2
    | _ => none
  | K, .set [i] e => one fun a M => match a with
    | .Assign [tg] v pos => grd (nameSet K i tg v e) () |>.bind fun _ => ((chk3 K.x e).e v M).bind fun r => (setTy i r.1 r.2).bind fun M' => fall K M M'
    | _ => none
  | K, .set t e => one fun a M => (tupS a).bind fun q => ((chk3 K.x e).e q.2 M).bind fun r => grd (decide (r.1 = .sh) && (tgA K.x t q.1 && (isTup q.1 && (!isTup q.2 && decide (r.2.length = K.x.N.length))))) () |>.bind fun _ => fall K M (setFz t r.2)
  | K, .par i j es => one fun a M => (parA K.x i j a).bind fun as => ((chk3 K.x es).s .kept as M).bind fun M' => fall K M ((M'.set i (.mk .fz .free)).set j (.mk .fz .free))
  | K, .aug i e => one fun a M => match a with
    | .AugAssign tg .Add v _ => grd (nmL K.x i tg && decide (gm M i = .mk .fz .free)) () |>.bind fun _ => ((chk3 K.x e).e v M).bind fun r => grd (decide (r.1 = .sh) && decide (gm r.2 i = .mk .fz .free)) () |>.bind fun _ => fall K M r.2
    | _ => none
  | K, .sti i p k e => one fun a M => (subS a).bind fun q => ((chk3 K.x e).e q.2.2 M).bind fun r1 => grd (decide (r1.1 = .sh) && notSl q.2.1) () |>.bind fun _ => match gm r1.2 i with
      | .mk m y => grd (paE K.x (r1.2.set i (.bo (some m))) i p q.1 && decide (mkP p m = some (.own .fz))) () |>.bind fun _ => ((chk3 K.x k).e q.2.1 (r1.2.set i (.bo (some m)))).bind fun r2 =>
        grd (decide (r2.1 = .sh) && (decide (gm r2.2 i = .bo (some m)) && (boS r2.2 (r1.2.set i (.bo (some m))) && leM K.Xm (exM r1.2)))) () |>.bind fun _ => fall K M (r2.2.set i (.mk m y))
      | _ => none
  | K, .sta i p f e => one fun a M => (attS a).bind fun q => ((chk3 K.x e).e q.2.2 M).bind fun r1 => match gm r1.2 i with
      | .mk m y => (tyM r1.1).bind fun vm => (mkP p m).bind fun k => grd (decide (q.2.1 = f) && (K.x.ats.contains f && (isI k && (decide (atM k f = vm) && paE K.x r1.2 i p q.1)))) () |>.bind fun _ => fall K M r1.2
      | _ => none
  | K, .ite c p q => one fun a M => match a with
    | .If tc ta tb _ => ((chk3 K.x c).t tc M).bind fun M1 => ((chk2 K p).s ta M1).bind fun o1 => ((chk2 K q).s tb M1).bind fun o2 => grd (stB M M1 && xOk K M) (meetO o1 o2)
    | _ => none
  | K, .whl c b => one fun a M => match a with
    | .While tc tb [] _ => ((chk3 K.x c).t tc M).bind fun M1 => ((chk2 { K with bk := some M, ct := some M } b).s tb M1).bind fun o =>
      grd (stB M M1 && (leM M M1 && (xOk K M && (match o with | some M2 => leM M M2 | none => true)))) (some M)
    | _ => none
  | K, .fr t it b => one fun a M => match a with
    | .For tg ti tb [] _ => ((chk3 K.x it).i tg ti M).bind fun M1 => ((chk2 { K with bk := some M1, ct := some M1 } b).s tb (setFz t M1)).bind fun o =>
      grd (stB M M1 && (stB M1 (setFz t M1) && (tgA K.x t tg && (plainIt ti && (decide (M1.length = K.x.N.length) && (xOk K M && (t.all (fun i => decide (gm M1 i = .un)) && (match o with | some M2 => leM M1 M2 | none => true)))))))) (some M1)
    | _ => none
  | K, .ret e => one fun a M => match a with
    | .Return (some p) _ => ((chk3 K.x e).e p M).bind fun r => grd (stB M r.2 && (xOk K M && (decide (r.1 = resT K.res) && leM K.Mr r.2))) none
    | _ => none
  | K, .retN => one fun a M => match a with
    | .Return none _ => grd (decide (K.res = .fz) && leM K.Mr M) none
    | _ => none
  | _, .any => ⟨fun _ _ => some none, fun _ _ => some none⟩
  | K, .rse k es => one fun a M => match a with
    | .Raise (some e) none _ => (rsA K.x k e).bind fun as => ((chk3 K.x es).s .kept as M).bind fun M' => grd (as.all nst && (stB M M' && (xOk K M && xOk K M'))) none
    | _ => none
  | K, .tri b hs => one fun a M => match a with
    | .Try tb hds [] [] _ => ((chk2 { K with Xm := exM M } b).s tb M).bind fun o => (hdsA K.x (exM M) hs hds).bind fun o2 => grd (!hs.isEmpty && (stB M (exM M) && (leM K.Xm (exM M) && xOk K M))) (meetO o o2)
    | _ => none
  | _, .att2 _ _ _ _ => one fun _ _ => none
  | K, .drp _ => one fun _ _ => none
end Nc

set_option Elab.async false
set_option linter.all false
set_option autoImplicit false
set_option maxRecDepth 100000
set_option maxHeartbeats 4000000
/-! Soundness: statements. -/
namespace Nc
open PySem PySem.Spec PyProof.Rows L2
/-- slots that stay as they are -/
def KpS (M : Ms) (σ σ' : L2.St) : Prop := ∀ (i : Nat) (m : Md), M[i]? = some m → stM m = true → σ'[i]? = σ[i]?
def StK (M M' : Ms) : Prop := M'.length = M.length ∧ ∀ (i : Nat) (m : Md), M[i]? = some m → stM m = true → M'[i]? = some m
theorem KpS.refl {M : Ms} {σ : L2.St} : KpS M σ σ := fun _ _ _ _ => rfl
theorem KpS.trans {M M1 : Ms} {σ σ1 σ2 : L2.St} (a : KpS M σ σ1) (s : StK M M1) (b : KpS M1 σ1 σ2) : KpS M σ σ2 := fun i m h1 h2 => (b i m (s.2 i m h1 h2) h2).trans (a i m h1 h2)
theorem StK.refl {M : Ms} : StK M M := ⟨rfl, fun _ _ h _ => h⟩
theorem StK.trans {M M1 M2 : Ms} (a : StK M M1) (b : StK M1 M2) : StK M M2 := ⟨b.1.trans a.1, fun i m h1 h2 => b.2 i m (a.2 i m h1 h2) h2⟩
theorem stB_ok : ∀ {M M' : Ms}, stB M M' = true → StK M M'
  | [], [], _ => StK.refl
  | a :: M, b :: M', h => by
    unfold stB at h
    rw [Bool.and_eq_true] at h
    obtain ⟨h1, h2⟩ := h
    obtain ⟨l, k⟩ := stB_ok h2
    refine ⟨by simp [l], fun i m e hm => ?_⟩
    cases i with
    | zero =>
      simp at e
      subst e
      rw [hm] at h1
      have h1 : decide (b = a) = true := h1
      simp [of_decide_eq_true h1]
    | succ i => exact k i m (by simpa using e) hm
  | [], _ :: _, h => by cases h
  | _ :: _, [], h => by cases h
theorem meet_len : ∀ {M M' : Ms}, M.length = M'.length → (meet M M').length = M.length
  | [], [], _ => rfl
  | a :: M, b :: M', h => by
    show (meet M M').length + 1 = M.length + 1
    rw [meet_len (by simpa using h)]
  | [], _ :: _, h => by cases h
  | _ :: _, [], h => by cases h
theorem meet_get : ∀ {M M' : Ms} {i : Nat} {m : Md}, (meet M M')[i]? = some m → m = .un ∨ M[i]? = some m ∧ M'[i]? = some m
  | a :: M, b :: M', 0, m, h => by
    simp only [meet, List.getElem?_cons_zero, Option.some.injEq] at h
    split at h
    · rename_i e
      subst e h
      exact .inr ⟨rfl, rfl⟩
    · exact .inl h.symm
  | a :: M, b :: M', i + 1, m, h => meet_get (i := i) (by simpa [meet] using h)
  | [], _, _, _, h => by simp [meet] at h
  | _ :: _, [], _, _, h => by simp [meet] at h
theorem meet_both : ∀ {M M' : Ms} {i : Nat} {m : Md}, M[i]? = some m → M'[i]? = some m → (meet M M')[i]? = some m
  | a :: M, b :: M', 0, m, h1, h2 => by
    simp at h1 h2
    subst h1 h2
    simp [meet]
  | a :: M, b :: M', i + 1, m, h1, h2 => by
    show (meet M M')[i]? = some m
    exact meet_both (by simpa using h1) (by simpa using h2)
  | [], _, _, _, h, _ => by simp at h
  | _ :: _, [], _, _, _, h => by simp at h
theorem meet_l {M M' : Ms} (h : M.length = M'.length) : Le (meet M M') M := ⟨meet_len h, fun i m e => (meet_get e).imp (fun h => h) fun h => h.1⟩
theorem meet_r {M M' : Ms} (h : M.length = M'.length) : Le (meet M M') M' := ⟨(meet_len h).trans h, fun i m e => (meet_get e).imp (fun h => h) fun h => h.2⟩
section
variable (c : Cn) (n : En) (Xr : XrT) (W : WX) (K : Kc)
def PoS (M : Ms) (o : Option Ms) (σ : L2.St) (F : Fz) (H : Hp) (r : S3) (D : Ends) : Prop := match r with
  | .no => False
  | .nx δ' => ∀ M' σ' H' F', o = some M' → Kp F H F' H' → KpS M σ σ' → RS c n F' M' σ' H' δ' → D.nx σ' H'
  | .rt d δ' => ∀ v σ' H' F', Kp F H F' H' → KpS M σ σ' → RsT .non (resT K.res) c n F' K.Mr σ' H' δ' v d → D.rt v H'
  | .bk δ' => ∀ B σ' H' F', K.bk = some B → Kp F H F' H' → KpS M σ σ' → RS c n F' B σ' H' δ' → D.bk σ' H'
  | .ct δ' => ∀ B σ' H' F', K.ct = some B → Kp F H F' H' → KpS M σ σ' → RS c n F' B σ' H' δ' → D.ct σ' H'
  | .ex k ds δ' => ∀ cls dx σ' H' F', Kp F H F' H' → KpS M σ σ' → RS c n F' K.Xm σ' H' δ' → Xr k ds cls dx F' H' → W cls dx σ' H'
end
/-- a def's body's context -/
structure Gs (X : Cx) (x : Sx) (c : Cn) (T : Tb) (Xr : XrT) (W : WX) : Prop where
  gx : Gx X x c T Xr W
  kind : x.sc.kind = .function
  po : PassesOwn (model X.prog X.w) X.A X.env X.xe
  st : X.stack = X.env :: X.outer
  lf : X.env.frame = some X.env.locals
structure SndS (c : Cn) (T : Tb) (Xr : XrT) (K : Kc) (sm : Sm) : Prop where
  s : ∀ as M o, (chk2 K sm).s as M = some o → (∀ M', o = some M' → StK M M') ∧ ∀ n, n.Ok → ∀ X W, Gs X K.x c T Xr W → ∀ σ H δ F D, RS c n F M σ H δ → PoS c n Xr W K M o σ F H (evS T sm δ) D → SSs X as D σ H
  o : ∀ a M o, (chk2 K sm).o a M = some o → (∀ M', o = some M' → StK M M') ∧ ∀ n, n.Ok → ∀ X W, Gs X K.x c T Xr W → ∀ σ H δ F D, RS c n F M σ H δ → PoS c n Xr W K M o σ F H (evS T sm δ) D → SS X a D σ H
section
variable {c : Cn} {n : En} {T : Tb} {Xr : XrT} {x : Sx} {X : Cx} {W : WX} {K : Kc} {F F' F1 : Fz} {M M' M1 : Ms} {o : Option Ms} {σ σ' σ1 : L2.St} {H H' H1 : Hp} {δ δ' δ1 : Env} {ex : Ex} {ty : Ty} {e : Expr} {D : Ends} {r : S3}
theorem SndS.mkO {sm : Sm} (hs : ∀ as M, (chk2 K sm).s as M = none) (h : ∀ a M o, (chk2 K sm).o a M = some o → (∀ M', o = some M' → StK M M') ∧ ∀ n, n.Ok → ∀ X W, Gs X K.x c T Xr W → ∀ σ H δ F D, RS c n F M σ H δ → PoS c n Xr W K M o σ F H (evS T sm δ) D → SS X a D σ H) : SndS c T Xr K sm :=
  ⟨fun as M o z => (by rw [hs] at z; cases z), h⟩
/-- from a later state -/
theorem PoS.later (h : PoS c n Xr W K M o σ F H r D) (kp : Kp F H F1 H1) (ks : KpS M σ σ1) (st : StK M M1) : PoS c n Xr W K M1 o σ1 F1 H1 r D := by
  cases r with
  | no => exact h
  | nx δ' => exact fun M' σ' H' F' e k s r => h M' σ' H' F' e (kp.trans k) (ks.trans st s) r
  | rt d δ' => exact fun v σ' H' F' k s r => h v σ' H' F' (kp.trans k) (ks.trans st s) r
  | bk δ' => exact fun B σ' H' F' e k s r => h B σ' H' F' e (kp.trans k) (ks.trans st s) r
  | ct δ' => exact fun B σ' H' F' e k s r => h B σ' H' F' e (kp.trans k) (ks.trans st s) r
  | ex k ds δ' => exact fun cls dx σ' H' F' k s r => h cls dx σ' H' F' (kp.trans k) (ks.trans st s) r
/-- an expression's exception -/
theorem PoX.ofS {k : Str} {ds : List Nc.D} (h : PoS c n Xr W K M o σ F H (.ex k ds δ') D) (hx : xOk K M = true) : PoX c n Xr W M σ F H k ds δ' :=
  fun cls dx H' F' kp r x => h cls dx σ H' F' kp KpS.refl (r.weak (leM_ok hx)) x
theorem fall_inv {o : Option Ms} (h : fall K M M' = some o) : o = some M' ∧ StK M M' ∧ xOk K M = true := by
  obtain ⟨h1, h2⟩ := grd_some h
  rw [Bool.and_eq_true] at h1
  exact ⟨h2.symm, stB_ok h1.1, h1.2⟩
theorem sns_nil : SndS c T Xr K .nil := by
  refine ⟨fun as M o h => ?_, fun a M o h => by cases h⟩
  cases as with
  | cons a as => cases h
  | nil =>
    have h : some (some M) = some o := h
    cases h
    refine ⟨fun M' e => by cases e; exact StK.refl, fun n ok X W g σ H δ F D r po => SSs.of pss_nil ?_⟩
    exact po M σ H F rfl Kp.refl KpS.refl r
theorem sns_pas : SndS c T Xr K .pas := by
  refine SndS.mkO (fun _ _ => rfl) fun a M o h => ?_
  cases a <;> first | (cases h; done) | skip
  have h : some (some M) = some o := h
  cases h
  refine ⟨fun M' e => by cases e; exact StK.refl, fun n ok X W g σ H δ F D r po => SS.of ps_pass ?_⟩
  exact po M σ H F rfl Kp.refl KpS.refl r
theorem sns_brk : SndS c T Xr K .brk := by
  refine SndS.mkO (fun _ _ => rfl) fun a M o h => ?_
  cases a <;> first | (cases h; done) | skip
  obtain ⟨B, hb, h⟩ := Option.bind_eq_some_iff.mp h
  obtain ⟨h1, h⟩ := grd_some h
  cases h
  exact ⟨fun M' e => (nomatch e), fun n ok X W g σ H δ F D r po => SS.of ps_break (po B σ H F hb Kp.refl KpS.refl (r.weak (leM_ok h1)))⟩
theorem sns_cnt : SndS c T Xr K .cnt := by
  refine SndS.mkO (fun _ _ => rfl) fun a M o h => ?_
  cases a <;> first | (cases h; done) | skip
  obtain ⟨B, hb, h⟩ := Option.bind_eq_some_iff.mp h
  obtain ⟨h1, h⟩ := grd_some h
  cases h
  exact ⟨fun M' e => (nomatch e), fun n ok X W g σ H δ F D r po => SS.of ps_continue (po B σ H F hb Kp.refl KpS.refl (r.weak (leM_ok h1)))⟩
theorem sns_retN : SndS c T Xr K .retN := by
  refine SndS.mkO (fun _ _ => rfl) fun a M o h => ?_
  cases a <;> first | (cases h; done) | skip
  rename_i v pos
  cases v with
  | some v => cases h
  | none =>
    obtain ⟨h1, h⟩ := grd_some (show grd (decide (K.res = .fz) && leM K.Mr M) none = some o from h)
    cases h
    rw [Bool.and_eq_true, decide_eq_true_eq] at h1
    refine ⟨fun M' e => (nomatch e), fun n ok X W g σ H δ F D r po => SS.of ps_retN (po .non σ H F Kp.refl KpS.refl ?_)⟩
    have eT : resT K.res = .sh := by unfold resT; rw [if_pos h1.1]
    rw [eT]
    exact RsT.mk (r.weak (leM_ok h1.2)) .non rfl
theorem sns_exp {y : Ex} (s1 : Snd c T Xr K.x y) : SndS c T Xr K (.exp y) := by
  refine SndS.mkO (fun _ _ => rfl) fun a M o h => ?_
  cases a <;> first | (cases h; done) | skip
  rename_i p pos
  obtain ⟨_, h0, h⟩ := Option.bind_eq_some_iff.mp h
  obtain ⟨h0, _⟩ := grd_some h0
  obtain ⟨⟨ty, M1⟩, h1, h⟩ := Option.bind_eq_some_iff.mp h
  obtain ⟨rfl, st, xo⟩ := fall_inv h
  refine ⟨fun M' e => by cases e; exact st, fun n ok X W g σ H δ F D r po => ?_⟩
  have hsw : swapsWith p none pos.line X.env = pure false := by
    unfold swapsWith
    cases p <;> first | rfl | cases h0
  refine SS.of (ps_expr pe_S hsw) ((s1.e p M ty M1 h1).2 n ok X W g.gx σ H δ F _ r ?_)
  have po1 : PoS c n Xr W K M (some M1) σ F H ((ev T y δ).st fun _ δ1 => .nx δ1) D := po
  cases hr : ev T y δ with
  | no => rw [hr] at po1; exact po1
  | ex kk ds δ' => rw [hr] at po1; exact PoX.ofS po1 xo
  | ok d δ1 =>
    rw [hr] at po1
    exact fun v H1 F1 kp rt => po1 M1 σ H1 F1 rfl kp KpS.refl rt.rs
theorem sns_ret {y : Ex} (s1 : Snd c T Xr K.x y) : SndS c T Xr K (.ret y) := by
  refine SndS.mkO (fun _ _ => rfl) fun a M o h => ?_
  cases a <;> first | (cases h; done) | skip
  rename_i v pos
  cases v with
  | none => cases h
  | some p =>
    obtain ⟨⟨ty, M1⟩, h1, h⟩ := Option.bind_eq_some_iff.mp (show ((chk3 K.x y).e p M).bind _ = some o from h)
    obtain ⟨h2, h⟩ := grd_some h
    cases h
    rw [Bool.and_eq_true, Bool.and_eq_true, Bool.and_eq_true, decide_eq_true_eq] at h2
    obtain ⟨h3, xo, h4, h5⟩ := h2
    have h4 : ty = resT K.res := h4
    subst h4
    refine ⟨fun M' e => (nomatch e), fun n ok X W g σ H δ F D r po => ?_⟩
    refine SS.of (ps_ret pe_S) ((s1.e p M _ M1 h1).2 n ok X W g.gx σ H δ F _ r ?_)
    have po1 : PoS c n Xr W K M none σ F H ((ev T y δ).st fun d δ1 => .rt d δ1) D := po
    cases hr : ev T y δ with
    | no => rw [hr] at po1; exact po1
    | ex kk ds δ' => rw [hr] at po1; exact PoX.ofS po1 xo
    | ok d δ1 =>
      rw [hr] at po1
      intro v H1 F1 kp rt
      refine po1 v σ H1 F1 kp KpS.refl ?_
      obtain ⟨A, r1, q⟩ := rt
      refine ⟨_, r1.weak (leM_ok h5), ?_⟩
      unfold resT at q ⊢
      by_cases hm : K.res = .fz
      · rw [if_pos hm] at q ⊢
        exact ⟨q.1, rfl⟩
      · rw [if_neg hm] at q ⊢
        obtain ⟨B, o, dj, h0⟩ := q
        refine ⟨B, o, fun i a ha => ?_, h0⟩
        by_cases w : (K.Mr[i]?).getD .un = .un
        · rw [if_pos w] at ha; cases ha
        · rw [if_neg w] at ha; exact dj i a ha
end
end Nc

set_option Elab.async false
set_option linter.all false
set_option autoImplicit false
set_option maxRecDepth 100000
set_option maxHeartbeats 4000000
/-! Several except clauses, with and without a name. -/
namespace Nc
open PySem PySem.Spec PyProof.Rows L2
/-- a clause: its class, its name's slot, its suite -/
structure Cl where
  c : Value
  i : Option Nat
  ts : Addr → Value → Option Addr → TS
def nmO (i : Option Nat) (σ : L2.St) : L2.St := match i with
  | none => σ
  | some i => σ.set i none
def atO (i : Option Nat) (a : Addr) (σ : L2.St) : L2.St := match i with
  | none => σ
  | some i => σ.set i (some (.ref a))
def offO (i : Option Nat) (D : Ends) : Ends := ⟨fun σ H => D.nx (nmO i σ) H, D.rt, fun σ H => D.bk (nmO i σ) H, fun σ H => D.ct (nmO i σ) H⟩
/-- what the clauses wish -/
def wCl (K : PySem.W.Frag) (Wo : WX) (D : Ends) : List Cl → WX
  | [] => Wo
  | k :: ks => fun cls dx σ H => ∃ b, PySem.W.exmOne K cls k.c = some b ∧ (b = true → ∀ a, H a = none → k.ts a cls dx (offO k.i D) (atO k.i a σ) H) ∧ (b = false → wCl K Wo D ks cls dx σ H)
/-- a clause's name -/
def ClN (X : Cx) : Option Nat → Option Str → Prop
  | none, none => True
  | some i, some n => X.N[i]? = some n ∧ X.env.kindOf n = some .local
  | _, _ => False
inductive ClOk (X : Cx) : List ExceptHandler → List Cl → Prop
  | nil : ClOk X [] []
  | cons {x : Str} {k : Cl} {n : Option Str} {b0 : Stmt} {bs : List Stmt} {np pp : Pos} {es : List ExceptHandler} {ks : List Cl} (hn : Names X x k.c) (hi : ClN X k.i n)
      (hs : ∀ (a : Addr) (oe : Obj) (cls : Value) (dx : Option Addr) (pn : List (Addr × Obj)), Zc cls dx oe → (∃ vs, oe.data = .fields vs) → X.base.get? a = none → PSs (X.suite a ((a, oe) :: pn)) (b0 :: bs) (k.ts a cls dx)) (r : ClOk X es ks) :
      ClOk X (.ExceptHandler (some (.Name x np)) n (b0 :: bs) pp :: es) (k :: ks)
section
variable {X : Cx} {tb : WX → TS} {body : List Stmt} {e0 : ExceptHandler} {es : List ExceptHandler} {ks : List Cl} {pos : Pos} {Wo : WX} {pins : List (Addr × Obj)} {σ : L2.St} {H : Hp} {s : Shared} {D : Ends}
/-- no frame's address -/
theorem not_frs {B h : Heap} {fs : List PySem.Env} {a : Addr} {o : Obj} {vs : Array Value} (ff : h.FunFrames B fs) (e : h.get? a = some o) (d : o.data = .fields vs) : a ∉ frs fs := fun hm => by
  obtain ⟨_, o2, e2, hnf⟩ := ff.mem hm
  rw [e] at e2
  cases e2
  exact hnf _ d
/-- the clauses, one after the other, at an exception that has landed -/
theorem cl_go (ok : X.Ok) (hs : X.stack = X.env :: X.outer) (hf : X.env.frame = some X.env.locals) (nd : X.N.Nodup) (tk : Takes X Wo) {a : Addr} {B : Heap} {sI s2 : Shared} {h3 : Heap} {cls : Value} {dx : Option Addr} (J0 : Inv X pins σ H sI)
    (nb : ∀ b o, sI.heap.get? b = some o → b ∉ frs X.stack → B.get? b = some o) (up : sI.heap.UpToSlots h3) (na : H a = none) (os : s2.os = sI.os) (ag : AllBare s2.gens) (fl : HandSPX.FlyingZ B (X.env :: X.outer) a (Zc cls dx) h3) :
    ∀ {es : List ExceptHandler} {ks : List Cl}, ClOk X es ks → wCl X.K Wo D ks cls dx σ H → wpAny (model X.prog X.w) X.A (handleBy (.ref a) X.env es) (SP X pins D) X.xe { s2 with heap := h3 } := by
  have J : Inv X pins σ H { s2 with heap := h3 } := J0.landed nb fl.1 up os ag
  obtain ⟨oe, vs, he, hz, hd⟩ := fl.there
  have nfr := not_frs fl.2.2.1 he hd
  have nL : a ≠ X.env.locals := fun z => nfr (List.mem_filterMap.mpr ⟨X.env, List.mem_cons_self, by rw [hf, z]⟩)
  have nF : a ∉ X.fs := fun hm => by
    obtain ⟨e, z, q⟩ := List.mem_filterMap.mp hm
    exact nfr (List.mem_filterMap.mpr ⟨e, List.mem_cons_of_mem _ z, q⟩)
  have S := J.suite he hd na nL nF
  have nbb : X.base.get? a = none := by
    cases e : X.base.get? a with
    | none => rfl
    | some o =>
      have z := nb a o (J0.bs a o e).1 (by rw [hs]; exact nfr)
      rw [fl.2.1] at z; cases z
  intro es ks hk
  induction hk with
  | nil =>
    intro w
    refine wpAny_handleBy_nil ?_
    obtain ⟨_, _, _, oe2, vs2, tb, _, _, he2, _, hd2, h12, _⟩ := id fl
    unfold PySem.passOn
    refine wpAny_bind (wpAny_field he2 hd2 h12 ?_)
    rw [if_neg (show ¬ ((Value.ref tb == Value.none) = true) by simp)]
    have end_ : wpAny (model X.prog X.w) X.A (setFlight (.ref a) X.env.frame) (fun _ s4 => wpAny (model X.prog X.w) X.A (throw (.ref a) : Sem Flow) (SP X pins D) X.xe s4) X.xe { s2 with heap := h3 } := by
      rw [hf]
      refine HandSPX.setFlight_upZ fl fun h4 hh up2 => wpAny_throw (tk _ _ ?_)
      exact ⟨a, B, sI, pins, σ, H, cls, dx, rfl, J0, nb, up.trans up2, .inr (.inr (by rw [hs]; exact hh)), na, os, ag, w⟩
    first | exact wpAny_bind end_ | exact wpAny_bind (wpAny_pure (wpAny_bind end_))
  | @cons x k n b0 bs np pp es2 ks2 hn hi hsu r ih =>
    intro w
    obtain ⟨b, hb, yes, no⟩ := w
    refine wpAny_handleBy_cons (codeAny_handlers_test ?_) (by intro q; cases q)
    have lt : PySem.W.Looks (model X.prog X.w) h3 (typeOf (.ref a)) cls := fun A Q E s4 kk q => wpAny_typeOf_ref (kk _ _ he) (by rw [hz.1]; exact q)
    have lm := PySem.W.exm_one (M := model X.prog X.w) J.kIn lt hb
    have tst : ∀ {Q E : Value → Shared → Prop}, Q k.c { s2 with heap := h3 } → wpAny (model X.prog X.w) (X.A.mark (some (.ref a))) (eval (.Name x np) X.env) Q E { s2 with heap := h3 } := fun {Q E} q => by
      obtain ⟨g1, g2, g3 | ⟨g3, g4, g5⟩⟩ := hn
      · exact ld_glob (X := X.suite a ((a, oe) :: (X.pn ++ pins))) S g1 g3 q g2
      · exact ld_blt (X := X.suite a ((a, oe) :: (X.pn ++ pins))) S g1 g3 g4 q g5 g2
    refine tst (lm.here ?_)
    cases b with
    | false => exact ih (no rfl)
    | true =>
      obtain ⟨kc, ki, kts⟩ := k
      have yes := yes rfl a na
      cases ki with
      | none =>
        cases n with
        | some n => exact hi.elim
        | none =>
          refine codeAny_handlers_suite ?_
          refine HandSPX.lands_againZ fl fun h4 fl4 up4 => ?_
          have J4 : Inv X pins σ H { s2 with heap := h4 } := J0.landed nb fl4.1 (up.trans up4) os ag
          obtain ⟨oe4, vs4, he4, hz4, hd4⟩ := fl4.there
          have S4 := J4.suite he4 hd4 na nL nF
          refine wpAny_mono ((hsu a oe4 cls dx (X.pn ++ pins) hz4 ⟨_, hd4⟩ nbb).run [] _ _ H _ S4 yes) (fun f s6 z => ?_) fun _ _ z => z.elim
          cases f with
          | next => obtain ⟨σ6, H6, S6, q⟩ := z; exact ⟨σ6, H6, S6.unsuite ok, q⟩
          | brk => obtain ⟨σ6, H6, S6, q⟩ := z; exact ⟨σ6, H6, S6.unsuite ok, q⟩
          | cont => obtain ⟨σ6, H6, S6, q⟩ := z; exact ⟨σ6, H6, S6.unsuite ok, q⟩
          | ret u => obtain ⟨v6, σ6, H6, S6, rv, q⟩ := z; exact ⟨v6, σ6, H6, S6.unsuite ok, rv, q⟩
      | some i =>
        cases n with
        | none => exact hi.elim
        | some n =>
          obtain ⟨hi, hl⟩ := hi
          refine codeAny_handlers_suite_as ?_
          refine HandSPX.lands_againZ fl fun h4 fl4 up4 => ?_
          have J4 : Inv X pins σ H { s2 with heap := h4 } := J0.landed nb fl4.1 (up.trans up4) os ag
          obtain ⟨oe4, vs4, he4, hz4, hd4⟩ := fl4.there
          have S4 := J4.suite he4 hd4 na nL nF
          refine store_ok (v := .ref a) (X := X.suite a ((a, oe4) :: (X.pn ++ pins))) S4 nd hi (.inl hl) rfl (fun s5 S5 => ?_) (.inr hl)
          refine wpAny_mono ((hsu a oe4 cls dx (X.pn ++ pins) hz4 ⟨_, hd4⟩ nbb).run [] s5 _ H _ S5 yes) (fun f s6 z => ?_) fun _ _ z => z.elim
          have off : ∀ {σ6 : L2.St} {H6 : Hp} {Q : Shared → Prop}, Inv (X.suite a ((a, oe4) :: (X.pn ++ pins))) [] σ6 H6 s6 → (∀ s7, Inv X pins (σ6.set i none) H6 s7 → Q s7) →
              wpAny (model X.prog X.w) X.A (do bindName X.env n .none; unbindBehindTheSuite X.env n pp) (fun _ s7 => Q s7) X.xe s6 := fun {σ6 H6 Q} S6 q => gone_ok (S6.unsuite ok) nd hi hl q
          cases f with
          | next => obtain ⟨σ6, H6, S6, q⟩ := z; exact off S6 fun s7 J7 => ⟨_, _, J7, q⟩
          | brk => obtain ⟨σ6, H6, S6, q⟩ := z; exact off S6 fun s7 J7 => ⟨_, _, J7, q⟩
          | cont => obtain ⟨σ6, H6, S6, q⟩ := z; exact off S6 fun s7 J7 => ⟨_, _, J7, q⟩
          | ret u => obtain ⟨v6, σ6, H6, S6, rv, q⟩ := z; exact off S6 fun s7 J7 => ⟨_, _, _, J7, rv, q⟩
theorem ps_tryC (hs : X.stack = X.env :: X.outer) (hf : X.env.frame = some X.env.locals) (nd : X.N.Nodup) (tk : Takes X Wo)
    (hb : ∀ (W : WX) (pn : List (Addr × Obj)) (xe : Value → Shared → Prop), Takes (X.tr pn xe) W → PassesOwn (model X.prog X.w) X.A X.env xe → PSs (X.tr pn xe) body (tb W))
    (hh : ClOk X (e0 :: es) ks) : PS X (.Try body (e0 :: es) [] [] pos) (fun D σ H => tb (wCl X.K Wo D ks) D σ H) := by
  refine ⟨fun pins s σ H D I h => ?_⟩
  have ok := I.ok
  refine wpAny_Try_except (wpAny_mono ((hb (wCl X.K Wo D ks) (X.pn ++ pins) (fun e s1 => wpAny (model X.prog X.w) X.A (noteFrame e X.env) (fun _ s2 => wpAny (model X.prog X.w) X.A (setFlight e none) (fun _ s3 =>
    wpAny (model X.prog X.w) X.A (handleBy e X.env (e0 :: es)) (SP X pins D) X.xe s3) X.xe s2) X.xe s1) (fun u s2 z => ?_) PassesOwn.looking).run [] s σ H D (I.toTry _) h) (fun f s1 z => ?_) fun e s1 z => z)
  · obtain ⟨a, B, sI, pins2, σ2, H2, cls, dx, rfl, J2, nb, up, sky, na, os, ag, w⟩ := z
    have J := J2.ofTry ok
    have fr : X.A.frames = some (X.env :: X.outer) := by rw [ok.frames, hs]
    refine Sky.land Zc.steady fr hf (by rw [← hs]; exact sky) fun h3 fl up3 => ?_
    exact cl_go ok hs hf nd tk J nb (up.trans up3) na os ag fl hh w
  · cases f with
    | next => obtain ⟨σ2, H2, J, q⟩ := z; exact wpAny_execs_nil ⟨σ2, H2, J.ofTry ok, q⟩
    | brk => obtain ⟨σ2, H2, J, q⟩ := z; exact ⟨σ2, H2, J.ofTry ok, q⟩
    | cont => obtain ⟨σ2, H2, J, q⟩ := z; exact ⟨σ2, H2, J.ofTry ok, q⟩
    | ret u => obtain ⟨v, σ2, H2, J, rv, q⟩ := z; exact ⟨v, σ2, H2, J.ofTry ok, rv, q⟩
end
end Nc

set_option Elab.async false
set_option linter.all false
set_option autoImplicit false
set_option maxRecDepth 100000
set_option maxHeartbeats 4000000
/-! Soundness: suites, if, loops, stores. -/
namespace Nc
open PySem PySem.Spec PyProof.Rows L2
section
variable {c : Cn} {n : En} {T : Tb} {Xr : XrT} {x : Sx} {X : Cx} {W : WX} {K : Kc} {F F' F1 : Fz} {M M' M1 : Ms} {o : Option Ms} {σ σ' σ1 : L2.St} {H H' H1 : Hp} {δ δ' δ1 : Env} {ex : Ex} {ty : Ty} {e : Expr} {D : Ends} {r : S3}
theorem gh_inv {s : Sm} (hg : isGh s = true) (h : gh s M = some M') : Le M' M ∧ StK M M' ∧ ∀ δ, evS T s δ = .nx δ := by
  cases s <;> first | (cases hg; done) | skip
  rename_i i
  have h : (match gm M i with | .mk _ .free => some (M.set i .un) | .un => some M | _ => none) = some M' := h
  cases hm : gm M i with
  | un =>
    rw [hm] at h
    cases h
    exact ⟨Le.refl _, StK.refl, fun _ => rfl⟩
  | bo b => rw [hm] at h; cases h
  | mk k y =>
    rw [hm] at h
    cases y with
    | io => cases h
    | free =>
      cases h
      have hi := gm_eq hm (fun z => nomatch z)
      refine ⟨⟨List.length_set, fun j m hj => ?_⟩, ⟨List.length_set, fun j m hj hs => ?_⟩, fun _ => rfl⟩
      · by_cases e : j = i
        · subst e
          rw [List.getElem?_set_self (List.getElem?_eq_some_iff.mp hi).1] at hj
          exact .inl (Option.some.inj hj).symm
        · rw [List.getElem?_set_ne (Ne.symm e)] at hj
          exact .inr hj
      · by_cases e : j = i
        · subst e
          rw [hi] at hj
          cases hj
          cases hs
        · rw [List.getElem?_set_ne (Ne.symm e)]
          exact hj
theorem sns_cons {s q : Sm} (s1 : SndS c T Xr K s) (s2 : SndS c T Xr K q) : SndS c T Xr K (.cons s q) := by
  refine ⟨fun as M o h => ?_, fun a M o h => by cases h⟩
  have h : (if isGh s = true then (gh s M).bind fun M' => (chk2 K q).s as M' else consC (chk2 K s).o (chk2 K q).s as M) = some o := h
  by_cases hg : isGh s = true
  · rw [if_pos hg] at h
    obtain ⟨M1, h1, h2⟩ := Option.bind_eq_some_iff.mp h
    obtain ⟨le, st, ev⟩ := gh_inv (T := T) hg h1
    obtain ⟨t2, k2⟩ := s2.s as M1 o h2
    refine ⟨fun M' e => st.trans (t2 M' e), fun n ok X W g σ H δ F D r po => k2 n ok X W g σ H δ F D (r.weak le) ?_⟩
    have po1 : PoS c n Xr W K M o σ F H ((evS T s δ).seq (evS T q)) D := po
    rw [ev] at po1
    exact PoS.later po1 Kp.refl KpS.refl st
  · rw [if_neg hg] at h
    cases as with
    | nil => cases h
    | cons a as =>
      obtain ⟨o1, h1, h2⟩ := Option.bind_eq_some_iff.mp h
      obtain ⟨t1, k1⟩ := s1.o a M o1 h1
      cases o1 with
      | none =>
        obtain ⟨h3, h4⟩ := grd_some (show grd as.isEmpty none = some o from h2)
        cases h4
        cases as with
        | cons b as => cases h3
        | nil =>
          refine ⟨fun M' e => (nomatch e), fun n ok X W g σ H δ F D r po => SSs.of (pss_one ps_S) (k1 n ok X W g σ H δ F D r ?_)⟩
          have po1 : PoS c n Xr W K M none σ F H ((evS T s δ).seq (evS T q)) D := po
          cases hr : evS T s δ with
          | nx δ1 => exact fun M' σ' H' F' e => (nomatch e)
          | no => rw [hr] at po1; exact po1
          | rt d δ1 => rw [hr] at po1; exact po1
          | bk δ1 => rw [hr] at po1; exact po1
          | ct δ1 => rw [hr] at po1; exact po1
          | ex k ds δ1 => rw [hr] at po1; exact po1
      | some M1 =>
        have st := t1 M1 rfl
        obtain ⟨t2, k2⟩ := s2.s as M1 o h2
        refine ⟨fun M' e => st.trans (t2 M' e), fun n ok X W g σ H δ F D r po => SSs.of (pss_cons ps_S pss_S) (k1 n ok X W g σ H δ F _ r ?_)⟩
        have po1 : PoS c n Xr W K M o σ F H ((evS T s δ).seq (evS T q)) D := po
        cases hr : evS T s δ with
        | nx δ1 =>
          rw [hr] at po1
          intro M' σ' H' F' e kp ks r1
          cases e
          exact k2 n ok X W g σ' H' δ1 F' D r1 (PoS.later po1 kp ks st)
        | no => rw [hr] at po1; exact po1
        | rt d δ1 => rw [hr] at po1; exact po1
        | bk δ1 => rw [hr] at po1; exact po1
        | ct δ1 => rw [hr] at po1; exact po1
        | ex k ds δ1 => rw [hr] at po1; exact po1
theorem sns_ite {k : Ex} {p q : Sm} (s0 : Snd c T Xr K.x k) (s1 : SndS c T Xr K p) (s2 : SndS c T Xr K q) : SndS c T Xr K (.ite k p q) := by
  refine SndS.mkO (fun _ _ => rfl) fun a M o h => ?_
  cases a <;> first | (cases h; done) | skip
  rename_i tc ta tb pos
  obtain ⟨M1, h1, h⟩ := Option.bind_eq_some_iff.mp h
  obtain ⟨o1, h2, h⟩ := Option.bind_eq_some_iff.mp h
  obtain ⟨o2, h3, h⟩ := Option.bind_eq_some_iff.mp h
  obtain ⟨h4, h⟩ := grd_some h
  rw [Bool.and_eq_true] at h4
  have st := stB_ok h4.1
  obtain ⟨t1, k1⟩ := s1.s ta M1 o1 h2
  obtain ⟨t2, k2⟩ := s2.s tb M1 o2 h3
  obtain ⟨_, k0⟩ := s0.t tc M M1 h1
  have wk : ∀ M', o = some M' → StK M M' ∧ (∀ N, o1 = some N → Le M' N) ∧ (∀ N, o2 = some N → Le M' N) := fun M' e => by
    subst e
    cases o1 with
    | none =>
      have h : o2 = some M' := h
      subst h
      exact ⟨st.trans (t2 M' rfl), fun N e => (nomatch e), fun N e => by cases e; exact Le.refl _⟩
    | some A1 =>
      cases o2 with
      | none =>
        have h : A1 = M' := Option.some.inj h
        subst h
        exact ⟨st.trans (t1 A1 rfl), fun N e => by cases e; exact Le.refl _, fun N e => (nomatch e)⟩
      | some A2 =>
        have h : meet A1 A2 = M' := Option.some.inj h
        subst h
        have st1 := t1 A1 rfl
        have st2 := t2 A2 rfl
        have hl : A1.length = A2.length := st1.1.trans st2.1.symm
        exact ⟨st.trans ⟨(meet_len hl).trans st1.1, fun i m e1 e2 => meet_both (st1.2 i m e1 e2) (st2.2 i m e1 e2)⟩, fun N e => by cases e; exact meet_l hl, fun N e => by cases e; exact meet_r hl⟩
  have oo : ∀ N, o1 = some N ∨ o2 = some N → ∃ M', o = some M' := fun N e => by
    cases o1 with
    | none =>
      have h : o2 = o := h
      rcases e with e | e
      · cases e
      · exact ⟨N, h ▸ e⟩
    | some A1 =>
      cases o2 with
      | none => exact ⟨A1, h.symm⟩
      | some A2 => exact ⟨_, h.symm⟩
  refine ⟨fun M' e => (wk M' e).1, fun n ok X W g σ H δ F D r po => ?_⟩
  refine SS.of (ps_if pt_S pss_S pss_S) (k0 n ok X W g.gx σ H δ F _ r ?_)
  have po1 : PoS c n Xr W K M o σ F H ((evt T k δ).st fun z δ1 => if z = true then evS T p δ1 else evS T q δ1) D := po
  have cut : ∀ {oi : Option Ms} {rr : S3} {H1 F1}, (∀ M', o = some M' → ∀ N, oi = some N → Le M' N) → (∀ N, oi = some N → ∃ M', o = some M') → Kp F H F1 H1 → PoS c n Xr W K M o σ F H rr D → PoS c n Xr W K M1 oi σ F1 H1 rr D := fun {oi rr H1 F1} hl ho kp h => by
    have h := PoS.later h kp KpS.refl st
    cases rr with
    | nx δ' =>
      intro N σ' H' F' e k s r
      obtain ⟨M', e'⟩ := ho N e
      exact h M' σ' H' F' e' k s (r.weak (hl M' e' N e))
    | _ => exact h
  cases hr : evt T k δ with
  | no => rw [hr] at po1; exact po1
  | ex kk ds δ' => rw [hr] at po1; exact PoX.ofS po1 h4.2
  | ok z δ1 =>
    rw [hr] at po1
    intro H1 F1 kp r1
    cases z with
    | true => exact k1 n ok X W g σ H1 δ1 F1 D r1 (cut (fun M' e N e2 => (wk M' e).2.1 N e2) (fun N e => oo N (.inl e)) kp po1)
    | false => exact k2 n ok X W g σ H1 δ1 F1 D r1 (cut (fun M' e N e2 => (wk M' e).2.2 N e2) (fun N e => oo N (.inr e)) kp po1)
end
end Nc

set_option Elab.async false
set_option linter.all false
set_option autoImplicit false
set_option maxRecDepth 100000
set_option maxHeartbeats 4000000
/-! Soundness: loops, stores in names. -/
namespace Nc
open PySem PySem.Spec PyProof.Rows L2
section
variable {c : Cn} {n : En} {T : Tb} {Xr : XrT} {x : Sx} {X : Cx} {W : WX} {K : Kc} {F F' F1 : Fz} {M M' M1 : Ms} {o : Option Ms} {σ σ' σ1 : L2.St} {H H' H1 : Hp} {δ δ' δ1 : Env} {ex : Ex} {ty : Ty} {e : Expr} {D : Ends} {r : S3}
theorem sns_whl {k : Ex} {b : Sm} (s0 : Snd c T Xr K.x k) (s1 : ∀ K, SndS c T Xr K b) : SndS c T Xr K (.whl k b) := by
  refine SndS.mkO (fun _ _ => rfl) fun a M o h => ?_
  cases a <;> first | (cases h; done) | skip
  rename_i tc tb el pos
  cases el with
  | cons z zs => cases h
  | nil =>
  obtain ⟨M1, h1, h⟩ := Option.bind_eq_some_iff.mp (show ((chk3 K.x k).t tc M).bind _ = some o from h)
  obtain ⟨o1, h2, h⟩ := Option.bind_eq_some_iff.mp h
  obtain ⟨h3, h⟩ := grd_some h
  cases h
  simp only [Bool.and_eq_true] at h3
  obtain ⟨st, l1, xo, l2⟩ := h3
  have st := stB_ok st
  have l1 := leM_ok l1
  obtain ⟨_, k0⟩ := s0.t tc M M1 h1
  obtain ⟨t1, k1⟩ := (s1 _).s tb M1 o1 h2
  refine ⟨fun M' e => by cases e; exact StK.refl, fun n ok X W g σ H δ F D r po => ?_⟩
  refine SS.of (ps_while g.po pt_S pss_S) ⟨fun m σ' H' => ∃ δi F', RS c n F' M σ' H' δi ∧ PoS c n Xr W K M (some M) σ' F' H' (whlGo (evt T k) (evS T b) m δi) D, ⟨T.fuel, δ, F, r, po⟩, ?_⟩
  rintro m σ1 H1 ⟨δi, F1, r1, po1⟩
  cases m with
  | zero => exact po1.elim
  | succ m =>
    refine k0 n ok X W g.gx σ1 H1 δi F1 _ r1 ?_
    have po2 : PoS c n Xr W K M (some M) σ1 F1 H1 ((evt T k δi).st fun z δ1 => if z = true then match evS T b δ1 with
      | .nx δ2 => whlGo (evt T k) (evS T b) m δ2
      | .ct δ2 => whlGo (evt T k) (evS T b) m δ2
      | .bk δ2 => .nx δ2
      | r => r
    else .nx δ1) D := po1
    cases hr : evt T k δi with
    | no => rw [hr] at po2; exact po2
    | ex kk ds δ' => rw [hr] at po2; exact PoX.ofS po2 xo
    | ok z δ1 =>
      rw [hr] at po2
      intro H2 F2 kp2 r2
      cases z with
      | false =>
        rw [if_neg Bool.false_ne_true]
        exact po2 M σ1 H2 F2 rfl kp2 KpS.refl (r2.weak l1)
      | true =>
        rw [if_pos rfl]
        refine ⟨fun σ' H' => ∃ δi F', RS c n F' M σ' H' δi ∧ PoS c n Xr W K M (some M) σ' F' H' (whlGo (evt T k) (evS T b) m δi) D, fun σ' H' h => ⟨m, Nat.lt_succ_self _, h⟩, k1 n ok X W g σ1 H2 δ1 F2 _ r2 ?_⟩
        have po3 : PoS c n Xr W K M (some M) σ1 F1 H1 (match evS T b δ1 with
          | .nx δ2 => whlGo (evt T k) (evS T b) m δ2
          | .ct δ2 => whlGo (evt T k) (evS T b) m δ2
          | .bk δ2 => .nx δ2
          | r => r) D := po2
        have ks : ∀ {σ'}, KpS M1 σ1 σ' → KpS M σ1 σ' := fun h => KpS.refl.trans st h
        cases hb : evS T b δ1 with
        | no => rw [hb] at po3; exact po3
        | nx δ2 =>
          rw [hb] at po3
          intro M2 σ' H' F' e kp s r3
          subst e
          exact ⟨δ2, F', r3.weak (leM_ok l2), PoS.later po3 (kp2.trans kp) (ks s) StK.refl⟩
        | ct δ2 =>
          rw [hb] at po3
          intro B σ' H' F' e kp s r3
          cases e
          exact ⟨δ2, F', r3, PoS.later po3 (kp2.trans kp) (ks s) StK.refl⟩
        | bk δ2 =>
          rw [hb] at po3
          intro B σ' H' F' e kp s r3
          cases e
          exact po3 M σ' H' F' rfl (kp2.trans kp) (ks s) r3
        | rt d δ2 =>
          rw [hb] at po3
          exact fun v σ' H' F' kp s r3 => po3 v σ' H' F' (kp2.trans kp) (ks s) r3
        | ex kk ds δ2 =>
          rw [hb] at po3
          exact fun cls dx σ' H' F' kp s r3 => po3 cls dx σ' H' F' (kp2.trans kp) (ks s) r3
theorem sns_fr {t : List Nat} {it : Ex} {b : Sm} (s0 : SndI c T Xr K.x it) (s1 : ∀ K, SndS c T Xr K b) : SndS c T Xr K (.fr t it b) := by
  refine SndS.mkO (fun _ _ => rfl) fun a M o h => ?_
  cases a <;> first | (cases h; done) | skip
  rename_i tg ti tb el pos
  cases el with
  | cons z zs => cases h
  | nil =>
  obtain ⟨M1, h1, h⟩ := Option.bind_eq_some_iff.mp (show ((chk3 K.x it).i tg ti M).bind _ = some o from h)
  obtain ⟨o1, h2, h⟩ := Option.bind_eq_some_iff.mp h
  obtain ⟨h3, h⟩ := grd_some h
  cases h
  simp only [Bool.and_eq_true, List.all_eq_true, decide_eq_true_eq] at h3
  obtain ⟨st, st1, htg, hp, hM, xo, hu, l2⟩ := h3
  have st := stB_ok st
  have st1 := stB_ok st1
  obtain ⟨_, k0⟩ := s0 tg ti M M1 h1
  obtain ⟨t1, k1⟩ := (s1 _).s tb (setFz t M1) o1 h2
  refine ⟨fun M' e => by cases e; exact st, fun n ok X W g σ H δ F D r po => ?_⟩
  refine SS.of (ps_for (g := SG X tg) g.po g.gx.gn.calm pi_S pg_S pss_S (fold_plain hp)) (k0 n ok X W g.gx σ H δ F _ r ?_)
  have po1 : PoS c n Xr W K M (some M1) σ F H ((evi T it δ).st fun ds δ1 => forGo t (evS T b) ds δ1) D := po
  cases hr : evi T it δ with
  | no => rw [hr] at po1; exact po1
  | ex kk ds δ' => rw [hr] at po1; exact PoX.ofS po1 xo
  | ok ds δ1 =>
  rw [hr] at po1
  intro J H1 F1 kp1 r1 iok
  have po2 : PoS c n Xr W K M1 (some M1) σ F1 H1 (forGo t (evS T b) ds δ1) D := PoS.later po1 kp1 KpS.refl st
  refine ⟨fun i m σ' H' => m = ds.length - i ∧ i ≤ ds.length ∧ ∃ δi F', Kp F1 H1 F' H' ∧ RS c n F' M1 σ' H' δi ∧ PoS c n Xr W K M1 (some M1) σ' F' H' (forGo t (evS T b) (ds.drop i) δi) D, ⟨ds.length, by omega, Nat.zero_le _, δ1, F1, Kp.refl, r1, po2⟩, ?_⟩
  rintro i m σ2 H2 ⟨rfl, hi, δi, F2, kp2, r2, po3⟩
  obtain ⟨A2, q2⟩ := r2
  by_cases hlt : i < ds.length
  · right
    obtain ⟨go, yl⟩ := iok.go F2 H2 i q2.fk kp2 q2.kp hlt
    refine ⟨go, fun σ' H' => ∃ δi F', Kp F1 H1 F' H' ∧ RS c n F' M1 σ' H' δi ∧ PoS c n Xr W K M1 (some M1) σ' F' H' (forGo t (evS T b) (ds.drop (i + 1)) δi) D, fun σ' H' h => ⟨ds.length - (i + 1), by omega, rfl, hlt, h⟩, fun v H3 hy => ?_⟩
    obtain ⟨ext, d, hd, rv⟩ := yl v H3 hy
    have hdrop : ds.drop i = d :: ds.drop (i + 1) := by
      rw [List.drop_eq_getElem_cons hlt]
      have : ds[i] = d := by
        rw [List.getElem?_eq_getElem hlt] at hd
        exact Option.some.inj hd
      rw [this]
    rw [hdrop] at po3
    have kp3 : Kp F2 H2 F2 H3 := Kp.ext q2.fk ext
    have po4 : PoS c n Xr W K M1 (some M1) σ2 F2 H2 (match bindT t d δi with
      | none => .no
      | some δ1 => match evS T b δ1 with
        | .nx δ2 => forGo t (evS T b) (ds.drop (i + 1)) δ2
        | .ct δ2 => forGo t (evS T b) (ds.drop (i + 1)) δ2
        | .bk δ2 => .nx δ2
        | r => r) D := po3
    cases hb : bindT t d δi with
    | none => rw [hb] at po4; exact po4.elim
    | some δ3 =>
    rw [hb] at po4
    refine sg_tgt g.gx.gn htg (q2.ext ext) hM rv hb fun σ3 A3 q3 e1 _ => ?_
    have ks0 : KpS M1 σ2 σ3 := fun j m hj hm => e1 j fun z => by
      have h5 := hu j z
      rw [gm_of hj] at h5
      subst h5
      cases hm
    have ks : ∀ {σ'}, KpS (setFz t M1) σ3 σ' → KpS M1 σ2 σ' := fun h => ks0.trans st1 h
    refine k1 n ok X W g σ3 H3 δ3 F2 _ ⟨A3, q3⟩ ?_
    have po5 : PoS c n Xr W K M1 (some M1) σ2 F2 H2 (match evS T b δ3 with
        | .nx δ2 => forGo t (evS T b) (ds.drop (i + 1)) δ2
        | .ct δ2 => forGo t (evS T b) (ds.drop (i + 1)) δ2
        | .bk δ2 => .nx δ2
        | r => r) D := po4
    cases hb2 : evS T b δ3 with
    | no => rw [hb2] at po5; exact po5
    | nx δ2 =>
      rw [hb2] at po5
      intro M2 σ' H' F' e kp s r3
      subst e
      exact ⟨δ2, F', (kp2.trans kp3).trans kp, r3.weak (leM_ok l2), PoS.later po5 (kp3.trans kp) (ks s) StK.refl⟩
    | ct δ2 =>
      rw [hb2] at po5
      intro B σ' H' F' e kp s r3
      cases e
      exact ⟨δ2, F', (kp2.trans kp3).trans kp, r3, PoS.later po5 (kp3.trans kp) (ks s) StK.refl⟩
    | bk δ2 =>
      rw [hb2] at po5
      intro B σ' H' F' e kp s r3
      cases e
      exact po5 M1 σ' H' F' rfl (kp3.trans kp) (ks s) r3
    | rt d δ2 =>
      rw [hb2] at po5
      exact fun v σ' H' F' kp s r3 => po5 v σ' H' F' (kp3.trans kp) (ks s) r3
    | ex kk ds δ2 =>
      rw [hb2] at po5
      exact fun cls dx σ' H' F' kp s r3 => po5 cls dx σ' H' F' (kp3.trans kp) (ks s) r3
  · left
    have e : i = ds.length := by omega
    subst e
    rw [List.drop_length] at po3
    exact ⟨iok.stop F2 H2 kp2 q2.kp, po3 M1 σ2 H2 F2 rfl Kp.refl KpS.refl ⟨A2, q2⟩⟩
end
end Nc

set_option Elab.async false
set_option linter.all false
set_option autoImplicit false
set_option maxRecDepth 100000
set_option maxHeartbeats 4000000
/-! Soundness: stores in names. -/
namespace Nc
open PySem PySem.Spec PyProof.Rows L2
section
variable {c : Cn} {n : En} {T : Tb} {Xr : XrT} {x : Sx} {X : Cx} {W : WX} {K : Kc} {F F' F1 : Fz} {M M' M1 : Ms} {o : Option Ms} {σ σ' σ1 : L2.St} {H H' H1 : Hp} {δ δ' δ1 : Env} {ex : Ex} {ty : Ty} {e : Expr} {D : Ends} {r : S3}
theorem sw_eq (g : Gn X x) (hk : x.sc.kind = .function) (v : Expr) (t : Str) (p : Pos) (line : Nat) : swapsWith v (some (.Name t p)) line X.env = pure (swB x v t p.line) := by
  have hb : X.env.blockKind = .function := by
    unfold Env.blockKind
    rw [g.hs, hk]
    rfl
  have hl : X.env.kindOf t = x.sc.names.lookup t := by
    unfold Env.kindOf
    rw [g.hs]
  unfold swapsWith swB
  cases v <;> first | rfl | (simp only [hb, hl]; rfl)
/-- what is made goes into a slot -/
theorem asg_rt (hi : 0 ≤ 0) {i : Nat} {v : V} {d : Nc.D} (hl : i < M1.length) (rt : RsT ex ty c n F M1 σ H δ v d) (hs : setTy i ty M1 = some M') : RS c n F M' (σ.set i (some v)) H (δ.set i (some d)) := by
  obtain ⟨A, r, q⟩ := rt
  cases ty with
  | sh =>
    cases hs
    exact ⟨_, r.asgF hl q.1⟩
  | fr m =>
    cases hs
    obtain ⟨B, o, dj, h0⟩ := q
    exact ⟨_, r.asg hl o (fun j _ => dj j) h0⟩
  | bo => cases hs
  | bp => cases hs
theorem setTy_len {i : Nat} (h : setTy i ty M1 = some M') : M'.length = M1.length ∧ ∀ j, j ≠ i → M'[j]? = M1[j]? := by
  cases ty <;> first | (cases h; done) | (cases h; exact ⟨List.length_set, fun j e => List.getElem?_set_ne (Ne.symm e)⟩)
theorem setTy_at {i : Nat} (hl : i < M1.length) (h : setTy i ty M1 = some M') : ∀ m, M'[i]? = some m → stM m = false := by
  intro m hm
  cases ty <;> first | (cases h; done) | skip
  · cases h
    rw [List.getElem?_set_self hl] at hm
    cases hm
    rfl
  · cases h
    rw [List.getElem?_set_self hl] at hm
    cases hm
    rfl
theorem lcV_lst {t : List Nat} {own : List (Str × Nat)} {hasC : Bool} {it : Env → R (List Nc.D)} {cd : Env → R Bool} {e : Env → R Nc.D} {δ δ1 : Env} {d : Nc.D} (h : lcV t own hasC it cd e δ = .ok d δ1) : ∃ ys, d = .lst ys := by
  unfold lcV at h
  cases h1 : it δ with
  | no => rw [h1] at h; cases h
  | ex k ds δ2 => rw [h1] at h; cases h
  | ok ds δ2 =>
    rw [h1] at h
    have h : (lcGo (lcF t hasC cd e) ds [] (wip own δ2)).bnd (fun ys δ' => R.ok (Nc.D.lst ys) (back own δ2 δ')) = .ok d δ1 := h
    cases h2 : lcGo (lcF t hasC cd e) ds [] (wip own δ2) with
    | no => rw [h2] at h; cases h
    | ex k ds δ2 => rw [h2] at h; cases h
    | ok ys δ3 => rw [h2] at h; cases h; exact ⟨ys, rfl⟩
/-- a new list that no slot holds is frozen -/
theorem rst_fz {ex2 ex3 : Ex} {v : V} {ys : List Nc.D} (rt : RsT ex2 (.fr (.own .fz)) c n F M1 σ H δ v (.lst ys)) (hb : isB ex3 = false) : ∃ F2, Kp F H F2 H ∧ RsT ex3 .sh c n F2 M1 σ H δ v (.lst ys) := by
  obtain ⟨A, rx, B, ow, dj, hB0⟩ := rt
  obtain ⟨a, vs, rfl, hl, rl, rfl⟩ : ∃ a vs, v = .ref a ∧ H a = some (.lst vs) ∧ RepL c.cl F H vs ys ∧ B = [a] := by
    cases ow with
    | lst h r n => exact ⟨_, _, rfl, h, r.rep.1, by rw [r.rep.2]⟩
  have hB : ∀ b ∈ [a], ¬ F b ∧ ∃ o, H b = some o ∧ Ok1 o := fun b hb => by
    refine ⟨(hB0 b hb).1, ?_⟩
    obtain rfl := List.mem_singleton.mp hb
    exact ⟨_, hl, .inl ⟨vs, rfl⟩⟩
  have hd : dks H [a] = [] := by
    unfold dks
    rw [List.filter_cons, hl]; rfl
  have lk : Lk (dks H [a]) H H := by
    rw [hd]
    exact ⟨fun b hb => (nomatch hb), fun _ _ => rfl⟩
  have fz := frzn_of hB rx.fk lk
  exact ⟨_, fz.kp, RsT.mk ⟨_, rx.frz dj hB (fun b hb => (hB0 b hb).2) lk⟩ (own_rep ow fz) hb⟩
theorem isLc_inv {y : Ex} (hy : isLc y = true) : ∃ el t it cd own, y = .lc el t it cd own ∨ y = .fz (.lc el t it cd own) := by
  cases y <;> first | (cases hy; done) | exact ⟨_, _, _, _, _, .inl rfl⟩ | skip
  rename_i z
  cases z <;> first | (cases hy; done) | exact ⟨_, _, _, _, _, .inr rfl⟩
theorem sns_set {i : Nat} {y : Ex} (s1 : Snd c T Xr K.x y) (sl : ∀ el t it cd own, y = .lc el t it cd own ∨ y = .fz (.lc el t it cd own) → (∀ x, SndI c T Xr x it) ∧ (∀ x, Snd c T Xr x cd) ∧ ∀ x, Snd c T Xr x el) : SndS c T Xr K (.set [i] y) := by
  refine SndS.mkO (fun _ _ => rfl) fun a M o h => ?_
  cases a <;> first | (cases h; done) | skip
  rename_i tgs v pos
  match tgs, h with
  | [], h => cases h
  | _ :: _ :: _, h => cases h
  | [tg], h =>
  obtain ⟨_, h0, h⟩ := Option.bind_eq_some_iff.mp h
  obtain ⟨h0, _⟩ := grd_some h0
  obtain ⟨⟨ty, M1⟩, h1, h⟩ := Option.bind_eq_some_iff.mp h
  obtain ⟨M2, h2, h⟩ := Option.bind_eq_some_iff.mp h
  obtain ⟨rfl, st, xo⟩ := fall_inv h
  refine ⟨fun M' e => by cases e; exact st, fun n ok X W g σ H δ F D r po => ?_⟩
  unfold nameSet at h0
  rw [Bool.and_eq_true] at h0
  obtain ⟨hn, hsw⟩ := h0
  obtain ⟨nm, p, rfl, hN, hloc⟩ := nmL_inv hn
  have hsw : (!swB K.x v nm p.line || isLc y) = true := hsw
  have hN' : X.N[i]? = some nm := by rw [g.gx.gn.hN]; exact hN
  have nd : X.N.Nodup := by rw [g.gx.gn.hN]; exact g.gx.gn.nd
  have hl1 : M1.length = M.length := by
    have := (s1.e v M ty M1 h1).1.1
    rw [exM_len, exM_len] at this
    exact this.symm
  have hi : ∀ {σ : L2.St} {H : Hp} {pins : List (Addr × Obj)} {s : Shared}, Inv X pins σ H s → σ.length = M.length → i < M1.length := fun {σ H pins s} I hs => by
    rw [hl1, ← hs, I.len]
    exact (List.getElem?_eq_some_iff.mp hN').1
  -- the end
  have fin : ∀ {δ1 : Env} {d : Nc.D}, ev T y δ = .ok d δ1 → ∀ v' H1 F1, Kp F H F1 H1 → RsT y ty c n F1 M1 σ H1 δ1 v' d → i < M1.length → D.nx (σ.set i (some v')) H1 := fun {δ1 d} hr v' H1 F1 kp rt hlt => by
    have po1 : PoS c n Xr W K M (some M2) σ F H ((ev T y δ).st fun d δ1 => match bindT [i] d δ1 with | some δ2 => .nx δ2 | none => .no) D := po
    rw [hr] at po1
    refine po1 M2 _ H1 F1 rfl kp (fun j m hj hm => ?_) (asg_rt (Nat.le_refl _) hlt rt h2)
    by_cases e : j = i
    · subst e
      have := setTy_at hlt h2 m (st.2 j m hj hm)
      rw [hm] at this
      cases this
    · exact List.getElem?_set_ne (Ne.symm e)
  have lenN : M.length = X.N.length → i < M1.length := fun e => by rw [hl1, e]; exact (List.getElem?_eq_some_iff.mp hN').1
  have read : ∀ {Q : VK}, (∀ {δ1 : Env} {d : Nc.D}, ev T y δ = .ok d δ1 → ∀ v' H1 F1, Kp F H F1 H1 → RsT y ty c n F1 M1 σ H1 δ1 v' d → Q v' H1) → PoE c n Xr W M M1 y ty σ F H (ev T y δ) Q := fun {Q} q => by
    have po1 : PoS c n Xr W K M (some M2) σ F H ((ev T y δ).st fun d δ1 => match bindT [i] d δ1 with | some δ2 => .nx δ2 | none => .no) D := po
    cases hr : ev T y δ with
    | no => rw [hr] at po1; exact po1
    | ex kk ds δ' => rw [hr] at po1; exact PoX.ofS po1 xo
    | ok d δ1 => exact fun v' H1 F1 kp rt => q hr v' H1 F1 kp rt
  intro pins s I
  have hlen : M.length = X.N.length := by rw [← r.ls]; exact I.len
  have hlt := lenN hlen
  by_cases hw : swB K.x v nm p.line = true
  · rw [hw] at hsw
    have hy : isLc y = true := hsw
    obtain ⟨el, t, it, cd, own, hy2⟩ : ∃ el t it cd own, y = .lc el t it cd own ∨ y = .fz (.lc el t it cd own) := by
      exact isLc_inv hy
    obtain ⟨a1, a2, a3⟩ := sl _ _ _ _ _ hy2
    rcases hy2 with rfl | rfl
    · obtain ⟨q, g1, g2, g3, g4, g5, rfl⟩ := lc_inv h1
      obtain ⟨lpos, rfl⟩ := lcA_inv g1
      obtain ⟨bo, _, _, _, hp, _⟩ := lcOk_inv g3
      have hyl : X.env.scope.names.lookup nm = some .local := by
        rw [g.gx.gn.hs]
        have : ((K.x.sc.names.lookup nm == some NameKind.local) && p.line == lpos.line && !(q.scope.names.any fun (n, k) => n == nm && (k == .local || k == .cell))) = true := hw
        rw [Bool.and_eq_true, Bool.and_eq_true] at this
        exact eq_of_beq this.1.1
      have hS := SS.of (ps_setLc (i := i) (g := gB X q.scope q.tg) (tt := tC X q.scope q.ifs) (te := eB X q.scope q.elt) (own := own) (py := p) (spos := pos) g.gx.gn.calm nd hN' hyl (by rw [sw_eq g.gx.gn g.kind, hw]) (pi_S (tg := q.tg)) (by rw [g.gx.gn.hN, g.gx.gn.hs]; exact bo)
        (fun s H0 C cl fp => ⟨fun pins s' σ H v u Q I r h => h s H0 C cl fp pins s' u I r⟩) (fun s H0 C cl fp => pts_of (condA_len g4) s H0 C cl fp) (fun s H0 C cl fp => ⟨fun pins s' σ H Q I h => h s H0 C cl fp pins s' I⟩) (fold_plain hp)) (D := D) (σ := σ) (H := H) (lc_read a1 a2 a3 g2 g3 g4 g5 ok g.gx r (read fun hr v' H1 F1 kp rt => fin hr v' H1 F1 kp rt hlt))
      exact hS pins s I
    · obtain ⟨⟨ty1, M1'⟩, h1', h1z⟩ := Option.bind_eq_some_iff.mp (show ((chk3 K.x (.lc el t it cd own)).e v M).bind (fun r => grd (isFr r.1) (Ty.sh, r.2)) = some (ty, M1) from h1)
      obtain ⟨_, h1z⟩ := grd_some h1z
      cases h1z
      obtain ⟨q, g1, g2, g3, g4, g5, rfl⟩ := lc_inv h1'
      have read2 : PoE c n Xr W M M1' (.lc el t it cd own) (.fr (.own .fz)) σ F H (ev T (.lc el t it cd own) δ) (fun v' H1 => D.nx (σ.set i (some v')) H1) := by
        have r0 := read (Q := fun v' H1 => D.nx (σ.set i (some v')) H1) fun hr v' H1 F1 kp rt => fin hr v' H1 F1 kp rt hlt
        have r1 : PoE c n Xr W M M1' (.fz (.lc el t it cd own)) .sh σ F H (ev T (.lc el t it cd own) δ) (fun v' H1 => D.nx (σ.set i (some v')) H1) := r0
        cases hr : ev T (.lc el t it cd own) δ with
        | no => rw [hr] at r1; exact r1
        | ex kk ds δ' => rw [hr] at r1; exact r1
        | ok d δ1 =>
          rw [hr] at r1
          intro v' H1 F1 kp rt
          obtain ⟨ys, rfl⟩ := lcV_lst hr
          obtain ⟨F2, kp2, rt2⟩ := rst_fz (ex3 := .fz (.lc el t it cd own)) rt rfl
          exact r1 v' H1 F2 (kp.trans kp2) rt2
      obtain ⟨lpos, rfl⟩ := lcA_inv g1
      obtain ⟨bo, _, _, _, hp, _⟩ := lcOk_inv g3
      have hyl : X.env.scope.names.lookup nm = some .local := by
        rw [g.gx.gn.hs]
        have : ((K.x.sc.names.lookup nm == some NameKind.local) && p.line == lpos.line && !(q.scope.names.any fun (n, k) => n == nm && (k == .local || k == .cell))) = true := hw
        rw [Bool.and_eq_true, Bool.and_eq_true] at this
        exact eq_of_beq this.1.1
      have hS := SS.of (ps_setLc (i := i) (g := gB X q.scope q.tg) (tt := tC X q.scope q.ifs) (te := eB X q.scope q.elt) (own := own) (py := p) (spos := pos) g.gx.gn.calm nd hN' hyl (by rw [sw_eq g.gx.gn g.kind, hw]) (pi_S (tg := q.tg)) (by rw [g.gx.gn.hN, g.gx.gn.hs]; exact bo)
        (fun s H0 C cl fp => ⟨fun pins s' σ H v u Q I r h => h s H0 C cl fp pins s' u I r⟩) (fun s H0 C cl fp => pts_of (condA_len g4) s H0 C cl fp) (fun s H0 C cl fp => ⟨fun pins s' σ H Q I h => h s H0 C cl fp pins s' I⟩) (fold_plain hp)) (D := D) (σ := σ) (H := H) (lc_read a1 a2 a3 g2 g3 g4 g5 ok g.gx r read2)
      exact hS pins s I
  · have hw : swB K.x v nm p.line = false := by cases hh : swB K.x v nm p.line <;> first | rfl | exact absurd hh hw
    have hx : Loc X.env.scope nm := by
      rw [g.gx.gn.hs]
      exact hloc.imp (fun h => h) fun h => h.1
    have hf : X.fn nm = true ∨ X.env.scope.names.lookup nm = some .local := by
      rw [g.gx.gn.hs]
      exact hloc.elim .inr fun h => .inl (g.gx.gn.fn _ h.2)
    have hS := SS.of (ps_set (pos := pos) (pos' := p) nd hN' hx pe_S (by rw [sw_eq g.gx.gn g.kind, hw]) hf) (D := D) (σ := σ) (H := H) ((s1.e v M ty M1 h1).2 n ok X W g.gx σ H δ F _ r (read fun hr v' H1 F1 kp rt => fin hr v' H1 F1 kp rt hlt))
    exact hS pins s I
end
end Nc

set_option Elab.async false
set_option linter.all false
set_option autoImplicit false
set_option maxRecDepth 100000
set_option maxHeartbeats 4000000
/-! Soundness: stores of items. -/
namespace Nc
open PySem PySem.Spec PyProof.Rows L2
section
variable {c : Cn} {n : En} {T : Tb} {Xr : XrT} {x : Sx} {X : Cx} {W : WX} {K : Kc} {F F' F1 : Fz} {M M' M1 : Ms} {o : Option Ms} {σ σ' σ1 : L2.St} {H H' H1 : Hp} {δ δ' δ1 : Env} {ex : Ex} {ty : Ty} {e : Expr} {D : Ends} {r : S3}
theorem set_or (hu : X.A.units + 1 < cLine) : PSet X (fun o i v H Q => rSetL o i v H Q ∨ rSetD o i v H Q) := by
  intro pins s σ H o i v ov iv u Q I ro ri rv h
  rcases h with h | h
  · exact set_list pins s σ H o i v ov iv u Q I ro ri rv h
  · exact set_dict hu pins s σ H o i v ov iv u Q I ro ri rv h
theorem asg_sub {oe ie : Expr} {p2 : Pos} {env : PySem.Env} (h : notSl ie = true) (v : Value) : assign (.Subscript oe ie p2) env v = (do
      let ov ← holding [v] (eval oe env)
      let iv ← holding [v, ov] (eval ie env)
      standAt p2
      holding [v, ov, iv] (setItem ov iv v)
      release [v, ov, iv] []) := by
  cases ie <;> first | rfl | cases h
theorem ss_sub (hu : X.A.units + 1 < cLine) {oe ie v : Expr} {p2 pos : Pos} (hns : notSl ie = true) (h : SE X v σ H fun y H1 => SE X oe σ H1 fun w H2 => SE X ie σ H2 fun z H3 => rSetL w z y H3 (D.nx σ) ∨ rSetD w z y H3 (D.nx σ)) : SS X (.Assign [.Subscript oe ie p2] v pos) D σ H := by
  have hs : swapsWithSole [.Subscript oe ie p2] v pos.line X.env = pure false := by
    show swapsWith v (some (.Subscript oe ie p2)) pos.line X.env = pure false
    unfold swapsWith
    cases v <;> rfl
  exact SS.of (ps_asg pe_S (pg_sub pe_S pe_S (set_or hu) (asg_sub hns)) hs rfl rfl) h
theorem st_data {v y z : V} {d yd zd d2 : Nc.D} {B : List Addr} {R : Hp → Prop} (o : Own c F H (.own .fz) v d B) (nf : ∀ b ∈ B, ¬ F b) (ry : Rep c.cl F H y yd) (rz : Rep c.cl F H z zd) (e : stD d zd yd = some d2)
    (q : ∀ H3 A1, Kp F H F H3 → (∀ b, b ∉ B → H3 b = H b) → (∀ b, H b ≠ none → H3 b ≠ none) → Own c F H3 (.own .fz) v d2 A1 → (∀ b ∈ A1, b ∈ B) → R H3) : rSetL v z y H R ∨ rSetD v z y H R := by
  have st : ∀ {a : Addr} {ob : HO} (b : Addr), H b ≠ none → upd H a ob b ≠ none := fun {a ob} b h => by
    by_cases z : b = a
    · subst z; rw [upd_same]; exact fun z => nomatch z
    · rw [upd_ne z]; exact h
  cases d with
  | lst xs =>
    obtain ⟨a, zs, B', rfl, rfl, hH, r, _⟩ := o.lstI rfl
    obtain ⟨r', rfl⟩ := OwnL.rep r
    cases zd with
    | int k =>
      obtain ⟨j, hj, e⟩ := Option.map_eq_some_iff.mp (show (ixN xs.length k).map (fun j => Nc.D.lst (xs.set j yd)) = some d2 from e)
      subst e
      have kp : Kp F H F (upd H a (.lst (zs.set j y))) := Kp.upd (nf a List.mem_cons_self) hH (fun _ z => nomatch z)
      exact .inl ⟨a, zs, k, j, rfl, (Nc.R1.of rz).int, hH, by rw [r'.length]; exact hj, q _ [a] kp (fun b hb => upd_ne fun z => hb (z ▸ List.mem_cons_self)) st (own_lst upd_same ((r'.set j ry).mono kp)) fun b h => h⟩
    | _ => cases e
  | dct kvs =>
    obtain ⟨a, zs, B', rfl, rfl, hH, r, _⟩ := o.dctI rfl
    obtain ⟨r', rfl⟩ := OwnK.rep r
    have e : (if kvs.length < LIM then (dKey zd).map (fun k => Nc.D.dct (putD kvs k yd)) else none) = some d2 := by cases zd <;> exact e
    split at e
    · rename_i hz
      obtain ⟨k, ek, e⟩ := Option.map_eq_some_iff.mp e
      subst e
      have kp : Kp F H F (upd H a (.dK (putK zs (kk k) y))) := Kp.upd (nf a List.mem_cons_self) hH (fun _ z => nomatch z)
      exact .inr ⟨a, _, rfl, .inl ⟨zs, kk k, hH, key_V (Nc.R1.of rz) ek, by rw [r'.length, lim_eq]; exact hz, rfl⟩, q _ [a] kp (fun b hb => upd_ne fun z => hb (z ▸ List.mem_cons_self)) st (own_dct upd_same ((r'.put (key_ok (Nc.R1.of rz) ek) ry).mono kp)) fun b h => h⟩
    · cases e
  | _ => cases zd <;> cases e
theorem subS_inv {a : Stmt} {oe kx v : Expr} (h : subS a = some (oe, kx, v)) : ∃ p2 pos, a = .Assign [.Subscript oe kx p2] v pos := by
  unfold subS at h
  split at h <;> cases h
  exact ⟨_, _, rfl⟩
theorem sns_sti {i : Nat} {p : List Pe} {k y : Ex} (s1 : Snd c T Xr K.x y) (s2 : Snd c T Xr K.x k) : SndS c T Xr K (.sti i p k y) := by
  refine SndS.mkO (fun _ _ => rfl) fun a M o h => ?_
  obtain ⟨⟨oe, kx, v⟩, h0, h⟩ := Option.bind_eq_some_iff.mp h
  obtain ⟨p2, pos, rfl⟩ := subS_inv h0
  obtain ⟨⟨t1, M1⟩, h1, h⟩ := Option.bind_eq_some_iff.mp h
  obtain ⟨_, h2, h⟩ := Option.bind_eq_some_iff.mp h
  obtain ⟨h2, _⟩ := grd_some h2
  rw [Bool.and_eq_true, decide_eq_true_eq] at h2
  obtain ⟨h2, hns⟩ := h2
  have h2 : t1 = .sh := h2
  subst h2
  cases hg : gm M1 i with
  | un => simp only [hg] at h; cases h
  | bo b => simp only [hg] at h; cases h
  | mk m yx =>
  simp only [hg] at h
  obtain ⟨_, h3, h⟩ := Option.bind_eq_some_iff.mp h
  obtain ⟨h3, _⟩ := grd_some h3
  obtain ⟨⟨t2, M2⟩, h4, h⟩ := Option.bind_eq_some_iff.mp h
  obtain ⟨_, h5, h⟩ := Option.bind_eq_some_iff.mp h
  obtain ⟨h5, _⟩ := grd_some h5
  obtain ⟨rfl, st, xo⟩ := fall_inv h
  simp only [Bool.and_eq_true, decide_eq_true_eq] at h3 h5
  obtain ⟨h5, hi, hb, xo2⟩ := h5
  have h5 : t2 = .sh := h5
  subst h5
  have hm := gm_eq hg (fun z => nomatch z)
  refine ⟨fun M' e => by cases e; exact st, fun n ok X W g σ H δ F D r po => ?_⟩
  refine ss_sub (by have := g.gx.gn.un; omega) hns ((s1.e v M _ M1 h1).2 n ok X W g.gx σ H δ F _ r ?_)
  have po1 : PoS c n Xr W K M (some (M2.set i (.mk m yx))) σ F H ((ev T y δ).st fun xd δ1 => match δ1[i]? with
    | some (some d0) => match getP δ1 p d0 with
      | some d => (ev T k δ1).st fun q δ2 => match stD d q xd with
        | some y => .nx (δ2.set i (some (setP δ1 p d0 y)))
        | none => .no
      | none => .no
    | _ => .no) D := po
  cases hr : ev T y δ with
  | no => rw [hr] at po1; exact po1
  | ex kk ds δ' => rw [hr] at po1; exact PoX.ofS po1 xo
  | ok xd δ1 =>
  rw [hr] at po1
  intro yv H1 F1 kp1 rt1
  have ry := rt1.sh
  obtain ⟨A, q⟩ := rt1.rs
  obtain ⟨ok1, q1⟩ := q.lend ok hm
  obtain ⟨v0, d0, e1, e2, o0⟩ := q.sl i _ hm
  have po2 : PoS c n Xr W K M (some (M2.set i (.mk m yx))) σ F H (match δ1[i]? with
    | some (some d0) => match getP δ1 p d0 with
      | some d => (ev T k δ1).st fun q δ2 => match stD d q xd with
        | some y => .nx (δ2.set i (some (setP δ1 p d0 y)))
        | none => .no
      | none => .no
    | _ => .no) D := po1
  rw [e2] at po2
  have po2 : PoS c n Xr W K M (some (M2.set i (.mk m yx))) σ F H (match getP δ1 p d0 with
      | some d => (ev T k δ1).st fun q δ2 => match stD d q xd with
        | some y => .nx (δ2.set i (some (setP δ1 p d0 y)))
        | none => .no
      | none => .no) D := po2
  cases hd : getP δ1 p d0 with
  | none => rw [hd] at po2; exact po2.elim
  | some z =>
  rw [hd] at po2
  have po3 : PoS c n Xr W K M (some (M2.set i (.mk m yx))) σ F H ((ev T k δ1).st fun q δ2 => match stD z q xd with
        | some y => .nx (δ2.set i (some (setP δ1 p d0 y)))
        | none => .no) D := po2
  obtain ⟨w, B, R, o2, s3, dj, plug, se⟩ := own_path g.gx ⟨_, q1⟩ e1 o0 p (.own .fz) z oe h3.2 hd h3.1
  refine se _ ((s2.e kx _ _ M2 h4).2 _ ok1 X W g.gx σ H1 δ1 F1 _ ⟨_, q1⟩ ?_)
  cases hr2 : ev T k δ1 with
  | no => rw [hr2] at po3; exact po3
  | ex kk ds δ' =>
    rw [hr2] at po3
    intro cls dx H2 F2 kp2 ⟨A2, q2⟩ xr
    refine po3 cls dx σ H2 F2 (kp1.trans kp2) KpS.refl ?_ xr
    have hm2 : (M1.set i (.bo (some m)))[i]? = some (.bo (some m)) := List.getElem?_set_self (List.getElem?_eq_some_iff.mp hm).1
    have q3 := q.lendG ok hm g.gx.inj (boS_exM (boS_refl _)) (gm_of (by rw [exM_get, hm2]; rfl)) q2
    refine (RS.weak ⟨_, q3⟩ ?_ : RS c n F2 (exM M1) σ H2 δ').weak (leM_ok xo2)
    refine ⟨by rw [exM_len, List.length_set, exM_len, List.length_set], fun j kk hj => ?_⟩
    by_cases e : j = i
    · subst e
      rw [exM_get, hm] at hj
      have hj : exm1 (.mk m yx) = kk := Option.some.inj hj
      rw [List.getElem?_set_self (by rw [exM_len, List.length_set]; exact (List.getElem?_eq_some_iff.mp hm).1)]
      subst hj
      cases m <;> cases yx <;> first | exact .inl rfl | exact .inr rfl
    · right
      rw [List.getElem?_set_ne (Ne.symm e), exM_set, List.getElem?_set_ne (Ne.symm e)]
      exact hj
  | ok kd δ2 =>
    rw [hr2] at po3
    intro kv H2 F2 kp2 rt2
    have rk := rt2.sh
    obtain ⟨A2, q2⟩ := rt2.rs
    have po4 : PoS c n Xr W K M (some (M2.set i (.mk m yx))) σ F H (match stD z kd xd with
        | some y => S3.nx (δ2.set i (some (setP δ1 p d0 y)))
        | none => .no) D := po3
    cases hM : stD z kd xd with
    | none => rw [hM] at po4; exact po4.elim
    | some z2 =>
      rw [hM] at po4
      have bk := q.bk q2
      have q3 := q.lendG ok hm g.gx.inj hb hi q2
      have inA : ∀ a, a ∈ B → a ∈ A i := fun a h => (s3 a).mpr (.inl h)
      have inR : ∀ a, a ∈ R → a ∈ A i := fun a h => (s3 a).mpr (.inr h)
      have o3 : Own c F2 H2 (.own .fz) w z B := o2.mono bk.kp fun a h => bk.on a (inA a h)
      refine st_data o3 (fun a h => bk.nf a (inA a h)) (ry.mono kp2) rk hM fun H3 A1 kp3 on3 st3 o4 sub4 => ?_
      have kp : Kp F1 H1 F2 H3 := bk.kp.trans kp3
      obtain ⟨A', o5, s5⟩ := plug F2 H3 z2 A1 kp (fun a h => (on3 a (fun z => dj a z h)).trans (bk.on a (inR a h))) o4 fun a h1 h2 => dj a (sub4 a h1) h2
      have hm3 : (M2.set i (.mk m yx))[i]? = some (.mk m yx) := List.getElem?_set_self (by rw [← (boS_ok hb).1.symm, List.length_set]; exact (List.getElem?_eq_some_iff.mp hm).1)
      have q4 := q3.alter ok (i := i) (d := setP δ1 p d0 z2) (A1 := A') hm3 e1 kp3 (fun a h => on3 a fun z => h (by rw [if_pos rfl]; exact inA a z)) st3 o5 (fun a h => by
        rw [if_pos rfl]
        exact (s5 a h).elim (fun z => inA a (sub4 a z)) (inR a))
      exact po4 _ σ H3 F2 rfl ((kp1.trans kp2).trans kp3) KpS.refl ⟨_, q4⟩
end
end Nc

set_option Elab.async false
set_option linter.all false
set_option autoImplicit false
set_option maxRecDepth 100000
set_option maxHeartbeats 4000000
/-! Soundness: stores of attributes. -/
namespace Nc
open PySem PySem.Spec PyProof.Rows L2
section
variable {c : Cn} {n : En} {T : Tb} {Xr : XrT} {x : Sx} {X : Cx} {W : WX} {K : Kc} {F F' F1 : Fz} {M M' M1 : Ms} {o : Option Ms} {σ σ' σ1 : L2.St} {H H' H1 : Hp} {δ δ' δ1 : Env} {ex : Ex} {ty : Ty} {e : Expr} {D : Ends} {r : S3} {A : Nat → List Addr}
theorem ownA_put {k : Nc.Mk} {f : Str} {v : V} {d : Nc.D} {B : List Addr} (hv : Own c F H (atM k f) v d B) : ∀ {gs : List (Str × V)} {fs : List (Str × Nc.D)} {A : List Addr}, OwnA c F H k gs fs A → Dis A B → ∃ A', OwnA c F H k (putF f v gs) (setF f d fs) A' ∧ ∀ a ∈ A', a ∈ A ∨ a ∈ B
  | _, _, _, .nil, _ => ⟨B ++ [], .cons hv .nil (fun _ _ z => (nomatch z)), fun a h => .inr (by simpa using h)⟩
  | _, _, _, .cons (f := g) (v := w) (d := y) (vs := vs) (ds := ds) (A := A) (B := B2) h r nn, dj => by
    by_cases e : f = g
    · subst e
      refine ⟨B ++ B2, ?_, fun a h => ?_⟩
      · unfold putF setF
        rw [if_pos rfl, if_pos rfl]
        exact .cons hv r fun a h1 h2 => dj a (List.mem_append_right _ h2) h1
      · rcases List.mem_append.mp h with h | h
        · exact .inr h
        · exact .inl (List.mem_append_right _ h)
    · obtain ⟨A', r', s'⟩ := ownA_put hv r fun a h1 h2 => dj a (List.mem_append_right _ h1) h2
      refine ⟨A ++ A', ?_, fun a h => ?_⟩
      · unfold putF setF
        rw [if_neg (Ne.symm e), if_neg e]
        refine .cons h r' fun a h1 h2 => ?_
        rcases s' a h2 with h2 | h2
        · exact nn a h1 h2
        · exact dj a (List.mem_append_left _ h1) h2
      · rcases List.mem_append.mp h with h | h
        · exact .inl (List.mem_append_left _ h)
        · exact (s' a h).imp (fun h => List.mem_append_right _ h) fun h => h
theorem ownA_len {k : Nc.Mk} : ∀ {gs : List (Str × V)} {fs : List (Str × Nc.D)} {A : List Addr}, OwnA c F H k gs fs A → gs.length = fs.length
  | _, _, _, .nil => rfl
  | _, _, _, .cons h r nn => by simp [ownA_len r]
/-- what a slot holds is changed, and takes B -/
theorem RX.alter2 (r : RX c n F M σ H δ A) {i : Nat} {m : Nc.Mk} {y : Fx} {d : Nc.D} {A1 B : List Addr} {v : V} (hm : M[i]? = some (.mk m y)) (hv : σ[i]? = some (some v)) (kp : Kp F H F H') (on : ∀ a, a ∉ A i → H' a = H a) (st : ∀ a, H a ≠ none → H' a ≠ none)
    (dj : ∀ j, Dis (A j) B) (hB : ∀ a ∈ B, ¬ F a ∧ n.H0 a = none) (o : Own c F H' m v d A1) (sub : ∀ a ∈ A1, a ∈ A i ∨ a ∈ B) : RX c n F M σ H' (δ.set i (some d)) (fun j => if j = i then A1 else A j) := by
  have hi : i < M.length := (List.getElem?_eq_some_iff.mp hm).1
  have sub2 : ∀ j a, a ∈ (if j = i then A1 else A j) → a ∈ A j ∨ (j = i ∧ a ∈ B) := fun j a h => by
    by_cases e : j = i
    · rw [if_pos e] at h; rw [e]; exact (sub a h).imp (fun h => h) fun h => ⟨rfl, h⟩
    · rw [if_neg e] at h; exact .inl h
  refine ⟨r.ls, by rw [List.length_set]; exact r.ld, fun j k hj => ?_, fun j hj => ?_, fun j l ne a h1 h2 => ?_, fun j a h => ?_, fun j k z h1 h2 a h3 => ?_, fun a u e h => ?_, fun a h => st a (r.st a h), fun a f => ?_, r.f0, r.f1⟩
  · by_cases e : j = i
    · subst e
      rw [hm] at hj
      cases hj
      rw [if_pos rfl]
      exact ⟨v, d, hv, List.getElem?_set_self (by rw [r.ld]; exact hi), o⟩
    · rw [if_neg e, List.getElem?_set_ne (Ne.symm e)]
      have q := r.sl j k hj
      cases k with
      | un => exact q
      | mk k z => obtain ⟨w, d', h1, h2, o'⟩ := q; exact ⟨w, d', h1, h2, o'.mono kp fun a ha => on a fun z => r.dj j i e a ha z⟩
      | bo b => exact q
  · by_cases e : j = i
    · subst e; rw [hm] at hj; cases hj
    · rw [if_neg e]; exact r.out j hj
  · rcases sub2 j a h1 with g1 | ⟨ej, g1⟩
    · rcases sub2 l a h2 with g2 | ⟨el, g2⟩
      · exact r.dj j l ne a g1 g2
      · exact dj j a g1 g2
    · rcases sub2 l a h2 with g2 | ⟨el, _⟩
      · exact dj l a g2 g1
      · exact ne (ej.trans el.symm)
  · rcases sub2 j a h with h | ⟨_, h⟩
    · exact r.ow j a h
    · exact ⟨(hB a h).1, .inl (hB a h).2⟩
  · rcases sub2 j a h3 with h3 | ⟨_, h3⟩
    · exact r.fr j k z h1 h2 a h3
    · exact (hB a h3).2
  · rw [on a fun z => (r.ow i a z).2.elim (fun w => by rw [w] at e; cases e) h]
    exact r.kp a u e h
  · obtain ⟨u, e⟩ := r.fk a f
    cases h : H' a with
    | none => exact absurd h (st a (by rw [e]; exact fun z => nomatch z))
    | some o => exact ⟨o, rfl⟩
theorem attS_inv {a : Stmt} {oe v : Expr} {f : Str} (h : attS a = some (oe, f, v)) : ∃ p2 pos, a = .Assign [.Attribute oe f p2] v pos := by
  unfold attS at h
  split at h <;> cases h
  exact ⟨_, _, rfl⟩
theorem sns_sta {i : Nat} {p : List Pe} {f : Str} {y : Ex} (s1 : Snd c T Xr K.x y) : SndS c T Xr K (.sta i p f y) := by
  refine SndS.mkO (fun _ _ => rfl) fun a M o h => ?_
  obtain ⟨⟨oe, f', v⟩, h0, h⟩ := Option.bind_eq_some_iff.mp h
  obtain ⟨p2, pos, rfl⟩ := attS_inv h0
  obtain ⟨⟨t1, M1⟩, h1, h⟩ := Option.bind_eq_some_iff.mp h
  cases hg : gm M1 i with
  | un => simp only [hg] at h; cases h
  | bo b => simp only [hg] at h; cases h
  | mk m yx =>
  simp only [hg] at h
  obtain ⟨vm, h2, h⟩ := Option.bind_eq_some_iff.mp h
  obtain ⟨k, h3, h⟩ := Option.bind_eq_some_iff.mp h
  obtain ⟨_, h4, h⟩ := Option.bind_eq_some_iff.mp h
  obtain ⟨h4, _⟩ := grd_some h4
  obtain ⟨rfl, st, xo⟩ := fall_inv h
  simp only [Bool.and_eq_true, decide_eq_true_eq] at h4
  obtain ⟨rfl, hat, hI, hvm, hpa⟩ := h4
  have hm := gm_eq hg (fun z => nomatch z)
  refine ⟨fun M' e => by cases e; exact st, fun n ok X W g σ H δ F D r po => ?_⟩
  have hs : swapsWith v (some (.Attribute oe f' p2)) pos.line X.env = pure false := by
    unfold swapsWith
    cases v <;> rfl
  refine SS.of (ps_fld pe_S pe_S hs) ((s1.e v M _ M1 h1).2 n ok X W g.gx σ H δ F _ r ?_)
  have po1 : PoS c n Xr W K M (some M1) σ F H ((ev T y δ).st fun xd δ1 => match δ1[i]? with
    | some (some d0) => match getP δ1 p d0 with
      | some (.ins k fs) => if fs.length < 1000 then .nx (δ1.set i (some (setP δ1 p d0 (.ins k (setF f' xd fs))))) else .no
      | _ => .no
    | _ => .no) D := po
  cases hr : ev T y δ with
  | no => rw [hr] at po1; exact po1
  | ex kk ds δ' => rw [hr] at po1; exact PoX.ofS po1 xo
  | ok xd δ1 =>
  rw [hr] at po1
  intro yv H1 F1 kp1 rt1
  obtain ⟨A, q, rq⟩ := rt1
  obtain ⟨v0, d0, e1, e2, o0⟩ := q.sl i _ hm
  have po2 : PoS c n Xr W K M (some M1) σ F H (match δ1[i]? with
    | some (some d0) => match getP δ1 p d0 with
      | some (.ins k fs) => if fs.length < 1000 then S3.nx (δ1.set i (some (setP δ1 p d0 (.ins k (setF f' xd fs))))) else .no
      | _ => .no
    | _ => .no) D := po1
  rw [e2] at po2
  have po2 : PoS c n Xr W K M (some M1) σ F H (match getP δ1 p d0 with
      | some (.ins k fs) => if fs.length < 1000 then S3.nx (δ1.set i (some (setP δ1 p d0 (.ins k (setF f' xd fs))))) else .no
      | _ => .no) D := po2
  cases hd : getP δ1 p d0 with
  | none => rw [hd] at po2; exact po2.elim
  | some z =>
  rw [hd] at po2
  cases z with
  | ins kn fs =>
    have po3 : PoS c n Xr W K M (some M1) σ F H (if fs.length < 1000 then S3.nx (δ1.set i (some (setP δ1 p d0 (.ins kn (setF f' xd fs))))) else .no) D := po2
    by_cases hz : fs.length < 1000
    case neg => rw [if_neg hz] at po3; exact po3.elim
    rw [if_pos hz] at po3
    -- what is stored
    have val : ∃ Bv, Own c F1 H1 (atM k f') yv xd Bv ∧ (∀ j, Dis (A j) Bv) ∧ ∀ a ∈ Bv, ¬ F1 a ∧ n.H0 a = none := by
      rw [hvm]
      cases t1 with
      | sh => cases h2; exact ⟨[], .fz rq.1, fun _ _ _ z => (nomatch z), fun _ z => (nomatch z)⟩
      | fr mm => cases h2; exact rq
      | _ => cases h2
    obtain ⟨Bv, ov, djv, hBv⟩ := val
    obtain ⟨w, B, Rr, o2, s3, dj, plug, se⟩ := own_path g.gx ⟨_, q⟩ e1 o0 p k (.ins kn fs) oe h3 hd hpa
    obtain ⟨a, C, dx, gs, B2, rfl, rfl, hC, hH, oA, nA⟩ := o2.insI hI
    have inA : ∀ b, b ∈ a :: B2 → b ∈ A i := fun b h => (s3 b).mpr (.inl h)
    have inR : ∀ b, b ∈ Rr → b ∈ A i := fun b h => (s3 b).mpr (.inr h)
    have nfa : ¬ F1 a := (q.ow i a (inA a List.mem_cons_self)).1
    refine se _ ?_
    obtain ⟨a1, a2⟩ := g.gx.att _ _ _ hC hat
    refine ⟨a, C, dx, gs, rfl, hH, a1, a2, by rw [ownA_len oA]; exact hz, ?_⟩
    have kp3 : Kp F1 H1 F1 (upd H1 a (.ins C dx (putF f' yv gs))) := Kp.upd nfa hH (fun _ z => nomatch z)
    have na2 : ∀ b ∈ B2, b ≠ a := fun b hb e => nA (e ▸ hb)
    have nav : ∀ b ∈ Bv, b ≠ a := fun b hb e => djv i a (inA a List.mem_cons_self) (e ▸ hb)
    have oA3 : OwnA c F1 (upd H1 a (.ins C dx (putF f' yv gs))) k gs fs B2 := oA.mono kp3 fun b hb => upd_ne (na2 b hb)
    have ov3 : Own c F1 (upd H1 a (.ins C dx (putF f' yv gs))) (atM k f') yv xd Bv := ov.mono kp3 fun b hb => upd_ne (nav b hb)
    obtain ⟨A3, o3, s4⟩ := ownA_put ov3 oA3 fun b hb hb2 => djv i b (inA b (List.mem_cons_of_mem _ hb)) hb2
    have oI : Own c F1 (upd H1 a (.ins C dx (putF f' yv gs))) k (.ref a) (.ins kn (setF f' xd fs)) (a :: A3) := .ins hI hC upd_same o3 fun z => (s4 a z).elim (fun z => nA z) fun z => nav a z rfl
    have neR : ∀ b ∈ Rr, b ≠ a := fun b hb e => dj a List.mem_cons_self (e ▸ hb)
    obtain ⟨A', o5, s5⟩ := plug F1 _ (.ins kn (setF f' xd fs)) (a :: A3) kp3 (fun b hb => upd_ne (neR b hb)) oI fun b hb hb2 => by
      rcases List.mem_cons.mp hb with rfl | hb
      · exact neR b hb2 rfl
      · rcases s4 b hb with hb | hb
        · exact dj b (List.mem_cons_of_mem _ hb) hb2
        · exact djv i b (inR b hb2) hb
    have q4 := q.alter2 (i := i) (d := setP δ1 p d0 (.ins kn (setF f' xd fs))) (A1 := A') (B := Bv) hm e1 kp3 (fun b hb => upd_ne fun z => hb (z ▸ inA a List.mem_cons_self)) (fun b hb => by
      by_cases z : b = a
      · subst z; rw [upd_same]; exact fun z => nomatch z
      · rw [upd_ne z]; exact hb) djv hBv o5 fun b hb => by
        rcases s5 b hb with h | h
        · rcases List.mem_cons.mp h with rfl | h
          · exact .inl (inA b List.mem_cons_self)
          · rcases s4 b h with h | h
            · exact .inl (inA b (List.mem_cons_of_mem _ h))
            · exact .inr h
        · exact .inl (inR b h)
    exact po3 M1 σ _ F1 rfl (kp1.trans kp3) KpS.refl ⟨_, q4⟩
  | _ => exact (show False from po2).elim
theorem setFz_in : ∀ {t : List Nat} {M : Ms} {j : Nat}, j ∈ t → j < M.length → ∃ y : Unit, (setFz t M)[j]? = some (.mk .fz .free)
  | [], _, _, h, _ => (nomatch h)
  | i :: t, M, j, h, hl => by
    show ∃ y : Unit, (setFz t (M.set i (.mk .fz .free)))[j]? = _
    by_cases z : j ∈ t
    · exact setFz_in z (by rw [List.length_set]; exact hl)
    · have e : j = i := (List.mem_cons.mp h).resolve_right z
      subst e
      rw [setFz_get z, List.getElem?_set_self hl]
      exact ⟨(), rfl⟩
theorem tupS_inv {a : Stmt} {tg v : Expr} (h : tupS a = some (tg, v)) : ∃ pos, a = .Assign [tg] v pos := by
  unfold tupS at h
  split at h <;> cases h
  exact ⟨_, rfl⟩
theorem sns_setT {t : List Nat} {y : Ex} (ht : ∀ i, t ≠ [i]) (s1 : Snd c T Xr K.x y) : SndS c T Xr K (.set t y) := by
  have eo : (chk2 K (.set t y)).s = (fun _ _ => none) ∧ (chk2 K (.set t y)).o = fun a M => (tupS a).bind fun q => ((chk3 K.x y).e q.2 M).bind fun r => grd (decide (r.1 = .sh) && (tgA K.x t q.1 && (isTup q.1 && (!isTup q.2 && decide (r.2.length = K.x.N.length))))) () |>.bind fun _ => fall K M (setFz t r.2) := by
    match t, ht with
    | [], _ => exact ⟨rfl, rfl⟩
    | [i], ht => exact absurd rfl (ht i)
    | _ :: _ :: _, _ => exact ⟨rfl, rfl⟩
  refine SndS.mkO (fun _ _ => by rw [eo.1]) fun a M o h => ?_
  rw [eo.2] at h
  obtain ⟨⟨tg, v⟩, h0, hh⟩ := Option.bind_eq_some_iff.mp h
  obtain ⟨pos, rfl⟩ := tupS_inv h0
  obtain ⟨⟨ty, M1⟩, h1, h⟩ := Option.bind_eq_some_iff.mp hh
  obtain ⟨_, h2, h⟩ := Option.bind_eq_some_iff.mp h
  obtain ⟨h2, _⟩ := grd_some h2
  obtain ⟨rfl, st, xo⟩ := fall_inv h
  simp only [Bool.and_eq_true, decide_eq_true_eq] at h2
  obtain ⟨rfl, htg, hT, hnT, hM⟩ := h2
  refine ⟨fun M' e => by cases e; exact st, fun n ok X W g σ H δ F D r po => ?_⟩
  obtain ⟨elts, kk, tp, rfl⟩ : ∃ elts kk tp, tg = .Tuple elts kk tp := by
    cases tg <;> first | exact ⟨_, _, _, rfl⟩ | cases hT
  have hs : swapsWithSole [.Tuple elts kk tp] v pos.line X.env = pure false := by
    show swapsWith v (some (.Tuple elts kk tp)) pos.line X.env = pure false
    unfold swapsWith
    cases v <;> rfl
  have hw : swappedStores [.Tuple elts kk tp] v X.env = pure none := by
    unfold swappedStores
    cases v <;> first | rfl | cases hnT
  refine SS.of (ps_asg (g := SG X (.Tuple elts kk tp)) pe_S pg_S hs hw rfl) ((s1.e v M _ M1 h1).2 n ok X W g.gx σ H δ F _ r ?_)
  have po1 : PoS c n Xr W K M (some (setFz t M1)) σ F H ((ev T y δ).st fun d δ1 => match bindT t d δ1 with | some δ2 => .nx δ2 | none => .no) D := po
  cases hr : ev T y δ with
  | no => rw [hr] at po1; exact po1
  | ex kk ds δ' => rw [hr] at po1; exact PoX.ofS po1 xo
  | ok d δ1 =>
    rw [hr] at po1
    intro v' H1 F1 kp rt
    have po2 : PoS c n Xr W K M (some (setFz t M1)) σ F H (match bindT t d δ1 with | some δ2 => S3.nx δ2 | none => .no) D := po1
    cases hb : bindT t d δ1 with
    | none => rw [hb] at po2; exact po2.elim
    | some δ2 =>
      rw [hb] at po2
      obtain ⟨A, q⟩ := rt.rs
      refine sg_tgt g.gx.gn htg q hM rt.sh hb fun σ' A' q' e1 _ => ?_
      refine po2 _ σ' H1 F1 rfl kp (fun j m hj hm => e1 j fun z => ?_) ⟨A', q'⟩
      have h5 := st.2 j m hj hm
      obtain ⟨k2, h6⟩ := setFz_in z (by rw [← setFz_len t M1]; exact (List.getElem?_eq_some_iff.mp h5).1)
      rw [h6] at h5
      cases h5
      cases hm
end
end Nc

set_option Elab.async false
set_option linter.all false
set_option autoImplicit false
set_option maxRecDepth 100000
set_option maxHeartbeats 4000000
/-! Soundness: += ; all statements. -/
namespace Nc
open PySem PySem.Spec PyProof.Rows L2
section
variable {c : Cn} {n : En} {T : Tb} {Xr : XrT} {x : Sx} {X : Cx} {W : WX} {K : Kc} {F F' F1 : Fz} {M M' M1 : Ms} {o : Option Ms} {σ σ' σ1 : L2.St} {H H' H1 : Hp} {δ δ' δ1 : Env} {ex : Ex} {ty : Ty} {e : Expr} {D : Ends} {r : S3}
theorem sns_aug {i : Nat} {y : Ex} (s1 : Snd c T Xr K.x y) : SndS c T Xr K (.aug i y) := by
  refine SndS.mkO (fun _ _ => rfl) fun a M o h => ?_
  cases a <;> first | (cases h; done) | skip
  rename_i tg op v pos
  cases op <;> first | (cases h; done) | skip
  obtain ⟨_, h0, h⟩ := Option.bind_eq_some_iff.mp h
  obtain ⟨h0, _⟩ := grd_some h0
  obtain ⟨⟨ty, M1⟩, h1, h⟩ := Option.bind_eq_some_iff.mp h
  obtain ⟨_, h2, h⟩ := Option.bind_eq_some_iff.mp h
  obtain ⟨h2, _⟩ := grd_some h2
  rw [Bool.and_eq_true, decide_eq_true_eq] at h0
  rw [Bool.and_eq_true, decide_eq_true_eq, decide_eq_true_eq] at h2
  obtain ⟨h2, h3⟩ := h2
  have h2 : ty = .sh := h2
  subst h2
  obtain ⟨rfl, st, xo⟩ := fall_inv h
  refine ⟨fun M' e => by cases e; exact st, fun n ok X W g σ H δ F D r po => ?_⟩
  obtain ⟨hn, hm⟩ := h0
  obtain ⟨nm, p, rfl, hN, hloc⟩ := nmL_inv hn
  have hN' : X.N[i]? = some nm := by rw [g.gx.gn.hN]; exact hN
  have nd : X.N.Nodup := by rw [g.gx.gn.hN]; exact g.gx.gn.nd
  have hx : Loc X.env.scope nm := by
    rw [g.gx.gn.hs]
    exact hloc.imp (fun h => h) fun h => h.1
  have hf : X.fn nm = true ∨ X.env.scope.names.lookup nm = some .local := by
    rw [g.gx.gn.hs]
    exact hloc.elim .inr fun h => .inl (g.gx.gn.fn _ h.2)
  obtain ⟨v0, d0, e1, e2, e3⟩ := r.get (gm_eq hm (fun z => nomatch z))
  have po1 : PoS c n Xr W K M (some M1) σ F H (match δ[i]? with
    | some (some (.int a)) => (ev T y δ).st fun d δ1 => match d with
      | .int b => .nx (δ1.set i (some (.int (a + b))))
      | _ => .no
    | _ => .no) D := po
  rw [e2] at po1
  cases d0 with
  | int a =>
    have po2 : PoS c n Xr W K M (some M1) σ F H ((ev T y δ).st fun d δ1 => match d with
      | .int b => .nx (δ1.set i (some (.int (a + b))))
      | _ => .no) D := po1
    refine SS.of (ps_aug nd hN' hx pe_S ip_add hf) ⟨v0, e1, (s1.e v M _ M1 h1).2 n ok X W g.gx σ H δ F _ r ?_⟩
    cases hr : ev T y δ with
    | no => rw [hr] at po2; exact po2
    | ex kk ds δ' => rw [hr] at po2; exact PoX.ofS po2 xo
    | ok d δ1 =>
      rw [hr] at po2
      intro w H1 F1 kp rt
      cases d with
      | int b =>
        have po3 : PoS c n Xr W K M (some M1) σ F H (.nx (δ1.set i (some (.int (a + b))))) D := po2
        refine ⟨a, b, (Nc.R1.of e3).int, (Nc.R1.of rt.sh).int, ?_⟩
        have hm1 := gm_eq h3 (fun z => nomatch z)
        have hlt : i < M1.length := (List.getElem?_eq_some_iff.mp hm1).1
        obtain ⟨A, q⟩ := rt.rs
        have q2 := q.asgF (i := i) (v := .int (a + b)) (d := .int (a + b)) hlt (.int _)
        have eM : M1.set i (.mk .fz .free) = M1 := by
          apply List.ext_getElem?
          intro j
          by_cases e : j = i
          · subst e; rw [List.getElem?_set_self hlt, hm1]
          · rw [List.getElem?_set_ne (Ne.symm e)]
        rw [eM] at q2
        refine po3 M1 _ H1 F1 rfl kp (fun j m hj hs => ?_) ⟨_, q2⟩
        by_cases e : j = i
        · subst e
          rw [gm_eq hm (fun z => nomatch z)] at hj
          cases hj
          cases hs
        · exact List.getElem?_set_ne (Ne.symm e)
      | _ => exact (show False from po2).elim
  | _ => exact (show False from po1).elim
theorem docA_inv {a : Stmt} (h : docA a = true) : ∃ z j p q, a = .Expr (.Constant (.str z) j p) q := by
  unfold docA at h
  split at h
  · exact ⟨_, _, _, _, rfl⟩
  · cases h
theorem sns_doc : SndS c T Xr K .doc := by
  refine SndS.mkO (fun _ _ => rfl) fun a M o h => ?_
  obtain ⟨h1, h⟩ := grd_some (show grd (docA a) (some M) = some o from h)
  cases h
  obtain ⟨z, j, p, q, rfl⟩ := docA_inv h1
  refine ⟨fun M' e => by cases e; exact StK.refl, fun n ok X W g σ H δ F D r po => SS.of ps_doc ?_⟩
  exact po M σ H F rfl Kp.refl KpS.refl r
end
end Nc

set_option Elab.async false
set_option linter.all false
set_option autoImplicit false
set_option maxRecDepth 100000
set_option maxHeartbeats 4000000
/-! An exception, held by its suite, is handed to a def. -/
namespace Nc
open PySem PySem.Spec PyProof.Rows L2
section
variable {X : Cx} {σ : L2.St} {H : Hp} {s : Shared} {pins : List (Addr × Obj)} {a : Addr} {oe : Obj} {k : Nat} {f : Addr} {Q : VK}
/-- f(e), e the suite's exception -/
def tKd (c : Cn) (ks : List Str) (a : Addr) (cls : Value) (dx : Option Addr) (i : Nat) : TE := fun σ H Q => σ[i]? = some (some (.ref a)) ∧ ∃ kk C, c.xl kk = some C ∧ cls = .ref C ∧ ErO H dx ∧
  ∀ p H', Ext H H' → H p = none → H' p = some (.lst (ks.map fun h => .bl (xmV kk h))) → Q (.ref p) H'
theorem pe_knd {c : Cn} {ks : List Str} {nm : Str} {cls : Value} {dx : Option Addr} {i : Nat} {pn : List (Addr × Obj)} {o : Expr} {p pos : Pos} (hg : Gl X nm) (hd : (nm == ("__debug__" : Str)) = false) (hm : X.mg nm = some (.ref f)) (hk : PySem.W.keepIn X.K (.ref f) = true) (hr : L2H.RoomH 2 X.A)
    (F : KdOk X.prog X.w X.K X.mg X.base c ks f) (hz : Zc cls dx oe) (hf : ∃ vs, oe.data = .fields vs) (ho : PE (X.suite a ((a, oe) :: pn)) o (tVar i)) (hn : nst o = true) :
    PE (X.suite a ((a, oe) :: pn)) (.Call (.Name nm p) [o] [] pos) (tKd c ks a cls dx i) := by
  refine ⟨fun pins s σ H Q I h => ?_⟩
  obtain ⟨hv, kk, C, hC, rfl, er, q⟩ := h
  have hn1 : [o].all nst = true := by simp [hn]
  refine wpAny_Call_Name_kw (ld_glob I hg hm ?_ hd)
  refine PySem.W.callWith_K (h₀ := X.base) I.ok.mod.kin hk (thn ((pa_cons ho pa_nil (nst_each hn _)).run pos pins s σ H (fun vs H1 => vs = [.ref a] ∧ H1 = H) I ⟨_, hv, rfl, rfl⟩) fun us s1 ⟨vs, H1, I1, r, e1, e2⟩ => ⟨I1.kIn, ?_⟩) (nst_each (nst_one hn1) _) (plain_of hn1)
  subst e1 e2
  cases r with
  | cons r1 r2 =>
    cases r2
    cases r1
    have P1 := I1.pin (a, oe) (List.mem_append.mpr (.inl List.mem_cons_self))
    have hpin : L2H.PinOk (X.suite a ((a, oe) :: pn)).stack H1 s1 (a, oe) := ⟨P1.1, P1.2.1, fun hm => (List.mem_cons.mp (I1.stkSub a hm)).elim P1.2.2.1 P1.2.2.2.1, P1.2.2.2.2⟩
    have hr2 : L2H.RoomH 2 (X.suite a ((a, oe) :: pn)).A := ⟨hr.dp, hr.un⟩
    refine wpAny_call (codeAny_mono (F _ _ s1 H1 (a, oe) kk C dx Q hr2 hpin I1.env0 hz hf hC er q) fun r s' hq => ?_)
    cases r with
    | error e =>
      obtain ⟨_, _, _, _, _, _, _, _, _, _, _, _, y⟩ := hq
      exact y.elim
    | ok fl =>
      cases fl with
      | ret u => exact I1.after hq
      | next => exact False.elim hq
      | brk => exact False.elim hq
      | cont => exact False.elim hq
end
end Nc

set_option Elab.async false
set_option linter.all false
set_option autoImplicit false
set_option maxRecDepth 100000
set_option maxHeartbeats 4000000
/-! Soundness: raise, try. -/
namespace Nc
open PySem PySem.Spec PyProof.Rows L2
section
variable {c : Cn} {n : En} {T : Tb} {Xr : XrT} {x : Sx} {X : Cx} {W : WX} {K : Kc} {F F' F1 : Fz} {M M' M1 : Ms} {o : Option Ms} {σ σ' σ1 : L2.St} {H H' H1 : Hp} {δ δ' δ1 : Env} {ex : Ex} {ty : Ty} {e : Expr} {D : Ends} {r : S3}
theorem sns_any : SndS c T Xr K .any := by
  refine ⟨fun as M o h => ?_, fun a M o h => ?_⟩
  · have h : some none = some o := h
    cases h
    exact ⟨fun M' e => (nomatch e), fun n ok X W g σ H δ F D r po => (show False from po).elim⟩
  · have h : some none = some o := h
    cases h
    exact ⟨fun M' e => (nomatch e), fun n ok X W g σ H δ F D r po => (show False from po).elim⟩
theorem sns_rse {k : Str} {ys : Ex} (s2 : Snd c T Xr K.x ys) : SndS c T Xr K (.rse k ys) := by
  refine SndS.mkO (fun _ _ => rfl) fun a M o h => ?_
  cases a <;> first | (cases h; done) | skip
  rename_i e ca pos
  cases e with
  | none => cases h
  | some e =>
    cases ca with
    | some _ => cases h
    | none =>
      obtain ⟨as, h1, h⟩ := Option.bind_eq_some_iff.mp h
      obtain ⟨M1, h2, h⟩ := Option.bind_eq_some_iff.mp h
      obtain ⟨h3, h⟩ := grd_some h
      cases h
      obtain ⟨hn, st, xo⟩ := and3 h3
      rw [Bool.and_eq_true] at xo
      refine ⟨fun M' e => (nomatch e), fun n ok X W g σ H δ F D r po => ?_⟩
      refine g.gx.all.rse k e as h1 hn pos σ H D ((s2.s _ as M M1 h2).2 n ok X W g.gx σ H δ F _ r ?_)
      have po1 : PoS c n Xr W K M none σ F H ((evs T ys δ).st fun ds δ1 => .ex k ds δ1) D := po
      cases hr : evs T ys δ with
      | no => rw [hr] at po1; exact po1
      | ex kk ds δ' => rw [hr] at po1; exact PoX.ofS po1 xo.1
      | ok ds δ1 =>
        rw [hr] at po1
        intro vs H1 F1 kp r1 rl
        refine ⟨F1, ds, r1.fk, rl, fun cls dx H2 ext xr => ?_⟩
        obtain ⟨A, q⟩ := r1
        exact po1 cls dx σ H2 F1 (kp.trans (Kp.ext q.fk ext)) KpS.refl (RS.weak ⟨A, q.ext ext⟩ ((leM_ok xo.2).trans (exM_le M1))) xr
/-! ### what a clause stores -/
def hxT (c : Cn) (a : Addr) (cls : Value) (dx : Option Addr) (C : Addr) (i : Nat) : Hx → TE
  | .non => L2.tC V.non
  | .bl b => L2.tC (V.bl b)
  | .str s => L2.tC (V.str s)
  | .fld f => tXf a cls dx C f (tVar i)
  | .tup1 s => tTup (tCons (L2.tC (V.str s)) tNil)
  | .tup2 s f => tTup (tCons (L2.tC (V.str s)) (tCons (tXf a cls dx C f (tVar i)) tNil))
  | .lst1 s => tLst (tCons (L2.tC (V.str s)) tNil)
  | .knd _ ks => tKd c ks a cls dx i
theorem isStr_inv {s : Str} (h : isStr s e = true) : ∃ j p, e = .Constant (.str s) j p := by
  unfold isStr at h
  split at h
  · rw [of_decide_eq_true h]; exact ⟨_, _, rfl⟩
  · cases h
theorem isFld_inv {k f : Str} {ai : Option Nat} (h : isFld x k ai f e = true) : ∃ o p i, e = .Attribute o f p ∧ x.ex k = some (some f) ∧ abOk o = true ∧ ai = some i ∧ nmA x i o = true := by
  unfold isFld at h
  split at h
  · rename_i o g p
    simp only [Bool.and_eq_true, decide_eq_true_eq] at h
    obtain ⟨rfl, h2, h3, h4⟩ := h
    cases ai with
    | none => cases h4
    | some i => exact ⟨o, p, i, rfl, h2, h3, rfl, h4⟩
  · cases h
theorem knd_inv {k : Str} {ai : Option Nat} {f : Str} {ks : List Str} (h : hxA x k ai (.knd f ks) e = true) : ∃ p o pos i, e = .Call (.Name f p) [o] [] pos ∧ gl x f = true ∧ (f == ("__debug__" : Str)) = false ∧ (x.sg (.knd f ks)).isSome = true ∧ ai = some i ∧ nmA x i o = true := by
  unfold hxA at h
  split at h <;> first | (rename_i heq; cases heq; done) | skip
  · rename_i f' ks' m p o pos heq
    cases heq
    simp only [Bool.and_eq_true, decide_eq_true_eq, beq_iff_eq] at h
    obtain ⟨rfl, h1, h2, h3, h4⟩ := h
    cases ai with
    | none => cases h4
    | some i => exact ⟨_, _, _, i, rfl, h1, h2, h3, rfl, h4⟩
  · cases h
theorem hx_pe (gn : Gn X x) (g : GtP X x c T Xr W) {k : Str} {ai : Option Nat} {C : Addr} (hC : c.xl k = some C) {a : Addr} {oe : Obj} {cls : Value} {dx : Option Addr} {pn : List (Addr × Obj)} (hz : Zc cls dx oe) (hf : ∃ vs, oe.data = .fields vs) (nb : X.base.get? a = none) {r : Hx} (h : hxA x k ai r e = true) :
    PE (X.suite a ((a, oe) :: pn)) e (hxT c a cls dx C (ai.getD 0) r) := by
  have fld : ∀ {f : Str} {e : Expr}, isFld x k ai f e = true → PE (X.suite a ((a, oe) :: pn)) e (tXf a cls dx C f (tVar (ai.getD 0))) := fun {f e} h => by
    obtain ⟨o, p, i, rfl, h2, h3, rfl, h5⟩ := isFld_inv h
    obtain ⟨x1, x2⟩ := g.xf k f C h2 hC
    obtain ⟨nm, pos, rfl, h6, h7, h8, h9⟩ := nmA_inv h5
    exact pe_xf x1 x2 hz hf (pe_var (X := X.suite a ((a, oe) :: pn)) (by show X.N[i]? = _; rw [gn.hN]; exact h6) (vis_ok gn h7) h8 h9) (abOk_eq h3 _ _ _)
  have st1 : ∀ {s : Str} {e : Expr}, isStr s e = true → PE (X.suite a ((a, oe) :: pn)) e (L2.tC (V.str s)) := fun {s e} h => by
    obtain ⟨j, p, rfl⟩ := isStr_inv h
    exact pe_str
  cases r with
  | non =>
    cases e <;> first | (cases h; done) | skip
    rename_i k j p
    cases k <;> first | (cases h; done) | skip
    exact pe_non
  | bl b =>
    cases e <;> first | (cases h; done) | skip
    rename_i k j p
    cases k <;> first | (cases h; done) | skip
    obtain rfl := eq_of_beq (show (_ == b) = true from h)
    exact pe_bl
  | str s => exact st1 h
  | fld f => exact fld h
  | tup1 s =>
    cases e <;> first | (cases h; done) | skip
    rename_i es j p
    match es, h with
    | [e], h => exact pe_tup (pa_cons (st1 h) pa_nil (nst_each (by obtain ⟨j, p, rfl⟩ := isStr_inv h; rfl) _))
    | [], h => cases h
    | _ :: _ :: _, h => cases h
  | tup2 s f =>
    cases e <;> first | (cases h; done) | skip
    rename_i es j p
    match es, h with
    | [e, e2], h =>
      have h : (isStr s e && isFld x k ai f e2) = true := h
      rw [Bool.and_eq_true] at h
      exact pe_tup (pa_cons (st1 h.1) (pa_cons (fld h.2) pa_nil (nst_each (by obtain ⟨o, p, i, rfl, _⟩ := isFld_inv h.2; rfl) _)) (nst_each (by obtain ⟨j, p, rfl⟩ := isStr_inv h.1; rfl) _))
    | [], h => cases h
    | [_], h => cases h
    | _ :: _ :: _ :: _, h => cases h
  | lst1 s =>
    cases e <;> first | (cases h; done) | skip
    rename_i es p
    match es, h with
    | [e], h => exact pe_lst (pa_cons (st1 h) pa_nil (nst_each (by obtain ⟨j, p, rfl⟩ := isStr_inv h; rfl) _))
    | [], h => cases h
    | _ :: _ :: _, h => cases h
  | knd f ks =>
    obtain ⟨p, o, pos, i, rfl, h1, h2, h3, rfl, h5⟩ := knd_inv h
    obtain ⟨s', h3⟩ := Option.isSome_iff_exists.mp h3
    obtain ⟨fa, g1, g2, g3, g4⟩ := g.kd f ks s' h3
    have h5' := h5
    obtain ⟨nm, pos', rfl, h6, h7, h8, h9⟩ := nmA_inv h5
    exact pe_knd (gn.gl h1) h2 g1 g2 g3 g4 hz hf (pe_var (X := X.suite a ((a, oe) :: pn)) (by show X.N[i]? = _; rw [gn.hN]; exact h6) (vis_ok gn h7) h8 h9) rfl
theorem hx_run {k : Str} {ds : List Nc.D} {cls : Value} {dx : Option Addr} {ai : Option Nat} {C a : Addr} {r : Hx} {d : Nc.D} {Q : VK} (g : GtP X x c T Xr W) (hC : c.xl k = some C) (fk : Fok F H) (hu : ∀ f, x.ex k = some (some f) → ai.isSome = true → σ[ai.getD 0]? = some (some (.ref a))) (xr : ∀ f, x.ex k = some (some f) → Xr k ds cls dx F H) {kk : Str} (xrk : Xr kk ds cls dx F H) (na : H a = none) (hua : ai.isSome = true → σ[ai.getD 0]? = some (some (.ref a))) {e : Expr} (h : hxA x k ai r e = true) (hd : hxK kk r ds = some d)
    (q : ∀ v H2, Ext H H2 → RsO (decide (hxTy r ≠ .fz)) c F H H2 v d → Q v H2) : hxT c a cls dx C (ai.getD 0) r σ H Q := by
  have str : ∀ {s : Str} {d : Nc.D}, strD s = some d → d = .str s.cps.toList ∧ ∀ F H, Rep c.cl F H (.str s) (.str s.cps.toList) := fun {s d} h => by
    unfold strD at h
    split at h <;> cases h
    rename_i hl
    refine ⟨rfl, fun F H => ?_⟩
    have := Rep.str (cl := c.cl) (F := F) (H := H) s.cps.toList (by rw [lim_eq]; exact hl)
    rw [str_of] at this
    exact this
  have fld : ∀ {f : Str} {d : Nc.D} {e : Expr} {Q : VK}, isFld x k ai f e = true → ds = [d] → (∀ v, Rep c.cl F H v d → Q v H) → tXf a cls dx C f (tVar (ai.getD 0)) σ H Q := fun {f d e Q} h hd q => by
    obtain ⟨o, p, i, rfl, h2, h3, rfl, h5⟩ := isFld_inv h
    subst hd
    obtain ⟨rfl, dd, v, fs, h6, h7, h8, h9⟩ := g.xv k f d C cls dx F H h2 hC (xr f h2)
    exact ⟨_, hu f h2 rfl, rfl, rfl, dd, fs, v, h6, h7, h8, q v h9⟩
  have one : ∀ {d : Nc.D} {f : Str}, hxD (.fld f) ds = some d → ds = [d] := fun {d f} h => by
    match ds, h with
    | [y], h => cases h; rfl
    | [], h => cases h
    | _ :: _ :: _, h => cases h
  cases r with
  | non => cases hd; exact q .non H (Ext.refl H) .non
  | bl b => cases hd; exact q (.bl b) H (Ext.refl H) (.bl b)
  | str s =>
    obtain ⟨rfl, rp⟩ := str (show strD s = some d from hd)
    exact q (.str s) H (Ext.refl H) (rp F H)
  | fld f => exact fld h (one hd) fun v rv => q v H (Ext.refl H) rv
  | tup1 s =>
    obtain ⟨d1, h1, h2⟩ := Option.map_eq_some_iff.mp (show (strD s).map (fun a => Nc.D.tup [a]) = some d from hd)
    obtain ⟨rfl, rp⟩ := str h1
    subst h2
    exact ⟨by rw [lim_eq]; show 1 ≤ LIM; decide, fun p hp => q _ _ (Ext.new hp) (.tup upd_same (.cons (rp F _) .nil))⟩
  | tup2 s f =>
    cases e <;> first | (cases h; done) | skip
    rename_i es j p
    match es, h with
    | [e, e2], h =>
      have h : (isStr s e && isFld x k ai f e2) = true := h
      rw [Bool.and_eq_true] at h
      have hd' : ∃ y, ds = [y] ∧ (strD s).map (fun a => Nc.D.tup [a, y]) = some d := by
        match ds, hd with
        | [y], hd => exact ⟨y, rfl, hd⟩
        | [], hd => cases hd
        | _ :: _ :: _, hd => cases hd
      obtain ⟨y, rfl, hd'⟩ := hd'
      obtain ⟨d1, h1, h2⟩ := Option.map_eq_some_iff.mp hd'
      obtain ⟨rfl, rp⟩ := str h1
      subst h2
      refine fld h.2 rfl fun v rv => ?_
      exact ⟨by rw [lim_eq]; show 2 ≤ LIM; decide, fun p hp => q _ _ (Ext.new hp) (.tup upd_same (.cons (rp F _) (.cons (rv.mono (Kp.new fk hp)) .nil)))⟩
    | [], h => cases h
    | [_], h => cases h
    | _ :: _ :: _ :: _, h => cases h
  | lst1 s =>
    obtain ⟨d1, h1, h2⟩ := Option.map_eq_some_iff.mp (show (strD s).map (fun a => Nc.D.lst [a]) = some d from hd)
    obtain ⟨rfl, rp⟩ := str h1
    subst h2
    exact ⟨by rw [lim_eq]; show 1 ≤ LIM; decide, fun p hp => q _ _ (Ext.new hp) ⟨p, hp, own_lst upd_same (.cons (rp F _) .nil)⟩⟩
  | knd f ks =>
    cases (show some (Nc.D.lst (ks.map fun h => .bl (xmV kk h))) = some d from hd)
    obtain ⟨p, o, pos, i, rfl, h1, h2, h3, rfl, h5⟩ := knd_inv h
    obtain ⟨C', e1, e2, e3⟩ := g.xk kk ds cls dx F H xrk
    refine ⟨hua rfl, kk, C', e1, e2, e3, fun p2 H' ext hp he => q _ _ ext ⟨p2, hp, own_lst he ?_⟩⟩
    have all : ∀ ks : List Str, RepL c.cl F H' (ks.map fun h => V.bl (xmV kk h)) (ks.map fun h => Nc.D.bl (xmV kk h)) := fun ks => by
      induction ks with
      | nil => exact .nil
      | cons h t ih => exact .cons (.bl _) ih
    exact all ks
/-! ### a clause -/
def clC (c : Cn) (h : Hd) : Addr := (c.xl h.k).getD 0
def clOf (c : Cn) (h : Hd) : Cl := ⟨.ref (clC c h), h.a, fun a cls dx => tAsg (hxT c a cls dx (clC c h) (h.a.getD 0) h.r) (gName h.t)⟩
theorem hdA_inv {h : Hd} {eh : ExceptHandler} (q : hdA x h eh = true) : ∃ np n tg v ap pp, eh = .ExceptHandler (some (.Name h.k np)) n [.Assign [tg] v ap] pp ∧ gl x h.k = true ∧ (h.k == ("__debug__" : Str)) = false ∧ exOk x h.k = true ∧ nmL x h.t tg = true ∧ hxA x h.k h.a h.r v = true ∧
    ((h.a = none ∧ n = none) ∨ ∃ i m, h.a = some i ∧ n = some m ∧ x.N[i]? = some m ∧ x.sc.names.lookup m = some .local ∧ i ≠ h.t) := by
  unfold hdA at q
  split at q
  · simp only [Bool.and_eq_true, decide_eq_true_eq, beq_iff_eq] at q
    obtain ⟨rfl, q1, q2, q3, q4, q5, q6⟩ := q
    refine ⟨_, _, _, _, _, _, rfl, q1, q2, q3, q4, q5, ?_⟩
    split at q6
    · exact .inl ⟨by assumption, rfl⟩
    · rename_i i m ha
      simp only [Bool.and_eq_true, decide_eq_true_eq] at q6
      exact .inr ⟨_, _, ha, rfl, q6.1, q6.2.1, q6.2.2⟩
    · cases q6
  · cases q
theorem ex_some {h : Hd} (q : exOk x h.k = true) (g : GtP X x c T Xr W) : ∃ f, x.ex h.k = some f ∧ c.xl h.k = some (clC c h) ∧ X.mg h.k = some (.ref (clC c h)) := by
  obtain ⟨f, hf⟩ := Option.isSome_iff_exists.mp (Bool.and_eq_true_iff.mp q).1
  obtain ⟨C, h1, h2⟩ := g.xc h.k f hf
  have e : clC c h = C := by unfold clC; rw [h1]; rfl
  rw [e]
  exact ⟨f, hf, h1, h2⟩
theorem hxA_sw {k : Str} {ai : Option Nat} {r : Hx} {e : Expr} (h : hxA x k ai r e = true) (y : Sx) (t : Str) (l : Nat) : swB y e t l = false := by
  cases e <;> first | rfl | skip
  all_goals (cases r <;> first | cases h | skip)
theorem cl_ok (gn : Gn X x) (hk : x.sc.kind = .function) (g : GtP X x c T Xr W) : ∀ {hs : List Hd} {es : List ExceptHandler} {o : Option Ms}, hdsA x M hs es = some o → ClOk X es (hs.map (clOf c))
  | [], [], _, _ => .nil
  | [], _ :: _, _, h => by cases h
  | _ :: _, [], _, h => by cases h
  | h :: hs, eh :: es, o, q => by
    obtain ⟨o1, q1, q⟩ := Option.bind_eq_some_iff.mp q
    obtain ⟨q2, _⟩ := grd_some q
    rw [Bool.and_eq_true] at q2
    obtain ⟨np, n, tg, v, ap, pp, rfl, h1, h2, h3, h4, h5, h6⟩ := hdA_inv q2.1
    obtain ⟨f, hf, hC, hm⟩ := ex_some h3 g
    refine .cons (k := clOf c h) ⟨gn.gl h1, h2, .inl hm⟩ ?_ (fun a oe cls dx pn hz hfl nbb => ?_) (cl_ok gn hk g q1)
    · show ClN X h.a n
      rcases h6 with ⟨e1, e2⟩ | ⟨i, m, e1, e2, e3, e4, _⟩
      · rw [e1, e2]; exact trivial
      · rw [e1, e2]
        refine ⟨by rw [gn.hN]; exact e3, ?_⟩
        show X.env.scope.names.lookup m = _
        rw [gn.hs]; exact e4
    · obtain ⟨nm, pos, rfl, hN, hl⟩ := nmL_inv h4
      have hsw : swapsWith v (some (.Name nm pos)) ap.line X.env = pure false := by
        rw [sw_eq gn hk, hxA_sw h5]
      refine pss_one (ps_set (X := X.suite a ((a, oe) :: pn)) (by show X.N.Nodup; rw [gn.hN]; exact gn.nd) (by show X.N[h.t]? = _; rw [gn.hN]; exact hN) ?_ (hx_pe gn g hC hz hfl nbb h5) hsw ?_)
      · show Loc X.env.scope nm
        rw [gn.hs]
        exact hl.imp (fun z => z) fun z => z.1
      · show X.fn nm = true ∨ X.env.scope.names.lookup nm = some .local
        rw [gn.hs]
        exact hl.elim .inr fun z => .inl (gn.fn _ z.2)
/-- behind a clause -/
theorem hd_state (ok : n.Ok) (r : RS c n F M σ H δ) {h : Hd} {v : V} {d : Nc.D} {H2 : Hp} (hl : h.t < M.length) (ext : Ext H H2) (ro : RsO (decide (hxTy h.r ≠ .fz)) c F H H2 v d) {σ2 : L2.St} (hσ : σ2.length = σ.length)
    (h1 : ∀ j, j ≠ h.t → h.a ≠ some j → σ2[j]? = σ[j]?) (h2 : σ2[h.t]? = some (some v)) (ne : ∀ i, h.a = some i → i ≠ h.t) : RS c n F (hdM M h) σ2 H2 (δ.set h.t (some d)) := by
  obtain ⟨A, q⟩ := r
  have q2 := q.ext ext
  have q3 : RS c n F (M.set h.t (.mk (hxTy h.r) .free)) (σ.set h.t (some v)) H2 (δ.set h.t (some d)) := by
    by_cases hf : hxTy h.r = .fz
    · rw [hf] at ro ⊢
      exact ⟨_, q2.asgF hl ro⟩
    · have e : hxTy h.r = .own .fz := by
        cases hr : h.r <;> first | rfl | (rw [hr] at hf; exact absurd rfl hf)
      rw [e] at ro ⊢
      obtain ⟨p, hp, o⟩ := ro
      refine ⟨_, q2.asg hl o (fun j _ a ha hb => ?_) fun a ha => ?_⟩
      · obtain rfl := List.mem_singleton.mp hb
        obtain ⟨u, z, _⟩ := q.at_ ha
        rw [hp] at z; cases z
      · obtain rfl := List.mem_singleton.mp ha
        refine ⟨fun z => ?_, q.fresh0 hp⟩
        obtain ⟨u, z⟩ := q.fk a z
        rw [hp] at z; cases z
  have ls := q.ls
  cases ha : h.a with
  | none =>
    obtain ⟨A3, q4⟩ := q3
    unfold hdM
    rw [ha]
    refine ⟨A3, q4.sig (by rw [hσ, List.length_set]) fun j m _ _ => ?_⟩
    by_cases e : j = h.t
    · subst e
      rw [h2, List.getElem?_set_self (by rw [ls]; exact hl)]
    · rw [List.getElem?_set_ne (Ne.symm e)]
      exact h1 j e (by rw [ha]; exact fun z => nomatch z)
  | some i =>
    have q5 : RS c n F ((M.set h.t (.mk (hxTy h.r) .free)).set i .un) (σ.set h.t (some v)) H2 (δ.set h.t (some d)) := by
      refine q3.weak ⟨by rw [List.length_set], fun j m hj => ?_⟩
      by_cases e : j = i
      · subst e
        rw [List.getElem?_set] at hj
        split at hj
        · split at hj <;> cases hj
          exact .inl rfl
        · exact absurd rfl (by assumption)
      · rw [List.getElem?_set_ne (Ne.symm e)] at hj
        exact .inr hj
    obtain ⟨A3, q4⟩ := q5
    unfold hdM
    rw [ha]
    refine ⟨A3, q4.sig (by rw [hσ, List.length_set]) fun j m hj hm => ?_⟩
    have nj : j ≠ i := fun e => by
      subst e
      rw [List.getElem?_set] at hj
      split at hj
      · split at hj <;> cases hj
        exact hm rfl
      · exact absurd rfl (by assumption)
    by_cases e : j = h.t
    · subst e
      rw [h2, List.getElem?_set_self (by rw [ls]; exact hl)]
    · rw [List.getElem?_set_ne (Ne.symm e)]
      exact h1 j e (by rw [ha]; exact fun z => nj (Option.some.inj z).symm)
theorem hd_stk {h : Hd} (h1 : stM (gm M h.t) = false) (h2 : ∀ i, h.a = some i → gm M i = .un) : StK M (hdM M h) := by
  have one : ∀ {M : Ms} {i : Nat} {m : Md}, stM (gm M i) = false → StK M (M.set i m) := fun {M i m} h => ⟨List.length_set, fun j k hj hk => by
    by_cases e : j = i
    · subst e
      rw [gm_of hj] at h
      rw [h] at hk; cases hk
    · rw [List.getElem?_set_ne (Ne.symm e)]; exact hj⟩
  unfold hdM
  cases ha : h.a with
  | none => exact one h1
  | some i =>
    refine (one h1).trans (one ?_)
    by_cases e : i = h.t
    · subst e
      unfold gm
      rw [List.getElem?_set]
      split
      · split
        · rfl
        · rfl
      · exact absurd rfl (by assumption)
    · unfold gm
      rw [List.getElem?_set_ne (Ne.symm e)]
      have := h2 i ha
      unfold gm at this
      rw [this]; rfl
/-- the clauses' ends are known no less than what is said -/
theorem hds_le : ∀ {hs : List Hd} {es : List ExceptHandler} {o : Option Ms}, hdsA x M hs es = some o → (hs ≠ [] → ∃ M', o = some M') ∧ ∀ M', o = some M' → StK M M' ∧ ∀ h ∈ hs, Le M' (hdM M h)
  | [], [], o, h => by
    have h : some none = some o := h
    cases h
    exact ⟨fun z => absurd rfl z, fun M' e => (nomatch e)⟩
  | [], _ :: _, _, h => by cases h
  | _ :: _, [], _, h => by cases h
  | h :: hs, eh :: es, o, q => by
    obtain ⟨o1, q1, q⟩ := Option.bind_eq_some_iff.mp q
    obtain ⟨q2, q3⟩ := grd_some q
    rw [Bool.and_eq_true, Bool.and_eq_true] at q2
    obtain ⟨_, q4, q5⟩ := q2
    have sk : StK M (hdM M h) := hd_stk (by simpa using q4) fun i e => by rw [e] at q5; exact of_decide_eq_true q5
    obtain ⟨ih1, ih2⟩ := hds_le q1
    cases o1 with
    | none =>
      have q3 : some (hdM M h) = o := q3
      subst q3
      refine ⟨fun _ => ⟨_, rfl⟩, fun M' e => ?_⟩
      cases e
      refine ⟨sk, fun h' hh => ?_⟩
      cases hs with
      | nil => obtain rfl := List.mem_singleton.mp hh; exact Le.refl _
      | cons a b => obtain ⟨M', e⟩ := ih1 (by simp); cases e
    | some M2 =>
      have q3 : some (meet (hdM M h) M2) = o := q3
      subst q3
      obtain ⟨sk2, l2⟩ := ih2 M2 rfl
      have hl : (hdM M h).length = M2.length := sk.1.trans sk2.1.symm
      refine ⟨fun _ => ⟨_, rfl⟩, fun M' e => ?_⟩
      cases e
      refine ⟨⟨(meet_len hl).trans sk.1, fun i m e1 e2 => meet_both (sk.2 i m e1 e2) (sk2.2 i m e1 e2)⟩, fun h' hh => ?_⟩
      rcases List.mem_cons.mp hh with rfl | hh
      · exact meet_l hl
      · exact (meet_r hl).trans (l2 h' hh)
/-- an exception of the body comes to the clauses -/
theorem cl_run (gn : Gn X x) (g : GtP X x c T Xr W) (ok : n.Ok) {k : Str} {ds : List Nc.D} {cls : Value} {dx : Option Addr} (r : RS c n F M σ H δ) (hlen : M.length = x.N.length) (xr : Xr k ds cls dx F H) :
    ∀ {hs : List Hd} {es : List ExceptHandler} {o : Option Ms}, hdsA x M hs es = some o → (match hdV hs k ds δ with
      | .nx δ2 => ∀ h ∈ hs, ∀ σ2 H2, Kp F H F H2 → KpS M σ σ2 → RS c n F (hdM M h) σ2 H2 δ2 → D.nx σ2 H2
      | .ex k' ds' δ2 => k' = k → ds' = ds → δ2 = δ → W cls dx σ H
      | _ => False) → wCl X.K W D (hs.map (clOf c)) cls dx σ H
  | [], [], o, h, po => po rfl rfl rfl
  | [], _ :: _, _, h, _ => by cases h
  | _ :: _, [], _, h, _ => by cases h
  | h :: hs, eh :: es, o, q, po => by
    obtain ⟨o1, q1, q⟩ := Option.bind_eq_some_iff.mp q
    obtain ⟨q2, q3⟩ := grd_some q
    rw [Bool.and_eq_true, Bool.and_eq_true] at q2
    obtain ⟨qh, q4, q5⟩ := q2
    obtain ⟨np, nn, tg, v, ap, pp, rfl, h1, h2, h3, h4, h5, h6⟩ := hdA_inv qh
    obtain ⟨f, hf, hC, hm⟩ := ex_some h3 g
    refine ⟨xmD k h.k, g.xm k h.k f _ ds cls dx F H hf hC xr, fun hb a ha => ?_, fun hb => ?_⟩
    · have po : (match (match hxK k h.r ds with | some d => S3.nx (δ.set h.t (some d)) | none => .no) with
        | .nx δ2 => ∀ h' ∈ h :: hs, ∀ σ2 H2, Kp F H F H2 → KpS M σ σ2 → RS c n F (hdM M h') σ2 H2 δ2 → D.nx σ2 H2
        | .ex k' ds' δ2 => k' = k → ds' = ds → δ2 = δ → W cls dx σ H
        | _ => False) := by
        have e : hdV (h :: hs) k ds δ = (match hxK k h.r ds with | some d => S3.nx (δ.set h.t (some d)) | none => .no) := if_pos hb
        rw [e] at po
        exact po
      cases hd : hxK k h.r ds with
      | none => rw [hd] at po; exact po.elim
      | some d =>
        rw [hd] at po
        obtain ⟨nm, pos, rfl, hN, hl⟩ := nmL_inv h4
        have hlt : h.t < M.length := by rw [hlen]; exact (List.getElem?_eq_some_iff.mp hN).1
        have ls := r.ls
        have xr2 : ∀ f', x.ex h.k = some (some f') → Xr h.k ds cls dx F H := fun f' hf' => by
          unfold xmD at hb
          rw [Bool.or_eq_true, decide_eq_true_eq, decide_eq_true_eq] at hb
          have h3' := (Bool.and_eq_true_iff.mp h3).2
          rw [Bool.or_eq_true, decide_eq_true_eq, decide_eq_true_eq] at h3'
          rcases hb with hb | hb
          · rw [← hb]; exact xr
          · rcases h3' with z | z
            · exact absurd hb z
            · rw [hf'] at z; cases z
        have ai : ∀ i, h.a = some i → i < σ.length ∧ i ≠ h.t := fun i e => by
          rcases h6 with ⟨e1, _⟩ | ⟨i', m, e1, _, e3, _, e5⟩
          · rw [e] at e1; cases e1
          · rw [e] at e1; cases e1
            exact ⟨by rw [ls, hlen]; exact (List.getElem?_eq_some_iff.mp e3).1, e5⟩
        have htl : h.t < σ.length := by rw [ls]; exact hlt
        refine hx_run (ai := h.a) (a := a) (σ := atO h.a a σ) g hC r.fk (fun f' _ hs' => ?_) xr2 xr ha (fun hs' => ?_) h5 hd fun v H2 ext ro => ?_
        · cases e : h.a with
          | none => rw [e] at hs'; cases hs'
          | some i => exact List.getElem?_set_self (ai i e).1
        · cases e : h.a with
          | none => rw [e] at hs'; cases hs'
          | some i => exact List.getElem?_set_self (ai i e).1
        · refine po h List.mem_cons_self (nmO h.a ((atO h.a a σ).set h.t (some v))) H2 (Kp.ext r.fk ext) (fun j m hj hs' => ?_) (hd_state ok r hlt ext ro ?_ (fun j n1 n2 => ?_) ?_ fun i e => (ai i e).2)
          · have n1 : j ≠ h.t := fun e => by subst e; rw [gm_of hj, hs'] at q4; cases q4
            have n2 : h.a ≠ some j := fun e => by
              rw [e] at q5
              have : gm M j = .un := of_decide_eq_true q5
              rw [gm_of hj] at this
              subst this; cases hs'
            cases e : h.a with
            | none => exact List.getElem?_set_ne (Ne.symm n1)
            | some i =>
              have n3 : i ≠ j := fun z => n2 (by rw [e, z])
              show (((σ.set i _).set h.t _).set i _)[j]? = _
              rw [List.getElem?_set_ne n3, List.getElem?_set_ne (Ne.symm n1), List.getElem?_set_ne n3]
          · cases e : h.a with
            | none => exact List.length_set
            | some i =>
              show (((σ.set i _).set h.t _).set i _).length = _
              rw [List.length_set, List.length_set, List.length_set]
          · cases e : h.a with
            | none => exact List.getElem?_set_ne (Ne.symm n1)
            | some i =>
              have n3 : i ≠ j := fun z => n2 (by rw [e, z])
              show (((σ.set i _).set h.t _).set i _)[j]? = _
              rw [List.getElem?_set_ne n3, List.getElem?_set_ne (Ne.symm n1), List.getElem?_set_ne n3]
          · cases e : h.a with
            | none => exact List.getElem?_set_self htl
            | some i =>
              show (((σ.set i _).set h.t _).set i _)[h.t]? = _
              rw [List.getElem?_set_ne (ai i e).2, List.getElem?_set_self (by rw [List.length_set]; exact htl)]
    · refine cl_run gn g ok r hlen xr q1 ?_
      have e : hdV (h :: hs) k ds δ = hdV hs k ds δ := if_neg (by rw [hb]; exact Bool.false_ne_true)
      rw [e] at po
      cases hv : hdV hs k ds δ with
      | nx δ2 => rw [hv] at po; exact fun h' hh => po h' (List.mem_cons_of_mem _ hh)
      | ex k' ds' δ2 => rw [hv] at po; exact po
      | no => rw [hv] at po; exact po
      | rt d δ2 => rw [hv] at po; exact po
      | bk δ2 => rw [hv] at po; exact po
      | ct δ2 => rw [hv] at po; exact po
theorem hdV_kind {k : Str} {ds : List Nc.D} : ∀ {hs : List Hd}, (∃ δ2, hdV hs k ds δ = .nx δ2) ∨ hdV hs k ds δ = .no ∨ hdV hs k ds δ = .ex k ds δ
  | [] => .inr (.inr rfl)
  | h :: hs => by
    by_cases e : xmD k h.k = true
    · have : hdV (h :: hs) k ds δ = (match hxK k h.r ds with | some d => S3.nx (δ.set h.t (some d)) | none => .no) := if_pos e
      rw [this]
      cases hxK k h.r ds with
      | none => exact .inr (.inl rfl)
      | some d => exact .inl ⟨_, rfl⟩
    · have : hdV (h :: hs) k ds δ = hdV hs k ds δ := if_neg e
      rw [this]
      exact hdV_kind
theorem hdV_nrt {k : Str} {ds : List Nc.D} {hs : List Hd} {d : Nc.D} (z : hdV hs k ds δ = .rt d δ') : False := by
  rcases hdV_kind (δ := δ) (k := k) (ds := ds) (hs := hs) with ⟨_, e⟩ | e | e <;> (rw [e] at z; cases z)
theorem hdV_nbk {k : Str} {ds : List Nc.D} {hs : List Hd} (z : hdV hs k ds δ = .bk δ') : False := by
  rcases hdV_kind (δ := δ) (k := k) (ds := ds) (hs := hs) with ⟨_, e⟩ | e | e <;> (rw [e] at z; cases z)
theorem hdV_nct {k : Str} {ds : List Nc.D} {hs : List Hd} (z : hdV hs k ds δ = .ct δ') : False := by
  rcases hdV_kind (δ := δ) (k := k) (ds := ds) (hs := hs) with ⟨_, e⟩ | e | e <;> (rw [e] at z; cases z)
theorem exM_idem (M : Ms) : exM (exM M) = exM M := by
  unfold exM
  rw [List.map_map]
  congr 1
  funext m
  cases m with
  | mk k y =>
    cases k <;> first | rfl | (cases y <;> rfl)
  | _ => rfl
theorem exM_stk (M : Ms) : StK M (exM M) := ⟨exM_len M, fun i m e hm => by
  rw [exM_get, e]
  cases m with
  | un => cases hm
  | bo b => rfl
  | mk k y =>
    cases y with
    | free => cases hm
    | io => cases k <;> rfl⟩
theorem exM_rs (r : RS c n F M σ H δ) : RS c n F (exM M) σ H δ := r.weak (exM_le M)
theorem sns_tri {b : Sm} {hs : List Hd} (s1 : ∀ K, SndS c T Xr K b) : SndS c T Xr K (.tri b hs) := by
  refine SndS.mkO (fun _ _ => rfl) fun a M o h => ?_
  cases a <;> first | (cases h; done) | skip
  rename_i tb eh els fin pos
  cases els with
  | cons _ _ => cases h
  | nil =>
  cases fin with
  | cons _ _ => cases h
  | nil =>
  obtain ⟨o1, h1, h⟩ := Option.bind_eq_some_iff.mp (show ((chk2 { K with Xm := exM M } b).s tb M).bind _ = some o from h)
  obtain ⟨o2, h2, h⟩ := Option.bind_eq_some_iff.mp h
  obtain ⟨h3, h⟩ := grd_some h
  rw [Bool.and_eq_true, Bool.and_eq_true, Bool.and_eq_true] at h3
  obtain ⟨hne, st, lx, xo⟩ := h3
  obtain ⟨t1, k1⟩ := (s1 { K with Xm := exM M }).s tb M o1 h1
  obtain ⟨le1, le2⟩ := hds_le h2
  have hn : hs ≠ [] := fun z => by subst z; cases hne
  obtain ⟨M2, hM2⟩ := le1 hn
  subst hM2
  obtain ⟨sk2, l2⟩ := le2 M2 rfl
  have skM := exM_stk M
  have fin : ∀ M', o = some M' → StK M M' ∧ (∀ N, o1 = some N → Le M' N) ∧ Le M' M2 := fun M' e => by
    subst e
    cases o1 with
    | none =>
      have h : M2 = M' := Option.some.inj h
      subst h
      exact ⟨skM.trans sk2, fun N e => (nomatch e), Le.refl _⟩
    | some A1 =>
      have h : meet A1 M2 = M' := Option.some.inj h
      subst h
      have st1 := t1 A1 rfl
      have st2 := skM.trans sk2
      have hl : A1.length = M2.length := st1.1.trans st2.1.symm
      exact ⟨⟨(meet_len hl).trans st1.1, fun i m e1 e2 => meet_both (st1.2 i m e1 e2) (st2.2 i m e1 e2)⟩, fun N e => by cases e; exact meet_l hl, meet_r hl⟩
  have so : ∃ M', o = some M' := by
    cases o1 with
    | none => exact ⟨M2, h.symm⟩
    | some A1 => exact ⟨_, h.symm⟩
  obtain ⟨M', eM⟩ := so
  obtain ⟨f1, f2, f3⟩ := fin M' eM
  refine ⟨fun M'' e => (fin M'' e).1, fun n ok X W g σ H δ F D r po => ?_⟩
  have gx := g.gx
  obtain ⟨eh0, ehs, rfl⟩ : ∃ eh0 ehs, eh = eh0 :: ehs := by
    cases eh with
    | nil =>
      cases hs with
      | nil => exact absurd rfl hn
      | cons _ _ => cases h2
    | cons a b => exact ⟨a, b, rfl⟩
  have nd : X.N.Nodup := by rw [gx.gn.hN]; exact gx.gn.nd
  intro pins s I
  have hlen : M.length = K.x.N.length := by rw [← r.ls, ← gx.gn.hN]; exact I.len
  have cok := cl_ok (c := c) gx.gn g.kind gx.all h2
  refine SS.of (ps_tryC (tb := fun W' D σ H => SSs (X.tr (X.pn ++ pins) X.xe) tb D σ H ∧ False ∨ (∀ W'' pn xe, Takes (X.tr pn xe) W'' → PassesOwn (model X.prog X.w) X.A X.env xe → W'' = W' → SSs (X.tr pn xe) tb D σ H)) g.st g.lf nd gx.tk (fun W' pn xe tk pass => ⟨fun pins s σ H D I h => ?_⟩) cok) ?_ pins s I
  · rcases h with ⟨_, z⟩ | h
    · exact z.elim
    · exact h W' pn xe tk pass rfl pins s I
  · refine .inr fun W'' pn xe tk pass hW => ?_
    subst hW
    have gs : Gs (X.tr pn xe) K.x c T Xr (wCl X.K W D (hs.map (clOf c))) :=
      ⟨⟨⟨gx.gn.hN, gx.gn.nd, gx.gn.hs, gx.gn.calm, gx.gn.un, gx.gn.bl, gx.gn.fn⟩, gx.inj, tk, gx.sgs, fun X' x' W' h1 h2 h3 h4 h5 h6 h7 h8 h9 h10 h11 => gx.gt X' x' W' h1 h2 h3 h4 h5 h6 h7 h8 h9 h10 h11⟩, g.kind, pass, g.st, g.lf⟩
    refine k1 n ok (X.tr pn xe) _ gs σ H δ F D r ?_
    have po1 : PoS c n Xr W K M o σ F H (match evS T b δ with | .ex k ds δ1 => hdV hs k ds δ1 | r => r) D := po
    cases hr : evS T b δ with
    | no => rw [hr] at po1; exact po1
    | nx δ1 =>
      rw [hr] at po1
      exact fun N σ' H' F' e kp ks r1 => po1 M' σ' H' F' eM kp ks (r1.weak (f2 N e))
    | rt d δ1 => rw [hr] at po1; exact po1
    | bk δ1 => rw [hr] at po1; exact po1
    | ct δ1 => rw [hr] at po1; exact po1
    | ex k ds δ1 =>
      rw [hr] at po1
      intro cls dx σ' H' F' kp ks r1 xr
      refine cl_run (M := exM M) gx.gn gx.all ok r1 (by rw [exM_len]; exact hlen) xr h2 ?_
      have po2 : PoS c n Xr W K M o σ F H (hdV hs k ds δ1) D := po1
      cases hv : hdV hs k ds δ1 with
      | nx δ2 =>
        rw [hv] at po2
        exact fun h' hh σ2 H2 kp2 ks2 r2 => po2 M' σ2 H2 F' eM (kp.trans kp2) (ks.trans skM ks2) (r2.weak (f3.trans (l2 h' hh)))
      | ex k' ds' δ2 =>
        rw [hv] at po2
        intro e1 e2 e3
        subst e1 e2 e3
        exact po2 cls dx σ' H' F' kp ks (r1.weak (leM_ok lx)) xr
      | no => rw [hv] at po2; exact po2
      | rt d δ2 => exact absurd hv (by intro z; exact hdV_nrt z)
      | bk δ2 => exact absurd hv (by intro z; exact hdV_nbk z)
      | ct δ2 => exact absurd hv (by intro z; exact hdV_nct z)
end
end Nc

set_option Elab.async false
set_option linter.all false
set_option autoImplicit false
set_option maxRecDepth 100000
set_option maxHeartbeats 4000000
namespace Nc
open PySem PySem.Spec PyProof.Rows L2
theorem swp_eq {X : Cx} {x : Sx} (g : Gn X x) (hk : x.sc.kind = .function) {nx ny : Str} {px py pt pt2 : Pos} {kt k2 : Nat} {a b : Expr} (h : swpB x nx ny px.line py.line a b = true) :
    swappedStores [.Tuple [.Name nx px, .Name ny py] kt pt] (.Tuple [a, b] k2 pt2) X.env = pure (some [nx, ny]) := by
  unfold swpB at h
  simp only [Bool.and_eq_true, decide_eq_true_eq, Bool.not_eq_true'] at h
  obtain ⟨h1, h2, h3, h4, h5, h6, h7, h8⟩ := h
  have hb : X.env.blockKind = .function := by
    unfold Env.blockKind
    rw [g.hs, hk]
    rfl
  have e1 : X.env.kindOf nx = some .local := by unfold Env.kindOf; rw [g.hs]; exact h1
  have e2 : X.env.kindOf ny = some .local := by unfold Env.kindOf; rw [g.hs]; exact h2
  have e3 : ([a, b].any fun | .Starred .. => true | _ => false) = false := by
    rw [List.any_cons, List.any_cons]
    cases a <;> first | (cases h5; done) | skip
    all_goals (cases b <;> first | (cases h6; done) | rfl)
  have e4 : [nx, ny].eraseDups.length = 2 := by
    have : (ny == nx) = false := beq_false_of_ne (Ne.symm h4)
    simp [List.eraseDups_cons, this]
  unfold swappedStores
  have e5 : List.filterMap (fun (z : Expr) => match z with
      | .Name id pos => if X.env.kindOf id == some .local && pos.line == (([Expr.Name nx px, Expr.Name ny py].head?.map (·.pos.line)).getD 0) then some id else none
      | _ => none) [Expr.Name nx px, Expr.Name ny py] = [nx, ny] := by
    have p1 : (([Expr.Name nx px, Expr.Name ny py].head?.map (·.pos.line)).getD 0) = px.line := rfl
    rw [p1]
    simp [e1, e2, h3]
  simp only [hb]
  refine (if_neg (fun z => Bool.noConfusion (show false = true from z))).trans ?_
  refine (if_neg (fun z => Bool.noConfusion (e3.symm.trans z))).trans ?_
  generalize hf : List.filterMap _ [Expr.Name nx px, Expr.Name ny py] = names
  have e6 : names = [nx, ny] := hf.symm.trans e5
  subst e6
  rw [if_neg (by rw [e4]; exact Bool.false_ne_true), if_neg (by rw [h7]; exact Bool.false_ne_true), if_neg (by rw [h8]; exact Bool.false_ne_true)]
section
variable {c : Cn} {n : En} {T : Tb} {Xr : XrT} {x : Sx} {X : Cx} {W : WX} {K : Kc} {F F' F1 : Fz} {M M' M1 : Ms} {o : Option Ms} {σ σ' σ1 : L2.St} {H H' H1 : Hp} {δ δ' δ1 : Env} {D : Ends}
theorem parA_inv {i j : Nat} {a : Stmt} {as : List Expr} (h : parA x i j a = some as) : ∃ nx px ny py kt pt a' b k2 pt2 pos, a = .Assign [.Tuple [.Name nx px, .Name ny py] kt pt] (.Tuple [a', b] k2 pt2) pos ∧ as = [a', b] ∧ swpB x nx ny px.line py.line a' b = true ∧ x.N[i]? = some nx ∧ x.N[j]? = some ny ∧ i ≠ j := by
  unfold parA at h
  split at h
  · obtain ⟨h1, h2⟩ := grd_some h
    simp only [Bool.and_eq_true, decide_eq_true_eq] at h1
    exact ⟨_, _, _, _, _, _, _, _, _, _, _, rfl, h2.symm, h1.1, h1.2.1, h1.2.2.1, h1.2.2.2⟩
  · cases h
theorem sns_par {i j : Nat} {ys : Ex} (s2 : Snd c T Xr K.x ys) : SndS c T Xr K (.par i j ys) := by
  refine SndS.mkO (fun _ _ => rfl) fun a M o h => ?_
  obtain ⟨as, h1, h⟩ := Option.bind_eq_some_iff.mp h
  obtain ⟨M1, h2, h⟩ := Option.bind_eq_some_iff.mp h
  obtain ⟨rfl, st, xo⟩ := fall_inv h
  obtain ⟨nx, px, ny, py, kt, pt, a', b, k2, pt2, pos, rfl, rfl, hw, hi, hj, ne⟩ := parA_inv h1
  obtain ⟨⟨l, nn⟩, k⟩ := s2.s _ _ M M1 h2
  refine ⟨fun M' e => by cases e; exact st, fun n ok X W g σ H δ F D r po => ?_⟩
  have gn := g.gx.gn
  have sw := swp_eq (kt := kt) (pt := pt) (k2 := k2) (pt2 := pt2) gn g.kind hw
  have hb := hw
  unfold swpB at hb
  simp only [Bool.and_eq_true, decide_eq_true_eq] at hb
  have lx : X.env.scope.names.lookup nx = some .local := by rw [gn.hs]; exact hb.1
  have ly : X.env.scope.names.lookup ny = some .local := by rw [gn.hs]; exact hb.2.1
  intro pins s I
  have hlen : M.length = K.x.N.length := by rw [← r.ls, ← gn.hN]; exact I.len
  have ml : M1.length = M.length := by
    have := l.1
    rw [exM_len, exM_len] at this
    exact this.symm
  refine SS.of (ps_par (i := i) (j := j) gn.calm (by rw [gn.hN]; exact gn.nd) (by rw [gn.hN]; exact hi) (by rw [gn.hN]; exact hj) ne lx ly (pa_S nn) sw) ?_ pins s I
  refine k n ok X W g.gx σ H δ F _ r ?_
  have po1 : PoS c n Xr W K M (some ((M1.set i (.mk .fz .free)).set j (.mk .fz .free))) σ F H (parV i j (evs T ys) δ) D := po
  unfold parV at po1
  cases hr : evs T ys δ with
  | no => rw [hr] at po1; exact po1
  | ex kk ds δ' => rw [hr] at po1; exact PoX.ofS po1 xo
  | ok ds δ1 =>
    rw [hr] at po1
    intro vs H1 F1 kp r1 rl
    clear hr
    match ds, po1, rl with
    | [d, d2], po1, rl =>
      have po2 : PoS c n Xr W K M (some ((M1.set i (.mk .fz .free)).set j (.mk .fz .free))) σ F H (S3.nx ((δ1.set i (some d)).set j (some d2))) D := po1
      obtain ⟨v, w, rfl, rv, rw'⟩ := list2 rl
      refine ⟨v, w, rfl, ?_⟩
      have il : i < M1.length := by rw [ml, hlen]; exact (List.getElem?_eq_some_iff.mp hi).1
      have jl : j < M1.length := by rw [ml, hlen]; exact (List.getElem?_eq_some_iff.mp hj).1
      obtain ⟨A, q⟩ := r1
      have q2 := (q.asgF il rv).asgF (i := j) (by rw [List.length_set]; exact jl) rw'
      refine po2 _ _ H1 F1 rfl kp (fun k m hk hm => ?_) ⟨_, q2⟩
      have hk' := st.2 k m hk hm
      have n2 : k ≠ j := fun e => by
        subst e
        rw [List.getElem?_set_self (by rw [List.length_set]; exact jl)] at hk'
        cases hk'; cases hm
      have n1 : k ≠ i := fun e => by
        subst e
        rw [List.getElem?_set_ne ne.symm, List.getElem?_set_self il] at hk'
        cases hk'; cases hm
      rw [List.getElem?_set_ne (Ne.symm n2), List.getElem?_set_ne (Ne.symm n1)]
    | [], po1, _ => exact (show False from po1).elim
    | [_], po1, _ => exact (show False from po1).elim
    | _ :: _ :: _ :: _, po1, _ => exact (show False from po1).elim
end
end Nc

set_option Elab.async false
set_option linter.all false
set_option autoImplicit false
set_option maxRecDepth 100000
set_option maxHeartbeats 4000000
/-! Soundness: every statement. -/
namespace Nc
open PySem PySem.Spec PyProof.Rows L2
section
variable {c : Cn} {T : Tb} {Xr : XrT}
theorem sns_all : ∀ (sm : Sm) (K : Kc), SndS c T Xr K sm := by
  have nn : ∀ {sm : Sm} {K : Kc}, (∀ as M, (chk2 K sm).s as M = none) → (∀ a M, (chk2 K sm).o a M = none) → SndS c T Xr K sm := fun h1 h2 =>
    ⟨fun as M o z => (by rw [h1] at z; cases z), fun a M o z => (by rw [h2] at z; cases z)⟩
  have sa := fun (e : Ex) (x : Sx) => snd_all (c := c) (T := T) (Xr := Xr) e x
  intro sm
  induction sm with
  | nil => exact fun K => sns_nil
  | cons s q ihs ihq => exact fun K => sns_cons (ihs K) (ihq K)
  | pas => exact fun K => sns_pas
  | brk => exact fun K => sns_brk
  | cnt => exact fun K => sns_cnt
  | doc => exact fun K => sns_doc
  | exp e => exact fun K => sns_exp (sa e _).1
  | set t e =>
    intro K
    match t with
    | [i] => exact sns_set (sa e _).1 fun el t it cd own _ => ⟨fun x => (sa it x).2, fun x => (sa cd x).1, fun x => (sa el x).1⟩
    | [] => exact sns_setT (fun _ z => nomatch z) (sa e _).1
    | _ :: _ :: _ => exact sns_setT (fun _ z => nomatch z) (sa e _).1
  | par i j es => exact fun K => sns_par (sa es _).1
  | aug i e => exact fun K => sns_aug (sa e _).1
  | sti i p k e => exact fun K => sns_sti (sa e _).1 (sa k _).1
  | sta i p f e => exact fun K => sns_sta (sa e _).1
  | ite k a b iha ihb => exact fun K => sns_ite (sa k _).1 (iha K) (ihb K)
  | whl k b ih => exact fun K => sns_whl (sa k _).1 ih
  | fr t it b ih => exact fun K => sns_fr (sa it _).2 ih
  | ret e => exact fun K => sns_ret (sa e _).1
  | retN => exact fun K => sns_retN
  | rse k es => exact fun K => sns_rse (sa es _).1
  | any => exact fun K => sns_any
  | tri b hs ih => exact fun K => sns_tri ih
  | att2 i f q e => exact fun K => nn (fun _ _ => rfl) (fun _ _ => rfl)
  | drp i => exact fun K => nn (fun _ _ => rfl) (fun _ _ => rfl)
end
end Nc

set_option Elab.async false
set_option linter.all false
set_option autoImplicit false
set_option maxRecDepth 100000
set_option maxHeartbeats 4000000
/-! A def's body keeps its promise. -/
namespace Nc
open PySem PySem.Spec PyProof.Rows L2
def pmM : Pm → Md
  | .fz => .mk .fz .free
  | .bo => .bo none
  | .io m => .mk m .io
def pmR : Pm → Md
  | .io m => .mk m .io
  | _ => .un
def mStart (ps : List Pm) (k : Nat) : Ms := ps.map pmM ++ List.replicate (k - ps.length) .un
def mEnd (ps : List Pm) (k : Nat) : Ms := ps.map pmR ++ List.replicate (k - ps.length) .un
def kcOf (x : Sx) (s : Sig) : Kc := ⟨x, s.res, mEnd s.ps x.N.length, none, none, mEnd s.ps x.N.length⟩
/-- the changed parameters' values -/
def ioD : List Pm → Env → List D
  | [], _ => []
  | .io _ :: ps, δ => ((δ[0]?).getD none).getD .non :: ioD ps δ.tail
  | _ :: ps, δ => ioD ps δ.tail
def eStart (k : Nat) (ds : List D) : Env := ds.map some ++ List.replicate (k - ds.length) none
/-- what a def gives -/
def fnD (T : Tb) (s : Sig) (sm : Sm) (k : Nat) : List D → Option Out := fun ds => match evS T sm (eStart k ds) with
  | .rt d δ => some (.val d (ioD s.ps δ))
  | .nx δ => some (.val .non (ioD s.ps δ))
  | .ex e xs δ => some (.exc e xs (ioD s.ps δ))
  | _ => none
/-- may the body's end be come to -/
def endOk (s : Sig) (k : Nat) : Option Ms → Bool
  | none => true
  | some M => decide (s.res = .fz) && leM (mEnd s.ps k) M
section
variable {c : Cn} {T : Tb} {Xr : XrT} {F F' : Fz} {H H' : Hp} {n : En}
theorem dis_flat {A : List Addr} {As : List (List Addr)} (h : Dis A As.flatten) {B : List Addr} (hB : B ∈ As) : Dis A B := fun a ha hb => h a ha (List.mem_flatten.mpr ⟨B, hB, hb⟩)
/-- the parameters' things, by slot -/
theorem arg_slots {AA : List Addr} : ∀ {ps : List Pm} {vs : List V} {ds : List D} {As : List (List Addr)}, ArgR c F H AA ps vs ds As → ∃ A : Nat → List Addr,
    (∀ i m, (ps.map pmM)[i]? = some m → SltR c ⟨F, H, AA⟩ F H m ((vs.map some)[i]?) ((ds.map some)[i]?) (A i)) ∧ (∀ i, (ps.map pmM)[i]? = none → A i = []) ∧ (∀ i j, i ≠ j → Dis (A i) (A j)) ∧ (∀ i, ∀ a ∈ A i, ¬ F a ∧ a ∈ As.flatten) ∧ (∀ i k y, (ps.map pmM)[i]? = some (.mk k y) → y ≠ .io → A i = []) ∧ ds.length = ps.length
  | _, _, _, _, .nil => ⟨fun _ => [], fun i m h => by simp at h, fun _ _ => rfl, fun _ _ _ _ h => (nomatch h), fun _ _ h => (nomatch h), fun _ _ _ _ _ => rfl, rfl⟩
  | _, _, _, _, .fz h r => by
    obtain ⟨A, h1, h2, h3, h4, h5, h6⟩ := arg_slots r
    refine ⟨fun i => match i with | 0 => [] | i + 1 => A i, fun i m hm => ?_, fun i hm => ?_, fun i j e => ?_, fun i a ha => ?_, fun i k y hm hy => ?_, by simp [h6]⟩
    · cases i with
      | zero => simp at hm; subst hm; exact ⟨_, _, rfl, rfl, .fz h⟩
      | succ i => exact h1 i m (by simpa using hm)
    · cases i with
      | zero => rfl
      | succ i => exact h2 i (by simpa using hm)
    · cases i with
      | zero => exact fun _ z => (nomatch z)
      | succ i => cases j with
        | zero => exact fun _ _ z => (nomatch z)
        | succ j => exact h3 i j fun z => e (by rw [z])
    · cases i with
      | zero => cases ha
      | succ i => exact h4 i a ha
    · cases i with
      | zero => rfl
      | succ i => exact h5 i k y (by simpa using hm) hy
  | _, _, _, _, .bo (B := B) h nn r => by
    obtain ⟨A, h1, h2, h3, h4, h5, h6⟩ := arg_slots r
    refine ⟨fun i => match i with | 0 => [] | i + 1 => A i, fun i m hm => ?_, fun i hm => ?_, fun i j e => ?_, fun i a ha => ?_, fun i k y hm hy => ?_, by simp [h6]⟩
    · cases i with
      | zero => simp at hm; subst hm; exact ⟨rfl, _, _, B, rfl, rfl, h, nn⟩
      | succ i => exact h1 i m (by simpa using hm)
    · cases i with
      | zero => rfl
      | succ i => exact h2 i (by simpa using hm)
    · cases i with
      | zero => exact fun _ z => (nomatch z)
      | succ i => cases j with
        | zero => exact fun _ _ z => (nomatch z)
        | succ j => exact h3 i j fun z => e (by rw [z])
    · cases i with
      | zero => cases ha
      | succ i => exact h4 i a ha
    · cases i with
      | zero => rfl
      | succ i => exact h5 i k y (by simpa using hm) hy
  | _, _, _, _, .io (A := B) h nn nf r => by
    obtain ⟨A, h1, h2, h3, h4, h5, h6⟩ := arg_slots r
    refine ⟨fun i => match i with | 0 => B | i + 1 => A i, fun i m hm => ?_, fun i hm => ?_, fun i j e => ?_, fun i a ha => ?_, fun i k y hm hy => ?_, by simp [h6]⟩
    · cases i with
      | zero => simp at hm; subst hm; exact ⟨_, _, rfl, rfl, h⟩
      | succ i => exact h1 i m (by simpa using hm)
    · cases i with
      | zero => simp at hm
      | succ i => exact h2 i (by simpa using hm)
    · cases i with
      | zero => cases j with
        | zero => exact absurd rfl e
        | succ j => exact fun a ha hb => nn a ha (h4 j a hb).2
      | succ i => cases j with
        | zero => exact fun a ha hb => nn a hb (h4 i a ha).2
        | succ j => exact h3 i j fun z => e (by rw [z])
    · cases i with
      | zero => exact ⟨nf a ha, by rw [List.flatten_cons]; exact List.mem_append_left _ ha⟩
      | succ i => exact ⟨(h4 i a ha).1, by rw [List.flatten_cons]; exact List.mem_append_right _ (h4 i a ha).2⟩
    · cases i with
      | zero =>
        simp at hm
        have : pmM (.io _) = Md.mk k y := hm
        cases this
        exact absurd rfl hy
      | succ i => exact h5 i k y (by simpa using hm) hy
/-- where the arguments to be changed stand -/
theorem arg_ok {AA : List Addr} : ∀ {ps : List Pm} {vs : List V} {ds : List D} {As : List (List Addr)}, ArgR c F H AA ps vs ds As → ∀ a ∈ As.flatten, ¬ F a ∧ ∃ o, H a = some o ∧ Ok1 o
  | _, _, _, _, .nil, a, h => by simp at h
  | _, _, _, _, .fz h r, a, ha => arg_ok r a ha
  | _, _, _, _, .bo h nn r, a, ha => arg_ok r a ha
  | _, _, _, _, .io h nn nf r, a, ha => by
    rw [List.flatten_cons, List.mem_append] at ha
    exact ha.elim (fun z => ⟨nf a z, h.at_ a z⟩) fun z => arg_ok r a z
end
end Nc

set_option Elab.async false
set_option linter.all false
set_option autoImplicit false
set_option maxRecDepth 100000
set_option maxHeartbeats 4000000
/-! A def's entry and end. -/
namespace Nc
open PySem PySem.Spec PyProof.Rows L2
section
variable {c : Cn} {T : Tb} {Xr : XrT} {F F' : Fz} {H H' : Hp} {n : En} {X : Cx} {W : WX}
theorem pad_get {α : Type} {xs : List α} {k : Nat} {z : α} {i : Nat} (hk : xs.length ≤ k) : (xs ++ List.replicate (k - xs.length) z)[i]? = if i < xs.length then xs[i]? else if i < k then some z else none := by
  by_cases h : i < xs.length
  · rw [if_pos h, List.getElem?_append_left h]
  · rw [if_neg h, List.getElem?_append_right (by omega), List.getElem?_replicate]
    by_cases h2 : i < k
    · rw [if_pos h2, if_pos (by omega)]
    · rw [if_neg h2, if_neg (by omega)]
theorem mStart_get {ps : List Pm} {k i : Nat} (hk : ps.length ≤ k) : (mStart ps k)[i]? = if i < ps.length then (ps.map pmM)[i]? else if i < k then some .un else none := by
  have := pad_get (xs := ps.map pmM) (z := Md.un) (k := k) (i := i) (by simpa using hk)
  rw [List.length_map] at this
  exact this
theorem mEnd_get {ps : List Pm} {k i : Nat} (hk : ps.length ≤ k) : (mEnd ps k)[i]? = if i < ps.length then (ps.map pmR)[i]? else if i < k then some .un else none := by
  have := pad_get (xs := ps.map pmR) (z := Md.un) (k := k) (i := i) (by simpa using hk)
  rw [List.length_map] at this
  exact this
theorem start_rs {ps : List Pm} {vs : List V} {ds : List D} {As : List (List Addr)} {N : List Str} (fk : Fok F H) (r : ArgR c F H As.flatten ps vs ds As) (hk : ps.length ≤ N.length) :
    (⟨F, H, As.flatten⟩ : En).Ok ∧ RS c ⟨F, H, As.flatten⟩ F (mStart ps N.length) (start N vs) H (eStart N.length ds) := by
  have hl := r.len
  obtain ⟨A, h1, h2, h3, h4, h5, h6⟩ := arg_slots r
  refine ⟨⟨fk, fun a h => arg_ok r a h⟩, A, ⟨?_, ?_, fun i m hm => ?_, fun i hm => ?_, h3, fun i a h => ⟨(h4 i a h).1, .inr (h4 i a h).2⟩, fun i k y hm hy a ha => ?_, fun a o e _ => e, fun a h z => ?_, fk, fun a h => h, fun a h => .inl h⟩⟩
  · unfold L2.start mStart
    rw [List.length_append, List.length_append, List.length_map, List.length_map, List.length_replicate, List.length_replicate, hl]
  · unfold eStart mStart
    rw [List.length_append, List.length_append, List.length_map, List.length_map, List.length_replicate, List.length_replicate, h6]
  · rw [mStart_get hk] at hm
    by_cases hi : i < ps.length
    · rw [if_pos hi] at hm
      have := h1 i m hm
      have e1 : (start N vs)[i]? = (vs.map some)[i]? := by
        unfold L2.start
        rw [List.getElem?_append_left (by rw [List.length_map, hl]; exact hi)]
      have e2 : (eStart N.length ds)[i]? = (ds.map some)[i]? := by
        unfold eStart
        rw [List.getElem?_append_left (by rw [List.length_map, h6]; exact hi)]
      rw [e1, e2]
      exact this
    · rw [if_neg hi] at hm
      have : m = .un := by
        split at hm
        · exact (Option.some.inj hm).symm
        · cases hm
      subst this
      exact h2 i (by rw [List.getElem?_eq_none (by simpa using hi)])
  · rw [mStart_get hk] at hm
    by_cases hi : i < ps.length
    · rw [if_pos hi] at hm; exact h2 i hm
    · exact h2 i (by rw [List.getElem?_eq_none (by simpa using hi)])
  · rw [mStart_get hk] at hm
    by_cases hi : i < ps.length
    · rw [if_pos hi] at hm
      rw [h5 i k y hm hy] at ha
      cases ha
    · rw [if_neg hi] at hm
      split at hm <;> cases hm
  · obtain ⟨_, o, e, _⟩ := arg_ok r a h
    have z : H a = none := z
    rw [z] at e; cases e
/-- the end, by slots: what the changed parameters hold -/
theorem end_io {σ : L2.St} {δ : Env} {M : Ms} (A : Nat → List Addr) (dj : ∀ i j, i ≠ j → Dis (A i) (A j)) : ∀ (ps : List Pm) (vs : List V) (j : Nat), vs.length = ps.length →
    (∀ i m, ps[i]? = some (.io m) → SltR c n F H (.mk m .io) (σ[j + i]?) (δ[i]?) (A (j + i))) → (∀ (i : Nat) (m : Mk) (v : V), ps[i]? = some (.io m) → vs[i]? = some v → σ[j + i]? = some (some v)) →
    ∃ As, IoR c F H ps vs (ioD ps δ) As ∧ ∀ a, a ∈ As.flatten → ∃ i, j ≤ i ∧ a ∈ A i
  | [], [], j, _, _, _ => ⟨[], .nil, fun a h => by simp at h⟩
  | [], _ :: _, _, h, _, _ => by cases h
  | _ :: _, [], _, h, _, _ => by cases h
  | p :: ps, v :: vs, j, hl, hs, hv => by
    have sft : ∀ (i : Nat), j + (i + 1) = j + 1 + i := fun i => by omega
    obtain ⟨As, h1, h2⟩ := end_io (δ := δ.tail) (σ := σ) (M := M) A dj ps vs (j + 1) (by simpa using hl) (fun i m h => by
      have := hs (i + 1) m (by simpa using h)
      rw [sft] at this
      have e : δ.tail[i]? = δ[i + 1]? := by rw [List.getElem?_tail]
      rw [e]
      exact this) (fun i m v h h' => by
      have := hv (i + 1) m v (by simpa using h) (by simpa using h')
      rw [sft] at this
      exact this)
    cases p with
    | fz => exact ⟨As, .fz h1, fun a h => let ⟨i, h3, h4⟩ := h2 a h; ⟨i, by omega, h4⟩⟩
    | bo => exact ⟨As, .bo h1, fun a h => let ⟨i, h3, h4⟩ := h2 a h; ⟨i, by omega, h4⟩⟩
    | io m =>
      obtain ⟨w, d, e1, e2, o⟩ := hs 0 m rfl
      have e3 := hv 0 m v rfl rfl
      rw [e3] at e1
      cases e1
      have ed : ((δ[0]?).getD none).getD .non = d := by rw [e2]; rfl
      refine ⟨A (j + 0) :: As, ?_, fun a h => ?_⟩
      · show IoR c F H (.io m :: ps) (v :: vs) (((δ[0]?).getD none).getD .non :: ioD ps δ.tail) _
        rw [ed]
        refine .io o (fun a ha hb => ?_) h1
        obtain ⟨i, h3, h4⟩ := h2 a hb
        exact dj (j + 0) i (by omega) a ha h4
      · rw [List.flatten_cons, List.mem_append] at h
        rcases h with h | h
        · exact ⟨j + 0, by omega, h⟩
        · obtain ⟨i, h3, h4⟩ := h2 a h; exact ⟨i, by omega, h4⟩
end
end Nc

set_option Elab.async false
set_option linter.all false
set_option autoImplicit false
set_option maxRecDepth 100000
set_option maxHeartbeats 4000000
/-! A def's body keeps its promise. -/
namespace Nc
open PySem PySem.Spec PyProof.Rows L2
section
variable {c : Cn} {T : Tb} {Xr : XrT} {F F' : Fz} {H H' : Hp} {n : En} {X : Cx} {W : WX}
theorem post_of {ps : List Pm} {vs : List V} {AA : List Addr} {N : List Str} {σ' : L2.St} {δ' : Env} {A : Nat → List Addr} (hk : ps.length ≤ N.length) (hl : vs.length = ps.length) (r : RX c ⟨F, H, AA⟩ F' (mEnd ps N.length) σ' H' δ' A) (kp : Kp F H F' H') (ks : KpS (mStart ps N.length) (L2.start N vs) σ') :
    ∃ As', PostR c F H AA ps vs (ioD ps δ') F' H' As' ∧ ∀ a, a ∈ As'.flatten → ∃ i, a ∈ A i := by
  obtain ⟨As', h1, h2⟩ := end_io (n := ⟨F, H, AA⟩) (σ := σ') (δ := δ') (M := []) A r.dj ps vs 0 hl (fun i m hp => by
    have hi : i < ps.length := (List.getElem?_eq_some_iff.mp hp).1
    rw [Nat.zero_add]
    refine r.sl i _ ?_
    rw [mEnd_get hk, if_pos hi, List.getElem?_map, hp]
    rfl) (fun i m v hp hv => by
    have hi : i < ps.length := (List.getElem?_eq_some_iff.mp hp).1
    rw [Nat.zero_add]
    have e := ks i (.mk m .io) (by rw [mStart_get hk, if_pos hi, List.getElem?_map, hp]; rfl) rfl
    rw [e]
    unfold L2.start
    rw [List.getElem?_append_left (by rw [List.length_map, hl]; exact hi), List.getElem?_map, hv]
    rfl)
  refine ⟨As', ⟨kp, r.fk, r.f1, r.kp, r.st, h1, fun a ha => ?_⟩, fun a ha => let ⟨i, _, h⟩ := h2 a ha; ⟨i, h⟩⟩
  obtain ⟨i, _, h⟩ := h2 a ha
  exact r.ow i a h
theorem body_ok {s : Sig} {sm : Sm} {x : Sx} {body : List Stmt} {o : Option Ms} {E : XK} {Q : VK} {vs : List V} (hk : s.ps.length ≤ x.N.length) (hck : (chk2 (kcOf x s) sm).s body (mStart s.ps x.N.length) = some o) (he : endOk s x.N.length o = true)
    (g : Gs X x c T Xr (fun cls d _ H => E cls d H)) (h : spF c Xr s (fnD T s sm x.N.length) vs H Q E) : SSs X body { nx := fun _ H' => Q .non H', rt := Q } (L2.start x.N vs) H := by
  obtain ⟨F, ds, As, fk, r, q⟩ := h
  obtain ⟨ok, rs⟩ := start_rs (N := x.N) fk r hk
  have hl := r.len
  refine ((sns_all (c := c) (T := T) (Xr := Xr) sm (kcOf x s)).s body _ o hck).2 _ ok X _ g _ H (eStart x.N.length ds) F _ rs ?_
  unfold fnD at q
  cases hr : evS T sm (eStart x.N.length ds) with
  | no => rw [hr] at q; exact q
  | bk δ => rw [hr] at q; exact q.elim
  | ct δ => rw [hr] at q; exact q.elim
  | nx δ =>
    rw [hr] at q
    intro M' σ' H' F' e kp ks r2
    subst e
    unfold endOk at he
    have he : (decide (s.res = .fz) && leM (mEnd s.ps x.N.length) M') = true := he
    rw [Bool.and_eq_true, decide_eq_true_eq] at he
    obtain ⟨A, r3⟩ := r2.weak (leM_ok he.2)
    obtain ⟨As', p, _⟩ := post_of hk hl r3 kp ks
    refine q .non F' H' As' p ?_
    unfold ResR
    rw [if_pos he.1]
    exact .non
  | rt d δ =>
    rw [hr] at q
    intro v σ' H' F' kp ks rt
    obtain ⟨A, r3, z⟩ := rt
    obtain ⟨As', p, hA⟩ := post_of hk hl r3 kp ks
    refine q v F' H' As' p ?_
    unfold ResR
    unfold resT at z
    by_cases hm : s.res = .fz
    · rw [if_pos hm]
      have z' : (match (if (kcOf x s).res = .fz then Ty.sh else .fr (kcOf x s).res) with
        | .sh => Rep c.cl F' H' v d ∧ isB .non = false
        | .fr m => ∃ B, Own c F' H' m v d B ∧ (∀ i, Dis (A i) B) ∧ ∀ a ∈ B, ¬ F' a ∧ H a = none
        | .bo => ∃ i, Ex.non = .b i ∧ σ'[i]? = some (some v)
        | .bp => isB .non = false ∧ ∃ B, R1 c F' H' v d B) := z
      rw [if_pos (show (kcOf x s).res = .fz from hm)] at z'
      exact z'.1
    · rw [if_neg hm]
      have z' : (match (if (kcOf x s).res = .fz then Ty.sh else .fr (kcOf x s).res) with
        | .sh => Rep c.cl F' H' v d ∧ isB .non = false
        | .fr m => ∃ B, Own c F' H' m v d B ∧ (∀ i, Dis (A i) B) ∧ ∀ a ∈ B, ¬ F' a ∧ H a = none
        | .bo => ∃ i, Ex.non = .b i ∧ σ'[i]? = some (some v)
        | .bp => isB .non = false ∧ ∃ B, R1 c F' H' v d B) := z
      rw [if_neg (show ¬ (kcOf x s).res = .fz from hm)] at z'
      obtain ⟨B, ow, dj, h0⟩ := z'
      refine ⟨B, ow, fun a ha hb => ?_, h0⟩
      obtain ⟨i, hi⟩ := hA a hb
      exact dj i a hi ha
  | ex k xs δ =>
    rw [hr] at q
    intro cls dx σ' H' F' kp ks r2 xr
    obtain ⟨A, r3⟩ := r2
    obtain ⟨As', p, _⟩ := post_of hk hl r3 kp ks
    exact q cls dx F' H' As' p xr
end
end Nc

set_option Elab.async false
set_option linter.all false
set_option autoImplicit false
set_option maxRecDepth 100000
set_option maxHeartbeats 4000000
/-! Calls by what the defs promise. -/
namespace Nc
open PySem PySem.Spec PyProof.Rows L2
section
variable {c : Cn} {T : Tb} {Xr : XrT} {X : Cx} {W : WX} {x : Sx} {k : Nat} {f C : Addr} {fd : FuncData} {ps : List Str} {sp : Sp} {dvs : List V} {ds : List Value} {σ : L2.St} {H : Hp} {Q : VK} {nm m : Str} {p pos apos : Pos} {e o : Expr} {es : List Expr}
theorem run_fnS {pins : List (Addr × Obj)} {s : Shared} {us : List Value} {vs : List V} (F : FnOk X.prog X.w X.K X.mg X.base (CX X.prog X.w) k f fd ps sp) (hr : Room k X.A) (hb : Binds X.K fd ps ds) (hd : Vals dvs ds) (tk : Takes X W)
    (I : Inv X pins σ H s) (r : Vals vs us) (h : sp (vs ++ dvs) H Q fun cls d H' => W cls d σ H') : wpAny (model X.prog X.w) X.A (call (.ref f) us) (EP X pins σ Q) X.xe s := by
  have r2 : Vals (vs ++ dvs) (us ++ ds) := r.append hd
  have hl : (us ++ ds).length = ps.length := by rw [← r2.length]; exact F.len _ _ _ _ h
  refine wpAny_call (codeAny_mono (F.run X.A X.stack s H ⟨us, []⟩ (us ++ ds) (vs ++ dvs) Q _ hr I.env0 (hb s us I.kIn hl) r2 h) fun r s' hq => ?_)
  cases r with
  | error e => exact tk e s' (XE.of_call I (fun cls d H' h => h) hq)
  | ok fl =>
    cases fl with
    | ret u => exact I.after hq
    | next => exact False.elim hq
    | brk => exact False.elim hq
    | cont => exact False.elim hq
/-- f(..) -/
theorem se_call (F : FnOk X.prog X.w X.K X.mg X.base (CX X.prog X.w) k f fd ps sp) (hr : Room k X.A) (hg : Gl X nm) (hm : X.mg nm = some (.ref f)) (hk : PySem.W.keepIn X.K (.ref f) = true) (hb : Binds X.K fd ps ds) (hd : Vals dvs ds) (tk : Takes X W)
    (hdb : (nm == ("__debug__" : Str)) = false) (hn : es.all nst = true) (h : SEs X es σ H fun vs H1 => sp (vs ++ dvs) H1 Q fun cls d H' => W cls d σ H') : SE X (.Call (.Name nm p) es [] pos) σ H Q := by
  cases es with
  | nil =>
    intro pins s I
    refine wpAny_Call_Name_kw (ld_glob I hg hm ?_ hdb)
    exact PySem.W.callWith_K0 I.kIn hk (run_fnS (us := []) (vs := []) F hr hb hd tk I .nil h)
  | cons e es =>
    intro pins s I
    refine wpAny_Call_Name_kw (ld_glob I hg hm ?_ hdb)
    refine PySem.W.callWith_K (h₀ := X.base) I.ok.mod.kin hk (thn ((pa_S hn).run pos pins s σ H _ I h) fun us s1 ⟨vs, H1, I1, r, q⟩ => ⟨I1.kIn, ?_⟩) (nst_each (nst_one hn) _) (plain_of hn)
    exact run_fnS F hr hb hd tk I1 r q
/-- o.m(..) -/
theorem se_meth {pl : Sem Bool} (c' : Cls X.K C) (hm : Meth X.K C m f) (F : FnOk X.prog X.w X.K X.mg X.base (CX X.prog X.w) k f fd ps sp) (hr : Room k X.A) (hb : Binds X.K fd ps ds) (hd : Vals dvs ds) (tk : Takes X W) (hn : es.all nst = true)
    (ht : eval (.Call (.Attribute o m apos) es [] pos) X.env = (do
      let ov ← eval o X.env
      standAt apos.atName
      let (f, first) ← holding [ov] (getMethod ov m pl)
      callWith pos f first (backTo pos (starEach es X.env)) (backToKw pos (keywordEach [] X.env))))
    (h : SE X o σ H fun v H1 => ∃ a dx gs, v = .ref a ∧ H1 a = some (.ins C dx gs) ∧ gs.lookup m = none ∧ SEs X es σ H1 fun vs H2 => sp (v :: (vs ++ dvs)) H2 Q fun cls d H' => W cls d σ H') : SE X (.Call (.Attribute o m apos) es [] pos) σ H Q := by
  intro pins s I
  refine PySem.W.methodCall_KW (pl := pl) (thn (h pins s I) fun u s1 ⟨x, H1, I1, rx, a, dx, fs, ex, ea, l, q⟩ => ?_) ht
  subst ex
  obtain rfl : u = Value.ref a := rx
  refine getmeth_ok I1 ea c' hm l ?_
  cases es with
  | nil => exact PySem.W.callWith_K0 (first := [.ref a]) I1.kIn hm.kp (run_fnS (us := [.ref a]) (vs := [.ref a]) F hr hb hd tk I1 (.cons rfl .nil) q)
  | cons e es =>
    refine PySem.W.callWith_K (first := [.ref a]) (h₀ := X.base) I1.ok.mod.kin hm.kp (thn ((pa_S hn).run pos pins s1 σ H1 _ I1 q) fun us s2 ⟨vs, H2, I2, r, q2⟩ => ⟨I2.kIn, ?_⟩) (nst_each (nst_one hn) _) (plain_of hn)
    exact run_fnS (us := .ref a :: us) (vs := .ref a :: vs) F hr hb hd tk I2 (.cons rfl r) q2
end
end Nc

set_option Elab.async false
set_option linter.all false
set_option autoImplicit false
set_option maxRecDepth 100000
set_option maxHeartbeats 4000000
/-! A class made: what __init__ promises, turned. -/
namespace Nc
open PySem PySem.Spec PyProof.Rows L2
def isIo : Pm → Bool
  | .io _ => true
  | _ => false
/-- what making an instance of k gives, by its __init__ -/
def conD (k : Str) (f : List D → Option Out) : List D → Option Out := fun ds => match f (.ins k [] :: ds) with
  | some (.val .non (d :: ios)) => some (.val d ios)
  | some (.exc e xs (_ :: ios)) => some (.exc e xs ios)
  | _ => none
section
variable {c : Cn} {T : Tb} {Xr : XrT} {X : Cx} {W : WX} {x : Sx} {k : Nat} {f C : Addr} {fd : FuncData} {ps : List Str} {sp : Sp} {dvs : List V} {ds : List Value} {F : Fz} {σ : L2.St} {H : Hp} {Q : VK} {E : XK} {nm m : Str} {p pos apos : Pos} {e o : Expr} {es : List Expr}
theorem args_noio {AA : List Addr} : ∀ {ps : List Pm} {vs : List V} {ds : List D} {As : List (List Addr)}, ArgR c F H AA ps vs ds As → (∀ p ∈ ps, isIo p = false) → As = [] ∧ ∀ H' AA', Fok F H → Ext H H' → (∀ a ∈ AA', H a = none) → ArgR c F H' AA' ps vs ds []
  | _, _, _, _, .nil, _ => ⟨rfl, fun _ _ _ _ _ => .nil⟩
  | _, _, _, _, .fz h r, hp => by
    obtain ⟨e, q⟩ := args_noio r fun p hpp => hp p (List.mem_cons_of_mem _ hpp)
    exact ⟨e, fun H' AA' fk ex ha => .fz (h.mono (Kp.ext fk ex)) (q H' AA' fk ex ha)⟩
  | _, _, _, _, .bo h n r, hp => by
    obtain ⟨e, q⟩ := args_noio r fun p hpp => hp p (List.mem_cons_of_mem _ hpp)
    refine ⟨e, fun H' AA' fk ex ha => .bo (h.mono (Kp.ext fk ex) fun a hb => ?_) (fun a hb hc => ?_) (q H' AA' fk ex ha)⟩
    · obtain ⟨o, e, _⟩ := h.at_ a hb
      rw [e]; exact ex a o e
    · obtain ⟨o, e, _⟩ := h.at_ a hb
      rw [ha a hc] at e; cases e
  | _, _, _, _, .io h n nf r, hp => by
    have := hp _ List.mem_cons_self
    cases this
theorem con_ok {s : Sig} {kn : Str} {g : List D → Option Out} {vs : List V} (hc : c.cl kn = some C) (hI : isI s.res = true) (hp : ∀ p ∈ s.ps, isIo p = false) (h : spF c Xr s (conD kn g) vs H Q E) (a dx : Addr) (ha : H a = none) (hd : H dx = none) (ne : dx ≠ a) :
    spF c Xr ⟨.io s.res :: s.ps, .fz⟩ g (.ref a :: vs) (upd (upd H dx (.own a)) a (.ins C dx [])) (fun v H2 => v = .non ∧ Q (.ref a) H2) E := by
  obtain ⟨F, ds, As, fk, r, q⟩ := h
  obtain ⟨rfl, r2⟩ := args_noio r hp
  have ex1 : Ext H (upd H dx (.own a)) := Ext.new hd
  have ex2 : Ext (upd H dx (.own a)) (upd (upd H dx (.own a)) a (.ins C dx [])) := Ext.new (by rw [upd_ne (Ne.symm ne)]; exact ha)
  have ex := ex1.trans ex2
  have kp := Kp.ext fk ex
  have hn : s.res ≠ .fz := fun z => by rw [z] at hI; cases hI
  have no : ∀ b, (upd (upd H dx (.own a)) a (.ins C dx [])) b = none → H b = none := fun b e => by
    cases h : H b with
    | none => rfl
    | some o => rw [ex b o h] at e; cases e
  have fk2 : Fok F (upd (upd H dx (.own a)) a (.ins C dx [])) := fk.upd.upd
  have nfa : ¬ F a := fun f => by obtain ⟨o, e⟩ := fk a f; rw [ha] at e; cases e
  refine ⟨F, .ins kn [] :: ds, [[a]], fk2, ?_, ?_⟩
  · refine .io (.ins hI hc upd_same .nil (fun z => nomatch z)) (fun _ _ z => (nomatch z)) (fun b hb => ?_) ?_
    · obtain rfl := List.mem_singleton.mp hb
      exact nfa
    · refine r2 _ _ fk ex fun b hb => ?_
      have : b ∈ [[a]].flatten := hb
      rw [List.flatten_cons, List.flatten_nil, List.append_nil] at this
      obtain rfl := List.mem_singleton.mp this
      exact ha
  · unfold conD at q
    have memA : ∀ b, b ∈ ([[a]] : List (List Addr)).flatten ↔ b = a := fun b => by rw [List.flatten_cons, List.flatten_nil, List.append_nil]; exact List.mem_singleton
    have back : ∀ {ios : List D} {d : D} {F' : Fz} {H' : Hp} {As' : List (List Addr)}, PostR c F (upd (upd H dx (.own a)) a (.ins C dx [])) ([[a]] : List (List Addr)).flatten (.io s.res :: s.ps) (.ref a :: vs) (d :: ios) F' H' As' →
        ∃ A As2, As' = A :: As2 ∧ PostR c F H ([] : List (List Addr)).flatten s.ps vs ios F' H' As2 ∧ ResR c H s.res F' H' As2 (.ref a) d := fun {ios d F' H' As'} p => by
      obtain ⟨p1, p2, p3, p4, p5, p6, p7⟩ := p
      cases p6 with
      | @io _ _ _ _ _ _ As2 A o n r =>
        have own : ∀ b, b ∈ (A :: As2).flatten → ¬ F' b ∧ H b = none := fun b hb => by
          obtain ⟨h1, h2⟩ := p7 b hb
          refine ⟨h1, h2.elim (no b) fun z => ?_⟩
          rw [(memA b).mp z]; exact ha
        refine ⟨A, As2, rfl, ⟨kp.trans p1, p2, fun b f => (p3 b f).imp (fun h => h) (no b), fun b o e _ => ?_, fun b hb => (nomatch (show b ∈ ([] : List Addr) from hb)), r, fun b hb => ?_⟩, ?_⟩
        · refine p4 b o (ex b o e) fun z => ?_
          rw [(memA b).mp z, ha] at e; cases e
        · obtain ⟨h1, h2⟩ := own b (by rw [List.flatten_cons]; exact List.mem_append_right _ hb)
          exact ⟨h1, .inl h2⟩
        · unfold ResR
          rw [if_neg hn]
          exact ⟨A, o, n, fun b hb => own b (by rw [List.flatten_cons]; exact List.mem_append_left _ hb)⟩
    cases hg : g (.ins kn [] :: ds) with
    | none => rw [hg] at q; exact q.elim
    | some out =>
      rw [hg] at q
      cases out with
      | val d ios =>
        cases d with
        | non =>
          cases ios with
          | nil => exact q.elim
          | cons d ios =>
            intro v F' H' As' p rr
            obtain ⟨A, As2, rfl, p2, r3⟩ := back p
            unfold ResR at rr
            rw [if_pos rfl] at rr
            exact ⟨by cases rr; rfl, q (.ref a) F' H' As2 p2 r3⟩
        | _ => exact (show False from q).elim
      | exc k xs ios =>
        cases ios with
        | nil => exact q.elim
        | cons d ios =>
          intro cls dx' F' H' As' p xr
          obtain ⟨A, As2, rfl, p2, _⟩ := back p
          exact q cls dx' F' H' As2 p2 xr
end
end Nc

set_option Elab.async false
set_option linter.all false
set_option autoImplicit false
set_option maxRecDepth 100000
set_option maxHeartbeats 4000000
/-! A class made; a def by its body; the table. -/
namespace Nc
open PySem PySem.Spec PyProof.Rows L2
section
variable {c : Cn} {T : Tb} {Xr : XrT} {X : Cx} {W : WX} {x : Sx} {k : Nat} {f C : Addr} {fd : FuncData} {ps : List Str} {sp : Sp} {dvs : List V} {ds : List Value} {F : Fz} {σ : L2.St} {H : Hp} {Q : VK} {E : XK} {nm m : Str} {p pos apos : Pos} {e o : Expr} {es : List Expr}
theorem run_makeS {pins : List (Addr × Obj)} {s : Shared} {us : List Value} {vs : List V} (M : L2.Mk X.K C f) (F : FnOk X.prog X.w X.K X.mg X.base (CX X.prog X.w) k f fd ps sp) (hr : Room (k + 1) X.A) (hb : Binds X.K fd ps ds) (hd : Vals dvs ds) (tk : Takes X W)
    (I : Inv X pins σ H s) (r : Vals vs us)
    (h : ∀ x dx, H x = none → H dx = none → dx ≠ x → sp (.ref x :: (vs ++ dvs)) (upd (upd H dx (.own x)) x (.ins C dx [])) (fun v H2 => v = .non ∧ Q (.ref x) H2) fun cls d H' => W cls d σ H') :
    wpAny (model X.prog X.w) X.A (call (.ref C) us) (EP X pins σ Q) X.xe s := by
  have hq := h (s.heap.objs.size + 1) s.heap.objs.size (I.hok.fresh (Nat.le_succ _)) (I.hok.fresh (Nat.le_refl _)) (Nat.ne_of_lt (Nat.lt_succ_self _))
  have I2 := Inv.made (C := C) I
  have r2 : Vals (V.ref (s.heap.objs.size + 1) :: (vs ++ dvs)) (Value.ref (s.heap.objs.size + 1) :: (us ++ ds)) := .cons rfl (r.append hd)
  have hl : (Value.ref (s.heap.objs.size + 1) :: us ++ ds).length = ps.length := by
    have e := r2.length
    rw [F.len _ _ _ _ hq] at e
    exact e.symm
  refine wpAny_call (make_map (f := f) I.kIn M.makes M.init (beq_iff_eq.mp M.fn) (codeAny_mono (F.run _ X.stack _ _ ⟨Value.ref (s.heap.objs.size + 1) :: us, []⟩ (Value.ref (s.heap.objs.size + 1) :: (us ++ ds)) _ _ _ (hr.make C us [])
    (I2.env0.make C us []) (hb _ (Value.ref (s.heap.objs.size + 1) :: us) I2.kIn hl) r2 hq) fun r s' hq' => ?_))
  cases r with
  | error e => exact tk e s' (XE.of_call I2 (fun cls d H' h => h) hq')
  | ok fl =>
    cases fl with
    | ret u =>
      obtain ⟨v, H', I3, rv, ev, q3⟩ := I2.after hq'
      subst ev
      exact ⟨rv, ⟨V.ref (s.heap.objs.size + 1), H', I3, rfl, q3⟩⟩
    | next => exact False.elim hq'
    | brk => exact False.elim hq'
    | cont => exact False.elim hq'
/-- C(..) -/
theorem se_make (M : L2.Mk X.K C f) (F : FnOk X.prog X.w X.K X.mg X.base (CX X.prog X.w) k f fd ps sp) (hr : Room (k + 1) X.A) (hg : Gl X nm) (hm : X.mg nm = some (.ref C)) (hb : Binds X.K fd ps ds) (hd : Vals dvs ds) (tk : Takes X W)
    (hdb : (nm == ("__debug__" : Str)) = false) (hn : es.all nst = true)
    (h : SEs X es σ H fun vs H1 => ∀ x dx, H1 x = none → H1 dx = none → dx ≠ x → sp (.ref x :: (vs ++ dvs)) (upd (upd H1 dx (.own x)) x (.ins C dx [])) (fun v H2 => v = .non ∧ Q (.ref x) H2) fun cls d H' => W cls d σ H') : SE X (.Call (.Name nm p) es [] pos) σ H Q := by
  cases es with
  | nil =>
    intro pins s I
    refine wpAny_Call_Name_kw (ld_glob I hg hm ?_ hdb)
    exact PySem.W.callWith_K0 I.kIn M.kp (run_makeS (us := []) (vs := []) M F hr hb hd tk I .nil h)
  | cons e es =>
    intro pins s I
    refine wpAny_Call_Name_kw (ld_glob I hg hm ?_ hdb)
    refine PySem.W.callWith_K (h₀ := X.base) I.ok.mod.kin M.kp (thn ((pa_S hn).run pos pins s σ H _ I h) fun us s1 ⟨vs, H1, I1, r, q⟩ => ⟨I1.kIn, ?_⟩) (nst_each (nst_one hn) _) (plain_of hn)
    exact run_makeS M F hr hb hd tk I1 r q
end
/-- a def stands in the heap with a promise -/
structure FnS (P : Program) (w : World) (K : PySem.W.Frag) (mg : Str → Option Value) (base : Heap) (k : Nat) (c : Cn) (Xr : XrT) (s : Sig) (g : List D → Option Out) (f : Addr) : Prop where
  kp : PySem.W.keepIn K (.ref f) = true
  ok : ∃ fd ps, FnOk P w K mg base (CX P w) k f fd ps (spF c Xr s g) ∧ Binds K fd ps []
section
variable {c : Cn} {T : Tb} {Xr : XrT} {X : Cx} {W : WX} {x : Sx} {k : Nat} {f C : Addr} {σ : L2.St} {H : Hp} {Q : VK} {nm m : Str} {p pos apos : Pos} {e o : Expr} {es as : List Expr} {s : Sig} {g : List D → Option Out}
/-- f(..) by its promise -/
theorem cal_fn (F : FnS X.prog X.w X.K X.mg X.base k c Xr s g f) (hr : Room k X.A) (gn : Gn X x) (tk : Takes X W) (hm : X.mg nm = some (.ref f)) (h : kfA x (.fn nm) e = some as) (hn : as.all nst = true)
    (q : SEs X as σ H fun vs H1 => spF c Xr s g vs H1 Q fun cls d H2 => W cls d σ H2) : SE X e σ H Q := by
  obtain ⟨fd, ps, ok, hb⟩ := F.ok
  unfold kfA at h
  split at h
  case h_1 f' m' es p q' heq =>
    cases heq
    obtain ⟨h1, h2⟩ := grd_some h
    cases h2
    simp only [Bool.and_eq_true, decide_eq_true_eq, beq_iff_eq] at h1
    obtain ⟨rfl, h2, h3⟩ := h1
    exact se_call (ds := []) (dvs := []) ok hr (gn.gl h2) hm F.kp hb .nil tk h3 hn (SEs.mono q fun vs H1 z => by rw [List.append_nil]; exact z)
  all_goals first | (rename_i heq; cases heq; done) | cases h
end
end Nc

set_option Elab.async false
set_option linter.all false
set_option autoImplicit false
set_option maxRecDepth 100000
set_option maxHeartbeats 4000000
/-! A def by its body, at a level. -/
namespace Nc
open PySem PySem.Spec PyProof.Rows L2
/-- what is known at level k: calls and constants, for each context -/
def Lvl (P : Program) (w : World) (K : PySem.W.Frag) (mg : Str → Option Value) (base : Heap) (k : Nat) (c : Cn) (T : Tb) (Xr : XrT) (sg : Kf → Option Sig) (ats : List Str) (ex : Str → Option (Option Str)) : Prop :=
  ∀ X x W, X.prog = P → X.w = w → X.K = K → X.mg = mg → X.base = base → Room k X.A → Gn X x → Takes X W → x.sg = sg → x.ats = ats → x.ex = ex → GtP X x c T Xr W
section
variable {P : Program} {w : World} {K : PySem.W.Frag} {mg : Str → Option Value} {base : Heap} {c : Cn} {T : Tb} {Xr : XrT} {x : Sx} {k : Nat} {f : Addr} {fd : FuncData} {s : Sig} {sm : Sm} {nm qual : Str} {params : Arguments} {body : List Stmt} {scope : Scope} {dvs : List V} {kws : List (Str × V)} {ps : List Str} {o : Option Ms}
theorem fn_ok (F : FunD K nm qual params body scope dvs kws f fd) (S : FnScope x.N ps scope) (hx : x.sc = scope) (hf : ∀ y, x.fn y = true → True) (hl : s.ps.length = ps.length) (hp : ps.length ≤ x.N.length) (inj : ∀ a b C, c.cl a = some C → c.cl b = some C → a = b) (hsg : ∀ f s, x.sg f = some s → T.sg f = some s)
    (hbl : ∀ n ∈ bnames, mg n = none) (L : Lvl P w K mg base k c T Xr x.sg x.ats x.ex) (hck : (chk2 (kcOf x s) sm).s body (mStart s.ps x.N.length) = some o) (he : endOk s x.N.length o = true) :
    FnOk P w K mg base (CX P w) (k + 1) f fd ps (spF c Xr s (fnD T s sm x.N.length)) := by
  refine F.ok S (fun vs H Q E h => (spF_len h).trans hl) (fun cdv A outer s' H vs Q E hr h => ⟨_, pss_S, ?_⟩)
  have tk : Takes (cxOf (CX P w) P w K mg base x.N qual scope f cdv A outer s' H E) (fun cls d _ H => E cls d H) := takes_of rfl rfl rfl rfl
  have gn : Gn (cxOf (CX P w) P w K mg base x.N qual scope f cdv A outer s' H E) x := ⟨rfl, S.nd, hx.symm, rfl, by have := hr.un; show (A.deeper _).units + 200 < _; omega, hbl, fun _ _ => rfl⟩
  refine body_ok (x := x) (by omega) hck he ⟨⟨gn, inj, tk, hsg, fun X' x' W' h1 h2 h3 h4 h5 h6 h7 h8 h9 h10 h11 => L X' x' W' h1 h2 h3 h4 h5 (by rw [h6]; exact hr) h7 h8 h9 h10 h11⟩, by rw [hx]; exact S.kind, passes_of rfl, rfl, rfl⟩ h
end
end Nc

set_option Elab.async false
set_option linter.all false
set_option autoImplicit false
set_option maxRecDepth 100000
set_option maxHeartbeats 4000000
/-! == of data without instances. -/
namespace Nc
open PySem PySem.Spec PyProof.Rows L2
/-- over the common part -/
def eqAll (f : D → D → Option Bool) : List D → List D → Option Bool
  | x :: xs, y :: ys => match f x y, eqAll f xs ys with
    | some a, some b => some (a && b)
    | _, _ => none
  | _, _ => some true
/-- without dicts -/
def dEqA : Nat → D → D → Option Bool
  | 0, _, _ => none
  | n + 1, a, b => match a, b with
    | .lst xs, .lst ys => if xs.length = ys.length then eqAll (dEqA n) xs ys else some false
    | .tup xs, .tup ys => (eqAll (dEqA n) xs ys).map fun b => b && decide (xs.length = ys.length)
    | .ins _ _, _ => none
    | _, .ins _ _ => none
    | .dct _, _ => none
    | _, .dct _ => none
    | a, b => some (fEq a b)
theorem eqAll_refl {f : D → D → Option Bool} (h : ∀ d b, f d d = some b → b = true) : ∀ {xs : List D} {b : Bool}, eqAll f xs xs = some b → b = true
  | [], b, e => by cases e; rfl
  | x :: xs, b, e => by
    unfold eqAll at e
    split at e
    · rename_i p q h1 h2
      cases e
      rw [h x p h1, eqAll_refl h h2]; rfl
    · cases e
theorem fEq_refl : ∀ {d : D}, (∀ xs, d ≠ .lst xs) → (∀ xs, d ≠ .tup xs) → (∀ xs, d ≠ .dct xs) → (∀ k xs, d ≠ .ins k xs) → fEq d d = true := fun {d} h1 h2 h3 h4 => by
  cases d <;> first | rfl | simp [fEq] | skip
  · exact absurd rfl (h2 _)
  · exact absurd rfl (h1 _)
  · exact absurd rfl (h3 _)
  · exact absurd rfl (h4 _ _)
theorem dEqA_refl : ∀ (n : Nat) (d : D) (b : Bool), dEqA n d d = some b → b = true
  | 0, _, _, h => by cases h
  | n + 1, d, b, h => by
    cases d with
    | lst xs =>
      have h : (if xs.length = xs.length then eqAll (dEqA n) xs xs else some false) = some b := h
      rw [if_pos rfl] at h
      exact eqAll_refl (dEqA_refl n) h
    | tup xs =>
      obtain ⟨z, h1, h2⟩ := Option.map_eq_some_iff.mp (show (eqAll (dEqA n) xs xs).map (fun b => b && decide (xs.length = xs.length)) = some b from h)
      rw [← h2, eqAll_refl (dEqA_refl n) h1]; simp
    | dct _ => cases h
    | ins _ _ => cases h
    | non => cases h; rfl
    | bl _ => cases h; simp [fEq]
    | int _ => cases h; simp [fEq]
    | str _ => cases h; simp [fEq]
/-- the parts' answers -/
theorem eqAll_get {f : D → D → Option Bool} : ∀ {xs ys : List D} {b : Bool}, eqAll f xs ys = some b → ∃ g : Nat → Bool, (∀ (j : Nat) x y, xs[j]? = some x → ys[j]? = some y → f x y = some (g j)) ∧ (List.range (min xs.length ys.length)).all g = b
  | [], ys, b, e => by
    have e : some true = some b := by unfold eqAll at e; exact e
    cases e
    exact ⟨fun _ => true, fun j x y h => by simp at h, by simp⟩
  | x :: xs, [], b, e => by
    have e : some true = some b := by unfold eqAll at e; exact e
    cases e
    exact ⟨fun _ => true, fun j x y _ h => by simp at h, by simp⟩
  | x :: xs, y :: ys, b, e => by
    unfold eqAll at e
    split at e
    · rename_i p q h1 h2
      cases e
      obtain ⟨g, g1, g2⟩ := eqAll_get h2
      refine ⟨fun j => match j with | 0 => p | j + 1 => g j, fun j x' y' e1 e2 => ?_, ?_⟩
      · cases j with
        | zero => simp at e1 e2; subst e1 e2; exact h1
        | succ j => exact g1 j x' y' (by simpa using e1) (by simpa using e2)
      · have em : min (x :: xs).length (y :: ys).length = min xs.length ys.length + 1 := by simp only [List.length_cons]; omega
        rw [em, List.range_succ_eq_map, List.all_cons, List.all_map, ← g2]
        rfl
    · cases e
section
variable {c : Cn} {X : Cx} {F : Fz} {H : Hp} {pins : List (Addr × Obj)} {σ : L2.St} {s : Shared}
theorem vals_at {vs : List V} {us : List Value} (r : Vals vs us) {j : Nat} (h : j < us.toArray.size) : ∃ v, vs[j]? = some v ∧ RelV v us.toArray[j] := by
  have hl := r.length
  rw [List.size_toArray] at h
  obtain ⟨v, hv⟩ : ∃ v, vs[j]? = some v := ⟨vs[j]'(by omega), List.getElem?_eq_getElem _⟩
  refine ⟨v, hv, ?_⟩
  have gen : ∀ {vs : List V} {us : List Value}, Vals vs us → ∀ {j : Nat} {v : V}, vs[j]? = some v → ∀ (h : j < us.length), RelV v us[j] := by
    intro vs us r
    induction r with
    | nil => intro j v e; simp at e
    | cons h1 r ih =>
      intro j v e h
      cases j with
      | zero => simp at e; subst e; exact h1
      | succ j => exact ih (by simpa using e) (by simpa using h)
  simpa using gen r hv h
theorem eqA_ok (inj : ∀ a b C, c.cl a = some C → c.cl b = some C → a = b) (I : Inv X pins σ H s) : ∀ (n : Nat) (d e : D) (v w : V) (u1 u2 : Value) (b : Bool), Rep c.cl F H v d → Rep c.cl F H w e → RelV v u1 → RelV w u2 → dEqA n d e = some b → ∀ A : Around, A.units + n < cLine → SeqAt.EqAt A s u1 u2 b
  | 0, _, _, _, _, _, _, _, _, _, _, _, h, _, _ => by cases h
  | n + 1, d, e, v, w, u1, u2, b, rd, re, r1, r2, h, A, hu => by
    have kids : ∀ {xs ys : List D} {vs ws : List V} {us zs : List Value} {g : Nat → Bool}, RepL c.cl F H vs xs → RepL c.cl F H ws ys → Vals vs us → Vals ws zs → (∀ (j : Nat) x y, xs[j]? = some x → ys[j]? = some y → dEqA n x y = some (g j)) →
        ∀ j (h1 : j < us.toArray.size) (h2 : j < zs.toArray.size), SeqAt.EqAt A.in1 s us.toArray[j] zs.toArray[j] (g j) := fun {xs ys vs ws us zs g} q1 q2 s1 s2 hg j h1 h2 => by
      obtain ⟨v1, a1, a2⟩ := vals_at s1 h1
      obtain ⟨v2, b1, b2⟩ := vals_at s2 h2
      obtain ⟨x, x1, x2⟩ := q1.getV a1
      obtain ⟨y, y1, y2⟩ := q2.getV b1
      exact eqA_ok inj I n x y v1 v2 _ _ _ x2 y2 a2 b2 (hg j x y x1 y1) A.in1 (by show A.units + 1 + n < cLine; omega)
    have hu1 : A.units < cLine := by omega
    cases rd with
    | ins _ _ _ _ => cases e <;> cases h
    | dct _ _ _ => cases e <;> cases h
    | non =>
      cases (show u1 = Value.none from r1)
      cases re with
      | ins _ _ _ _ => cases h
      | dct _ _ _ => cases h
      | non => cases h; cases (show u2 = Value.none from r2); exact SeqAt.EqAt.same _
      | bl y => cases h; cases (show u2 = Value.bool y from r2); exact SeqAt.EqAt.none_bool y
      | int y => cases h; obtain ⟨t, rfl⟩ := (show ∃ t, u2 = Value.int y t from r2); exact SeqAt.EqAt.none_int y t
      | str y hy => cases h; obtain ⟨t, rfl⟩ := (show ∃ t, u2 = Value.str (sOf y) t from r2); exact SeqAt.EqAt.none_str _ t
      | @tup a vs ds h2 q2 => cases h; cases (show u2 = Value.ref a from r2); obtain ⟨zs, s2, p2, _⟩ := I.tuple (SqT.of h2); exact SeqAt.EqAt.none_tuple p2 hu1
      | @lst a vs ds f2 h2 q2 => cases h; cases (show u2 = Value.ref a from r2); obtain ⟨zs, s2, p2, _⟩ := I.list (.inl h2); exact SeqAt.EqAt.none_list p2.isList hu1
    | bl x =>
      cases (show u1 = Value.bool x from r1)
      cases re with
      | ins _ _ _ _ => cases h
      | dct _ _ _ => cases h
      | non => cases h; cases (show u2 = Value.none from r2); exact SeqAt.EqAt.bool_none x
      | bl y => cases h; cases (show u2 = Value.bool y from r2); exact SeqAt.EqAt.bool_bool x y
      | int y => cases h; obtain ⟨t, rfl⟩ := (show ∃ t, u2 = Value.int y t from r2); exact SeqAt.EqAt.bool_int x y t
      | str y hy => cases h; obtain ⟨t, rfl⟩ := (show ∃ t, u2 = Value.str (sOf y) t from r2); exact SeqAt.EqAt.bool_str x _ t
      | @tup a vs ds h2 q2 => cases h; cases (show u2 = Value.ref a from r2); obtain ⟨zs, s2, p2, _⟩ := I.tuple (SqT.of h2); exact SeqAt.EqAt.bool_tuple x p2 hu1
      | @lst a vs ds f2 h2 q2 => cases h; cases (show u2 = Value.ref a from r2); obtain ⟨zs, s2, p2, _⟩ := I.list (.inl h2); exact SeqAt.EqAt.bool_list x p2.isList hu1
    | int x =>
      obtain ⟨t, rfl⟩ := (show ∃ t, u1 = Value.int x t from r1)
      cases re with
      | ins _ _ _ _ => cases h
      | dct _ _ _ => cases h
      | non => cases h; cases (show u2 = Value.none from r2); exact SeqAt.EqAt.int_none x t
      | bl y => cases h; cases (show u2 = Value.bool y from r2); exact SeqAt.EqAt.int_bool x t y
      | int y => cases h; obtain ⟨t', rfl⟩ := (show ∃ t, u2 = Value.int y t from r2); exact SeqAt.EqAt.int_int x t y t'
      | str y hy => cases h; obtain ⟨t', rfl⟩ := (show ∃ t, u2 = Value.str (sOf y) t from r2); exact SeqAt.EqAt.int_str x t _ t'
      | @tup a vs ds h2 q2 => cases h; cases (show u2 = Value.ref a from r2); obtain ⟨zs, s2, p2, _⟩ := I.tuple (SqT.of h2); exact SeqAt.EqAt.int_tuple x t p2 hu1
      | @lst a vs ds f2 h2 q2 => cases h; cases (show u2 = Value.ref a from r2); obtain ⟨zs, s2, p2, _⟩ := I.list (.inl h2); exact SeqAt.EqAt.int_list x t p2.isList hu1
    | str x hx =>
      obtain ⟨t, rfl⟩ := (show ∃ t, u1 = Value.str (sOf x) t from r1)
      cases re with
      | ins _ _ _ _ => cases h
      | dct _ _ _ => cases h
      | non => cases h; cases (show u2 = Value.none from r2); exact SeqAt.EqAt.str_none _ t
      | bl y => cases h; cases (show u2 = Value.bool y from r2); exact SeqAt.EqAt.str_bool _ t y
      | int y => cases h; obtain ⟨t', rfl⟩ := (show ∃ t, u2 = Value.int y t from r2); exact SeqAt.EqAt.str_int _ t y t'
      | str y hy =>
        obtain ⟨t', rfl⟩ := (show ∃ t, u2 = Value.str (sOf y) t from r2)
        have h : some (decide (x = y)) = some b := h
        cases h
        have := SeqAt.EqAt.str_str (A := A) (s := s) (sOf x) t (sOf y) t'
        have e : (sOf x == sOf y) = decide (x = y) := by
          rw [Bool.eq_iff_iff, beq_iff_eq, decide_eq_true_eq]
          exact ⟨sOf_inj, fun z => by rw [z]⟩
        rw [e] at this
        exact this
      | @tup a vs ds h2 q2 => cases h; cases (show u2 = Value.ref a from r2); obtain ⟨zs, s2, p2, _⟩ := I.tuple (SqT.of h2); exact SeqAt.EqAt.str_tuple _ t p2 hu1
      | @lst a vs ds f2 h2 q2 => cases h; cases (show u2 = Value.ref a from r2); obtain ⟨zs, s2, p2, _⟩ := I.list (.inl h2); exact SeqAt.EqAt.str_list _ t p2.isList hu1
    | @tup a vs ds h1 q1 =>
      cases (show u1 = Value.ref a from r1)
      obtain ⟨us, s1, p1, _⟩ := I.tuple (SqT.of h1)
      cases re with
      | ins _ _ _ _ => cases h
      | dct _ _ _ => cases h
      | non => cases h; cases (show u2 = Value.none from r2); exact SeqAt.EqAt.tuple_none p1 hu1
      | bl y => cases h; cases (show u2 = Value.bool y from r2); exact SeqAt.EqAt.tuple_bool y p1 hu1
      | int y => cases h; obtain ⟨t', rfl⟩ := (show ∃ t, u2 = Value.int y t from r2); exact SeqAt.EqAt.tuple_int y t' p1 hu1
      | str y hy => cases h; obtain ⟨t', rfl⟩ := (show ∃ t, u2 = Value.str (sOf y) t from r2); exact SeqAt.EqAt.tuple_str _ t' p1 hu1
      | @lst a2 ws es f2 h2 q2 => cases h; cases (show u2 = Value.ref a2 from r2); obtain ⟨zs, s2, p2, _⟩ := I.list (.inl h2); exact SeqAt.EqAt.tuple_list p1 p2.isList hu1
      | @tup a2 ws es h2 q2 =>
        cases (show u2 = Value.ref a2 from r2)
        by_cases ea : a = a2
        · subst ea
          have : D.tup ds = D.tup es := Shp.one inj (Rep.tup (cl := c.cl) (F := F) h1 q1).shp (Rep.tup (cl := c.cl) (F := F) h2 q2).shp
          cases this
          rw [dEqA_refl _ _ _ h]
          exact SeqAt.EqAt.same _
        · obtain ⟨zs, s2, p2, _⟩ := I.tuple (SqT.of h2)
          obtain ⟨z, g1, g2⟩ := Option.map_eq_some_iff.mp (show (eqAll (dEqA n) ds es).map (fun b => b && decide (ds.length = es.length)) = some b from h)
          obtain ⟨g, g3, g4⟩ := eqAll_get g1
          have l1 : us.toArray.size = ds.length := by rw [List.size_toArray, ← s1.length, q1.length]
          have l2 : zs.toArray.size = es.length := by rw [List.size_toArray, ← s2.length, q2.length]
          have := SeqAt.EqAt.of_refs ea (SeqAt.RcAt.tuples (A := A) p1 p2 hu1 (kids q1 q2 s1 s2 g3))
          rw [l1, l2, g4] at this
          have e2 : (ds.length == es.length) = decide (ds.length = es.length) := by
            rw [Bool.eq_iff_iff, beq_iff_eq, decide_eq_true_eq]
          rw [e2, g2] at this
          exact this
    | @lst a vs ds f1 h1 q1 =>
      cases (show u1 = Value.ref a from r1)
      obtain ⟨us, s1, p1, _⟩ := I.list (.inl h1)
      cases re with
      | ins _ _ _ _ => cases h
      | dct _ _ _ => cases h
      | non => cases h; cases (show u2 = Value.none from r2); exact SeqAt.EqAt.list_none p1.isList hu1
      | bl y => cases h; cases (show u2 = Value.bool y from r2); exact SeqAt.EqAt.list_bool y p1.isList hu1
      | int y => cases h; obtain ⟨t', rfl⟩ := (show ∃ t, u2 = Value.int y t from r2); exact SeqAt.EqAt.list_int y t' p1.isList hu1
      | str y hy => cases h; obtain ⟨t', rfl⟩ := (show ∃ t, u2 = Value.str (sOf y) t from r2); exact SeqAt.EqAt.list_str _ t' p1.isList hu1
      | @tup a2 ws es h2 q2 => cases h; cases (show u2 = Value.ref a2 from r2); obtain ⟨zs, s2, p2, _⟩ := I.tuple (SqT.of h2); exact SeqAt.EqAt.list_tuple p1.isList p2 hu1
      | @lst a2 ws es f2 h2 q2 =>
        cases (show u2 = Value.ref a2 from r2)
        by_cases ea : a = a2
        · subst ea
          have : D.lst ds = D.lst es := Shp.one inj (Rep.lst (cl := c.cl) f1 h1 q1).shp (Rep.lst (cl := c.cl) f2 h2 q2).shp
          cases this
          rw [dEqA_refl _ _ _ h]
          exact SeqAt.EqAt.same _
        · obtain ⟨zs, s2, p2, _⟩ := I.list (.inl h2)
          have l1 : us.toArray.size = ds.length := by rw [List.size_toArray, ← s1.length, q1.length]
          have l2 : zs.toArray.size = es.length := by rw [List.size_toArray, ← s2.length, q2.length]
          have h : (if ds.length = es.length then eqAll (dEqA n) ds es else some false) = some b := h
          by_cases el : ds.length = es.length
          · rw [if_pos el] at h
            obtain ⟨g, g3, g4⟩ := eqAll_get h
            have := SeqAt.EqAt.of_refs ea (SeqAt.RcAt.lists (A := A) p1.isList p2.isList (by rw [l1, l2, el]) hu1 (kids q1 q2 s1 s2 g3))
            rw [l1] at this
            rw [el, Nat.min_self, ← el] at g4
            rw [g4] at this
            exact this
          · rw [if_neg el] at h
            cases h
            exact SeqAt.EqAt.of_refs ea (SeqAt.RcAt.lists_lengths p1.isList p2.isList (by rw [l1, l2]; simpa using el) hu1)
end
end Nc

set_option Elab.async false
set_option linter.all false
set_option autoImplicit false
set_option maxRecDepth 100000
set_option maxHeartbeats 4000000
/-! == and != of data without instances, dicts too. -/
namespace Nc
open PySem PySem.Spec PyProof.Rows L2
/-- the pairs of one dict in another -/
def eqAllK (f : D → D → Option Bool) (ls : List (Kd × D)) : List (Kd × D) → Option Bool
  | [] => some true
  | (k, x) :: ks => match dGet ls k with
    | none => some false
    | some y => match f x y, eqAllK f ls ks with
      | some a, some b => some (a && b)
      | _, _ => none
def dEqS (f : D → D → Option Bool) : D → D → Option Bool
  | .lst xs, .lst ys => if xs.length = ys.length then eqAll f xs ys else some false
  | .tup xs, .tup ys => (eqAll f xs ys).map fun b => b && decide (xs.length = ys.length)
  | .dct ks, .dct ls => if ks.length = ls.length then eqAllK f ls ks else some false
  | _, _ => none
def dEq : Nat → D → D → Option Bool
  | 0, _, _ => none
  | n + 1, a, b => match dEqA (n + 1) a b with
    | some r => some r
    | none => dEqS (dEq n) a b
def dNe (n : Nat) (a b : D) : Option Bool := match dEqA n a b with
  | some r => some (!r)
  | none => match a, b with
    | .dct ks, .dct ls => if ks.length = ls.length then (eqAllK (dEqA (n - 1)) ls ks).map (!·) else some true
    | _, _ => none
theorem dget_cons {k q : Kd} {x : D} {r : List (Kd × D)} : dGet ((k, x) :: r) q = if k = q then some x else dGet r q := by
  unfold dGet
  rw [List.find?_cons]
  by_cases e : k = q
  · subst e; simp
  · simp [e]
theorem eqAllK_refl {f : D → D → Option Bool} (h : ∀ d b, f d d = some b → b = true) {ls : List (Kd × D)} : ∀ {ks : List (Kd × D)} {b : Bool}, (∀ k x, (k, x) ∈ ks → dGet ls k = some x) → eqAllK f ls ks = some b → b = true
  | [], b, _, e => by cases e; rfl
  | (k, x) :: ks, b, hk, e => by
    unfold eqAllK at e
    rw [hk k x List.mem_cons_self] at e
    simp only [] at e
    split at e
    · rename_i p q h1 h2
      cases e
      rw [h x p h1, eqAllK_refl h (fun k x hm => hk k x (List.mem_cons_of_mem _ hm)) h2]; rfl
    · cases e
section
variable {c : Cn} {X : Cx} {F : Fz} {H : Hp} {pins : List (Addr × Obj)} {σ : L2.St} {s : Shared}
theorem nodup_get : ∀ {ks : List (Kd × D)}, (ks.map (·.1)).Nodup → ∀ k x, (k, x) ∈ ks → dGet ks k = some x
  | [], _, k, x, h => by cases h
  | (k', x') :: ks, nd, k, x, h => by
    rw [dget_cons]
    rw [List.map_cons, List.nodup_cons] at nd
    rcases List.mem_cons.mp h with e | e
    · cases e; rw [if_pos rfl]
    · have : k' ≠ k := fun z => nd.1 (z ▸ List.mem_map_of_mem (f := (·.1)) e)
      rw [if_neg this]
      exact nodup_get nd.2 k x e
theorem repK_nodup {ks : List (Key × V)} {ds : List (Kd × D)} {va : List (Key × Value)} (r : RepK c.cl F H ks ds) (kv : KV ks va) (nd : (va.map (·.1)).Nodup) : (ds.map (·.1)).Nodup := by
  have e1 : va.map (·.1) = ks.map (·.1) := by
    unfold KV at kv
    clear nd r
    induction kv with
    | nil => rfl
    | cons h _ ih => rw [List.map_cons, List.map_cons, ih, h.1]
  have e2 : ks.map (·.1) = (ds.map (·.1)).map kk := by
    clear nd e1 kv
    induction ds generalizing ks with
    | nil => cases r; rfl
    | cons p ds ih =>
      cases r with
      | cons hk h r => simp only [List.map_cons]; rw [ih r]
  rw [e1, e2] at nd
  exact List.Pairwise.of_map kk (fun a b h e => h (congrArg kk e)) nd
/-- a dict's pairs, value by value -/
theorem hits_of {Eq : Value → Value → Bool → Prop} {Hits : List (Key × Value) → List (Key × Value) → Bool → Prop} (hn : ∀ kb, Hits kb [] true) (hm : ∀ kb k v r, valueAt kb k = none → Hits kb ((k, v) :: r) false) (hh : ∀ kb k v y r e b, valueAt kb k = some y → Eq v y e → Hits kb r b → Hits kb ((k, v) :: r) (e && b))
    {f : D → D → Option Bool} {ls : List (Key × V)} {es : List (Kd × D)} {vb : List (Key × Value)} (rl : RepK c.cl F H ls es) (kb : KV ls vb) (hf : ∀ x y v w u1 u2 b, Rep c.cl F H v x → Rep c.cl F H w y → RelV v u1 → RelV w u2 → f x y = some b → Eq u1 u2 b) :
    ∀ {ks : List (Key × V)} {ds : List (Kd × D)} {va : List (Key × Value)} {b : Bool}, RepK c.cl F H ks ds → KV ks va → eqAllK f es ds = some b → Hits vb va b
  | _, _, _, b, .nil, kv, e => by
    cases kv
    cases e
    exact hn _
  | _, _, _, b, .cons (k := k) (v := v) (d := d) hk h r, kv, e => by
    unfold KV at kv
    cases kv with
    | @cons p q ps qs hp r2 =>
      obtain ⟨key, u⟩ := q
      have e0 : kk k = key := hp.1
      subst e0
      unfold eqAllK at e
      obtain ⟨n1, n2⟩ := RepK.val k rl
      have rr := kb.val (kk k)
      cases hd : dGet es k with
      | none =>
        rw [hd] at e
        cases e
        rw [n1 hd] at rr
        refine hm _ _ _ _ ?_
        cases hz : valueAt vb (kk k) with
        | none => rfl
        | some z => rw [hz] at rr; exact rr.elim
      | some y =>
        rw [hd] at e
        simp only [] at e
        obtain ⟨w, w1, w2⟩ := n2 y hd
        rw [w1] at rr
        obtain ⟨z, z1, z2⟩ := rr.some_of
        split at e
        · rename_i p q h1 h2
          cases e
          exact hh _ _ _ z _ _ _ z1 (hf d y v w u z p h w2 hp.2 z2 h1) (hits_of hn hm hh rl kb hf r r2 h2)
        · cases e
theorem eqI_ok (inj : ∀ a b C, c.cl a = some C → c.cl b = some C → a = b) (I : Inv X pins σ H s) : ∀ (n : Nat) (d e : D) (v w : V) (u1 u2 : Value) (b : Bool), Rep c.cl F H v d → Rep c.cl F H w e → RelV v u1 → RelV w u2 → dEq n d e = some b → ∀ A : Around, A.units + n < cLine → SeqAt.EqIn X.prog X.w A s u1 u2 b ∧ (v = w → b = true)
  | 0, _, _, _, _, _, _, _, _, _, _, _, h, _, _ => by cases h
  | n + 1, d, e, v, w, u1, u2, b, rd, re, r1, r2, h, A, hu => by
    have hsame : v = w → d = e := fun z => by subst z; exact Shp.one inj rd.shp re.shp
    unfold dEq at h
    cases hA : dEqA (n + 1) d e with
    | some z =>
      rw [hA] at h
      cases h
      exact ⟨(eqA_ok inj I (n + 1) d e v w u1 u2 b rd re r1 r2 hA A hu).inModel _ _, fun q => by rw [hsame q] at hA; exact dEqA_refl _ _ _ hA⟩
    | none =>
      rw [hA] at h
      have hu1 : A.units < cLine := by omega
      have kids : ∀ {xs ys : List D} {vs ws : List V} {us zs : List Value} {g : Nat → Bool}, RepL c.cl F H vs xs → RepL c.cl F H ws ys → Vals vs us → Vals ws zs → (∀ (j : Nat) x y, xs[j]? = some x → ys[j]? = some y → dEq n x y = some (g j)) →
          ∀ j (h1 : j < us.toArray.size) (h2 : j < zs.toArray.size), SeqAt.EqIn X.prog X.w A.in1 s us.toArray[j] zs.toArray[j] (g j) ∧ (vs = ws → g j = true) := fun {xs ys vs ws us zs g} q1 q2 s1 s2 hg j h1 h2 => by
        obtain ⟨v1, a1, a2⟩ := vals_at s1 h1
        obtain ⟨v2, b1, b2⟩ := vals_at s2 h2
        obtain ⟨x, x1, x2⟩ := q1.getV a1
        obtain ⟨y, y1, y2⟩ := q2.getV b1
        obtain ⟨k1, k2⟩ := eqI_ok inj I n x y v1 v2 _ _ _ x2 y2 a2 b2 (hg j x y x1 y1) A.in1 (by show A.units + 1 + n < cLine; omega)
        exact ⟨k1, fun z => k2 (by subst z; rw [a1] at b1; exact Option.some.inj b1)⟩
      replace h : dEqS (dEq n) d e = some b := h
      clear hA hsame
      unfold dEqS at h
      split at h
      · rename_i xs ys
        cases rd with
        | @lst a vs ds f1 h1 q1 =>
        cases re with
        | @lst a2 ws es f2 h2 q2 =>
        cases (show u1 = Value.ref a from r1)
        cases (show u2 = Value.ref a2 from r2)
        obtain ⟨us, s1, p1, _⟩ := I.list (.inl h1)
        obtain ⟨zs, s2, p2, _⟩ := I.list (.inl h2)
        have l1 : us.toArray.size = xs.length := by rw [List.size_toArray, ← s1.length, q1.length]
        have l2 : zs.toArray.size = ys.length := by rw [List.size_toArray, ← s2.length, q2.length]
        by_cases el : xs.length = ys.length
        · rw [if_pos el] at h
          obtain ⟨g, g3, g4⟩ := eqAll_get h
          have hk := kids q1 q2 s1 s2 g3
          have ev : (List.range us.toArray.size).all g = b := by
            rw [l1]
            rw [el, Nat.min_self, ← el] at g4
            exact g4
          have hb : a = a2 → b = true := fun ea => by
            subst ea
            have ew : vs = ws := rdl1 h1 h2
            rw [← ev]
            exact List.all_eq_true.mpr fun j hj => (hk j (List.mem_range.mp hj) (by rw [l2, ← el, ← l1]; exact List.mem_range.mp hj)).2 ew
          refine ⟨?_, fun z => hb (by cases z; rfl)⟩
          by_cases ea : a = a2
          · rw [hb ea, ea]
            exact (SeqAt.EqAt.same _).inModel _ _
          · refine SeqAt.EqIn.of_refs ea fun E Q q => SeqAt.rcIn_lists p1.isList p2.isList (by rw [l1, l2, el]) hu1 (fun j h1 h2 => (hk j h1 h2).1) ?_
            rw [ev]; exact q
        · rw [if_neg el] at h
          cases h
          have ea : a ≠ a2 := fun z => by subst z; exact el (by rw [← q1.length, ← q2.length, rdl1 h1 h2])
          exact ⟨(SeqAt.EqAt.of_refs ea (SeqAt.RcAt.lists_lengths p1.isList p2.isList (by rw [l1, l2]; simpa using el) hu1)).inModel _ _, fun z => absurd (by cases z; rfl) ea⟩
      · rename_i xs ys
        cases rd with
        | @tup a vs ds h1 q1 =>
        cases re with
        | @tup a2 ws es h2 q2 =>
        cases (show u1 = Value.ref a from r1)
        cases (show u2 = Value.ref a2 from r2)
        obtain ⟨us, s1, p1, _⟩ := I.tuple (SqT.of h1)
        obtain ⟨zs, s2, p2, _⟩ := I.tuple (SqT.of h2)
        have l1 : us.toArray.size = xs.length := by rw [List.size_toArray, ← s1.length, q1.length]
        have l2 : zs.toArray.size = ys.length := by rw [List.size_toArray, ← s2.length, q2.length]
        obtain ⟨z, g1, g2⟩ := Option.map_eq_some_iff.mp h
        obtain ⟨g, g3, g4⟩ := eqAll_get g1
        have hk := kids q1 q2 s1 s2 g3
        have e2 : (xs.length == ys.length) = decide (xs.length = ys.length) := by
          rw [Bool.eq_iff_iff, beq_iff_eq, decide_eq_true_eq]
        have ev : ((List.range (min us.toArray.size zs.toArray.size)).all g && us.toArray.size == zs.toArray.size) = b := by
          rw [l1, l2, g4, e2]; exact g2
        have hb : a = a2 → b = true := fun ea => by
          subst ea
          have ew : vs = ws := by rw [h1] at h2; cases h2; rfl
          have el : us.toArray.size = zs.toArray.size := by rw [l1, l2, ← q1.length, ← q2.length, ew]
          rw [← ev, el, Nat.min_self, beq_self_eq_true, Bool.and_true]
          exact List.all_eq_true.mpr fun j hj => (hk j (by rw [el]; exact List.mem_range.mp hj) (List.mem_range.mp hj)).2 ew
        refine ⟨?_, fun z => hb (by cases z; rfl)⟩
        by_cases ea : a = a2
        · rw [hb ea, ea]
          exact (SeqAt.EqAt.same _).inModel _ _
        · refine SeqAt.EqIn.of_refs ea fun E Q q => SeqAt.rcIn_tuples p1 p2 hu1 (fun j h1 h2 => (hk j h1 h2).1) ?_
          rw [ev]; exact q
      · rename_i ks ls
        cases rd with
        | @dct a o1 kvs ds f1 h1 q1 =>
        cases re with
        | @dct a2 o2 kvs2 es f2 h2 q2 =>
        cases (show u1 = Value.ref a from r1)
        cases (show u2 = Value.ref a2 from r2)
        obtain ⟨_, ya, va, ra, da⟩ := dk_rd I.hok (.inr ⟨_, h1⟩)
        obtain ⟨_, yb, vb, rb, db⟩ := dk_rd I.hok (.inr ⟨_, h2⟩)
        have l1 : va.length = ks.length := by rw [← ra.length, q1.length]
        have l2 : vb.length = ls.length := by rw [← rb.length, q2.length]
        have hb : a = a2 → b = true := fun ea => by
          subst ea
          have e1 : kvs = kvs2 := by rw [h1] at h2; cases h2; rfl
          have ed : D.dct ks = D.dct ls := Shp.one inj (Rep.dct (cl := c.cl) f1 h1 q1).shp (Rep.dct (cl := c.cl) f2 h2 q2).shp
          cases ed
          rw [if_pos rfl] at h
          obtain ⟨_, _, _, _, _, _, _, _, nd⟩ := da
          have nd2 := repK_nodup q1 ra nd
          exact self n ks ks b (fun x v u hr hv b' hb' => (eqI_ok inj I n x x v v u u b' hr hr hv hv hb' A.in1 (by show A.units + 1 + n < cLine; omega)).2 rfl) q1 ra (nodup_get nd2) h
        refine ⟨?_, fun z => hb (by cases z; rfl)⟩
        by_cases ea : a = a2
        · rw [hb ea, ea]
          exact (SeqAt.EqAt.same _).inModel _ _
        · refine SeqAt.EqIn.of_refs ea fun E Q q => ?_
          by_cases el : ks.length = ls.length
          · rw [if_pos el] at h
            refine PySem.W.keq_eqIn (r := b) ya yb da db hu1 (fun _ => ?_) ?_
            · exact hits_of (Eq := fun u1 u2 b => SeqAt.EqIn X.prog X.w A.in1 s u1 u2 b) (Hits := fun kb ka b => PySem.W.KeqHitsIn X.prog X.w A.in1 s kb ka b) (fun _ => .nil) (fun _ _ _ _ h => .miss h) (fun _ _ _ _ _ _ _ h1 h2 h3 => .hit h1 h2 h3)
                q2 rb (fun x y v w u1 u2 b h1 h2 h3 h4 h5 => (eqI_ok inj I n x y v w u1 u2 b h1 h2 h3 h4 h5 A.in1 (by show A.units + 1 + n < cLine; omega)).1) q1 ra h
            · have : (va.length == vb.length) = true := by rw [l1, l2, el]; exact beq_self_eq_true _
              rw [this, Bool.true_and]; exact q
          · rw [if_neg el] at h
            cases h
            refine PySem.W.keq_eqIn (r := false) ya yb da db hu1 (fun z => absurd (by rw [← l1, ← l2, z]) el) ?_
            have : (va.length == vb.length) = false := by rw [l1, l2]; simpa using el
            rw [this, Bool.false_and]; exact q
      · cases h
where
  self (n : Nat) {c : Cn} {F : Fz} {H : Hp} : ∀ (ls ks : List (Kd × D)) (b : Bool), (∀ x v u, Rep c.cl F H v x → RelV v u → ∀ b', dEq n x x = some b' → b' = true) → ∀ {kvs : List (Key × V)} {va : List (Key × Value)}, RepK c.cl F H kvs ks → KV kvs va → (∀ k x, (k, x) ∈ ks → dGet ls k = some x) → eqAllK (dEq n) ls ks = some b → b = true
  | ls, [], b, hf, kvs, va, r, kv, hk, e => by cases e; rfl
  | ls, (k, x) :: ks, b, hf, kvs, va, r, kv, hk, e => by
    unfold eqAllK at e
    rw [hk k x List.mem_cons_self] at e
    simp only [] at e
    cases r with
    | cons h1 h2 r =>
      unfold KV at kv
      cases kv with
      | cons hp kv =>
        split at e
        · rename_i p q g1 g2
          cases e
          rw [hf x _ _ h2 hp.2 p g1, self n ls ks q hf r kv (fun k x hm => hk k x (List.mem_cons_of_mem _ hm)) g2]; rfl
        · cases e
end
end Nc

set_option Elab.async false
set_option linter.all false
set_option autoImplicit false
set_option maxRecDepth 100000
set_option maxHeartbeats 4000000
/-! == and != at the top: mixed kinds (printed by gen_bc.py). -/
namespace Nc
open PySem PySem.Spec PyProof.Rows L2
/-- kinds that are compared without a look within -/
def mixK : D → D → Bool
  | .lst _, .lst _ => false
  | .tup _, .tup _ => false
  | .dct _, _ => false
  | .ins _ _, _ => false
  | _, .dct _ => false
  | _, .ins _ _ => false
  | _, _ => true
section
variable {c : Cn} {X : Cx} {F : Fz} {H : Hp} {pins : List (Addr × Obj)} {σ : L2.St} {s : Shared}
theorem beq_sOf (x y : List Nat) : (sOf x == sOf y) = decide (x = y) := by
  rw [Bool.eq_iff_iff, beq_iff_eq, decide_eq_true_eq]
  exact ⟨sOf_inj, fun z => by rw [z]⟩
theorem rc_mix (I : Inv X pins σ H s) {d e : D} {v w : V} {u1 u2 : Value} {A1 A2 : List Addr} (rd : R1 c F H v d A1) (re : R1 c F H w e A2) (r1 : RelV v u1) (r2 : RelV w u2) (hk : mixK d e = true) {A : Around} (hu1 : A.units < cLine) : ∃ b, b = fEq d e ∧ SeqAt.RcAt A s u1 u2 b := by
    cases d with
    | non =>
      rw [rd.non] at r1
      cases (show u1 = Value.none from r1)
      cases e with
      | non =>
        rw [re.non] at r2
        cases (show u2 = Value.none from r2)
        exact ⟨_, rfl, SeqAt.RcAt.none_none ⟩
      | bl y =>
        rw [re.bl] at r2
        cases (show u2 = Value.bool y from r2)
        exact ⟨_, rfl, SeqAt.RcAt.none_bool y⟩
      | int y =>
        rw [re.int] at r2
        obtain ⟨t2, rfl⟩ := (show ∃ t, u2 = Value.int y t from r2)
        exact ⟨_, rfl, SeqAt.RcAt.none_int y t2⟩
      | str y =>
        rw [re.str.1] at r2
        obtain ⟨t2, rfl⟩ := (show ∃ t, u2 = Value.str (sOf y) t from r2)
        exact ⟨_, rfl, SeqAt.RcAt.none_str _ t2⟩
      | tup y =>
        obtain ⟨a2, vs2, e2, h2, q2⟩ := re.tup
        rw [e2] at r2
        cases (show u2 = Value.ref a2 from r2)
        obtain ⟨us2, s2, p2, _⟩ := I.tuple (SqT.of h2)
        exact ⟨_, rfl, SeqAt.RcAt.none_tuple p2 hu1⟩
      | lst y =>
        obtain ⟨a2, vs2, e2, h2, q2⟩ := re.lst
        rw [e2] at r2
        cases (show u2 = Value.ref a2 from r2)
        obtain ⟨us2, s2, p2, _⟩ := I.list (.inl h2)
        exact ⟨_, rfl, SeqAt.RcAt.none_list p2.isList hu1⟩
      | dct y => cases hk
      | ins c y => cases hk
    | bl x =>
      rw [rd.bl] at r1
      cases (show u1 = Value.bool x from r1)
      cases e with
      | non =>
        rw [re.non] at r2
        cases (show u2 = Value.none from r2)
        exact ⟨_, rfl, SeqAt.RcAt.bool_none x⟩
      | bl y =>
        rw [re.bl] at r2
        cases (show u2 = Value.bool y from r2)
        exact ⟨_, rfl, SeqAt.RcAt.bool_bool x y⟩
      | int y =>
        rw [re.int] at r2
        obtain ⟨t2, rfl⟩ := (show ∃ t, u2 = Value.int y t from r2)
        exact ⟨_, rfl, SeqAt.RcAt.bool_int x y t2⟩
      | str y =>
        rw [re.str.1] at r2
        obtain ⟨t2, rfl⟩ := (show ∃ t, u2 = Value.str (sOf y) t from r2)
        exact ⟨_, rfl, SeqAt.RcAt.bool_str x _ t2⟩
      | tup y =>
        obtain ⟨a2, vs2, e2, h2, q2⟩ := re.tup
        rw [e2] at r2
        cases (show u2 = Value.ref a2 from r2)
        obtain ⟨us2, s2, p2, _⟩ := I.tuple (SqT.of h2)
        exact ⟨_, rfl, SeqAt.RcAt.bool_tuple x p2 hu1⟩
      | lst y =>
        obtain ⟨a2, vs2, e2, h2, q2⟩ := re.lst
        rw [e2] at r2
        cases (show u2 = Value.ref a2 from r2)
        obtain ⟨us2, s2, p2, _⟩ := I.list (.inl h2)
        exact ⟨_, rfl, SeqAt.RcAt.bool_list x p2.isList hu1⟩
      | dct y => cases hk
      | ins c y => cases hk
    | int x =>
      rw [rd.int] at r1
      obtain ⟨t1, rfl⟩ := (show ∃ t, u1 = Value.int x t from r1)
      cases e with
      | non =>
        rw [re.non] at r2
        cases (show u2 = Value.none from r2)
        exact ⟨_, rfl, SeqAt.RcAt.int_none x t1⟩
      | bl y =>
        rw [re.bl] at r2
        cases (show u2 = Value.bool y from r2)
        exact ⟨_, rfl, SeqAt.RcAt.int_bool x t1 y⟩
      | int y =>
        rw [re.int] at r2
        obtain ⟨t2, rfl⟩ := (show ∃ t, u2 = Value.int y t from r2)
        exact ⟨_, rfl, SeqAt.RcAt.int_int x t1 y t2⟩
      | str y =>
        rw [re.str.1] at r2
        obtain ⟨t2, rfl⟩ := (show ∃ t, u2 = Value.str (sOf y) t from r2)
        exact ⟨_, rfl, SeqAt.RcAt.int_str x t1 _ t2⟩
      | tup y =>
        obtain ⟨a2, vs2, e2, h2, q2⟩ := re.tup
        rw [e2] at r2
        cases (show u2 = Value.ref a2 from r2)
        obtain ⟨us2, s2, p2, _⟩ := I.tuple (SqT.of h2)
        exact ⟨_, rfl, SeqAt.RcAt.int_tuple x t1 p2 hu1⟩
      | lst y =>
        obtain ⟨a2, vs2, e2, h2, q2⟩ := re.lst
        rw [e2] at r2
        cases (show u2 = Value.ref a2 from r2)
        obtain ⟨us2, s2, p2, _⟩ := I.list (.inl h2)
        exact ⟨_, rfl, SeqAt.RcAt.int_list x t1 p2.isList hu1⟩
      | dct y => cases hk
      | ins c y => cases hk
    | str x =>
      rw [rd.str.1] at r1
      obtain ⟨t1, rfl⟩ := (show ∃ t, u1 = Value.str (sOf x) t from r1)
      cases e with
      | non =>
        rw [re.non] at r2
        cases (show u2 = Value.none from r2)
        exact ⟨_, rfl, SeqAt.RcAt.str_none _ t1⟩
      | bl y =>
        rw [re.bl] at r2
        cases (show u2 = Value.bool y from r2)
        exact ⟨_, rfl, SeqAt.RcAt.str_bool _ t1 y⟩
      | int y =>
        rw [re.int] at r2
        obtain ⟨t2, rfl⟩ := (show ∃ t, u2 = Value.int y t from r2)
        exact ⟨_, rfl, SeqAt.RcAt.str_int _ t1 y t2⟩
      | str y =>
        rw [re.str.1] at r2
        obtain ⟨t2, rfl⟩ := (show ∃ t, u2 = Value.str (sOf y) t from r2)
        exact ⟨_, by rw [beq_sOf]; rfl, SeqAt.RcAt.str_str _ t1 _ t2⟩
      | tup y =>
        obtain ⟨a2, vs2, e2, h2, q2⟩ := re.tup
        rw [e2] at r2
        cases (show u2 = Value.ref a2 from r2)
        obtain ⟨us2, s2, p2, _⟩ := I.tuple (SqT.of h2)
        exact ⟨_, rfl, SeqAt.RcAt.str_tuple _ t1 p2 hu1⟩
      | lst y =>
        obtain ⟨a2, vs2, e2, h2, q2⟩ := re.lst
        rw [e2] at r2
        cases (show u2 = Value.ref a2 from r2)
        obtain ⟨us2, s2, p2, _⟩ := I.list (.inl h2)
        exact ⟨_, rfl, SeqAt.RcAt.str_list _ t1 p2.isList hu1⟩
      | dct y => cases hk
      | ins c y => cases hk
    | tup x =>
      obtain ⟨a1, vs1, e1, h1, q1⟩ := rd.tup
      rw [e1] at r1
      cases (show u1 = Value.ref a1 from r1)
      obtain ⟨us1, s1, p1, _⟩ := I.tuple (SqT.of h1)
      cases e with
      | non =>
        rw [re.non] at r2
        cases (show u2 = Value.none from r2)
        exact ⟨_, rfl, SeqAt.RcAt.tuple_none p1 hu1⟩
      | bl y =>
        rw [re.bl] at r2
        cases (show u2 = Value.bool y from r2)
        exact ⟨_, rfl, SeqAt.RcAt.tuple_bool y p1 hu1⟩
      | int y =>
        rw [re.int] at r2
        obtain ⟨t2, rfl⟩ := (show ∃ t, u2 = Value.int y t from r2)
        exact ⟨_, rfl, SeqAt.RcAt.tuple_int y t2 p1 hu1⟩
      | str y =>
        rw [re.str.1] at r2
        obtain ⟨t2, rfl⟩ := (show ∃ t, u2 = Value.str (sOf y) t from r2)
        exact ⟨_, rfl, SeqAt.RcAt.tuple_str _ t2 p1 hu1⟩
      | lst y =>
        obtain ⟨a2, vs2, e2, h2, q2⟩ := re.lst
        rw [e2] at r2
        cases (show u2 = Value.ref a2 from r2)
        obtain ⟨us2, s2, p2, _⟩ := I.list (.inl h2)
        exact ⟨_, rfl, SeqAt.RcAt.tuple_list p1 p2.isList hu1⟩
      | tup y => cases hk
      | dct y => cases hk
      | ins c y => cases hk
    | lst x =>
      obtain ⟨a1, vs1, e1, h1, q1⟩ := rd.lst
      rw [e1] at r1
      cases (show u1 = Value.ref a1 from r1)
      obtain ⟨us1, s1, p1, _⟩ := I.list (.inl h1)
      cases e with
      | non =>
        rw [re.non] at r2
        cases (show u2 = Value.none from r2)
        exact ⟨_, rfl, SeqAt.RcAt.list_none p1.isList hu1⟩
      | bl y =>
        rw [re.bl] at r2
        cases (show u2 = Value.bool y from r2)
        exact ⟨_, rfl, SeqAt.RcAt.list_bool y p1.isList hu1⟩
      | int y =>
        rw [re.int] at r2
        obtain ⟨t2, rfl⟩ := (show ∃ t, u2 = Value.int y t from r2)
        exact ⟨_, rfl, SeqAt.RcAt.list_int y t2 p1.isList hu1⟩
      | str y =>
        rw [re.str.1] at r2
        obtain ⟨t2, rfl⟩ := (show ∃ t, u2 = Value.str (sOf y) t from r2)
        exact ⟨_, rfl, SeqAt.RcAt.list_str _ t2 p1.isList hu1⟩
      | tup y =>
        obtain ⟨a2, vs2, e2, h2, q2⟩ := re.tup
        rw [e2] at r2
        cases (show u2 = Value.ref a2 from r2)
        obtain ⟨us2, s2, p2, _⟩ := I.tuple (SqT.of h2)
        exact ⟨_, rfl, SeqAt.RcAt.list_tuple p1.isList p2 hu1⟩
      | lst y => cases hk
      | dct y => cases hk
      | ins c y => cases hk
    | dct x => cases hk
    | ins c x => cases hk
theorem rn_mix (I : Inv X pins σ H s) {d e : D} {v w : V} {u1 u2 : Value} {A1 A2 : List Addr} (rd : R1 c F H v d A1) (re : R1 c F H w e A2) (r1 : RelV v u1) (r2 : RelV w u2) (hk : mixK d e = true) {A : Around} (hu1 : A.units < cLine) : ∃ b, b = !fEq d e ∧ SeqAt.RcNeAt A s u1 u2 b := by
    cases d with
    | non =>
      rw [rd.non] at r1
      cases (show u1 = Value.none from r1)
      cases e with
      | non =>
        rw [re.non] at r2
        cases (show u2 = Value.none from r2)
        exact ⟨_, rfl, SeqAt.RcNeAt.none_none ⟩
      | bl y =>
        rw [re.bl] at r2
        cases (show u2 = Value.bool y from r2)
        exact ⟨_, rfl, SeqAt.RcNeAt.none_bool y⟩
      | int y =>
        rw [re.int] at r2
        obtain ⟨t2, rfl⟩ := (show ∃ t, u2 = Value.int y t from r2)
        exact ⟨_, rfl, SeqAt.RcNeAt.none_int y t2⟩
      | str y =>
        rw [re.str.1] at r2
        obtain ⟨t2, rfl⟩ := (show ∃ t, u2 = Value.str (sOf y) t from r2)
        exact ⟨_, rfl, SeqAt.RcNeAt.none_str _ t2⟩
      | tup y =>
        obtain ⟨a2, vs2, e2, h2, q2⟩ := re.tup
        rw [e2] at r2
        cases (show u2 = Value.ref a2 from r2)
        obtain ⟨us2, s2, p2, _⟩ := I.tuple (SqT.of h2)
        exact ⟨_, rfl, SeqAt.RcNeAt.none_tuple p2 hu1⟩
      | lst y =>
        obtain ⟨a2, vs2, e2, h2, q2⟩ := re.lst
        rw [e2] at r2
        cases (show u2 = Value.ref a2 from r2)
        obtain ⟨us2, s2, p2, _⟩ := I.list (.inl h2)
        exact ⟨_, rfl, SeqAt.RcNeAt.none_list p2.isList hu1⟩
      | dct y => cases hk
      | ins c y => cases hk
    | bl x =>
      rw [rd.bl] at r1
      cases (show u1 = Value.bool x from r1)
      cases e with
      | non =>
        rw [re.non] at r2
        cases (show u2 = Value.none from r2)
        exact ⟨_, rfl, SeqAt.RcNeAt.bool_none x⟩
      | bl y =>
        rw [re.bl] at r2
        cases (show u2 = Value.bool y from r2)
        exact ⟨_, rfl, SeqAt.RcNeAt.bool_bool x y⟩
      | int y =>
        rw [re.int] at r2
        obtain ⟨t2, rfl⟩ := (show ∃ t, u2 = Value.int y t from r2)
        exact ⟨_, rfl, SeqAt.RcNeAt.bool_int x y t2⟩
      | str y =>
        rw [re.str.1] at r2
        obtain ⟨t2, rfl⟩ := (show ∃ t, u2 = Value.str (sOf y) t from r2)
        exact ⟨_, rfl, SeqAt.RcNeAt.bool_str x _ t2⟩
      | tup y =>
        obtain ⟨a2, vs2, e2, h2, q2⟩ := re.tup
        rw [e2] at r2
        cases (show u2 = Value.ref a2 from r2)
        obtain ⟨us2, s2, p2, _⟩ := I.tuple (SqT.of h2)
        exact ⟨_, rfl, SeqAt.RcNeAt.bool_tuple x p2 hu1⟩
      | lst y =>
        obtain ⟨a2, vs2, e2, h2, q2⟩ := re.lst
        rw [e2] at r2
        cases (show u2 = Value.ref a2 from r2)
        obtain ⟨us2, s2, p2, _⟩ := I.list (.inl h2)
        exact ⟨_, rfl, SeqAt.RcNeAt.bool_list x p2.isList hu1⟩
      | dct y => cases hk
      | ins c y => cases hk
    | int x =>
      rw [rd.int] at r1
      obtain ⟨t1, rfl⟩ := (show ∃ t, u1 = Value.int x t from r1)
      cases e with
      | non =>
        rw [re.non] at r2
        cases (show u2 = Value.none from r2)
        exact ⟨_, rfl, SeqAt.RcNeAt.int_none x t1⟩
      | bl y =>
        rw [re.bl] at r2
        cases (show u2 = Value.bool y from r2)
        exact ⟨_, rfl, SeqAt.RcNeAt.int_bool x t1 y⟩
      | int y =>
        rw [re.int] at r2
        obtain ⟨t2, rfl⟩ := (show ∃ t, u2 = Value.int y t from r2)
        exact ⟨_, rfl, SeqAt.RcNeAt.int_int x t1 y t2⟩
      | str y =>
        rw [re.str.1] at r2
        obtain ⟨t2, rfl⟩ := (show ∃ t, u2 = Value.str (sOf y) t from r2)
        exact ⟨_, rfl, SeqAt.RcNeAt.int_str x t1 _ t2⟩
      | tup y =>
        obtain ⟨a2, vs2, e2, h2, q2⟩ := re.tup
        rw [e2] at r2
        cases (show u2 = Value.ref a2 from r2)
        obtain ⟨us2, s2, p2, _⟩ := I.tuple (SqT.of h2)
        exact ⟨_, rfl, SeqAt.RcNeAt.int_tuple x t1 p2 hu1⟩
      | lst y =>
        obtain ⟨a2, vs2, e2, h2, q2⟩ := re.lst
        rw [e2] at r2
        cases (show u2 = Value.ref a2 from r2)
        obtain ⟨us2, s2, p2, _⟩ := I.list (.inl h2)
        exact ⟨_, rfl, SeqAt.RcNeAt.int_list x t1 p2.isList hu1⟩
      | dct y => cases hk
      | ins c y => cases hk
    | str x =>
      rw [rd.str.1] at r1
      obtain ⟨t1, rfl⟩ := (show ∃ t, u1 = Value.str (sOf x) t from r1)
      cases e with
      | non =>
        rw [re.non] at r2
        cases (show u2 = Value.none from r2)
        exact ⟨_, rfl, SeqAt.RcNeAt.str_none _ t1⟩
      | bl y =>
        rw [re.bl] at r2
        cases (show u2 = Value.bool y from r2)
        exact ⟨_, rfl, SeqAt.RcNeAt.str_bool _ t1 y⟩
      | int y =>
        rw [re.int] at r2
        obtain ⟨t2, rfl⟩ := (show ∃ t, u2 = Value.int y t from r2)
        exact ⟨_, rfl, SeqAt.RcNeAt.str_int _ t1 y t2⟩
      | str y =>
        rw [re.str.1] at r2
        obtain ⟨t2, rfl⟩ := (show ∃ t, u2 = Value.str (sOf y) t from r2)
        exact ⟨_, by rw [beq_sOf]; rfl, SeqAt.RcNeAt.str_str _ t1 _ t2⟩
      | tup y =>
        obtain ⟨a2, vs2, e2, h2, q2⟩ := re.tup
        rw [e2] at r2
        cases (show u2 = Value.ref a2 from r2)
        obtain ⟨us2, s2, p2, _⟩ := I.tuple (SqT.of h2)
        exact ⟨_, rfl, SeqAt.RcNeAt.str_tuple _ t1 p2 hu1⟩
      | lst y =>
        obtain ⟨a2, vs2, e2, h2, q2⟩ := re.lst
        rw [e2] at r2
        cases (show u2 = Value.ref a2 from r2)
        obtain ⟨us2, s2, p2, _⟩ := I.list (.inl h2)
        exact ⟨_, rfl, SeqAt.RcNeAt.str_list _ t1 p2.isList hu1⟩
      | dct y => cases hk
      | ins c y => cases hk
    | tup x =>
      obtain ⟨a1, vs1, e1, h1, q1⟩ := rd.tup
      rw [e1] at r1
      cases (show u1 = Value.ref a1 from r1)
      obtain ⟨us1, s1, p1, _⟩ := I.tuple (SqT.of h1)
      cases e with
      | non =>
        rw [re.non] at r2
        cases (show u2 = Value.none from r2)
        exact ⟨_, rfl, SeqAt.RcNeAt.tuple_none p1 hu1⟩
      | bl y =>
        rw [re.bl] at r2
        cases (show u2 = Value.bool y from r2)
        exact ⟨_, rfl, SeqAt.RcNeAt.tuple_bool y p1 hu1⟩
      | int y =>
        rw [re.int] at r2
        obtain ⟨t2, rfl⟩ := (show ∃ t, u2 = Value.int y t from r2)
        exact ⟨_, rfl, SeqAt.RcNeAt.tuple_int y t2 p1 hu1⟩
      | str y =>
        rw [re.str.1] at r2
        obtain ⟨t2, rfl⟩ := (show ∃ t, u2 = Value.str (sOf y) t from r2)
        exact ⟨_, rfl, SeqAt.RcNeAt.tuple_str _ t2 p1 hu1⟩
      | lst y =>
        obtain ⟨a2, vs2, e2, h2, q2⟩ := re.lst
        rw [e2] at r2
        cases (show u2 = Value.ref a2 from r2)
        obtain ⟨us2, s2, p2, _⟩ := I.list (.inl h2)
        exact ⟨_, rfl, SeqAt.RcNeAt.tuple_list p1 p2.isList hu1⟩
      | tup y => cases hk
      | dct y => cases hk
      | ins c y => cases hk
    | lst x =>
      obtain ⟨a1, vs1, e1, h1, q1⟩ := rd.lst
      rw [e1] at r1
      cases (show u1 = Value.ref a1 from r1)
      obtain ⟨us1, s1, p1, _⟩ := I.list (.inl h1)
      cases e with
      | non =>
        rw [re.non] at r2
        cases (show u2 = Value.none from r2)
        exact ⟨_, rfl, SeqAt.RcNeAt.list_none p1.isList hu1⟩
      | bl y =>
        rw [re.bl] at r2
        cases (show u2 = Value.bool y from r2)
        exact ⟨_, rfl, SeqAt.RcNeAt.list_bool y p1.isList hu1⟩
      | int y =>
        rw [re.int] at r2
        obtain ⟨t2, rfl⟩ := (show ∃ t, u2 = Value.int y t from r2)
        exact ⟨_, rfl, SeqAt.RcNeAt.list_int y t2 p1.isList hu1⟩
      | str y =>
        rw [re.str.1] at r2
        obtain ⟨t2, rfl⟩ := (show ∃ t, u2 = Value.str (sOf y) t from r2)
        exact ⟨_, rfl, SeqAt.RcNeAt.list_str _ t2 p1.isList hu1⟩
      | tup y =>
        obtain ⟨a2, vs2, e2, h2, q2⟩ := re.tup
        rw [e2] at r2
        cases (show u2 = Value.ref a2 from r2)
        obtain ⟨us2, s2, p2, _⟩ := I.tuple (SqT.of h2)
        exact ⟨_, rfl, SeqAt.RcNeAt.list_tuple p1.isList p2 hu1⟩
      | lst y => cases hk
      | dct y => cases hk
      | ins c y => cases hk
    | dct x => cases hk
    | ins c x => cases hk
end
end Nc

set_option Elab.async false
set_option linter.all false
set_option autoImplicit false
set_option maxRecDepth 100000
set_option maxHeartbeats 4000000
/-! Built-in operations as calls: what they give, how a promise becomes an operation's question. -/
namespace Nc
open PySem PySem.Spec PyProof.Rows L2
/-- operands: frozen, borrowed -/
inductive ArgN (c : Cn) (F : Fz) (H : Hp) : List Pm → List V → List D → Prop where
  | nil : ArgN c F H [] [] []
  | fz {ps v d vs ds} (h : Rep c.cl F H v d) (r : ArgN c F H ps vs ds) : ArgN c F H (.fz :: ps) (v :: vs) (d :: ds)
  | bo {ps v d vs ds B} (h : R1 c F H v d B) (r : ArgN c F H ps vs ds) : ArgN c F H (.bo :: ps) (v :: vs) (d :: ds)
def OpM (c : Cn) (fr : Bool) (ps : List Pm) (f : List D → Option D) (vs : List V) (H1 : Hp) (Q : VK) : Prop :=
  ∃ F ds d, Fok F H1 ∧ ArgN c F H1 ps vs ds ∧ f ds = some d ∧ ∀ v H2, Ext H1 H2 → RsO fr c F H1 H2 v d → Q v H2
def mkOf (fr : Bool) : Mk := if fr = true then .own .fz else .fz
def outO (f : List D → Option D) : List D → Option Out := fun ds => (f ds).map fun d => .val d []
section
variable {c : Cn} {Xr : XrT} {F : Fz} {H : Hp} {Q : VK} {E : XK} {vs : List V} {ds : List D} {ps : List Pm} {As : List (List Addr)} {AA : List Addr} {fr : Bool} {f : List D → Option D}
theorem argN_of : ∀ {ps : List Pm} {vs : List V} {ds : List D} {As : List (List Addr)}, ArgR c F H AA ps vs ds As → (∀ p ∈ ps, isIo p = false) → ArgN c F H ps vs ds ∧ As = []
  | _, _, _, _, .nil, _ => ⟨.nil, rfl⟩
  | _, _, _, _, .fz h r, hp => let ⟨a, b⟩ := argN_of r fun p z => hp p (List.mem_cons_of_mem _ z); ⟨.fz h a, b⟩
  | _, _, _, _, .bo h n r, hp => let ⟨a, b⟩ := argN_of r fun p z => hp p (List.mem_cons_of_mem _ z); ⟨.bo h a, b⟩
  | _, _, _, _, .io h n nf r, hp => by cases hp _ List.mem_cons_self
theorem ioR_nil : ∀ {ps : List Pm} {vs : List V} {ds : List D}, ArgN c F H ps vs ds → ∀ F' H', IoR c F' H' ps vs [] []
  | _, _, _, .nil, _, _ => .nil
  | _, _, _, .fz h r, F', H' => .fz (ioR_nil r F' H')
  | _, _, _, .bo h r, F', H' => .bo (ioR_nil r F' H')
theorem ArgN.r1 : ∀ {ps : List Pm} {vs : List V} {ds : List D}, ArgN c F H ps vs ds → R1L c F H vs ds
  | _, _, _, .nil => .nil
  | _, _, _, .fz h r => .cons (R1.of h) r.r1
  | _, _, _, .bo h r => .cons h r.r1
theorem ArgN.rep : ∀ {ps : List Pm} {vs : List V} {ds : List D}, ArgN c F H ps vs ds → (∀ p ∈ ps, p = .fz) → RepL c.cl F H vs ds
  | _, _, _, .nil, _ => .nil
  | _, _, _, .fz h r, hp => .cons h (r.rep fun p z => hp p (List.mem_cons_of_mem _ z))
  | _, _, _, .bo h r, hp => by cases hp _ List.mem_cons_self
theorem spF_opM (hp : ∀ p ∈ ps, isIo p = false) (h : spF c Xr ⟨ps, mkOf fr⟩ (outO f) vs H Q E) : OpM c fr ps f vs H Q := by
  obtain ⟨F, ds, As, fk, r, q⟩ := h
  obtain ⟨a, rfl⟩ := argN_of r hp
  cases hd : f ds with
  | none =>
    have : outO f ds = none := by unfold outO; rw [hd]; rfl
    rw [this] at q
    exact q.elim
  | some d =>
    have : outO f ds = some (.val d []) := by unfold outO; rw [hd]; rfl
    rw [this] at q
    refine ⟨F, ds, d, fk, a, hd, fun v H2 ext ro => q v F H2 [] ⟨Kp.ext fk ext, fun a f => ?_, fun a f => .inl f, fun a o e _ => ext a o e, fun a z => (nomatch z), ioR_nil a F H2, fun a z => by simp at z⟩ ?_⟩
    · obtain ⟨o, e⟩ := fk a f
      exact ⟨o, ext a o e⟩
    · unfold ResR
      cases fr with
      | false =>
        rw [if_pos (by rfl)]
        exact ro
      | true =>
        rw [if_neg (fun z => by cases z)]
        obtain ⟨p, hn, o⟩ := ro
        refine ⟨[p], o, fun a ha hb => by simp at hb, fun a ha => ?_⟩
        obtain rfl := List.mem_singleton.mp ha
        refine ⟨fun z => ?_, hn⟩
        obtain ⟨o, e⟩ := fk a z
        rw [hn] at e; cases e
theorem OpM.opP (h : OpM c fr ps f vs H Q) : OpP c fr f vs H Q := let ⟨F, ds, d, a, b, e, q⟩ := h; ⟨F, ds, d, a, b.r1, e, q⟩
theorem OpM.opK (h : OpM c fr ps f vs H Q) (hp : ∀ p ∈ ps, p = .fz) : OpK c fr f vs H Q := let ⟨F, ds, d, a, b, e, q⟩ := h; ⟨F, ds, d, a, b.rep hp, e, q⟩
end
/-! ### what they give -/
def bEq : List D → Option D
  | [a, b] => if mixK a b = true then some (.bl (fEq a b)) else (dEq 100 a b).map .bl
  | _ => none
def bNe : List D → Option D
  | [a, b] => if mixK a b = true then some (.bl (!fEq a b)) else (dNe 100 a b).map .bl
  | _ => none
section
variable {c : Cn} {X : Cx} {F : Fz} {H : Hp} {pins : List (Addr × Obj)} {σ : L2.St} {s : Shared}
/-- richCompare answers b, nothing changes -/
def RcW (X : Cx) (s : Shared) (op : CmpOp) (u1 u2 : Value) (b : Bool) : Prop := ∀ (E Q : Value → Shared → Prop), Q (.bool b) s → wpAny (model X.prog X.w) X.A (richCompare op u1 u2) Q E s
theorem rc_eq (inj : ∀ a b C, c.cl a = some C → c.cl b = some C → a = b) (I : Inv X pins σ H s) (hu : X.A.units + 200 < cLine) {d e : D} {v w : V} {u1 u2 : Value} {A1 A2 : List Addr} {b : Bool} (rd : R1 c F H v d A1) (re : R1 c F H w e A2) (r1 : RelV v u1) (r2 : RelV w u2) (hm : mixK d e = false) (h : dEq 100 d e = some b) : RcW X s .Eq u1 u2 b := by
  have hu1 : X.A.units < cLine := by omega
  have h' : (match dEqA 100 d e with | some r => some r | none => dEqS (dEq 99) d e) = some b := h
  have kA : ∀ {xs ys : List D} {vs ws : List V} {us zs : List Value} {g : Nat → Bool}, RepL c.cl F H vs xs → RepL c.cl F H ws ys → Vals vs us → Vals ws zs → (∀ (j : Nat) x y, xs[j]? = some x → ys[j]? = some y → dEqA 99 x y = some (g j)) →
      ∀ j (h1 : j < us.toArray.size) (h2 : j < zs.toArray.size), SeqAt.EqIn X.prog X.w X.A.in1 s us.toArray[j] zs.toArray[j] (g j) := fun {xs ys vs ws us zs g} q1 q2 s1 s2 hg j h1 h2 => by
    obtain ⟨v1, a1, a2⟩ := vals_at s1 h1
    obtain ⟨v2, b1, b2⟩ := vals_at s2 h2
    obtain ⟨x, x1, x2⟩ := q1.getV a1
    obtain ⟨y, y1, y2⟩ := q2.getV b1
    exact (eqA_ok inj I 99 x y v1 v2 _ _ _ x2 y2 a2 b2 (hg j x y x1 y1) X.A.in1 (by show X.A.units + 1 + 99 < cLine; omega)).inModel _ _
  have kI : ∀ {xs ys : List D} {vs ws : List V} {us zs : List Value} {g : Nat → Bool}, RepL c.cl F H vs xs → RepL c.cl F H ws ys → Vals vs us → Vals ws zs → (∀ (j : Nat) x y, xs[j]? = some x → ys[j]? = some y → dEq 99 x y = some (g j)) →
      ∀ j (h1 : j < us.toArray.size) (h2 : j < zs.toArray.size), SeqAt.EqIn X.prog X.w X.A.in1 s us.toArray[j] zs.toArray[j] (g j) := fun {xs ys vs ws us zs g} q1 q2 s1 s2 hg j h1 h2 => by
    obtain ⟨v1, a1, a2⟩ := vals_at s1 h1
    obtain ⟨v2, b1, b2⟩ := vals_at s2 h2
    obtain ⟨x, x1, x2⟩ := q1.getV a1
    obtain ⟨y, y1, y2⟩ := q2.getV b1
    exact (eqI_ok inj I 99 x y v1 v2 _ _ _ x2 y2 a2 b2 (hg j x y x1 y1) X.A.in1 (by show X.A.units + 1 + 99 < cLine; omega)).1
  have kids : ∀ {xs ys : List D} {f : D → D → Option Bool} {b : Bool} {vs ws : List V} {us zs : List Value}, (f = dEqA 99 ∨ f = dEq 99) → RepL c.cl F H vs xs → RepL c.cl F H ws ys → Vals vs us → Vals ws zs → eqAll f xs ys = some b →
      ∃ g : Nat → Bool, (∀ j (h1 : j < us.toArray.size) (h2 : j < zs.toArray.size), SeqAt.EqIn X.prog X.w X.A.in1 s us.toArray[j] zs.toArray[j] (g j)) ∧ (List.range (min xs.length ys.length)).all g = b := fun {xs ys f b vs ws us zs} hf q1 q2 s1 s2 hh => by
    obtain ⟨g, g1, g2⟩ := eqAll_get hh
    rcases hf with rfl | rfl
    · exact ⟨g, kA q1 q2 s1 s2 g1, g2⟩
    · exact ⟨g, kI q1 q2 s1 s2 g1, g2⟩
  intro E Q q
  cases d with
  | lst xs =>
    cases e with
    | lst ys =>
      obtain ⟨a, vs, e1, h1, q1⟩ := rd.lst
      obtain ⟨a2, ws, e2, h2, q2⟩ := re.lst
      subst e1 e2
      cases (show u1 = Value.ref a from r1)
      cases (show u2 = Value.ref a2 from r2)
      obtain ⟨us, s1, p1, _⟩ := I.list (.inl h1)
      obtain ⟨zs, s2, p2, _⟩ := I.list (.inl h2)
      have l1 : us.toArray.size = xs.length := by rw [List.size_toArray, ← s1.length, q1.length]
      have l2 : zs.toArray.size = ys.length := by rw [List.size_toArray, ← s2.length, q2.length]
      have hs : (xs.length = ys.length → ∃ f, (f = dEqA 99 ∨ f = dEq 99) ∧ eqAll f xs ys = some b) ∧ (xs.length ≠ ys.length → b = false) := by
        have ea : dEqA 100 (.lst xs) (.lst ys) = if xs.length = ys.length then eqAll (dEqA 99) xs ys else some false := rfl
        have eb : dEqS (dEq 99) (.lst xs) (.lst ys) = if xs.length = ys.length then eqAll (dEq 99) xs ys else some false := rfl
        rw [ea, eb] at h'
        by_cases el : xs.length = ys.length
        · rw [if_pos el, if_pos el] at h'
          refine ⟨fun _ => ?_, fun z => absurd el z⟩
          cases hz : eqAll (dEqA 99) xs ys with
          | some r => rw [hz] at h'; cases h'; exact ⟨_, .inl rfl, hz⟩
          | none => rw [hz] at h'; exact ⟨_, .inr rfl, h'⟩
        · rw [if_neg el] at h'
          cases h'
          exact ⟨fun z => absurd z el, fun _ => rfl⟩
      by_cases el : xs.length = ys.length
      · obtain ⟨f, hf, hh⟩ := hs.1 el
        obtain ⟨g, g1, g2⟩ := kids hf q1 q2 s1 s2 hh
        refine SeqAt.rcIn_lists p1.isList p2.isList (by rw [l1, l2, el]) hu1 g1 ?_
        rw [l1]
        rw [← el, Nat.min_self] at g2
        rw [g2]; exact q
      · have hb := hs.2 el
        subst hb
        exact SeqAt.RcAt.lists_lengths p1.isList p2.isList (by rw [l1, l2]; simpa using el) hu1 _ _ E Q q
    | _ => first | (cases hm; done) | (cases h; done)
  | tup xs =>
    cases e with
    | tup ys =>
      obtain ⟨a, vs, e1, h1, q1⟩ := rd.tup
      obtain ⟨a2, ws, e2, h2, q2⟩ := re.tup
      subst e1 e2
      cases (show u1 = Value.ref a from r1)
      cases (show u2 = Value.ref a2 from r2)
      obtain ⟨us, s1, p1, _⟩ := I.tuple (SqT.of h1)
      obtain ⟨zs, s2, p2, _⟩ := I.tuple (SqT.of h2)
      have l1 : us.toArray.size = xs.length := by rw [List.size_toArray, ← s1.length, q1.length]
      have l2 : zs.toArray.size = ys.length := by rw [List.size_toArray, ← s2.length, q2.length]
      have hs : ∃ f z, (f = dEqA 99 ∨ f = dEq 99) ∧ eqAll f xs ys = some z ∧ b = (z && decide (xs.length = ys.length)) := by
        have ea : dEqA 100 (.tup xs) (.tup ys) = (eqAll (dEqA 99) xs ys).map fun b => b && decide (xs.length = ys.length) := rfl
        have eb : dEqS (dEq 99) (.tup xs) (.tup ys) = (eqAll (dEq 99) xs ys).map fun b => b && decide (xs.length = ys.length) := rfl
        rw [ea, eb] at h'
        cases hz : eqAll (dEqA 99) xs ys with
        | some r => rw [hz] at h'; cases h'; exact ⟨_, _, .inl rfl, hz, rfl⟩
        | none =>
          rw [hz] at h'
          obtain ⟨z, z1, z2⟩ := Option.map_eq_some_iff.mp h'
          exact ⟨_, _, .inr rfl, z1, z2.symm⟩
      obtain ⟨f, z, hf, hh, rfl⟩ := hs
      obtain ⟨g, g1, g2⟩ := kids hf q1 q2 s1 s2 hh
      refine SeqAt.rcIn_tuples p1 p2 hu1 g1 ?_
      have e2 : (xs.length == ys.length) = decide (xs.length = ys.length) := by
        rw [Bool.eq_iff_iff, beq_iff_eq, decide_eq_true_eq]
      rw [l1, l2, g2, e2]; exact q
    | _ => first | (cases hm; done) | (cases h; done)
  | dct ks =>
    cases e with
    | dct ls =>
      obtain ⟨a, vs, e1, h1, q1⟩ := rd.dct
      obtain ⟨a2, ws, e2, h2, q2⟩ := re.dct
      subst e1 e2
      cases (show u1 = Value.ref a from r1)
      cases (show u2 = Value.ref a2 from r2)
      obtain ⟨_, ya, va, ra, da⟩ := dk_rd I.hok h1
      obtain ⟨_, yb, vb, rb, db⟩ := dk_rd I.hok h2
      have l1 : va.length = ks.length := by rw [← ra.length, q1.length]
      have l2 : vb.length = ls.length := by rw [← rb.length, q2.length]
      have h2' : (if ks.length = ls.length then eqAllK (dEq 99) ls ks else some false) = some b := h'
      by_cases el : ks.length = ls.length
      · rw [if_pos el] at h2'
        refine PySem.W.keq_eqIn (r := b) ya yb da db hu1 (fun _ => ?_) ?_
        · exact hits_of (Eq := fun u1 u2 b => SeqAt.EqIn X.prog X.w X.A.in1 s u1 u2 b) (Hits := fun kb ka b => PySem.W.KeqHitsIn X.prog X.w X.A.in1 s kb ka b) (fun _ => .nil) (fun _ _ _ _ h => .miss h) (fun _ _ _ _ _ _ _ h1 h2 h3 => .hit h1 h2 h3)
            q2 rb (fun x y v w u1 u2 b h1 h2 h3 h4 h5 => (eqI_ok inj I 99 x y v w u1 u2 b h1 h2 h3 h4 h5 X.A.in1 (by show X.A.units + 1 + 99 < cLine; omega)).1) q1 ra h2'
        · have : (va.length == vb.length) = true := by rw [l1, l2, el]; exact beq_self_eq_true _
          rw [this, Bool.true_and]; exact q
      · rw [if_neg el] at h2'
        cases h2'
        refine PySem.W.keq_eqIn (r := false) ya yb da db hu1 (fun z => absurd (by rw [← l1, ← l2, z]) el) ?_
        have : (va.length == vb.length) = false := by rw [l1, l2]; simpa using el
        rw [this, Bool.false_and]; exact q
    | _ => cases h
  | ins k x => cases e <;> cases h
  | _ => cases e <;> first | (cases hm; done) | (cases h; done)
theorem rc_ne (inj : ∀ a b C, c.cl a = some C → c.cl b = some C → a = b) (I : Inv X pins σ H s) (hu : X.A.units + 200 < cLine) {d e : D} {v w : V} {u1 u2 : Value} {A1 A2 : List Addr} {b : Bool} (rd : R1 c F H v d A1) (re : R1 c F H w e A2) (r1 : RelV v u1) (r2 : RelV w u2) (hm : mixK d e = false) (h : dNe 100 d e = some b) : RcW X s .NotEq u1 u2 b := by
  have hu1 : X.A.units < cLine := by omega
  have kA : ∀ {xs ys : List D} {vs ws : List V} {us zs : List Value} {b : Bool}, RepL c.cl F H vs xs → RepL c.cl F H ws ys → Vals vs us → Vals ws zs → eqAll (dEqA 99) xs ys = some b →
      ∃ g : Nat → Bool, (∀ j (h1 : j < us.toArray.size) (h2 : j < zs.toArray.size), SeqAt.EqAt X.A.in1 s us.toArray[j] zs.toArray[j] (g j)) ∧ (List.range (min xs.length ys.length)).all g = b := fun {xs ys vs ws us zs b} q1 q2 s1 s2 hh => by
    obtain ⟨g, g1, g2⟩ := eqAll_get hh
    refine ⟨g, fun j h1 h2 => ?_, g2⟩
    obtain ⟨v1, a1, a2⟩ := vals_at s1 h1
    obtain ⟨v2, b1, b2⟩ := vals_at s2 h2
    obtain ⟨x, x1, x2⟩ := q1.getV a1
    obtain ⟨y, y1, y2⟩ := q2.getV b1
    exact eqA_ok inj I 99 x y v1 v2 _ _ _ x2 y2 a2 b2 (g1 j x y x1 y1) X.A.in1 (by show X.A.units + 1 + 99 < cLine; omega)
  intro E Q q
  cases d with
  | lst xs =>
    cases e with
    | lst ys =>
      obtain ⟨a, vs, e1, h1, q1⟩ := rd.lst
      obtain ⟨a2, ws, e2, h2, q2⟩ := re.lst
      subst e1 e2
      cases (show u1 = Value.ref a from r1)
      cases (show u2 = Value.ref a2 from r2)
      obtain ⟨us, s1, p1, _⟩ := I.list (.inl h1)
      obtain ⟨zs, s2, p2, _⟩ := I.list (.inl h2)
      have l1 : us.toArray.size = xs.length := by rw [List.size_toArray, ← s1.length, q1.length]
      have l2 : zs.toArray.size = ys.length := by rw [List.size_toArray, ← s2.length, q2.length]
      have ea : dEqA 100 (.lst xs) (.lst ys) = if xs.length = ys.length then eqAll (dEqA 99) xs ys else some false := rfl
      unfold dNe at h
      rw [ea] at h
      by_cases el : xs.length = ys.length
      · rw [if_pos el] at h
        cases hz : eqAll (dEqA 99) xs ys with
        | none => rw [hz] at h; cases h
        | some r =>
          rw [hz] at h
          cases h
          obtain ⟨g, g1, g2⟩ := kA q1 q2 s1 s2 hz
          have := SeqAt.RcNeAt.lists (A := X.A) p1.isList p2.isList (by rw [l1, l2, el]) hu1 g1
          rw [l1] at this
          rw [← el, Nat.min_self] at g2
          rw [g2] at this
          exact this _ _ E Q q
      · rw [if_neg el] at h
        cases h
        exact SeqAt.RcNeAt.lists_lengths p1.isList p2.isList (by rw [l1, l2]; simpa using el) hu1 _ _ E Q q
    | _ => first | (cases hm; done) | (cases h; done)
  | tup xs =>
    cases e with
    | tup ys =>
      obtain ⟨a, vs, e1, h1, q1⟩ := rd.tup
      obtain ⟨a2, ws, e2, h2, q2⟩ := re.tup
      subst e1 e2
      cases (show u1 = Value.ref a from r1)
      cases (show u2 = Value.ref a2 from r2)
      obtain ⟨us, s1, p1, _⟩ := I.tuple (SqT.of h1)
      obtain ⟨zs, s2, p2, _⟩ := I.tuple (SqT.of h2)
      have l1 : us.toArray.size = xs.length := by rw [List.size_toArray, ← s1.length, q1.length]
      have l2 : zs.toArray.size = ys.length := by rw [List.size_toArray, ← s2.length, q2.length]
      have ea : dEqA 100 (.tup xs) (.tup ys) = (eqAll (dEqA 99) xs ys).map fun b => b && decide (xs.length = ys.length) := rfl
      unfold dNe at h
      rw [ea] at h
      cases hz : eqAll (dEqA 99) xs ys with
      | none => rw [hz] at h; cases h
      | some r =>
        rw [hz] at h
        cases h
        obtain ⟨g, g1, g2⟩ := kA q1 q2 s1 s2 hz
        have := SeqAt.RcNeAt.tuples (A := X.A) p1 p2 hu1 g1
        have e2 : (xs.length == ys.length) = decide (xs.length = ys.length) := by
          rw [Bool.eq_iff_iff, beq_iff_eq, decide_eq_true_eq]
        rw [l1, l2, g2, e2] at this
        exact this _ _ E Q q
    | _ => first | (cases hm; done) | (cases h; done)
  | dct ks =>
    cases e with
    | dct ls =>
      obtain ⟨a, vs, e1, h1, q1⟩ := rd.dct
      obtain ⟨a2, ws, e2, h2, q2⟩ := re.dct
      subst e1 e2
      cases (show u1 = Value.ref a from r1)
      cases (show u2 = Value.ref a2 from r2)
      obtain ⟨_, ya, va, ra, da⟩ := dk_rd I.hok h1
      obtain ⟨_, yb, vb, rb, db⟩ := dk_rd I.hok h2
      have l1 : va.length = ks.length := by rw [← ra.length, q1.length]
      have l2 : vb.length = ls.length := by rw [← rb.length, q2.length]
      have h2' : (if ks.length = ls.length then (eqAllK (dEqA 99) ls ks).map (!·) else some true) = some b := h
      by_cases el : ks.length = ls.length
      · rw [if_pos el] at h2'
        obtain ⟨z, z1, z2⟩ := Option.map_eq_some_iff.mp h2'
        refine PySem.W.keq_ne (r := z) ya yb da db hu1 (fun _ => ?_) ?_
        · exact hits_of (Eq := fun u1 u2 b => SeqAt.EqAt X.A.in1 s u1 u2 b) (Hits := fun kb ka b => PySem.W.KeqHits X.A.in1 s kb ka b) (fun _ => .nil) (fun _ _ _ _ h => .miss h) (fun _ _ _ _ _ _ _ h1 h2 h3 => .hit h1 h2 h3)
            q2 rb (fun x y v w u1 u2 b h1 h2 h3 h4 h5 => eqA_ok inj I 99 x y v w u1 u2 b h1 h2 h3 h4 h5 X.A.in1 (by show X.A.units + 1 + 99 < cLine; omega)) q1 ra z1
        · have : (va.length == vb.length) = true := by rw [l1, l2, el]; exact beq_self_eq_true _
          rw [this, Bool.true_and, z2]; exact q
      · rw [if_neg el] at h2'
        cases h2'
        refine PySem.W.keq_ne (r := false) ya yb da db hu1 (fun z => absurd (by rw [← l1, ← l2, z]) el) ?_
        have : (va.length == vb.length) = false := by rw [l1, l2]; simpa using el
        rw [this, Bool.false_and]; exact q
    | _ => cases h
  | ins k x => cases e <;> cases h
  | _ => cases e <;> first | (cases hm; done) | (cases h; done)
theorem op_bEq (inj : ∀ a b C, c.cl a = some C → c.cl b = some C → a = b) (hu : X.A.units + 200 < cLine) : OpR X (compareOp .Eq) (fun u v H Q => OpP c false bEq [u, v] H Q) := by
  intro pins s σ H x y v u Q I rx ry h
  obtain ⟨F, ds, d, fk, r, e, q⟩ := h
  obtain ⟨a, b, A1, A2, rfl, ra, rb⟩ := r.two
  show wpAny (model X.prog X.w) X.A (richCompare .Eq v u) (EP X pins σ Q) X.xe s
  have fin : ∀ b, d = .bl b → (EP X pins σ Q) (.bool b) s := fun b hb => ⟨.bl b, H, I, rfl, q _ H (Ext.refl H) (by subst hb; exact .bl b)⟩
  unfold bEq at e
  simp only [] at e
  by_cases hm : mixK a b = true
  · rw [if_pos hm] at e
    obtain ⟨z, h1, h2⟩ := rc_mix I ra rb rx ry hm (A := X.A) (by omega)
    exact h2 _ _ _ _ (fin z (by cases e; rw [h1]))
  · rw [if_neg hm] at e
    obtain ⟨z, h1, h2⟩ := Option.map_eq_some_iff.mp e
    exact rc_eq inj I hu ra rb rx ry (by simpa using hm) h1 _ _ (fin z h2.symm)
theorem op_bNe (inj : ∀ a b C, c.cl a = some C → c.cl b = some C → a = b) (hu : X.A.units + 200 < cLine) : OpR X (compareOp .NotEq) (fun u v H Q => OpP c false bNe [u, v] H Q) := by
  intro pins s σ H x y v u Q I rx ry h
  obtain ⟨F, ds, d, fk, r, e, q⟩ := h
  obtain ⟨a, b, A1, A2, rfl, ra, rb⟩ := r.two
  show wpAny (model X.prog X.w) X.A (richCompare .NotEq v u) (EP X pins σ Q) X.xe s
  have fin : ∀ b, d = .bl b → (EP X pins σ Q) (.bool b) s := fun b hb => ⟨.bl b, H, I, rfl, q _ H (Ext.refl H) (by subst hb; exact .bl b)⟩
  unfold bNe at e
  simp only [] at e
  by_cases hm : mixK a b = true
  · rw [if_pos hm] at e
    obtain ⟨z, h1, h2⟩ := rn_mix I ra rb rx ry hm (A := X.A) (by omega)
    exact h2 _ _ _ _ (fin z (by cases e; rw [h1]))
  · rw [if_neg hm] at e
    obtain ⟨z, h1, h2⟩ := Option.map_eq_some_iff.mp e
    exact rc_ne inj I hu ra rb rx ry (by simpa using hm) h1 _ _ (fin z h2.symm)
end
end Nc

set_option Elab.async false
set_option linter.all false
set_option autoImplicit false
set_option maxRecDepth 100000
set_option maxHeartbeats 4000000
/-! sorted of texts. -/
namespace Nc
open PySem PySem.Spec PyProof.Rows L2
def leN (a b : List Nat) : Bool := !decide (b < a)
def sortL (xs : List (List Nat)) : List (List Nat) := xs.mergeSort leN
theorem leN_trans (a b c : List Nat) : leN a b = true → leN b c = true → leN a c = true := fun h1 h2 => by
  unfold leN at *
  simp only [Bool.not_eq_true', decide_eq_false_iff_not, List.not_lt] at *
  exact List.le_trans h1 h2
theorem leN_total (a b : List Nat) : (leN a b || leN b a) = true := by
  unfold leN
  simp only [Bool.or_eq_true, Bool.not_eq_true', decide_eq_false_iff_not, List.not_lt]
  exact List.le_total a b
theorem leN_anti (a b : List Nat) : leN a b = true → leN b a = true → a = b := fun h1 h2 => by
  unfold leN at *
  simp only [Bool.not_eq_true', decide_eq_false_iff_not, List.not_lt] at *
  exact List.le_antisymm h1 h2
theorem sortL_perm (xs : List (List Nat)) : (sortL xs).Perm xs := List.mergeSort_perm xs leN
theorem sortL_pw (xs : List (List Nat)) : (sortL xs).Pairwise fun a b => leN a b = true := List.pairwise_mergeSort leN_trans leN_total xs
theorem pw_unique {α : Type} {le : α → α → Bool} (anti : ∀ a b, le a b = true → le b a = true → a = b) : ∀ {xs ys : List α}, xs.Perm ys → xs.Pairwise (fun a b => le a b = true) → ys.Pairwise (fun a b => le a b = true) → xs = ys := fun {xs ys} p h1 h2 =>
  p.eq_of_pairwise (fun a b _ _ => anti a b) h1 h2
theorem rising_pw : ∀ {l : List Str} {p : Str}, risingS p l = true → (p :: l).Pairwise fun a b => leN a.cps.toList b.cps.toList = true
  | [], p, _ => by simp
  | x :: l, p, h => by
    have h : (!ltCps x.cps.toList p.cps.toList && risingS x l) = true := by
      unfold risingS at h
      exact h
    rw [Bool.and_eq_true] at h
    have ih := rising_pw h.2
    have h0 : leN p.cps.toList x.cps.toList = true := by
      unfold leN
      rw [← ltCps_eq]
      exact h.1
    refine List.pairwise_cons.mpr ⟨fun y hy => ?_, ih⟩
    rcases List.mem_cons.mp hy with rfl | hy
    · exact h0
    · exact leN_trans _ _ _ h0 ((List.pairwise_cons.mp ih).1 y hy)
theorem sortedS_pw {l : List Str} (h : sortedS l = true) : l.Pairwise fun a b => leN a.cps.toList b.cps.toList = true := by
  cases l with
  | nil => simp
  | cons x l => exact rising_pw h
theorem tl_sOf (s : List Nat) : (sOf s).cps.toList = s := by simp [sOf]
/-- what is sorted is the sorted -/
theorem sort_eq {ys : List Str} {zs : List (List Nat)} (p : ys.Perm (zs.map sOf)) (h : sortedS ys = true) : ys = (sortL zs).map sOf := by
  have e1 : (ys.map fun y => y.cps.toList) = sortL zs := by
    refine pw_unique leN_anti ?_ ?_ (sortL_pw zs)
    · have := p.map fun y => y.cps.toList
      rw [List.map_map] at this
      have e : ((fun (y : Str) => y.cps.toList) ∘ sOf) = id := by funext s; exact tl_sOf s
      rw [e, List.map_id] at this
      exact this.trans (sortL_perm zs).symm
    · exact (List.pairwise_map).mpr (sortedS_pw h)
  rw [← e1, List.map_map]
  have e : (sOf ∘ fun (y : Str) => y.cps.toList) = id := by funext s; exact str_of s
  rw [e, List.map_id]
/-- a dict's keys, all texts -/
def keyS : List (Kd × D) → Option (List (List Nat))
  | [] => some []
  | (.inr s, _) :: r => (keyS r).map (s :: ·)
  | _ => none
def bSortS : List D → Option D
  | [.str s] => some (.lst ((sortL (s.map fun a => [a])).map .str))
  | [.lst ds] => (strsOf ds).map fun zs => .lst ((sortL zs).map .str)
  | [.dct kvs] => if kvs.length < 64 then (keyS kvs).map fun zs => .lst ((sortL zs).map .str) else none
  | _ => none
section
variable {c : Cn} {X : Cx} {F : Fz} {H : Hp} {Q : VK} {pins : List (Addr × Obj)} {σ : L2.St} {s : Shared}
theorem repL_strs : ∀ {zs : List (List Nat)}, (∀ z ∈ zs, z.length ≤ sizeLine) → RepL c.cl F H ((zs.map sOf).map V.str) (zs.map D.str)
  | [], _ => .nil
  | z :: zs, h => .cons (.str z (h z List.mem_cons_self)) (repL_strs fun z hz => h z (List.mem_cons_of_mem _ hz))
theorem strs_le {F : Fz} : ∀ {vs : List V} {ds : List D} {bs : List (List Nat)}, RepL c.cl F H vs ds → strsOf ds = some bs → ∀ z ∈ bs, z.length ≤ sizeLine
  | _, _, _, .nil, e, z, hz => by cases e; cases hz
  | _, _, _, .cons h r, e, z, hz => by
    unfold strsOf at e
    split at e
    · rename_i q; cases q
    · rename_i q; cases q
      obtain ⟨b, e1, e2⟩ := Option.map_eq_some_iff.mp e
      subst e2
      rcases List.mem_cons.mp hz with rfl | hz
      · exact (R1.of h).str.2
      · exact strs_le r e1 z hz
    · cases e
theorem keyS_V {F : Fz} : ∀ {vs : List (Key × V)} {ds : List (Kd × D)} {bs : List (List Nat)}, RepK c.cl F H vs ds → keyS ds = some bs → vs.map (·.1) = (bs.map sOf).map Sum.inr ∧ bs.length = ds.length ∧ ∀ z ∈ bs, z.length ≤ sizeLine
  | _, _, _, .nil, e => by cases e; exact ⟨rfl, rfl, fun z hz => (nomatch hz)⟩
  | _, _, _, .cons (k := k) hk h r, e => by
    cases k with
    | inl i => cases e
    | inr s =>
      obtain ⟨b, e1, e2⟩ := Option.map_eq_some_iff.mp (show (keyS _).map (s :: ·) = some _ from e)
      subst e2
      obtain ⟨h1, h2, h3⟩ := keyS_V r e1
      refine ⟨by simp only [List.map_cons]; rw [h1]; rfl, by simp [h2], fun z hz => ?_⟩
      rcases List.mem_cons.mp hz with rfl | hz
      · exact hk
      · exact h3 z hz
/-- the new list's answer -/
theorem sort_done {zs : List (List Nat)} (hz : ∀ z ∈ zs, z.length ≤ sizeLine) (fk : Fok F H) (q : ∀ v H2, Ext H H2 → RsO true c F H H2 v (.lst ((sortL zs).map .str)) → Q v H2) {ys : List Str} {p : Addr} (hp : ys.Perm (zs.map sOf)) (hs : sortedS ys = true) (n : H p = none) : Q (.ref p) (upd H p (.lst (ys.map V.str))) := by
  rw [sort_eq hp hs]
  refine q _ _ (Ext.new n) ⟨p, n, own_lst upd_same (repL_strs fun z h => hz z ((sortL_perm zs).mem_iff.mp h))⟩
theorem signs_of : ∀ {us : List Value} {zs : List Nat}, us.length = zs.length → (∀ (j : Nat) (v : Value), us[j]? = some v → ∃ k t, zs[j]? = some k ∧ v = Value.str ⟨#[k]⟩ t) → StrsAre us ((zs.map fun a => [a]).map sOf)
  | [], [], _, _ => .nil
  | u :: us, z :: zs, hl, h => by
    obtain ⟨k, t, e1, e2⟩ := h 0 u rfl
    have e1 : z = k := Option.some.inj e1
    subst e1 e2
    exact .cons _ _ (signs_of (by simpa using hl) fun j v e => by
      obtain ⟨k, t, a, b⟩ := h (j + 1) v (by simpa using e)
      exact ⟨k, t, by simpa using a, b⟩)
  | [], _ :: _, hl, _ => by cases hl
  | _ :: _, [], hl, _ => by cases hl
/-- sorted(s), s a text -/
theorem sorted_text (hc : X.calm = true) (I : Inv X pins σ H s) {z : List Nat} (hz : z.length ≤ sizeLine) {t : Tok} (q : ∀ (ys : List Str) (p : Addr), ys.Perm ((z.map fun a => [a]).map sOf) → sortedS ys = true → H p = none → Q (.ref p) (upd H p (.lst (ys.map V.str)))) :
    wpAny (model X.prog X.w) X.A (call (.builtin "sorted") [.str (sOf z) t]) (EP X pins σ Q) X.xe s := by
  have sz : (sOf z).cps.size = z.length := by simp [sOf]
  refine Calls.call_function_entry PyProof.Rows.kind_sorted PyProof.Rows.plain_sorted PyProof.Rows.entry_sorted (PyProof.Rows.args_sorted1 _) ?_
  unfold Builtin.«sorted»
  refine wpAny_bind (m := checkCount "sorted" 1 1 _) (wpAny_pure (wpAny_bind (wpAny_collect_str (A := X.A.in1) (I.ok.hd hc) (sOf z) t (fun s2 acc k1 k2 k3 k4 k5 => ?_) (by rw [sz]; exact hz))))
  have la : acc.toList.length = z.length := by rw [Array.length_toList, k5.1, sz]
  have hS : StrsAre acc.toList ((z.map fun a => [a]).map sOf) := signs_of la fun j v e => by
    obtain ⟨k, u, e1, e2⟩ := k5.2 j v (by rw [← Array.getElem?_toList]; exact e)
    exact ⟨k, u, by rw [← Array.getElem?_toList, tl_sOf] at e1; exact e1, e2⟩
  obtain ⟨h2, g2, d2, t2, o2⟩ := s2
  obtain rfl : g2 = s.gens := k2
  obtain rfl : o2 = s.os := k4
  obtain rfl : d2 = s.drawn := k3
  have I1 : Inv X pins σ H { s with heap := h2, toks := t2 } := I.kept k1
  have lle : acc.toList.length ≤ sizeLine := by rw [la]; exact hz
  refine wpAny_bind (wpAny_newList ?_ lle)
  have hL : (h2.push (seqObj "list" acc.toList.toArray 0)).get? h2.objs.size = some (seqObj "list" acc.toList.toArray 0) := Heap.get?_push_size _ rfl
  show wpAny _ _ _ _ _ { s with heap := h2.push (seqObj "list" acc.toList.toArray 0), toks := t2 }
  refine wpAny_bind (wpAny_holding (wpAny_call_entry PyProof.Rows.slot_list_sort ⟨_, hL, rfl⟩ PyProof.Rows.entry_list_sort
    (list_sort_treeKAny strKind_oneLt (s := { s with heap := h2.push (seqObj "list" acc.toList.toArray 0), toks := t2 }) hL hS.keysOf (fun _ _ _ e => keyKind_strs (by rw [← e]; exact hS)) lle fun st hp hs => ⟨_, rfl, ?_⟩) (PyProof.Rows.args_list_sort _)))
  obtain ⟨ys, y1, y2, y3⟩ := sorted_out_str hS hp hs
  obtain ⟨e1, he⟩ := PyProof.Rows.sortedHeap_at (vs := acc.toList) (out := (arrOf st).map (·.2)) hL
  have ly : (ys.map V.str).length ≤ sizeLine := by rw [List.length_map, y2.length_eq, List.length_map, List.length_map]; exact hz
  refine wpAny_pure ⟨_, rfl, .ref h2.objs.size, upd H h2.objs.size (.lst (ys.map V.str)), I1.laid (t' := t2) (fun b u e => ?_) (Nat.le_refl _) ⟨ly, ((arrOf st).map (·.2)).toList, e1, vals_of_strs y1, by rw [Array.toArray_toList]; exact he⟩, rfl, q ys _ y2 y3 (I1.hok.fresh (Nat.le_refl _))⟩
  have lb : b < h2.objs.size := Heap.lt_size e
  rw [PyProof.Rows.sortedHeap_old (Nat.ne_of_lt lb) (by rw [size_push']; exact Nat.lt_succ_of_lt lb)]
  exact Heap.get?_push_of_some _ e
theorem cr_bSortS (hc : X.calm = true) : CallR X (.builtin "sorted") (fun xs H Q => OpP c true bSortS xs H Q) := by
  intro pins s σ H xs us Q I r h
  obtain ⟨F, ds, d, fk, rl, e, q⟩ := h
  have one : ∃ v d0 A, xs = [v] ∧ ds = [d0] ∧ R1 c F H v d0 A := by
    unfold bSortS at e
    split at e <;> first | (cases e; done) | skip
    all_goals (cases rl with | cons h1 h2 => cases h2; exact ⟨_, _, _, rfl, rfl, h1⟩)
  obtain ⟨v, d0, A, rfl, rfl, ra⟩ := one
  unfold bSortS at e
  split at e
  · rename_i z hz
    cases hz
    cases e
    obtain ⟨u, rfl, rx⟩ := vals1 r
    rw [ra.str.1] at rx
    obtain ⟨t, rfl⟩ := (show ∃ t, u = Value.str (sOf _) t from rx)
    refine sorted_text hc I ra.str.2 fun ys p hp hs n => sort_done (fun z hz => ?_) fk q hp hs n
    obtain ⟨a, _, rfl⟩ := List.mem_map.mp hz
    rw [lim_eq]; show 1 ≤ LIM; decide
  · rename_i z hz
    cases hz
    obtain ⟨zs, z1, z2⟩ := Option.map_eq_some_iff.mp e
    subst z2
    obtain ⟨a, vs, e1, h1, q1⟩ := ra.lst
    subst e1
    have ev := strs_V q1 z1
    obtain ⟨its, rv, pl, zl⟩ := I.list (.inl h1)
    rw [Vals.ref1 r]
    rw [ev] at rv
    have hl0 := rv.length
    rw [List.length_map] at hl0
    refine PyProof.Rows.sorted_strsAny pl.isList rv.strs (by rw [← hl0, ← List.length_map (f := V.str), ← ev]; exact zl) fun out ys y1 y2 y3 => ?_
    obtain ⟨ep, he⟩ := PyProof.Rows.sortedAll_at s.heap its out
    have ly : (ys.map V.str).length ≤ sizeLine := by rw [List.length_map, y2.length_eq, ← List.length_map (f := V.str), ← ev]; exact zl
    exact ⟨.ref _, upd H (s.heap.objs.size + 1) (.lst (ys.map V.str)), I.laid (t' := s.toks) (fun _ _ => PyProof.Rows.sortedAll_old) (Nat.le_succ _) ⟨ly, out.toList, ep, vals_of_strs y1, he⟩, rfl, sort_done (strs_le q1 z1) fk q y2 y3 (I.hok.fresh (Nat.le_succ _))⟩
  · rename_i z hz
    cases hz
    split at e
    · rename_i hlt
      obtain ⟨zs, z1, z2⟩ := Option.map_eq_some_iff.mp e
      subst z2
      obtain ⟨a, vs, e1, h1, q1⟩ := ra.dct
      subst e1
      obtain ⟨k1, k2, k3⟩ := keyS_V q1 z1
      refine call_sortedD hc pins s σ H [.ref a] us Q I r ⟨a, vs, zs.map sOf, rfl, h1, k1, by rw [List.length_map, k2]; exact hlt, fun ys p hp hs n => sort_done k3 fk q hp hs n⟩
    · cases e
  · cases e
end
end Nc

set_option Elab.async false
set_option linter.all false
set_option autoImplicit false
set_option maxRecDepth 100000
set_option maxHeartbeats 4000000
/-! The set of a list's texts. -/
namespace Nc
open PySem PySem.Spec PyProof.Rows L2
/-- each once -/
def once {α : Type} [DecidableEq α] : List α → List α → List α
  | acc, [] => acc
  | acc, x :: xs => once (if x ∈ acc then acc else acc ++ [x]) xs
theorem once_le {α : Type} [DecidableEq α] : ∀ (xs acc : List α), (once acc xs).length ≤ acc.length + xs.length
  | [], acc => by simp [once]
  | x :: xs, acc => by
    unfold once
    refine Nat.le_trans (once_le xs _) ?_
    split <;> simp <;> omega
theorem once_map {α β : Type} [DecidableEq α] [DecidableEq β] {f : α → β} (hf : ∀ a b, f a = f b → a = b) : ∀ (xs acc : List α), once (acc.map f) (xs.map f) = (once acc xs).map f
  | [], acc => rfl
  | x :: xs, acc => by
    have e : (f x ∈ acc.map f) ↔ x ∈ acc := ⟨fun h => by
      obtain ⟨y, h1, h2⟩ := List.mem_map.mp h
      exact hf _ _ h2 ▸ h1, fun h => List.mem_map_of_mem h⟩
    have := once_map hf xs (if x ∈ acc then acc else acc ++ [x])
    show once (if f x ∈ acc.map f then acc.map f else acc.map f ++ [f x]) (xs.map f) = _
    rw [show once acc (x :: xs) = once (if x ∈ acc then acc else acc ++ [x]) xs from rfl, ← this]
    by_cases h : x ∈ acc
    · rw [if_pos h, if_pos (e.mpr h)]
    · rw [if_neg h, if_neg (fun z => h (e.mp z)), List.map_append]
      rfl
theorem strs_get : ∀ {us : List Value} {xs : List Str}, PyProof.Rows.StrsAre us xs → ∀ (j : Nat) (v : Value), us[j]? = some v → ∃ x t, xs[j]? = some x ∧ v = .str x t
  | _, _, .nil, j, v, h => by simp at h
  | _, _, .cons n t r, 0, v, h => ⟨n, t, rfl, by simpa using h.symm⟩
  | _, _, .cons n t r, j + 1, v, h => strs_get r j v (by simpa using h)
abbrev sO (led : Bool) : Obj := { cls := .type "set", dict := none, data := .set #[] 0 (.fresh 0 0 led) }
section
variable {P : Program} {w : World} {A : Around} {It : Addr} {fp wr : List Addr} {G : Array GenState → Array GenState → Prop} {n : Nat} {Pv : Nat → Value → Prop} {St : Nat → Shared → Prop} {R : Result → Shared → Prop}
/-- the set holds just these, each once -/
def HasS (P : Program) (w : World) (h : Heap) (a : Addr) (acc : List Str) : Prop := h.SetOf (PySem.strKind P w) a (fun k => decide (k ∈ acc)) acc.length
theorem HasS.at {h h' : Heap} {a : Addr} {acc : List Str} (k : ∀ o, h.get? a = some o → h'.get? a = some o) (q : HasS P w h a acc) : HasS P w h' a acc :=
  let ⟨o, es, ep, t, ho, r⟩ := q
  ⟨o, es, ep, t, k o ho, r⟩
theorem upd_loop (W : WalksS P w A.in1 It fp wr G n Pv St) (z : Addr) (zf : z ∉ fp) (hv : ∀ i v, Pv i v → i < n) :
    ∀ (todo : List Str) (acc : List Str) (i : Nat) (s : Shared), i + todo.length = n → (∀ j v, Pv (i + j) v → ∃ x t, todo[j]? = some x ∧ v = .str x t) → St i s → acc.length + todo.length + 1 < scanBound → HasS P w s.heap z acc →
      (∀ s', Moved (z :: wr) G s s' → HasS P w s'.heap z (once acc todo) → R (.ok (.ret .none)) s') →
      codeAny (model P w) A (.builtin "set.update.loop" ⟨[.ref z, .ref It], []⟩) R s := by
  have zw : z ∉ wr := fun q => zf (W.sub _ q)
  have up : ∀ b ∈ wr, b ∈ z :: wr := fun b q => List.mem_cons_of_mem _ q
  intro todo
  induction todo with
  | nil =>
    intro acc i s hl _ st _ hs fin
    obtain rfl : i = n := hl
    refine codeAny_builtin PyProof.Rows.F.entry_set_update_loop ?_
    rw [Around.under_plainId PyProof.Rows.F.plain_set_update_loop]
    refine wpAny_bind (m := pyNext (.ref It)) (W.done s _ _ st fun s' mv => ?_)
    exact wpAny_pure (fin s' (mv.mono up) (hs.at fun o e => mv.heap z o zw e))
  | cons x todo ih =>
    intro acc i s hl vs st hb hs fin
    simp only [List.length_cons] at hl hb
    refine codeAny_builtin PyProof.Rows.F.entry_set_update_loop ?_
    rw [Around.under_plainId PyProof.Rows.F.plain_set_update_loop]
    refine wpAny_bind (m := pyNext (.ref It)) (W.item i s _ _ (by omega) st fun v s' pv st' mv => ?_)
    obtain ⟨y, t, e1, rfl⟩ := vs 0 v pv
    cases e1
    have hs' := hs.at fun o e => mv.heap z o zw e
    refine wpAny_bind (m := holding [Value.str x t] (setAdd z (.str x t))) (wpAny_holding ?_)
    unfold setAdd
    refine wpAny_holding (wpAny_bind ((PySem.strKind P w).pyHash (k := x) (strKind_is _ _ _ _) ?_))
    refine wpAny_setAddHashed_of (knd := PySem.strKind P w) (s := { s' with toks := s'.toks + 1 }) (strKind_is _ _ _ _) rfl hs' (by omega) fun h2 same hs2 => ?_
    have hs3 : HasS P w h2 z (if x ∈ acc then acc else acc ++ [x]) := by
      refine SetOf_congr hs2 (fun k => ?_) ?_
      · by_cases q : x ∈ acc
        · rw [if_pos q]
          by_cases q2 : k = x
          · subst q2; simp [q]
          · simp [q2]
        · rw [if_neg q]
          simp
      · by_cases q : x ∈ acc
        · simp [q]
        · simp [q]
    have le : (if x ∈ acc then acc else acc ++ [x]).length ≤ acc.length + 1 := by split <;> simp
    refine wpAny_pure ⟨plainId_quiet PyProof.Rows.F.plain_set_update_loop _, ih _ (i + 1) _ (by omega) (fun j v q => vs (j + 1) v (by rw [← Nat.add_assoc, Nat.add_right_comm]; exact q)) ?_ (by omega) hs3 ?_⟩
    · refine W.frame _ s' _ _ st' (Nat.le_succ _) fun b q o e => ?_
      rw [same.2 b (fun e2 : b = z => zf (e2 ▸ q))]
      exact e
    · intro s3 mv3 hs4
      refine fin s3 (Moved.trans W.gtrans ((mv.mono up).then_heap (Nat.le_succ _) fun b o q e => ?_) mv3) hs4
      rw [same.2 b (fun e2 : b = z => q (e2 ▸ List.mem_cons_self))]
      exact e
end
section
variable {P : Program} {w : World} {A : Around} {E : Value → Shared → Prop} {s : Shared}
theorem set_strs {l : Addr} {its : Array Value} {xs : List Str} {Q : Value → Shared → Prop} (cold : A.handled = none) (hl : s.heap.IsList l its) (hx : PyProof.Rows.StrsAre its.toList xs) (hb : xs.length + 1 < scanBound)
    (q : ∀ h2 tk, HasS P w h2 s.heap.objs.size (once [] xs) → (∀ b o, s.heap.get? b = some o → h2.get? b = some o) → Q (.ref s.heap.objs.size) { s with heap := h2, toks := tk }) :
    wpAny (model P w) A (call (.type "set") [.ref l]) Q E s := by
  obtain ⟨mc, mt, mro⟩ := PySem.F.called_set.mro
  have made := PySem.F.called_set.made
  have sub := PySem.F.called_set.sub
  have c1 := PySem.F.called_set.notType
  have c2 := PySem.F.called_set.canCreate
  have c3 := PySem.F.typeCall_set_1 (.ref l)
  refine wpAny_call (codeAny_of_tree ?_)
  show wpAny _ _ (callAny (.type "set") ⟨[.ref l], []⟩) _ _ s
  refine wpAny_pure (.intro (Code.quiet_builtin _ (by decide +kernel)) (codeAny_builtin PySem.F.entry_type_call ?_))
  rw [Around.under_plain (weight_type_call_type "set" [.ref l] []) rfl]
  repeat (any_goals (first | assumption | wp_step))
  refine codeAny_mono (code_set_new_1 (.ref l) (E := E) (Q₁ := fun u t => ∃ led, u = .ref s.heap.objs.size ∧ t = { s with heap := s.heap.push (sO led) }) fun led => ⟨led, rfl, rfl⟩) fun r t hr => ?_
  cases r with
  | error e => exact hr
  | ok fl =>
    cases fl with
    | ret u =>
      obtain ⟨led, rfl, rfl⟩ := hr
      have g0 : (s.heap.push (sO led)).get? s.heap.objs.size = some (sO led) := Heap.get?_push_size _ rfl
      have ty : Shared.TypeIs { s with heap := s.heap.push (sO led) } (.ref s.heap.objs.size) "set" := ⟨_, g0, rfl⟩
      have i1 := PySem.F.called_set.init.lookup
      have i2 := PySem.F.called_set.init.bind (.ref s.heap.objs.size)
      repeat (any_goals (first | assumption | wp_step))
      refine codeAny_mono (codeAny_call_builtin (R := wants (fun v t => v = .none ∧ ∃ h2 tk, t = { s with heap := h2, toks := tk } ∧ HasS P w h2 s.heap.objs.size (once [] xs) ∧ ∀ b o, s.heap.get? b = some o → h2.get? b = some o) E)
        PySem.F.called_set.init.plain PySem.F.entry_set_init (check_set_init_1 ty ?_)) fun r2 t2 hr2 => ?_
      · obtain ⟨⟨lc, ld, lz, ls⟩, e1, e2, nl, e3⟩ := hl
        simp only at e2 e3
        subst e2 e3
        have lt := Heap.lt_size e1
        have e4 : (s.heap.push (sO led)).get? l = some { cls := .type "list", dict := ld, data := .seq its nl, slots := ls } := Heap.get?_push_of_some _ e1
        have e5 : (s.heap.push (sO led)).IsList l its := .intro _ ⟨e4, rfl, nl, rfl⟩
        have n1 := PySem.F.sub_list_set
        have n2 := PySem.F.sub_list_frozenset
        have n3 : (Value.type "list" == Value.type "dict") = false := by decide
        unfold Builtin.«set.__init__» noKeywords Builtin.Frozenset.updateFrom
        generalize hit : pyIter = it
        wp_walk
        subst hit
        refine wpAny_pyIter_list e5 (wpAny_bind (wpAny_runValue ?_))
        have c0 : A.in1.in1.in1.handled = none := by simp [cold]
        have sz : (s.heap.push (sO led)).objs.size = s.heap.objs.size + 1 := by rw [Heap.size_push]
        have ne : l ≠ (s.heap.push (sO led)).objs.size := fun q => Nat.ne_of_lt (by rw [sz]; exact Nat.lt_succ_of_lt lt) (show (l : Nat) = _ from q)
        have nf : s.heap.objs.size ∉ [(s.heap.push (sO led)).objs.size, l] := fun q => by
          rcases List.mem_cons.mp q with q | q
          · exact Nat.ne_of_lt (by rw [sz]; exact Nat.lt_succ_self _) q
          · exact Nat.ne_of_gt lt (List.mem_singleton.mp q)
        have len : its.size = xs.length := by rw [← Array.length_toList]; exact StrsAre.len_eq hx
        refine upd_loop ((Walks.list c0 _ l ne its).toS) s.heap.objs.size nf (fun i v q => (Array.getElem?_eq_some_iff.mp q).1) xs [] 0 _ (by omega) (fun j v q => ?_) ⟨.intro _ ⟨Heap.get?_push_size _ rfl, rfl, rfl⟩, e5.push _⟩ (by simp; omega) ?_ ?_
        · have q : its[j]? = some v := by rw [Nat.zero_add] at q; exact q
          exact strs_get hx j v (by rw [Array.getElem?_toList, q])
        · refine SetOf_congr ((setObjOf_fresh (knd := PySem.strKind P w) led).setOf (Heap.get?_push_of_some _ g0) (by decide)) (fun k => by simp) rfl
        · intro t3 mv hs3
          obtain ⟨h3, g3, d3, k3, o3⟩ := t3
          obtain rfl : g3 = s.gens := mv.gens
          obtain rfl : d3 = s.drawn := mv.drawn
          obtain rfl : o3 = s.os := mv.os
          show wpAny _ _ (pure _) _ _ _
          refine wpAny_pure ?_
          show wpAny _ _ (ret Value.none) _ _ _
          refine wpAny_pure ⟨rfl, .intro h3 (.intro k3 ⟨rfl, hs3, fun b o q => ?_⟩)⟩
          have lb := Heap.lt_size q
          refine mv.heap b o (fun z => ?_) (Heap.get?_push_of_some _ (Heap.get?_push_of_some _ q))
          rcases List.mem_cons.mp z with z | z
          · exact Nat.ne_of_lt lb z
          · exact Nat.ne_of_lt (by rw [sz]; exact Nat.lt_succ_of_lt lb) (List.mem_singleton.mp z)
      · cases r2 with
        | error e => exact hr2
        | ok f2 =>
          cases f2 with
          | ret v =>
            obtain ⟨rfl, h3, k3, rfl, hs3, kp⟩ := hr2
            repeat (any_goals (first | assumption | wp_step))
            exact q _ _ hs3 kp
          | _ => exact hr2.elim
    | _ => exact hr.elim
end
end Nc

set_option Elab.async false
set_option linter.all false
set_option autoImplicit false
set_option maxRecDepth 100000
set_option maxHeartbeats 4000000
/-! Built-in operations: counts, reversed texts, sets' sizes. -/
namespace Nc
open PySem PySem.Spec PyProof.Rows L2
def bCnt : List D → Option D
  | [.str s, .str [a]] => some (.int (s.count a : Nat))
  | _ => none
def bRevS : List D → Option D
  | [.str s] => some (.str s.reverse)
  | _ => none
def bLnset : List D → Option D
  | [.lst ds] => (strsOf ds).bind fun zs => if zs.length < 4000 then some (.int ((once [] zs).length : Nat)) else none
  | _ => none
def bJoin : List D → Option D := dJoin
theorem cnt_nat (a : Nat) : ∀ s : List Nat, cnt a s = (s.count a : Nat)
  | [] => rfl
  | b :: s => by
    rw [cnt_cons, cnt_nat a s, List.count_cons]
    by_cases h : b = a
    · subst h; simp; omega
    · simp [h]
section
variable {c : Cn} {X : Cx} {x : Sx} {F : Fz} {H : Hp} {Q : VK} {σ : L2.St} {o e : Expr} {v w : V}
theorem strs_of_vals : ∀ {ys : List Str} {us : List Value}, Vals (ys.map V.str) us → StrsAre us ys
  | [], _, .nil => .nil
  | y :: ys, _, .cons r t => by
    obtain ⟨k, rfl⟩ := r
    exact .cons y k (strs_of_vals t)
/-- len(set(..)) -/
theorem se_lnset (g : Gn X x) {a : Expr} {p p2 q pos : Pos} (g1 : gl x "len" = true) (g2 : gl x "set" = true) (n : nst a = true) (h : SE X a σ H fun v H1 => OpP c false bLnset [v] H1 Q) : SE X (.Call (.Name "len" p) [.Call (.Name "set" p2) [a] [] q] [] pos) σ H Q := by
  intro pins s I
  have na : starEach [a] X.env = (false, eval a X.env) :: starEach [] X.env := nst_each n _
  refine Call_ (ld_blt I (g.gl g1) (g.bl _ (by decide)) PySem.boot_len (PyProof.Rows.callWith_builtin1 (PyProof.Rows.args_cons (Call_ (ld_blt I (g.gl g2) (g.bl _ (by decide)) PyProof.Rows.boot_set ?_)) rfl) rfl rfl))
  refine PyProof.Rows.callWith_type1 (PyProof.Rows.args_cons (thn (h pins s I) fun u s1 ⟨v, H1, I1, r1, z⟩ => PyProof.Rows.args_nil ?_) na) na rfl
  obtain ⟨F, ds, d, fk, r, e, z⟩ := z
  obtain ⟨d1, A, rfl, ra⟩ := r.one
  unfold bLnset at e
  split at e
  · rename_i ws hw
    cases hw
    obtain ⟨zs, z1, z2⟩ := Option.bind_eq_some_iff.mp e
    split at z2 <;> cases z2
    rename_i lt
    obtain ⟨l, vs, rfl, e2, e3⟩ := ra.lst
    rw [strs_V e3 z1] at e2
    obtain ⟨its, rv, pl, zl⟩ := I1.list (.inl e2)
    cases (show u = Value.ref l from r1)
    refine set_strs (I1.ok.hd g.calm) pl.isList (by simpa using strs_of_vals rv) (by rw [List.length_map]; unfold scanBound; omega) fun h2 tk hs kp => PyProof.Rows.args_nil ?_
    obtain ⟨ob, es, ep, t, w1, w2, w3, _, _, _, w4, w5⟩ := hs
    have eo : (once [] (zs.map sOf)).length = (once [] zs).length := by
      have := once_map (f := sOf) (fun a b h => by have := congrArg (fun (s : Str) => s.cps.toList) h; simpa [tl_sOf] using this) zs []
      rw [List.map_nil] at this
      rw [this, List.length_map]
    have I2 : Inv X pins σ H1 { s1 with heap := h2, toks := tk } := I1.kept fun b o q => kp b o q
    have le := once_le zs []
    refine PySem.call_len_set w1 w2 w3 w4 (by rw [w5, eo]; simp at le; omega) ⟨.int ((once [] zs).length : Nat), H1, I2.tok _, ⟨_, by rw [w5, eo]⟩, z _ H1 (Ext.refl H1) (.int _)⟩
  · cases e
/-- what a text's method asks -/
theorem MtR.ofO {id : String} {r : V → List V → Hp → VK → Prop} {f : List D → Option D} (h : MtR X id r) (hr : ∀ v w H Q, OpP c false f [v, w] H Q → r v [w] H Q) {nm : Str} {p q : Pos} {a : Expr} (slot : Slot "str" nm id) (ty : typeOf (.builtin id) = pure (.type "method_descriptor")) (ok : abOk o = true) (ln : (p.endLine == q.line) = true) (n : nst a = true)
    (z : SE X o σ H fun v H1 => (∃ s, v = .str s) ∧ SE X a σ H1 fun w H2 => OpP c false f [v, w] H2 Q) : SE X (.Call (.Attribute o nm p) [a] [] q) σ H Q :=
  SE.of (pe_m1 slot ty h pe_S pe_S (nst_each n _) (abOk_eq ok _ _ _) ln) (SE.mono z fun v H1 z1 => ⟨z1.1, SE.mono z1.2 fun w H2 z2 => hr v w H2 Q z2⟩)
theorem MtR.ofF {id : String} {r : V → List V → Hp → VK → Prop} {f : List D → Option D} (h : MtR X id r) (hr : ∀ v w H Q, OpP c true f [v, w] H Q → r v [w] H Q) {nm : Str} {p q : Pos} {a : Expr} (slot : Slot "str" nm id) (ty : typeOf (.builtin id) = pure (.type "method_descriptor")) (ok : abOk o = true) (ln : (p.endLine == q.line) = true) (n : nst a = true)
    (z : SE X o σ H fun v H1 => (∃ s, v = .str s) ∧ SE X a σ H1 fun w H2 => OpP c true f [v, w] H2 Q) : SE X (.Call (.Attribute o nm p) [a] [] q) σ H Q :=
  SE.of (pe_m1 slot ty h pe_S pe_S (nst_each n _) (abOk_eq ok _ _ _) ln) (SE.mono z fun v H1 z1 => ⟨z1.1, SE.mono z1.2 fun w H2 z2 => hr v w H2 Q z2⟩)
theorem opr_cnt {v w : V} (h : OpP c false bCnt [v, w] H Q) : ∃ a b, v = .str a ∧ [w] = [.str b] ∧ Q (.int (Txt.count a b)) H := by
  obtain ⟨F, ds, d, fk, r, e, q⟩ := h
  obtain ⟨a, b, A, B, rfl, ra, rb⟩ := r.two
  unfold bCnt at e
  split at e
  · rename_i s y hy
    cases hy
    cases e
    refine ⟨_, _, ra.str.1, by rw [rb.str.1], ?_⟩
    have : Txt.count (sOf s) (sOf [y]) = (s.count y : Nat) := by
      rw [show sOf [y] = ⟨#[y]⟩ from rfl, count_cnt, tl_sOf, cnt_nat]
    rw [this]
    exact q _ H (Ext.refl H) (.int _)
  · cases e
theorem rev_pick (z : List Nat) : ((Builtin.Str.strSliceIndices none none (-1) z.length).filterMap ((sOf z).cps[·]?)).toArray = (sOf z.reverse).cps := by
  rw [picked_rev, PySem.W.krv_range, List.filterMap_reverse]
  have := PySem.W.krv_all (sOf z).cps
  have e : (sOf z).cps.size = z.length := by simp [sOf]
  rw [e] at this
  rw [this, tl_sOf]
/-- s[::-1] of a text -/
theorem se_revS {a : Expr} {k : Nat} {p1 p2 p3 pos : Pos} (h : SE X a σ H fun v H1 => OpP c false bRevS [v] H1 Q) : SE X (.Subscript a (.Slice none none (some (.UnaryOp .USub (.Constant (.int 1) k p1) p2)) p3) pos) σ H Q := by
  intro pins s I
  refine Subscript_ (thn (h pins s I) fun u s1 ⟨v, H1, I1, r1, z⟩ => ?_)
  obtain ⟨F, ds, d, fk, r, e, z⟩ := z
  obtain ⟨d1, A, rfl, ra⟩ := r.one
  unfold bRevS at e
  split at e
  · rename_i y hy
    cases hy
    cases e
    rw [ra.str.1] at r1
    obtain ⟨t, rfl⟩ := (show ∃ t, u = Value.str (sOf y) t from r1)
    have st : PO X (some (.UnaryOp .USub (.Constant (.int 1) k p1) p2)) _ := po_some (pe_un un_neg pe_int)
    refine wpAny_Slice (thn (po_none.run pins s1 σ H1 (fun o H2 => o = none ∧ H1 = H2) I1 ⟨rfl, rfl⟩) fun vl s2 ⟨o2, H2, I2, pl, e2, f2⟩ => thn (po_none.run pins s2 σ H2 (fun o H3 => o = none ∧ H1 = H3) I2 ⟨rfl, f2⟩) fun vu s3 ⟨o3, H3, I3, pu, e3, f3⟩ =>
      thn (st.run pins s3 σ H3 (fun o H4 => o = some (-1) ∧ H1 = H4) I3 ⟨1, rfl, -1, rfl, rfl, f3⟩) fun vs s4 ⟨o4, H4, I4, ps, e4, f4⟩ => ?_)
    subst e2 e3 e4 f4
    obtain ⟨l, rfl, el⟩ := IsPart.raw pl
    obtain ⟨m, rfl, em⟩ := IsPart.raw pu
    obtain ⟨n, rfl, en⟩ := IsPart.raw ps
    have I5 : Inv X pins σ H1 { s4 with heap := s4.heap.push { cls := .type "slice", data := .fields #[partValue l, partValue m, partValue n] } } := I4.kept (t' := s4.toks) fun b ob q => Heap.get?_push_of_some _ q
    refine tail_any (T := "str") (ops := [.str (sOf y) t, .ref s4.heap.objs.size]) (typeIs_str _ _ _) PySem.F.slot_str_getitem.lookup (wpAny_getItem_str_slice (l := l) (u := m) (st := n) ⟨_, Heap.get?_push_size _ rfl, rfl, rfl⟩ ?_ ?_) (by with_unfolding_all rfl)
    · rw [en]; rfl
    · unfold sliceMade slicePicked
      rw [el, em, en]
      rw [if_neg (by rw [show (some (-1 : Int)).getD 1 = -1 from rfl]; simp)]
      have hp : ((Builtin.Str.strSliceIndices none none (-1) (sOf y).length).filterMap ((sOf y).cps[·]?)).toArray = (sOf y.reverse).cps := by rw [str_len]; exact rev_pick y
      show Made.post (Made.str ⟨((Builtin.Str.strSliceIndices none none (-1) (sOf y).length).filterMap ((sOf y).cps[·]?)).toArray⟩) _ _
      rw [hp]
      have le : (sOf y.reverse).length ≤ sizeLine := by rw [str_len, List.length_reverse]; exact ra.str.2
      exact ⟨le, .str _, H1, I5.tok _, ⟨_, rfl⟩, z _ H1 (Ext.refl H1) (.str _ (by rw [List.length_reverse]; exact ra.str.2))⟩
  · cases e
end
end Nc

set_option Elab.async false
set_option linter.all false
set_option autoImplicit false
set_option maxRecDepth 100000
set_option maxHeartbeats 4000000
/-! isinstance. -/
namespace Nc
open PySem PySem.Spec PyProof.Rows L2
/-- a thing's type, if it is of a built-in one -/
def tyN : D → Option String
  | .non => some "NoneType" | .bl _ => some "bool" | .int _ => some "int" | .str _ => some "str" | .lst _ => some "list" | .tup _ => some "tuple" | .dct _ => some "dict"
  | .ins _ _ => none
def ikT : Ik → Option String
  | .int => some "int" | .bl => some "bool" | .str => some "str" | .lst => some "list" | .tup => some "tuple" | .dct => some "dict" | .cls _ => none
/-- the classes of data -/
def dKs : List Str := ["Field", "Template", "Shelf", "Row", "Plan", "Pair", "Seeker", "Unsafe", "Exactly", "Longer", "Parts"]
def isiN : Ik → D → Bool
  | .int, .int _ => true | .int, .bl _ => true | .bl, .bl _ => true | .str, .str _ => true | .lst, .lst _ => true | .tup, .tup _ => true | .dct, .dct _ => true
  | _, _ => false
def insK : D → Option Str
  | .ins k _ => some k
  | _ => none
def clsK : Ik → Option Str
  | .cls k => some k
  | _ => none
def isiB (t : Ik) (d : D) : Option Bool := match clsK t, insK d with
  | some l, some k => grd (decide (k ∈ dKs) && decide (l ∈ dKs)) (decide (k = l))
  | some l, none => grd (decide (l ∈ dKs)) false
  | none, some k => grd (decide (k ∈ dKs)) false
  | none, none => some (isiN t d)
def bIsi (t : Ik) : List D → Option D
  | [d] => (isiB t d).map .bl
  | _ => none
def tyB : List String := ["NoneType", "bool", "int", "str", "list", "tuple", "dict"]
/-- what the classes' objects say -/
structure IsF (K : PySem.W.Frag) (c : Cn) (mg : Str → Option Value) : Prop where
  ob : ∀ k ∈ dKs, ∀ C, c.cl k = some C → Cls K C ∧ PySem.W.findIn K (.ref C) "__class__" = some (some (.builtin "object.__class__")) ∧ PySem.W.specialIn K (.builtin "object.__class__") "__get__" = some (some (.builtin "getset_descriptor.__get__")) ∧
    PySem.W.takesIn K (.builtin "object.__class__") = some true ∧ PySem.W.mroIn K C (.type "object") = some true
  cb : ∀ k ∈ dKs, ∀ C, c.cl k = some C → ∀ T ∈ tyB, PySem.W.kitOne K (.ref C) (.type T) = some false
  bc : ∀ k ∈ dKs, ∀ C, c.cl k = some C → ∀ T ∈ tyB, PySem.W.kitOne K (.type T) (.ref C) = some false
  cc : ∀ k ∈ dKs, ∀ l ∈ dKs, ∀ C D, c.cl k = some C → c.cl l = some D → PySem.W.kitOne K (.ref C) (.ref D) = some (decide (k = l))
  mg : ∀ k C, c.cl k = some C → mg k = some (.ref C)
def ikAll : List Ik := [.int, .bl, .str, .lst, .tup, .dct]
def dSam : List D := [.non, .bl true, .int 0, .str [], .lst [], .tup [], .dct []]
theorem kit_tab : (ikAll.all fun t => dSam.all fun d => match tyN d, ikT t with
    | some a, some b => decide (kitB a b = some (isiN t d))
    | _, _ => true) = true := by decide +kernel
theorem kit_at {t : Ik} {d : D} {a b : String} (ht : ikAll.contains t = true) (i : Nat) (hd : dSam[i]? = some d) (h1 : tyN d = some a) (h2 : ikT t = some b) : kitB a b = some (isiN t d) := by
  have := List.all_eq_true.mp (List.all_eq_true.mp kit_tab t (by simpa using ht)) d (List.mem_of_getElem? hd)
  rw [h1, h2] at this
  exact of_decide_eq_true this
section
variable {c : Cn} {X : Cx} {x : Sx} {F : Fz} {H : Hp} {Q : VK} {σ : L2.St} {o e : Expr} {v w : V}
theorem isi_bb {t : Ik} {d : D} {a b : String} (h1 : tyN d = some a) (h2 : ikT t = some b) : kitB a b = some (isiN t d) := by
  have ht : ikAll.contains t = true := by cases t <;> first | decide | cases h2
  cases d with
  | non => exact kit_at ht 0 rfl h1 h2
  | bl z => rw [kit_at (d := .bl true) ht 1 rfl h1 h2]; cases t <;> rfl
  | int z => rw [kit_at (d := .int 0) ht 2 rfl h1 h2]; cases t <;> rfl
  | str z => rw [kit_at (d := .str []) ht 3 rfl h1 h2]; cases t <;> rfl
  | lst z => rw [kit_at (d := .lst []) ht 4 rfl h1 h2]; cases t <;> rfl
  | tup z => rw [kit_at (d := .tup []) ht 5 rfl h1 h2]; cases t <;> rfl
  | dct z => rw [kit_at (d := .dct []) ht 6 rfl h1 h2]; cases t <;> rfl
  | ins k z => cases h1
/-- a thing's type -/
theorem ty_of (f : IsF X.K c X.mg) {d : D} {A : List Addr} (r : R1 c F H v d A) (hk : ∀ k fs, d = .ins k fs → k ∈ dKs) : ∃ t, TyX X.K H v t ∧ (∀ a, tyN d = some a → t = .type a) ∧ ∀ k fs, d = .ins k fs → ∃ C, c.cl k = some C ∧ t = .ref C := by
  cases d with
  | non => rw [r.non]; exact ⟨_, .base .non, fun a h => by cases h; rfl, fun k fs h => by cases h⟩
  | bl z => rw [r.bl]; exact ⟨_, .base (.bl _), fun a h => by cases h; rfl, fun k fs h => by cases h⟩
  | int z => rw [r.int]; exact ⟨_, .base (.int _), fun a h => by cases h; rfl, fun k fs h => by cases h⟩
  | str z => rw [r.str.1]; exact ⟨_, .base (.str _), fun a h => by cases h; rfl, fun k fs h => by cases h⟩
  | lst z => obtain ⟨a, vs, rfl, e2, e3⟩ := r.lst; exact ⟨_, e2.elim (fun e2 => .base (.lst e2)) (fun ⟨o, e2⟩ => .base (.frz e2)), fun a h => by cases h; rfl, fun k fs h => by cases h⟩
  | tup z => obtain ⟨a, vs, rfl, e2, e3⟩ := r.tup; exact ⟨_, .base (.tup e2), fun a h => by cases h; rfl, fun k fs h => by cases h⟩
  | dct z => obtain ⟨a, vs, rfl, e2, e3⟩ := r.dct; exact ⟨_, e2.elim (fun e2 => .base (.dK e2)) (fun ⟨o, e2⟩ => .fDict e2), fun a h => by cases h; rfl, fun k fs h => by cases h⟩
  | ins k z =>
    have : ∃ a C dx gs, v = .ref a ∧ c.cl k = some C ∧ H a = some (.ins C dx gs) := by
      rcases r with r | r
      · cases r with
        | fz r => cases r with | ins f hc h r => exact ⟨_, _, _, _, rfl, hc, h⟩
        | ins hm hc h r n => exact ⟨_, _, _, _, rfl, hc, h⟩
      · cases r with | ins hm hc h r n => exact ⟨_, _, _, _, rfl, hc, h⟩
    obtain ⟨a, C, dx, gs, rfl, hc, e2⟩ := this
    obtain ⟨c1, c2, c3, c4, c5⟩ := f.ob k (hk _ _ rfl) C hc
    exact ⟨.ref C, .base (.ins e2 c1 c2 c3 c4 c5), fun a h => (nomatch h), fun k fs h => by cases h; exact ⟨C, hc, rfl⟩⟩
theorem kit_some {K : PySem.W.Frag} {c : Cn} {mg : Str → Option Value} (f : IsF K c mg) {t : Ik} {d : D} {b : Bool} (h : isiB t d = some b) {ty u : Value} (h1 : ∀ a, tyN d = some a → ty = .type a) (h2 : ∀ k fs, d = .ins k fs → ∃ C, c.cl k = some C ∧ ty = .ref C)
    (h3 : ∀ s, ikT t = some s → u = .type s) (h4 : ∀ k, t = .cls k → ∃ C, c.cl k = some C ∧ u = .ref C) : PySem.W.kitOne K ty u = some b := by
  have it : (∃ l, t = .cls l) ∨ (clsK t = none ∧ ∃ s ∈ tyB, ikT t = some s) := by
    cases t with
    | cls l => exact .inl ⟨l, rfl⟩
    | _ => exact .inr ⟨rfl, _, by decide, rfl⟩
  have id : (∃ k fs, d = .ins k fs) ∨ (insK d = none ∧ ∃ s ∈ tyB, tyN d = some s) := by
    cases d with
    | ins k fs => exact .inl ⟨k, fs, rfl⟩
    | _ => exact .inr ⟨rfl, _, by decide, rfl⟩
  unfold isiB at h
  rcases it with ⟨l, rfl⟩ | ⟨it, s, hs, ht⟩
  · obtain ⟨C, hc, rfl⟩ := h4 l rfl
    rcases id with ⟨k, fs, rfl⟩ | ⟨id, a, ha, hd⟩
    · obtain ⟨C', hc', rfl⟩ := h2 k fs rfl
      obtain ⟨z, e⟩ := grd_some h
      rw [Bool.and_eq_true, decide_eq_true_eq, decide_eq_true_eq] at z
      rw [← e]
      exact f.cc k z.1 l z.2 C' C hc' hc
    · rw [id] at h
      obtain ⟨z, e⟩ := grd_some h
      rw [← e, h1 a hd]
      exact f.bc l (of_decide_eq_true z) C hc a ha
  · rw [it] at h
    rw [h3 s ht]
    rcases id with ⟨k, fs, rfl⟩ | ⟨id, a, ha, hd⟩
    · obtain ⟨C', hc', rfl⟩ := h2 k fs rfl
      obtain ⟨z, e⟩ := grd_some h
      rw [← e]
      exact f.cb k (of_decide_eq_true z) C' hc' s hs
    · rw [id] at h
      cases h
      rw [h1 a hd]
      exact kit_ty (isi_bb hd ht)
theorem isi_dks {t : Ik} {d : D} {b : Bool} (h : isiB t d = some b) : (∀ k fs, d = .ins k fs → k ∈ dKs) ∧ ∀ k, t = .cls k → k ∈ dKs := by
  constructor
  · intro k fs e
    subst e
    unfold isiB at h
    cases t with
    | cls l =>
      obtain ⟨z, e⟩ := grd_some h
      rw [Bool.and_eq_true, decide_eq_true_eq, decide_eq_true_eq] at z
      exact z.1
    | _ =>
      obtain ⟨z, e⟩ := grd_some h
      exact of_decide_eq_true z
  · intro k e
    subst e
    unfold isiB at h
    cases d with
    | ins l fs =>
      obtain ⟨z, e⟩ := grd_some h
      rw [Bool.and_eq_true, decide_eq_true_eq, decide_eq_true_eq] at z
      exact z.2
    | _ =>
      obtain ⟨z, e⟩ := grd_some h
      exact of_decide_eq_true z
theorem se_isi (g : Gn X x) (f : IsF X.K c X.mg) {t : Ik} (hc : ∀ k, t = .cls k → ∃ C, c.cl k = some C) {es : List Expr} (h : isiA x t e = some es) (hn : es.all nst = true) (q : SEs X es σ H fun vs H1 => OpP c false (bIsi t) vs H1 Q) : SE X e σ H Q := by
  unfold isiA at h
  split at h
  · obtain ⟨h1, h2⟩ := grd_some h
    subst h2
    rename_i m p a n p2 pos
    simp only [Bool.and_eq_true, decide_eq_true_eq, beq_iff_eq] at h1
    obtain ⟨rfl, g1, rfl, g2, g3⟩ := h1
    have na := nst_one hn
    have hnd : [a, Expr.Name (ikN t) p2].all nst = true := by
      rw [List.all_cons, Bool.and_eq_true]
      exact ⟨na, rfl⟩
    refine SE.of (pe_callB call_isi (g.gl g1) (g.bl _ (by decide)) (by decide +kernel) (pa_S hnd) (by decide) (by decide) (nst_each na _) (plain_of hnd)) (SE.mono q fun v H1 z => ?_)
    obtain ⟨F, ds, d, fk, r, ed, z⟩ := z
    obtain ⟨d1, A, rfl, ra⟩ := r.one
    obtain ⟨b, e1, rfl⟩ := Option.map_eq_some_iff.mp (show (isiB t d1).map D.bl = some d from ed)
    obtain ⟨k1, k2⟩ := isi_dks e1
    obtain ⟨ty, t1, t2, t3⟩ := ty_of f ra k1
    have fin := z _ H1 (Ext.refl H1) (.bl b)
    cases ht : ikT t with
    | some s =>
      have hb : ikN t ∈ bnames ∧ bootBuiltins (ikN t) = some (.type s) ∧ ikN t ≠ "__name__" := by
        cases t <;> first | (cases ht; exact ⟨by decide, by decide +kernel, by decide⟩) | cases ht
      refine fun pins s1 I => ld_blt I (g.gl g2) (g.bl _ hb.1) hb.2.1 ⟨.ty s, H1, I, rfl, ?_⟩ hb.2.2 (by rw [beq_eq_false_iff_ne]; simpa using g3)
      exact ⟨v, .ty s, ty, _, b, rfl, .ty s, t1, kit_some f e1 t2 t3 (fun s2 h => by rw [ht] at h; cases h; rfl) (fun k h => by subst h; cases ht), fin⟩
    | none =>
      cases t with
      | cls k =>
        obtain ⟨C, c1⟩ := hc k rfl
        have c2 := f.mg k C c1
        refine SE.of (pe_glob (v := .ref C) (g.gl g2) c2 rfl (by rw [beq_eq_false_iff_ne]; simpa using g3)) ?_
        exact ⟨v, .ref C, ty, _, b, rfl, .own C, t1, kit_some f e1 t2 t3 (fun s2 h => by cases h) (fun l h => by cases h; exact ⟨C, c1, rfl⟩), fin⟩
      | _ => cases ht
  · cases h
end
end Nc

set_option Elab.async false
set_option linter.all false
set_option autoImplicit false
set_option maxRecDepth 100000
set_option maxHeartbeats 4000000
/-! dict(d), list(d). -/
namespace Nc
open PySem PySem.Spec PyProof.Rows L2
section
variable {c : Cn} {X : Cx} {F : Fz} {H : Hp} {Q : VK} {pins : List (Addr × Obj)} {σ : L2.St} {s : Shared}
def bDctC : List D → Option D
  | [.dct kvs] => some (.dct kvs)
  | _ => none
def bListD : List D → Option D
  | [.dct kvs] => some (.lst (kvs.map fun kv => kD kv.1))
  | _ => none
theorem cr_bDctC : CallR X (.type "dict") (fun xs H Q => OpP c true bDctC xs H Q) := by
  intro pins s σ H xs us Q I r h
  obtain ⟨F, ds, d, fk, rl, e, q⟩ := h
  refine call_dictD (X := X) pins s σ H xs us Q I r ?_
  unfold bDctC at e
  split at e
  · cases e
    cases rl with
    | cons h1 h2 =>
      cases h2
      obtain ⟨a, vs, e1, hd, q1⟩ := h1.dct
      exact ⟨a, vs, by rw [e1], hd, fun p hp => q _ _ (Ext.new hp) ⟨p, hp, own_dct upd_same (q1.mono (Kp.new fk hp))⟩⟩
  · cases e
theorem keys_R {F' : Fz} {H' : Hp} : ∀ {vs : List (Key × V)} {ds : List (Kd × D)}, RepK c.cl F H vs ds → RepL c.cl F' H' (vs.map fun kv => kV kv.1) (ds.map fun kv => kD kv.1)
  | _, _, .nil => .nil
  | _, _, .cons (k := k) hk h r => by
    refine .cons ?_ (keys_R r)
    cases k with
    | inl i => exact .int i
    | inr s => exact .str s hk
theorem cr_bListD (hc : X.calm = true) : CallR X (.type "list") (fun xs H Q => OpP c true bListD xs H Q) := by
  intro pins s σ H xs us Q I r h
  obtain ⟨F, ds, d, fk, rl, e, q⟩ := h
  refine call_listD (X := X) hc pins s σ H xs us Q I r ?_
  unfold bListD at e
  split at e
  · cases e
    cases rl with
    | cons h1 h2 =>
      cases h2
      obtain ⟨a, vs, e1, hd, q1⟩ := h1.dct
      exact ⟨a, vs, by rw [e1], hd, fun p hp => q _ _ (Ext.new hp) ⟨p, hp, own_lst upd_same (keys_R q1)⟩⟩
  · cases e
def bListS : List D → Option D
  | [.str s] => some (.lst (s.map fun a => .str [a]))
  | _ => none
theorem signs_R {F' : Fz} {H' : Hp} : ∀ s : List Nat, RepL c.cl F' H' (s.map fun a => V.str (sOf [a])) (s.map fun a => D.str [a])
  | [] => .nil
  | a :: s => .cons (.str [a] (by show 1 ≤ sizeLine; rw [lim_eq]; decide)) (signs_R s)
theorem items_signs {x : Str} {acc : Array Value} (h : ItemsOf (SignAt x) acc x.cps.size) : Vals (x.cps.toList.map fun a => V.str (sOf [a])) acc.toList := by
  refine vals_of_at (by rw [List.length_map, Array.length_toList, Array.length_toList, h.1]) fun j y w h1 h2 => ?_
  obtain ⟨cc, u, e1, rfl⟩ := h.2 j w (by rw [← Array.getElem?_toList]; exact h2)
  rw [List.getElem?_map, Array.getElem?_toList, e1] at h1
  cases h1
  exact ⟨u, rfl⟩
theorem cr_bListS (hc : X.calm = true) : CallR X (.type "list") (fun xs H Q => OpP c true bListS xs H Q) := by
  intro pins s σ H xs us Q I r h
  obtain ⟨F, ds, d, fk, rl, e, q⟩ := h
  unfold bListS at e
  split at e
  · cases e
    rename_i z
    cases rl with
    | cons h1 h2 =>
      cases h2
      obtain ⟨rfl, hl⟩ := h1.str
      cases r with
      | cons r1 r2 =>
        cases r2
        obtain ⟨t, rfl⟩ := r1
        have hz : (sOf z).cps.size ≤ sizeLine := by show z.toArray.size ≤ _; simpa using hl
        refine call_list_str (hn := hz) (I.ok.hd hc) (sOf z) t fun h' tk acc' c' hkeep hS hacc => ?_
        have hv := items_signs hacc
        rw [show (sOf z).cps.toList = z from rfl] at hv
        have hm := I.hok.fresh (Nat.le_refl s.heap.objs.size)
        refine ⟨.ref s.heap.objs.size, upd H s.heap.objs.size (.lst (z.map fun a => V.str (sOf [a]))), I.laid hkeep (Nat.le_refl _) (show ObjOk X.prog X.w _ _ _ (.lst (z.map fun a => V.str (sOf [a]))) from ⟨by rw [List.length_map]; exact hl, acc'.toList, c', hv, by simpa using hS⟩), rfl, q _ _ (Ext.new hm) ⟨_, hm, own_lst upd_same (signs_R z)⟩⟩
  · cases e
end
end Nc

set_option Elab.async false
set_option linter.all false
set_option autoImplicit false
set_option maxRecDepth 100000
set_option maxHeartbeats 4000000
/-! d.get(k), d.get(k, x); the same of a table of the module. -/
namespace Nc
open PySem PySem.Spec PyProof.Rows L2
def bGet1 : List D → Option D
  | [.dct kvs, k] => (dKey k).map fun k => (dGet kvs k).getD .non
  | _ => none
def bGet2 : List D → Option D
  | [.dct kvs, k, x] => if flat x = true then (dKey k).map fun k => (dGet kvs k).getD x else none
  | _ => none
/-- a table of the module: texts by texts -/
def tabGet (kvs : List (List Nat × List Nat)) (s t : List Nat) : List Nat := ((kvs.find? fun p => decide (p.1 = s)).map (·.2)).getD t
def dTab (kvs : List (List Nat × List Nat)) : List D → Option D
  | [.str s, .str t] => some (.str (tabGet kvs s t))
  | _ => none
/-- the entries' texts -/
def TabF (es : Array DictEntry) (kvs : List (List Nat × List Nat)) : Prop := ∀ z : List Nat, match kvs.find? fun p => decide (p.1 = z) with
  | none => findBy Value.isStrOf es (sOf z) = none
  | some p => ∃ t, findBy Value.isStrOf es (sOf z) = some (.str (sOf p.2) t) ∧ p.2.length ≤ LIM
section
variable {c : Cn} {X : Cx} {F : Fz} {H : Hp} {Q : VK} {pins : List (Addr × Obj)} {σ : L2.St} {s : Shared} {x y z : V} {o a b : Expr} {p q p0 : Pos}
theorem flat_Rep {F : Fz} {A : List Addr} {v : V} {d : D} (h : R1 c F H v d A) (f : flat d = true) : Rep c.cl F H v d := by
  cases h with
  | inl h => cases h with
    | fz r => exact r
    | ins hm => cases hm
  | inr h => cases h <;> first | cases f | (rename_i hm _ _ _ _; cases hm)
theorem opr_get1 (h : OpP c false bGet1 [x, y] H Q) : ∃ a, x = .ref a ∧ IsD H a ∧ ∃ o, DGet H a y o ∧ Q (o.getD .non) H := by
  obtain ⟨F, ds, d, fk, r, e, q⟩ := h
  obtain ⟨d1, d2, A, B, rfl, ra, rb⟩ := r.two
  unfold bGet1 at e
  split at e
  · rename_i kvs k' h; cases h
    obtain ⟨k, ek, e⟩ := Option.map_eq_some_iff.mp e
    subst e
    obtain ⟨p, vs, ey, hr, rk⟩ := ra.dct
    refine ⟨p, ey, .inl ⟨vs, hr⟩, valV vs (kk k), by rw [key_V rb ek]; exact .inl ⟨vs, kk k, hr, rfl, rfl⟩, ?_⟩
    have hv := RepK.val k rk
    cases hg : dGet kvs k with
    | none => rw [hg] at q; rw [hv.1 hg]; exact q _ H (Ext.refl H) .non
    | some d => rw [hg] at q; obtain ⟨v, ev, rv⟩ := hv.2 d hg; rw [ev]; exact q _ H (Ext.refl H) rv
  · cases e
theorem R1L.three {F : Fz} {ds : List D} (h : R1L c F H [x, y, z] ds) : ∃ d e f A B C, ds = [d, e, f] ∧ R1 c F H x d A ∧ R1 c F H y e B ∧ R1 c F H z f C := by
  cases h with | cons h r => cases r with | cons h2 r => cases r with | cons h3 r => cases r; exact ⟨_, _, _, _, _, _, rfl, h, h2, h3⟩
theorem opr_get2 (h : OpP c false bGet2 [x, y, z] H Q) : ∃ a, x = .ref a ∧ IsD H a ∧ ∃ o, DGet H a y o ∧ Q (o.getD z) H := by
  obtain ⟨F, ds, d, fk, r, e, q⟩ := h
  obtain ⟨d1, d2, d3, A, B, C, rfl, ra, rb, rc⟩ := r.three
  unfold bGet2 at e
  split at e
  · rename_i kvs k' x' h; cases h
    split at e
    · rename_i hf
      obtain ⟨k, ek, e⟩ := Option.map_eq_some_iff.mp e
      subst e
      obtain ⟨p, vs, ey, hr, rk⟩ := ra.dct
      refine ⟨p, ey, .inl ⟨vs, hr⟩, valV vs (kk k), by rw [key_V rb ek]; exact .inl ⟨vs, kk k, hr, rfl, rfl⟩, ?_⟩
      have hv := RepK.val k rk
      cases hg : dGet kvs k with
      | none => rw [hg] at q; rw [hv.1 hg]; exact q _ H (Ext.refl H) (flat_Rep rc hf)
      | some d => rw [hg] at q; obtain ⟨v, ev, rv⟩ := hv.2 d hg; rw [ev]; exact q _ H (Ext.refl H) rv
    · cases e
  · cases e
theorem isD_ext {H H' : Hp} {a : Addr} (h : IsD H a) (x : Ext H H') : IsD H' a := by
  rcases h with ⟨k, h⟩ | ⟨k, h⟩
  · exact .inl ⟨k, h.elim (fun h => .inl (x _ _ h)) fun ⟨o, h⟩ => .inr ⟨o, x _ _ h⟩⟩
  · exact .inr ⟨k, h.elim (fun h => .inl (x _ _ h)) fun ⟨o, h⟩ => .inr ⟨o, x _ _ h⟩⟩
theorem m1_of {o a1 : Expr} {m : Str} {p q : Pos} (base : attributeBase o m X.env (eval o X.env) = eval o X.env) (ln : (p.endLine == q.line) = true) (h : nst a1 = true) : M1 X o m p a1 q := by
  have h0 : [a1].all nst = true := by simp [h]
  refine ⟨base, few_of (k := 1) h0 rfl (by decide), ln, ?_⟩
  rw [nst_each h]; rfl
theorem se_get1 (hu : X.A.units + 1 < cLine) (ok : abOk o = true) (ln : (p.endLine == q.line) = true) (n : nst a = true)
    (h : SE X o σ H fun v H1 => (∃ e, v = .ref e ∧ IsD H1 e) ∧ SE X a σ H1 fun w H2 => OpP c false bGet1 [v, w] H2 Q) : SE X (.Call (.Attribute o "get" p) [a] [] q) σ H Q :=
  SE.of (pe_dget1 hu pe_S pe_S (m1_of (abOk_eq ok _ _ _) ln n)) (SE.mono h fun v H1 ⟨⟨e, e1, e2⟩, z⟩ => ⟨e, e1, e2, SE.mono z fun w H2 z2 => by
    obtain ⟨a', f1, f2, o, f3, f4⟩ := opr_get1 z2
    rw [e1] at f1; cases f1
    exact ⟨o, f3, f4⟩⟩)
theorem se_get2 (hu : X.A.units + 1 < cLine) (ok : abOk o = true) (ln : (p.endLine == q.line) = true) (n : [a, b].all nst = true)
    (h : SE X o σ H fun v H1 => (∃ e, v = .ref e ∧ IsD H1 e) ∧ SE X a σ H1 fun w H2 => SE X b σ H2 fun u H3 => OpP c false bGet2 [v, w, u] H3 Q) : SE X (.Call (.Attribute o "get" p) [a, b] [] q) σ H Q :=
  SE.of (pe_dget2 hu pe_S pe_S pe_S (m2_of (abOk_eq ok _ _ _) ln n)) (SE.mono h fun v H1 ⟨⟨e, e1, e2⟩, z⟩ => ⟨e, e1, e2, SE.mono z fun w H2 z2 => SE.mono z2 fun u H3 z3 => by
    obtain ⟨a', f1, f2, o, f3, f4⟩ := opr_get2 z3
    rw [e1] at f1; cases f1
    exact ⟨o, f3, f4⟩⟩)
/-- t.get(k, x), t a table of the module -/
theorem se_tab {nm : Str} {d : Addr} {es : Array DictEntry} {n : Nat} {kvs : List (List Nat × List Nat)} (hg : Gl X nm) (hm : X.mg nm = some (.ref d)) (hd : (nm == ("__debug__" : Str)) = false) (D : KDict X.K X.w d es n) (tf : TabF es kvs)
    (ln : (p.endLine == q.line) = true) (hn : [a, b].all nst = true) (h : SEs X [a, b] σ H fun vs H1 => OpP c false (dTab kvs) vs H1 Q) : SE X (.Call (.Attribute (.Name nm p0) "get" p) [a, b] [] q) σ H Q := by
  intro pins s I
  have m : M2 X (.Name nm p0) "get" p a b q := m2_of (abOk_eq rfl _ _ _) ln hn
  refine wpAny_Call_method m.base m.few m.line PySem.F.plainAttrs_dict PySem.F.slot_dict_get PySem.F.type_dict_get (ld_glob I hg hm ?_ hd)
  refine ⟨kd_type D I, fun b' e => ?_, ?_⟩
  · cases e
    exact ⟨_, I.kIn _ _ D.at_, rfl⟩
  rw [m.trees]
  refine Calls.callWith_builtin rfl (Calls.evalArgs_plain (Calls.spliced_cons (thn (h pins s I) fun u1 s2 ⟨v1, H2, I2, r1, q1⟩ =>
    Calls.spliced_cons (thn (q1 pins s2 I2) fun u2 s3 ⟨v2, H3, I3, r2, q2⟩ => Calls.spliced_nil ?_))))
  obtain ⟨F, ds, dd, fk, r, e, qq⟩ := q2
  obtain ⟨d1, d2, A, B, rfl, ra, rb⟩ := r.two
  unfold dTab at e
  split at e
  · rename_i z1 z2 hz
    cases hz
    cases e
    obtain rfl := ra.str.1
    obtain rfl := rb.str.1
    obtain ⟨t1, rfl⟩ := r1
    obtain ⟨t2, rfl⟩ := r2
    refine call_meetsIn PySem.F.slot_dict_get (kd_type D I3) PySem.F.entry_dict_get (PySem.F.args_dict_get_3 _ _ _) (meets_dict_get_default (PySem.strKind X.prog X.w) d (PySem.strKind_is X.prog X.w (sOf z1) t1) D.low (.str (sOf z2) t2))
      ⟨_, PySem.W.mapOf_K (prog := X.prog) I3.kIn D.at_ D.lit, ?_⟩
    have hf := tf z1
    cases hk : kvs.find? fun p => decide (p.1 = z1) with
    | none =>
      rw [hk] at hf
      rw [show findBy Value.isStrOf es (sOf z1) = none from hf]
      refine ⟨.str (sOf (tabGet kvs z1 z2)), H3, I3.tok _, ⟨t2, ?_⟩, qq _ H3 (Ext.refl H3) (.str _ ?_)⟩
      · unfold tabGet; rw [hk]; rfl
      · unfold tabGet; rw [hk]; exact rb.str.2
    | some p =>
      rw [hk] at hf
      obtain ⟨t, hf, hl⟩ := hf
      rw [show findBy Value.isStrOf es (sOf z1) = some (.str (sOf p.2) t) from hf]
      refine ⟨.str (sOf (tabGet kvs z1 z2)), H3, I3.tok _, ⟨t, ?_⟩, qq _ H3 (Ext.refl H3) (.str _ ?_)⟩
      · unfold tabGet; rw [hk]; rfl
      · unfold tabGet; rw [hk]; show p.2.length ≤ sizeLine; rw [lim_eq]; exact hl
  · cases e
end
end Nc

set_option Elab.async false
set_option linter.all false
set_option autoImplicit false
set_option maxRecDepth 100000
set_option maxHeartbeats 4000000
/-! s.split(t), t one sign. -/
namespace Nc
open PySem PySem.Spec PyProof.Rows L2
def splL (s t : List Nat) : List Str := Txt.split (sOf s) (sOf t)
def bSpl : List D → Option D
  | [.str s, .str t] => if t.length = 1 ∧ s.length + 2 ≤ LIM ∧ ((splL s t).all fun y => decide (y.cps.toList.length ≤ LIM)) = true then some (.lst ((splL s t).map fun y => .str y.cps.toList)) else none
  | _ => none
section
variable {c : Cn} {X : Cx} {F : Fz} {H : Hp} {Q : VK} {v w : V}
theorem strs_R {F' : Fz} {H' : Hp} : ∀ ys : List Str, (ys.all fun y => decide (y.cps.toList.length ≤ LIM)) = true → RepL c.cl F' H' (ys.map V.str) (ys.map fun y => D.str y.cps.toList)
  | [], _ => .nil
  | y :: ys, h => by
    rw [List.all_cons, Bool.and_eq_true, decide_eq_true_eq] at h
    refine .cons ?_ (strs_R ys h.2)
    have := Rep.str (cl := c.cl) (F := F') (H := H') y.cps.toList (by rw [lim_eq]; exact h.1)
    rw [str_of] at this
    exact this
theorem opr_spl (h : OpP c true bSpl [v, w] H Q) : ∃ a b, v = .str a ∧ [w] = [.str b] ∧ (b.length == 0) = false ∧ a.length + 2 ≤ sizeLine ∧ rNewStrs (Txt.split a b) H Q := by
  obtain ⟨F, ds, d, fk, r, e, q⟩ := h
  obtain ⟨a, b, A, B, rfl, ra, rb⟩ := r.two
  unfold bSpl at e
  split at e
  · rename_i s t hh
    cases hh
    split at e
    · rename_i hz
      cases e
      refine ⟨sOf s, sOf t, ra.str.1, by rw [rb.str.1], ?_, ?_, fun p hp => q _ _ (Ext.new hp) ⟨p, hp, own_lst upd_same (strs_R _ hz.2.2)⟩⟩
      · show (t.toArray.size == 0) = false
        rw [List.size_toArray, hz.1]; rfl
      · show s.toArray.size + 2 ≤ sizeLine
        rw [List.size_toArray, lim_eq]; exact hz.2.1
    · cases e
  · cases e
end
end Nc

set_option Elab.async false
set_option linter.all false
set_option autoImplicit false
set_option maxRecDepth 100000
set_option maxHeartbeats 4000000
/-! Built-in operations as promises. -/
namespace Nc
open PySem PySem.Spec PyProof.Rows L2
/-- is what it gives fresh; its operands; what it gives -/
structure BiD where
  fr : Bool
  ps : List Pm
  f : List D → Option D
def biD : Bi → Option BiD
  | .eq => some ⟨false, [.bo, .bo], bEq⟩
  | .ne => some ⟨false, [.bo, .bo], bNe⟩
  | .cnt => some ⟨false, [.bo, .bo], bCnt⟩
  | .joi => some ⟨false, [.bo, .bo], dJoin⟩
  | .revS => some ⟨false, [.bo], bRevS⟩
  | .lnset => some ⟨false, [.bo], bLnset⟩
  | .sortS => some ⟨true, [.bo], bSortS⟩
  | .dctC => some ⟨true, [.bo], bDctC⟩
  | .listD => some ⟨true, [.bo], bListD⟩
  | .listS => some ⟨true, [.bo], bListS⟩
  | .spl => some ⟨true, [.bo, .bo], bSpl⟩
  | .get1 => some ⟨false, [.bo, .bo], bGet1⟩
  | .get2 => some ⟨false, [.bo, .bo, .bo], bGet2⟩
  | _ => none
def BiD.sg (b : BiD) : Sig := ⟨b.ps, mkOf b.fr⟩
section
variable {c : Cn} {Xr : XrT} {X : Cx} {x : Sx} {F : Fz} {H : Hp} {Q : VK} {σ : L2.St} {o e : Expr} {v w : V} {as : List Expr} {E : Hp → XK}
theorem lift_opM {b : BiD} (hp : ∀ p ∈ b.ps, isIo p = false) {P : Hp → XK} (q : SEs X as σ H fun vs H1 => spF c Xr b.sg (outO b.f) vs H1 Q (P H1)) : SEs X as σ H fun vs H1 => OpP c b.fr b.f vs H1 Q :=
  SEs.mono q fun vs H1 z => (spF_opM hp z).opP
theorem cmpB_inv {p : CmpOp} (h : cmpB p e = some as) : ∃ a b pos, e = .Compare a [p] [b] pos ∧ as = [a, b] ∧ behindInMarks p b = false := by
  unfold cmpB at h
  split at h
  · obtain ⟨h1, h2⟩ := grd_some h
    cases h2
    simp only [Bool.and_eq_true, decide_eq_true_eq, beq_iff_eq] at h1
    obtain ⟨rfl, h1⟩ := h1
    exact ⟨_, _, _, rfl, rfl, h1⟩
  · cases h
theorem calB_inv {n : Str} {k : Nat} (h : calB x n k e = some as) : ∃ p pos, e = .Call (.Name n p) as [] pos ∧ as.length = k ∧ gl x n = true := by
  unfold calB at h
  split at h
  · obtain ⟨h1, h2⟩ := grd_some h
    cases h2
    simp only [Bool.and_eq_true, decide_eq_true_eq] at h1
    obtain ⟨rfl, h1, h2⟩ := h1
    exact ⟨_, _, rfl, h1, h2⟩
  · cases h
theorem calBB_inv {n m : Str} (h : calBB x n m e = some as) : ∃ p p2 q pos a, e = .Call (.Name n p) [.Call (.Name m p2) [a] [] q] [] pos ∧ as = [a] ∧ gl x n = true ∧ gl x m = true := by
  unfold calBB at h
  split at h
  · obtain ⟨h1, h2⟩ := grd_some h
    cases h2
    simp only [Bool.and_eq_true, decide_eq_true_eq] at h1
    obtain ⟨rfl, rfl, h1, h2⟩ := h1
    exact ⟨_, _, _, _, _, rfl, rfl, h1, h2⟩
  · cases h
theorem revB_inv (h : revB e = some as) : ∃ a k p1 p2 p3 pos, e = .Subscript a (.Slice none none (some (.UnaryOp .USub (.Constant (.int 1) k p1) p2)) p3) pos ∧ as = [a] := by
  unfold revB at h
  split at h
  · split at h <;> cases h
    rename_i q; subst q
    exact ⟨_, _, _, _, _, _, rfl, rfl⟩
  · cases h
theorem one_of {as : List Expr} (h : as.length = 1) : ∃ a, as = [a] := by
  match as, h with
  | [a], _ => exact ⟨a, rfl⟩
/-- a comparison by its operation -/
theorem cal_cmp {p : CmpOp} {f : List D → Option D} (ho : OpR X (compareOp p) (fun u v H Q => OpP c false f [u, v] H Q)) (h : cmpB p e = some as) :
    (SEs X as σ H (fun vs H1 => OpP c false f vs H1 Q) → SE X e σ H Q) ∧ ∀ Q' : Bool → Hp → Prop, SEs X as σ H (fun vs H1 => OpP c false f vs H1 fun v H2 => ∃ k, v = .bl k ∧ Q' k H2) → ST X e σ H Q' := by
  obtain ⟨a, b, pos, rfl, rfl, m⟩ := cmpB_inv h
  exact ⟨fun q => lift_cmp ho m q fun _ _ _ z => z, fun Q' q => ST.of (pt_cmpR ho pe_S pe_S m) (lift2 q fun _ _ _ z => z)⟩
theorem cal_bi (g : Gn X x) (inj : ∀ a b C, c.cl a = some C → c.cl b = some C → a = b) : ∀ (b : Bi) (d : BiD), biD b = some d → biA x b e = some as → as.all nst = true → ∀ W : Hp → XK,
    (SEs X as σ H (fun vs H1 => spF c Xr d.sg (outO d.f) vs H1 Q (W H1)) → SE X e σ H Q) ∧
    (isCK (.bi b) = true → ∀ Q' : Bool → Hp → Prop, SEs X as σ H (fun vs H1 => spF c Xr d.sg (outO d.f) vs H1 (fun v H2 => ∃ k, v = .bl k ∧ Q' k H2) (W H1)) → ST X e σ H Q')
  | .eq, _, rfl, h, n, W => by
    obtain ⟨h1, h2⟩ := cal_cmp (op_bEq inj g.un) h
    exact ⟨fun q => h1 (lift_opM (b := ⟨false, [.bo, .bo], bEq⟩) (by decide) q), fun _ Q' q => h2 Q' (lift_opM (b := ⟨false, [.bo, .bo], bEq⟩) (by decide) q)⟩
  | .ne, _, rfl, h, n, W => by
    obtain ⟨h1, h2⟩ := cal_cmp (op_bNe inj g.un) h
    exact ⟨fun q => h1 (lift_opM (b := ⟨false, [.bo, .bo], bNe⟩) (by decide) q), fun _ Q' q => h2 Q' (lift_opM (b := ⟨false, [.bo, .bo], bNe⟩) (by decide) q)⟩
  | .cnt, _, _, h, _, _ => by cases h
  | .joi, _, _, h, _, _ => by cases h
  | .revS, _, rfl, h, n, W => ⟨fun q => by
      obtain ⟨a, k, p1, p2, p3, pos, rfl, rfl⟩ := revB_inv h
      exact se_revS (lift_opM (b := ⟨false, [.bo], bRevS⟩) (by decide) q), fun z => by cases z⟩
  | .lnset, _, rfl, h, n, W => ⟨fun q => by
      obtain ⟨p, p2, q', pos, a, rfl, rfl, g1, g2⟩ := calBB_inv h
      exact se_lnset g g1 g2 (nst_one n) (lift_opM (b := ⟨false, [.bo], bLnset⟩) (by decide) q), fun z => by cases z⟩
  | .sortS, _, rfl, h, n, W => ⟨fun q => by
      obtain ⟨p, pos, rfl, l1, g1⟩ := calB_inv h
      obtain ⟨a, rfl⟩ := one_of l1
      exact lift_callB (cr_bSortS g.calm) (g.gl g1) (g.bl _ (by decide)) (by decide +kernel) (by decide) (by decide) (nst_one n) (lift_opM (b := ⟨true, [.bo], bSortS⟩) (by decide) q) fun _ _ z => z, fun z => by cases z⟩
  | .dctC, _, rfl, h, n, W => ⟨fun q => by
      obtain ⟨p, pos, rfl, l1, g1⟩ := calB_inv h
      obtain ⟨a, rfl⟩ := one_of l1
      exact lift_callTy cr_bDctC (g.gl g1) (g.bl _ (by decide)) (by decide +kernel) (by decide) (by decide) (nst_one n) (lift_opM (b := ⟨true, [.bo], bDctC⟩) (by decide) q) fun _ _ z => z, fun z => by cases z⟩
  | .listD, _, rfl, h, n, W => ⟨fun q => by
      obtain ⟨p, pos, rfl, l1, g1⟩ := calB_inv h
      obtain ⟨a, rfl⟩ := one_of l1
      exact lift_callTy (cr_bListD g.calm) (g.gl g1) (g.bl _ (by decide)) (by decide +kernel) (by decide) (by decide) (nst_one n) (lift_opM (b := ⟨true, [.bo], bListD⟩) (by decide) q) fun _ _ z => z, fun z => by cases z⟩
  | .listS, _, rfl, h, n, W => ⟨fun q => by
      obtain ⟨p, pos, rfl, l1, g1⟩ := calB_inv h
      obtain ⟨a, rfl⟩ := one_of l1
      exact lift_callTy (cr_bListS g.calm) (g.gl g1) (g.bl _ (by decide)) (by decide +kernel) (by decide) (by decide) (nst_one n) (lift_opM (b := ⟨true, [.bo], bListS⟩) (by decide) q) fun _ _ z => z, fun z => by cases z⟩
  | .spl, _, _, h, _, _ => by cases h
  | .get1, _, _, h, _, _ => by cases h
  | .get2, _, _, h, _, _ => by cases h
theorem two_of {as : List Expr} (h : as.length = 2) : ∃ a b, as = [a, b] := by
  match as, h with
  | [a, b], _ => exact ⟨a, b, rfl⟩
theorem bmA_inv {b : Bi} (h : bmA b e = some (o, as)) : ∃ nm k p q, bmN b = some (nm, k) ∧ as.length = k ∧ e = .Call (.Attribute o nm p) as [] q ∧ abOk o = true ∧ (p.endLine == q.line) = true := by
  unfold bmA at h
  obtain ⟨⟨nm, k⟩, h1, h2⟩ := Option.bind_eq_some_iff.mp h
  obtain ⟨⟨o', as'⟩, h3, h4⟩ := Option.bind_eq_some_iff.mp h2
  obtain ⟨h5, h6⟩ := grd_some h4
  cases h6
  obtain ⟨p, q, rfl, h7, h8⟩ := metA_inv h3
  exact ⟨nm, k, p, q, h1, of_decide_eq_true h5, rfl, h7, h8⟩
theorem bm_bi (g : Gn X x) : ∀ (b : Bi) (d : BiD), biD b = some d → bmA b e = some (o, as) → as.all nst = true → ∀ W : Hp → XK,
    SE X o σ H (fun v H1 => (∃ F d A, R1 c F H1 v d A ∧ bmT b d = true) ∧ SEs X as σ H1 (fun vs H2 => spF c Xr d.sg (outO d.f) (v :: vs) H2 Q (W H2))) → SE X e σ H Q
  | .cnt, _, rfl, h, n, W, q => by
    obtain ⟨nm, k, p, q', h1, h2, rfl, h3, h4⟩ := bmA_inv h
    cases h1
    obtain ⟨a, rfl⟩ := one_of h2
    refine MtR.ofO (c := c) mt_count (f := bCnt) (fun v w H Q z => opr_cnt z) PySem.F.slot_str_count PySem.F.type_str_count h3 h4 (nst_one n) (SE.mono q fun v H1 ⟨⟨F, d, A, r, t⟩, z⟩ => ?_)
    refine ⟨?_, SE.mono z fun w H2 z2 => (spF_opM (fr := false) (ps := [.bo, .bo]) (f := bCnt) (by decide) z2).opP⟩
    cases d with
    | str s => exact ⟨_, r.str.1⟩
    | _ => cases t
  | .joi, _, rfl, h, n, W, q => by
    obtain ⟨nm, k, p, q', h1, h2, rfl, h3, h4⟩ := bmA_inv h
    cases h1
    obtain ⟨a, rfl⟩ := one_of h2
    refine MtR.ofO (c := c) mt_join (f := dJoin) (fun v w H Q z => opr_join z) PySem.F.slot_str_join PySem.F.type_str_join h3 h4 (nst_one n) (SE.mono q fun v H1 ⟨⟨F, d, A, r, t⟩, z⟩ => ?_)
    refine ⟨?_, SE.mono z fun w H2 z2 => (spF_opM (fr := false) (ps := [.bo, .bo]) (f := dJoin) (by decide) z2).opP⟩
    cases d with
    | str s => exact ⟨_, r.str.1⟩
    | _ => cases t
  | .eq, _, _, h, _, _, _ => by cases h
  | .ne, _, _, h, _, _, _ => by cases h
  | .revS, _, _, h, _, _, _ => by cases h
  | .lnset, _, _, h, _, _, _ => by cases h
  | .sortS, _, _, h, _, _, _ => by cases h
  | .dctC, _, _, h, _, _, _ => by cases h
  | .listD, _, _, h, _, _, _ => by cases h
  | .listS, _, _, h, _, _, _ => by cases h
  | .spl, _, rfl, h, n, W, q => by
    obtain ⟨nm, k, p, q', h1, h2, rfl, h3, h4⟩ := bmA_inv h
    cases h1
    obtain ⟨a, rfl⟩ := one_of h2
    refine MtR.ofF (c := c) mt_split (f := bSpl) (fun v w H Q z => opr_spl z) PySem.F.slot_str_split PySem.F.type_str_split h3 h4 (nst_one n) (SE.mono q fun v H1 ⟨⟨F, d, A, r, t⟩, z⟩ => ?_)
    refine ⟨?_, SE.mono z fun w H2 z2 => (spF_opM (fr := true) (ps := [.bo, .bo]) (f := bSpl) (by decide) z2).opP⟩
    cases d with
    | str s => exact ⟨_, r.str.1⟩
    | _ => cases t
  | .get1, _, rfl, h, n, W, q => by
    obtain ⟨nm, k, p, q', h1, h2, rfl, h3, h4⟩ := bmA_inv h
    cases h1
    obtain ⟨a, rfl⟩ := one_of h2
    refine se_get1 (c := c) (by have := g.un; omega) h3 h4 (nst_one n) (SE.mono q fun v H1 ⟨⟨F, d, A, r, t⟩, z⟩ => ?_)
    refine ⟨?_, SE.mono z fun w H2 z2 => (spF_opM (fr := false) (ps := [.bo, .bo]) (f := bGet1) (by decide) z2).opP⟩
    cases d with
    | dct s => obtain ⟨a', vs, e1, e2, _⟩ := r.dct; exact ⟨a', e1, .inl ⟨vs, e2⟩⟩
    | _ => cases t
  | .get2, _, rfl, h, n, W, q => by
    obtain ⟨nm, k, p, q', h1, h2, rfl, h3, h4⟩ := bmA_inv h
    cases h1
    obtain ⟨a, b, rfl⟩ := two_of h2
    refine se_get2 (c := c) (by have := g.un; omega) h3 h4 n (SE.mono q fun v H1 ⟨⟨F, d, A, r, t⟩, z⟩ => ?_)
    refine ⟨?_, SE.mono z fun w H2 z2 => SE.mono z2 fun u H3 z3 => (spF_opM (fr := false) (ps := [.bo, .bo, .bo]) (f := bGet2) (by decide) z3).opP⟩
    cases d with
    | dct s => obtain ⟨a', vs, e1, e2, _⟩ := r.dct; exact ⟨a', e1, .inl ⟨vs, e2⟩⟩
    | _ => cases t
end
end Nc

set_option Elab.async false
set_option linter.all false
set_option autoImplicit false
set_option maxRecDepth 100000
set_option maxHeartbeats 4000000
/-! Own methods that built-in operations call. -/
namespace Nc
open PySem PySem.Spec PyProof.Rows L2
section
variable {c : Cn} {T : Tb} {Xr : XrT} {X : Cx} {W : WX} {x : Sx} {k : Nat} {f C : Addr} {fd : FuncData} {ps : List Str} {sp : Sp} {σ : L2.St} {H : Hp} {Q : VK} {E : XK}
theorem run_fnA {A : Around} {pins : List (Addr × Obj)} {s : Shared} {us : List Value} {vs : List V} (F : FnOk X.prog X.w X.K X.mg X.base (CX X.prog X.w) k f fd ps sp) (hr : Room k A) (e0 : Env0 X.prog X.w X.K X.mg X.base A X.stack s H) (hb : Binds X.K fd ps []) (tk : Takes X W)
    (I : Inv X pins σ H s) (r : Vals vs us) (h : sp vs H Q fun cls d H' => W cls d σ H') : wpAny (model X.prog X.w) A (call (.ref f) us) (EP X pins σ Q) X.xe s := by
  have hl : us.length = ps.length := by rw [← r.length]; exact F.len _ _ _ _ h
  have hb' : BindsTo s fd ⟨us, []⟩ (ps.zip us) := by
    have := hb s us I.kIn (by rw [List.append_nil]; exact hl)
    rwa [List.append_nil] at this
  refine wpAny_call (codeAny_mono (F.run A X.stack s H ⟨us, []⟩ us vs Q _ hr e0 hb' r h) fun r s' hq => ?_)
  cases r with
  | error e => exact tk e s' (XE.of_call I (fun cls d H' h => h) hq)
  | ok fl =>
    cases fl with
    | ret u => exact I.after hq
    | _ => exact False.elim hq
/-! ### promises turned -/
theorem ArgN.two {F : Fz} {p q : Pm} {u v : V} {ds : List D} (h : ArgN c F H [p, q] [u, v] ds) : ∃ a b, ds = [a, b] ∧ ArgN c F H [p] [u] [a] ∧ ArgN c F H [q] [v] [b] := by
  cases h with
  | fz h r => cases r with
    | fz h2 r => cases r; exact ⟨_, _, rfl, .fz h .nil, .fz h2 .nil⟩
    | bo h2 r => cases r; exact ⟨_, _, rfl, .fz h .nil, .bo h2 .nil⟩
  | bo h r => cases r with
    | fz h2 r => cases r; exact ⟨_, _, rfl, .bo h .nil, .fz h2 .nil⟩
    | bo h2 r => cases r; exact ⟨_, _, rfl, .bo h .nil, .bo h2 .nil⟩
theorem ArgN.app {F : Fz} : ∀ {ps qs : List Pm} {us vs : List V} {ds es : List D}, ArgN c F H ps us ds → ArgN c F H qs vs es → ArgN c F H (ps ++ qs) (us ++ vs) (ds ++ es)
  | _, _, _, _, _, _, .nil, h2 => h2
  | _, _, _, _, _, _, .fz h r, h2 => .fz h (r.app h2)
  | _, _, _, _, _, _, .bo h r, h2 => .bo h (r.app h2)
theorem ArgN.arg {F : Fz} : ∀ {ps : List Pm} {us : List V} {ds : List D}, ArgN c F H ps us ds → ArgR c F H [] ps us ds []
  | _, _, _, .nil => .nil
  | _, _, _, .fz h r => .fz h r.arg
  | _, _, _, .bo h r => .bo h (fun _ _ z => (nomatch z)) r.arg
theorem ArgN.r1_ {F : Fz} {p : Pm} {u : V} {d : D} (h : ArgN c F H [p] [u] [d]) : ∃ B, R1 c F H u d B := by
  cases h with
  | fz h r => exact ⟨_, R1.of h⟩
  | bo h r => exact ⟨_, h⟩
theorem R1.insV {F : Fz} {v : V} {k : Str} {fs : List (Str × D)} {A : List Addr} (r : R1 c F H v (.ins k fs) A) : ∃ a C dx gs, v = .ref a ∧ c.cl k = some C ∧ H a = some (.ins C dx gs) := by
  rcases r with r | r
  · cases r with
    | fz r => cases r with | ins f hc h r => exact ⟨_, _, _, _, rfl, hc, h⟩
    | ins hm hc h r n => exact ⟨_, _, _, _, rfl, hc, h⟩
  · cases r with | ins hm hc h r n => exact ⟨_, _, _, _, rfl, hc, h⟩
/-- a promise whose operands are none of those that change -/
def OutN (c : Cn) (Xr : XrT) (F : Fz) (m : Mk) (o : Option Out) (H : Hp) (Q : VK) (E : XK) : Prop := match o with
  | some (.val d ios) => ∀ v F' H', PostR c F H [] [] [] [] F' H' [] → ResR c H m F' H' [] v d → Q v H'
  | some (.exc k xs ios) => ∀ cls dx F' H', PostR c F H [] [] [] [] F' H' [] → Xr k xs cls dx F' H' → E cls dx H'
  | none => False
theorem ioR_no {F F' : Fz} {H' : Hp} : ∀ {ps : List Pm} {vs : List V} {ios : List D} {As : List (List Addr)}, (∀ p ∈ ps, isIo p = false) → IoR c F' H' ps vs ios As → As = []
  | _, _, _, _, _, .nil => rfl
  | _, _, _, _, hp, .fz r => ioR_no (F := F) (fun p z => hp p (List.mem_cons_of_mem _ z)) r
  | _, _, _, _, hp, .bo r => ioR_no (F := F) (fun p z => hp p (List.mem_cons_of_mem _ z)) r
  | _, _, _, _, hp, .io h n r => by cases hp _ List.mem_cons_self
theorem postR_no {F F' : Fz} {H' : Hp} {qs : List Pm} {vs : List V} {ios : List D} {As : List (List Addr)} (hp : ∀ p ∈ qs, isIo p = false) (p : PostR c F H [] qs vs ios F' H' As) : As = [] ∧ PostR c F H [] [] [] [] F' H' [] := by
  have e := ioR_no (F := F) hp p.io
  subst e
  exact ⟨rfl, p.kp, p.fk, p.f1, p.keep, p.st, .nil, fun a h => by simp at h⟩
/-- nothing is changed by it -/
def pln (o : Option Out) : Option Out := match o with
  | some (.val d []) => some (.val d [])
  | some (.exc k xs []) => some (.exc k xs [])
  | _ => none
/-- .. and what it gives is of a kind -/
def plnV (p : D → Bool) (o : Option Out) : Option Out := match o with
  | some (.val d []) => if p d = true then some (.val d []) else none
  | some (.exc k xs []) => some (.exc k xs [])
  | _ => none
theorem spF_to {qs : List Pm} {m : Mk} {g : List D → Option Out} {vs : List V} (hp : ∀ p ∈ qs, isIo p = false) (h : spF c Xr ⟨qs, m⟩ g vs H Q E) (hg : ∀ ds, pln (g ds) = g ds) : ∃ F ds, Fok F H ∧ ArgN c F H qs vs ds ∧ OutN c Xr F m (g ds) H Q E := by
  obtain ⟨F, ds, As, fk, r, q⟩ := h
  obtain ⟨a, rfl⟩ := argN_of r hp
  refine ⟨F, ds, fk, a, ?_⟩
  have e := hg ds
  cases ho : g ds with
  | none => rw [ho] at q; exact q
  | some o =>
    rw [ho] at q e
    cases o with
    | val d ios =>
      cases ios with
      | nil => exact fun v F' H' po re => q v F' H' [] ⟨po.kp, po.fk, po.f1, po.keep, po.st, ioR_nil a F' H', fun a h => by simp at h⟩ re
      | cons _ _ => cases e
    | exc k xs ios =>
      cases ios with
      | nil => exact fun cls dx F' H' po re => q cls dx F' H' [] ⟨po.kp, po.fk, po.f1, po.keep, po.st, ioR_nil a F' H', fun a h => by simp at h⟩ re
      | cons _ _ => cases e
theorem spF_from {qs : List Pm} {m : Mk} {g : List D → Option Out} {vs : List V} {F : Fz} {ds : List D} (hp : ∀ p ∈ qs, isIo p = false) (fk : Fok F H) (a : ArgN c F H qs vs ds) (h : OutN c Xr F m (g ds) H Q E) : spF c Xr ⟨qs, m⟩ g vs H Q E := by
  refine ⟨F, ds, [], fk, a.arg, ?_⟩
  cases ho : g ds with
  | none => rw [ho] at h; exact h
  | some o =>
    rw [ho] at h
    cases o with
    | val d ios => exact fun v F' H' As' po re => let ⟨e, p⟩ := postR_no hp po; h v F' H' p (by subst e; exact re)
    | exc k xs ios => exact fun cls dx F' H' As' po re => let ⟨e, p⟩ := postR_no hp po; h cls dx F' H' p re
theorem outN_pln {F : Fz} {m : Mk} {o : Option Out} (h : OutN c Xr F m (pln o) H Q E) : OutN c Xr F m o H Q E := by
  unfold pln at h
  split at h
  · exact h
  · exact h
  · exact h.elim
theorem outN_plnV {F : Fz} {p : D → Bool} {o : Option Out} {P : V → Prop} (hP : ∀ d F' H' v, p d = true → Rep c.cl F' H' v d → P v) (h : OutN c Xr F .fz (plnV p o) H Q E) : OutN c Xr F .fz o H (fun v H' => P v ∧ Q v H') E := by
  unfold plnV at h
  split at h
  · split at h
    · rename_i hp
      exact fun v F' H' po re => ⟨hP _ F' H' v hp (by unfold ResR at re; rw [if_pos rfl] at re; exact re), h v F' H' po re⟩
    · exact h.elim
  · exact h
  · exact h.elim
theorem pln_plnV {p : D → Bool} {o : Option Out} : pln (plnV p o) = plnV p o := by
  unfold plnV
  split
  · split <;> rfl
  · rfl
  · rfl
theorem pln_pln {o : Option Out} : pln (pln o) = pln o := by
  generalize h : pln o = z
  unfold pln at h
  split at h <;> subst h <;> rfl
end
/-! ### what they give -/
def isBl : D → Bool
  | .bl _ => true
  | _ => false
def isLn : D → Bool
  | .int n => decide (0 ≤ n ∧ n < 2 ^ 62)
  | _ => false
def kOf : D → Option Str
  | .ins k _ => some k
  | _ => none
/-- a in b, b of class k; a not in b -/
def dCt (k : Str) (g : List D → Option Out) : List D → Option Out
  | [a, b] => if kOf b = some k then plnV isBl (g [b, a]) else none
  | _ => none
def negO : Option Out → Option Out
  | some (.val (.bl z) []) => some (.val (.bl (!z)) [])
  | some (.exc k xs []) => some (.exc k xs [])
  | _ => none
def dNct (k : Str) (g : List D → Option Out) : List D → Option Out
  | [a, b] => if kOf b = some k then negO (g [b, a]) else none
  | _ => none
/-- is it a thing whose class is known -/
def okB : D → Bool
  | .ins l _ => decide (l ∈ dKs)
  | _ => true
/-- a == b, a of class k -/
def dOeq (k : Str) (g : List D → Option Out) : List D → Option Out
  | [a, b] => if kOf a = some k ∧ okB b = true then plnV isBl (g [a, b]) else none
  | _ => none
/-- a value, no exception -/
def vlO (o : Option Out) : Option Out := match o with
  | some (.val d []) => some (.val d [])
  | _ => none
def dLn (k : Str) (g : List D → Option Out) : List D → Option Out
  | [a] => if kOf a = some k then vlO (plnV isLn (g [a])) else none
  | _ => none
def dPr (k : Str) (g : List D → Option Out) : List D → Option Out
  | [a] => if kOf a = some k then vlO (g [a]) else none
  | _ => none
/-- a + b, a[b] -/
def dOp2 (k : Str) (g : List D → Option Out) : List D → Option Out
  | [a, b] => if kOf a = some k then pln (g [a, b]) else none
  | _ => none
def dAdd (k : Str) (g : List D → Option Out) : List D → Option Out
  | [a, b] => if kOf a = some k ∧ kOf b = some k then pln (g [a, b]) else none
  | _ => none
theorem kOf_ins {d : D} {k : Str} (h : kOf d = some k) : ∃ fs, d = .ins k fs := by
  cases d <;> cases h
  exact ⟨_, rfl⟩
end Nc

set_option Elab.async false
set_option linter.all false
set_option autoImplicit false
set_option maxRecDepth 100000
set_option maxHeartbeats 4000000
/-! Own methods that built-in operations call: the rules. -/
namespace Nc
open PySem PySem.Spec PyProof.Rows L2
/-- a method of a class, by its name, with a promise -/
structure MtS (P : Program) (w : World) (K : PySem.W.Frag) (mg : Str → Option Value) (base : Heap) (k : Nat) (c : Cn) (Xr : XrT) (kn m : Str) (s : Sig) (g : List D → Option Out) : Prop where
  ok : ∃ C f, c.cl kn = some C ∧ Cls K C ∧ Meth K C m f ∧ FnS P w K mg base k c Xr s g f
section
variable {c : Cn} {T : Tb} {Xr : XrT} {X : Cx} {W : WX} {x : Sx} {k : Nat} {kn : Str} {s : Sig} {g : List D → Option Out} {σ : L2.St} {H : Hp} {Q : VK} {E : XK} {a b e : Expr} {as : List Expr} {pos : Pos} {p q : Pm} {m : Mk}
/-- runs it on two -/
theorem run_mt2 {nm : Str} (M : MtS X.prog X.w X.K X.mg X.base k c Xr kn nm ⟨[p, q], m⟩ g) (hr : Room k X.A) (tk : Takes X W) {pins : List (Addr × Obj)} {t : Shared} {u v : Value} {y z : V} {ys : List (Str × D)} {A : List Addr} {F : Fz}
    (I : Inv X pins σ H t) (r1 : RelV y u) (r2 : RelV z v) (i1 : R1 c F H y (.ins kn ys) A) (h : spF c Xr ⟨[p, q], m⟩ g [y, z] H Q fun cls d H' => W cls d σ H') :
    ∃ C f a ob od, u = .ref a ∧ c.cl kn = some C ∧ Cls X.K C ∧ Meth X.K C nm f ∧ PySem.W.InstAt t.heap a ob C od ∧ wpAny (model X.prog X.w) X.A (call (.ref f) [.ref a, v]) (EP X pins σ Q) X.xe t := by
  obtain ⟨C, f, hc, cl, mt, fs⟩ := M.ok
  obtain ⟨fd, ps, ok, hb⟩ := fs.ok
  obtain ⟨a, C', dx, gs, rfl, hc', ha⟩ := i1.insV
  rw [hc] at hc'
  cases hc'
  obtain rfl : u = .ref a := r1
  obtain ⟨_, J, _⟩ := ins_get I.hok ha
  obtain ⟨od, J, _⟩ := J.look
  exact ⟨C, f, a, _, od, rfl, hc, cl, mt, J, run_fnA (vs := [.ref a, z]) ok hr I.env0 hb tk I (.cons (show RelV (.ref a) (.ref a) from rfl) (.cons r2 .nil)) h⟩
theorem noIo2 (h1 : isIo p = false) (h2 : isIo q = false) : ∀ r ∈ [p, q], isIo r = false := by
  intro r hr
  rcases List.mem_cons.mp hr with rfl | hr
  · exact h1
  · rw [List.mem_singleton.mp hr]; exact h2
theorem isBl_of {d : D} {v : V} {F : Fz} (h : isBl d = true) (r : Rep c.cl F H v d) : ∃ z, v = .bl z := by
  cases d <;> first | (cases h; done) | skip
  cases r
  exact ⟨_, rfl⟩
theorem ct_pln {neg : Bool} : ∀ ds, pln ((if neg then dNct kn g else dCt kn g) ds) = (if neg then dNct kn g else dCt kn g) ds := by
  intro ds
  cases neg with
  | true =>
    show pln (dNct kn g ds) = dNct kn g ds
    unfold dNct
    split
    · split
      · unfold negO; split <;> rfl
      · rfl
    · rfl
  | false =>
    show pln (dCt kn g ds) = dCt kn g ds
    unfold dCt
    split
    · split
      · exact pln_plnV
      · rfl
    · rfl
/-- the own method's answer, negated -/
theorem outN_neg {F : Fz} {o : Option Out} (h : OutN c Xr F .fz (negO o) H Q E) : OutN c Xr F .fz o H (fun v H' => ∃ z, v = .bl z ∧ Q (.bl (!z)) H') E := by
  unfold negO at h
  split at h
  · rename_i z
    exact fun v F' H' po re => by
      unfold ResR at re
      rw [if_pos rfl] at re
      cases re
      exact ⟨z, rfl, h _ F' H' po (by unfold ResR; rw [if_pos rfl]; exact .bl _)⟩
  · exact h
  · exact h.elim
/-- a in b, a not in b -/
theorem pc_own (neg : Bool) (M : MtS X.prog X.w X.K X.mg X.base k c Xr kn "__contains__" ⟨[p, q], .fz⟩ g) (h1 : isIo p = false) (h2 : isIo q = false) (hr : Room k X.A) (tk : Takes X W) :
    PC X (if neg then .NotIn else .In) a b (fun σ H Q => SEs X [a, b] σ H fun vs H1 => spF c Xr ⟨[q, p], .fz⟩ (if neg then dNct kn g else dCt kn g) vs H1 Q fun cls d H2 => W cls d σ H2) := by
  refine ⟨fun pins t σ H Q I h => binT pe_S pe_S (R := fun u v H2 => spF c Xr ⟨[q, p], .fz⟩ (if neg then dNct kn g else dCt kn g) [u, v] H2 Q fun cls d H2 => W cls d σ H2) I h fun u v t2 y z H2 I2 ry rz hq => ?_⟩
  obtain ⟨F, ds, fk, r, o⟩ := spF_to (noIo2 h2 h1) hq ct_pln
  obtain ⟨d1, d2, rfl, ra, rb⟩ := r.two
  have key : kOf d2 = some kn ∧ OutN c Xr F .fz (g [d2, d1]) H2 (fun v H' => ∃ z, v = .bl z ∧ Q (.bl (if neg then !z else z)) H') fun cls d H2 => W cls d σ H2 := by
    cases neg with
    | true =>
      have o : OutN c Xr F .fz (dNct kn g [d1, d2]) H2 Q fun cls d H2 => W cls d σ H2 := o
      unfold dNct at o
      simp only [] at o
      split at o
      · rename_i hk
        exact ⟨hk, outN_neg o⟩
      · exact o.elim
    | false =>
      have o : OutN c Xr F .fz (dCt kn g [d1, d2]) H2 Q fun cls d H2 => W cls d σ H2 := o
      unfold dCt at o
      simp only [] at o
      split at o
      · rename_i hk
        refine ⟨hk, ?_⟩
        have := outN_plnV (P := fun v => ∃ z, v = .bl z) (fun d F' H' v hd hv => isBl_of hd hv) o
        refine (?_ : _ → _) this
        intro this
        cases hg : g [d2, d1] with
        | none => rw [hg] at this; exact this
        | some ot =>
          rw [hg] at this
          cases ot with
          | val d ios => exact fun v F' H' po re => let ⟨⟨z, e⟩, w⟩ := this v F' H' po re; ⟨z, e, e ▸ w⟩
          | exc k xs ios => exact this
      · exact o.elim
  obtain ⟨hk, o2⟩ := key
  obtain ⟨fs, rfl⟩ := kOf_ins hk
  obtain ⟨B, rb1⟩ := rb.r1_
  have sp : spF c Xr ⟨[p, q], .fz⟩ g [z, y] H2 _ _ := spF_from (noIo2 h1 h2) fk (rb.app ra) o2
  obtain ⟨C, f, ad, ob, od, rfl, hc, cl, mt, J, run⟩ := run_mt2 M hr tk I2 rz ry rb1 sp
  obtain ⟨mm, fr⟩ := I2.fr
  have fin : wpAny (model X.prog X.w) X.A (call (.ref f) [.ref ad, u]) (fun r s' => wpAny (model X.prog X.w) X.A (truthy r) (fun b => EP X pins σ Q (.bool (if neg then !b else b))) X.xe s') X.xe t2 :=
    thn run fun r s' ⟨v, H3, I3, rv, z, ez, q3⟩ => by
      subst ez
      obtain rfl : r = .bool z := rv
      exact wpAny_truthy_bool ⟨.bl (if neg then !z else z), H3, I3, rfl, q3⟩
  cases neg with
  | true => exact PySem.W.notIn_K fr I2.ok.mod.kin J mt.at_ mt.fn fin
  | false => exact PySem.W.in_K fr I2.ok.mod.kin J mt.at_ mt.fn fin
/-- a == b -/
theorem sub_of_kit {K : PySem.W.Frag} {t : Value} {C : Addr} (h : PySem.W.kitOne K t (.ref C) = some false) : PySem.W.notFirst K C t = true := by
  unfold PySem.W.kitOne at h
  split at h
  · cases h
  · have h : (if ((PySem.W.clsIn K C).isSome && PySem.W.typeIn K (.ref C) == some (.type "type")) = true then PySem.W.subIn K t (.ref C) else none) = some false := h
    split at h
    · unfold PySem.W.notFirst
      rw [h]
      simp
    · cases h
theorem first_of {F : Fz} (f : IsF X.K c X.mg) (hk : kn ∈ dKs) {C : Addr} (hC : c.cl kn = some C) {d : D} {v : V} {A : List Addr} {H : Hp} (r : R1 c F H v d A) (hb : okB d = true) : ∃ t, TyX X.K H v t ∧ PySem.W.notFirst X.K C t = true := by
  have hd : ∀ k fs, d = .ins k fs → k ∈ dKs := fun k fs e => by subst e; exact of_decide_eq_true hb
  obtain ⟨t, t1, t2, t3⟩ := ty_of f r hd
  refine ⟨t, t1, ?_⟩
  cases hn : tyN d with
  | some a =>
    rw [t2 a hn]
    refine sub_of_kit (f.bc kn hk C hC a ?_)
    cases d <;> first | (cases hn; decide) | (cases hn)
  | none =>
    cases d with
    | ins l fs =>
      obtain ⟨D, d1, rfl⟩ := t3 l fs rfl
      by_cases e : l = kn
      · subst e
        rw [hC] at d1
        cases d1
        simp [PySem.W.notFirst]
      · refine sub_of_kit ?_
        rw [f.cc l (hd l fs rfl) kn hk D C d1 hC]
        simp [e]
    | _ => cases hn
theorem pc_oeq (isf : IsF X.K c X.mg) (hkn : kn ∈ dKs) (M : MtS X.prog X.w X.K X.mg X.base k c Xr kn "__eq__" ⟨[p, q], .fz⟩ g) (h1 : isIo p = false) (h2 : isIo q = false) (hr : Room k X.A) (tk : Takes X W) :
    PC X .Eq a b (fun σ H Q => SEs X [a, b] σ H fun vs H1 => spF c Xr ⟨[p, q], .fz⟩ (dOeq kn g) vs H1 Q fun cls d H2 => W cls d σ H2) := by
  refine ⟨fun pins t σ H Q I h => binT pe_S pe_S (R := fun u v H2 => spF c Xr ⟨[p, q], .fz⟩ (dOeq kn g) [u, v] H2 Q fun cls d H2 => W cls d σ H2) I h fun u v t2 y z H2 I2 ry rz hq => ?_⟩
  obtain ⟨F, ds, fk, r, o⟩ := spF_to (noIo2 h1 h2) hq (fun ds => by
    unfold dOeq
    split
    · split
      · exact pln_plnV
      · rfl
    · rfl)
  obtain ⟨d1, d2, rfl, ra, rb⟩ := r.two
  unfold dOeq at o
  simp only [] at o
  split at o
  · rename_i hk
    obtain ⟨fs, rfl⟩ := kOf_ins hk.1
    obtain ⟨B, ra1⟩ := ra.r1_
    obtain ⟨B2, rb1⟩ := rb.r1_
    have sp : spF c Xr ⟨[p, q], .fz⟩ g [y, z] H2 _ _ := spF_from (noIo2 h1 h2) fk (ra.app rb) (outN_plnV (P := fun v => ∃ z, v = .bl z) (fun d F' H' v hd hv => isBl_of hd hv) o)
    obtain ⟨C, f, ad, ob, od, rfl, hc, cl, mt, J, run⟩ := run_mt2 M hr tk I2 ry rz ra1 sp
    obtain ⟨mm, fr⟩ := I2.fr
    obtain ⟨tb, t1, t2⟩ := first_of isf hkn hc rb1 hk.2
    obtain ⟨Pz, Z, pz, _⟩ := kit_of I2 rz t1
    refine PySem.W.cmp_K (op := .Eq) (tb := tb) hr.units0 fr I2.ok.mod.kin J (Z.ty _ _ I2.kIn pz) t2 mt.at_ mt.fn ?_
    exact thn run fun r s' ⟨v, H3, I3, rv, ⟨z, ez⟩, q3⟩ => by
      subst ez
      obtain rfl : r = .bool z := rv
      exact ⟨.bl z, H3, I3, rfl, q3⟩
  · exact o.elim
end
end Nc

set_option Elab.async false
set_option linter.all false
set_option autoImplicit false
set_option maxRecDepth 100000
set_option maxHeartbeats 4000000
/-! == of dicts whose values have an own == : what runs in between keeps a predicate. -/
namespace Nc
open PySem PySem.Spec PySem.Calls PyProof.Rows PyProof.V L2
section
variable {P : Program} {w : World} {A : Around} {E : Value → Shared → Prop} {κ : Type} [DecidableEq κ] {kd : KeyKind P w κ}
/-- the pairs still to be asked, each with its answer; S is kept -/
inductive HitsS (P : Program) (w : World) (A : Around) (E : Value → Shared → Prop) (S : Shared → Prop) (kb : List (κ × Value)) : List (κ × Value) → Bool → Prop
  | done : HitsS P w A E S kb [] true
  | lack {k : κ} {v : Value} {r : List (κ × Value)} (n : valueAt kb k = none) : HitsS P w A E S kb ((k, v) :: r) false
  | found {k : κ} {v y : Value} {r : List (κ × Value)} {e b : Bool} (f : valueAt kb k = some y) (q : ∀ s Q, S s → (∀ s', S s' → Q e s') → wpAny (model P w) A (eqBool v y) Q E s) (t : HitsS P w A E S kb r b) : HitsS P w A E S kb ((k, v) :: r) (e && b)
theorem HitsS.cut {S : Shared → Prop} {kb r : List (κ × Value)} {k : κ} {v : Value} {b : Bool} (h : HitsS P w A E S kb ((k, v) :: r) b) :
    (valueAt kb k = none ∧ b = false) ∨ ∃ y e b2, valueAt kb k = some y ∧ (∀ s Q, S s → (∀ s', S s' → Q e s') → wpAny (model P w) A (eqBool v y) Q E s) ∧ HitsS P w A E S kb r b2 ∧ b = (e && b2) := by
  cases h with
  | lack n => exact .inl ⟨n, rfl⟩
  | found f q t => exact .inr ⟨_, _, _, f, q, t, rfl⟩
theorem pairs_run {S : Shared → Prop} {nm : String} {a b : Addr} {ka kb : List (κ × Value)} {r : Bool} {Q : Bool → Shared → Prop} {s : Shared} (na : (a == sysModules) = false) (nb : (b == sysModules) = false)
    (da : s.heap.DictOf kd a ka) (db : s.heap.DictOf kd b kb) (kp : ∀ s', S s' → ∀ o, (s.heap.get? a = some o → s'.heap.get? a = some o) ∧ (s.heap.get? b = some o → s'.heap.get? b = some o)) (s0 : S s)
    (hits : ka.length = kb.length → HitsS P w A E S kb ka r) (fin : ∀ s', S s' → Q (ka.length == kb.length && r) s') : wpAny (model P w) A (Builtin.Dict.samePairs nm a b) Q E s := by
  obtain ⟨oa, es, ep, ga, _, ea, xa, pa, _⟩ := da
  obtain ⟨ob, fs, fp, gb, _, eb, xb, pb, _⟩ := db
  have la : ka.length = es.size := pa.length.symm.trans Array.length_toList
  have lb : kb.length = fs.size := pb.length.symm.trans Array.length_toList
  have hf : ∀ k, findBy kd.is fs k = valueAt kb k := fun k => by
    rw [← pb.find k]
    obtain ⟨l⟩ := fs
    simp [findBy]
  have ka_ : ∀ s', S s' → s'.heap.get? a = some oa := fun s' z => (kp s' z oa).1 ga
  have kb_ : ∀ s', S s' → s'.heap.get? b = some ob := fun s' z => (kp s' z ob).2 gb
  unfold Builtin.Dict.samePairs Builtin.Dict.showsAll
  rw [if_neg (by rw [na]; exact Bool.false_ne_true), if_neg (by rw [nb]; exact Bool.false_ne_true)]
  refine wpAny_bind (wpAny_pure (wpAny_bind (wpAny_pure (wpAny_bind (wpAny_dictEntries ga ea ?_)))))
  simp only []
  refine wpAny_bind (wpAny_dictEntries gb eb ?_)
  by_cases sz : es.size = fs.size
  · have hits := hits (by rw [la, lb, sz])
    have fin : ∀ s', S s' → Q r s' := fun s' z => by
      have := fin s' z
      rwa [la, lb, sz, beq_self_eq_true, Bool.true_and] at this
    rw [if_neg (by simp [sz])]
    refine wpAny_bind (wpAny_dictEpoch ga ea (wpAny_bind ?_))
    rw [Std.Legacy.Range.forIn_eq_forIn_range']
    simp only [Std.Legacy.Range.size, Nat.sub_zero, Nat.add_sub_cancel, Nat.div_one]
    refine wpAny_forIn_list _ (fun todo q s' => S s' ∧ q = (none, ()) ∧ ∃ i, todo = List.range' i (es.size - i) ∧ i ≤ es.size ∧ HitsS P w A E S kb (ka.drop i) r) _ ?_ ?_ _ _ ⟨s0, rfl, 0, by simp, Nat.zero_le _, hits⟩
    · rintro x todo q t ⟨st, rfl, i, e1, le, hh⟩
      have lt : i < es.size := Nat.lt_of_le_of_ne le fun z => by rw [z, Nat.sub_self] at e1; cases e1
      have e2 : es.size - i = es.size - (i + 1) + 1 := by omega
      rw [e2, List.range'_succ] at e1
      obtain ⟨rfl, rfl⟩ := List.cons.inj e1
      refine wpAny_bind (wpAny_dictEntries (ka_ t st) ea ?_)
      rw [Array.getElem?_eq_getElem lt]
      have lx : x < ka.length := by rw [la]; exact lt
      have dr := List.drop_eq_getElem_cons lx
      generalize hkv : ka[x] = kv at dr
      obtain ⟨k, v⟩ := kv
      obtain ⟨ek, ev⟩ := pa.get? (i := x) (e := es[x]) (k := k) (v := v) (by rw [Array.getElem?_toList, Array.getElem?_eq_getElem lt]) (by rw [List.getElem?_eq_getElem lx, hkv])
      obtain ⟨k2, ek2, hh2⟩ := xa es[x] (Array.getElem_mem lt)
      rw [kd.inj _ _ _ ek2 ek] at hh2
      rw [dr] at hh
      refine wpAny_bind (m := holding [es[x].key, es[x].val] _) ?_
      rw [hh2]
      refine wpAny_holding (wpAny_bind (wpAny_dictFind_of ek (kb_ t st) eb xb ?_))
      cases hj : fs.findIdx? fun e => kd.is k e.key with
      | none =>
        have vn : valueAt kb k = none := by rw [← hf k, findBy_of_findIdx?, hj]
        rcases hh.cut with ⟨_, er⟩ | ⟨y, _, _, hy, _⟩
        · rw [er] at fin
          refine wpAny_pure ?_
          refine (show wpAny _ _ (if (!false) = true then _ else _) _ _ _ from ?_)
          rw [if_pos (show (!false) = true by decide)]
          exact wpAny_pure (wpAny_pure (fin t st))
        · rw [vn] at hy; cases hy
      | some j =>
        obtain ⟨lj, _, _⟩ := Array.findIdx?_eq_some_iff_getElem.mp hj
        have vs : valueAt kb k = some fs[j].val := by
          rw [← hf k, findBy_of_findIdx?, hj]
          simp [Array.getElem?_eq_getElem lj]
        refine wpAny_bind (wpAny_dictEntries (kb_ t st) eb ?_)
        rw [Array.getElem?_eq_getElem lj]
        rcases hh.cut with ⟨vn, _⟩ | ⟨y, e, b2, hy, he, hr, er⟩
        · rw [vs] at vn; cases vn
        · obtain rfl : fs[j].val = y := Option.some.inj (vs.symm.trans hy)
          rw [← ev] at he
          refine wpAny_holding (he t _ st fun t2 st2 => ?_)
          cases e with
          | false =>
            rw [er, Bool.false_and] at fin
            refine (show wpAny _ _ (if (!false) = true then _ else _) _ _ _ from ?_)
            rw [if_pos (show (!false) = true by decide)]
            exact wpAny_pure (wpAny_pure (fin t2 st2))
          | true =>
            rw [Bool.true_and] at er
            rw [← er] at hr
            refine (show wpAny _ _ (if (!true) = true then _ else _) _ _ _ from ?_)
            rw [if_neg (show ¬ (!true) = true by decide)]
            refine wpAny_bind (wpAny_dictEpoch (ka_ t2 st2) ea ?_)
            rw [if_neg (by simp)]
            exact wpAny_pure ⟨st2, rfl, x + 1, rfl, lt, hr⟩
    · rintro q t ⟨st, rfl, i, e1, le, hh⟩
      have ei : i = es.size := by
        rcases Nat.lt_or_ge i es.size with z | z
        · have e2 : es.size - i = es.size - (i + 1) + 1 := by omega
          rw [e2, List.range'_succ] at e1
          cases e1
        · exact Nat.le_antisymm le z
      rw [ei, ← la, List.drop_length] at hh
      refine wpAny_pure ?_
      cases hh
      exact fin t st
  · rw [if_pos (by simpa using sz)]
    have bf : (ka.length == kb.length) = false := by rw [la, lb]; simpa using sz
    have := fin s s0
    rw [bf, Bool.false_and] at this
    exact wpAny_bind (wpAny_rule (wpAny_pure this))
/-- == of two dicts (also of one with itself) -/
theorem rc_dictsS {S : Shared → Prop} {a b : Addr} {ka kb : List (κ × Value)} {r : Bool} {Q : Value → Shared → Prop} {s : Shared} (na : (a == sysModules) = false) (nb : (b == sysModules) = false) (da : s.heap.DictOf kd a ka) (db : s.heap.DictOf kd b kb)
    (hu : A.units < cLine) (kp : ∀ s', S s' → ∀ o, (s.heap.get? a = some o → s'.heap.get? a = some o) ∧ (s.heap.get? b = some o → s'.heap.get? b = some o)) (s0 : S s)
    (hits : ka.length = kb.length → HitsS P w A.in1 E S kb ka r) (fin : ∀ s', S s' → Q (.bool (ka.length == kb.length && r)) s') : wpAny (model P w) A (richCompare .Eq (.ref a) (.ref b)) Q E s := by
  refine wpAny_richCompare_same_room (op := .Eq) da.typeIs db.typeIs PySem.F.slot_dict_eq ?_ hu
  refine wpAny_call_entry PySem.F.slot_dict_eq da.typeIs PySem.F.entry_dict_eq ?_ (PySem.F.args_dict_eq_2 _ _)
  refine wpAny_bind (m := Builtin.Dict.dictSlotArgs "__eq__" ⟨[.ref a, .ref b], []⟩) ?_
  unfold Builtin.Dict.dictSlotArgs
  refine wpAny_bind (wpAny_notOrdered_dict da.typeIs (wpAny_pure (a := (Value.ref a, Value.ref b)) ?_))
  refine wpAny_bind (wpAny_isInstance (T := "dict") db.typeIs PySem.F.sub_dict_dict ?_)
  simp only [Bool.not_true, Bool.false_eq_true, if_false]
  refine wpAny_bind (wpAny_pure (wpAny_bind (wpAny_pure (wpAny_bind (pairs_run na nb da db kp s0 hits fun s' st => wpAny_pure (.intro _ ⟨rfl, (fun x => nomatch x), by simpa using fin s' st⟩))))))
end
end Nc

set_option Elab.async false
set_option linter.all false
set_option autoImplicit false
set_option maxRecDepth 100000
set_option maxHeartbeats 4000000
/-! == of data whose instances have an own ==. -/
namespace Nc
open PySem PySem.Spec PyProof.Rows L2
abbrev Oq := Str → List D → Option Out
/-- the own == of a's class -/
def ownQ (g : Oq) (a b : D) : Option Bool := match a with
  | .ins k _ => match g k [a, b] with
    | some (.val (.bl z) []) => if okB b = true then some z else none
    | _ => none
  | _ => none
def isIns : D → Bool
  | .ins _ _ => true
  | _ => false
/-- within a dict: the same thing is equal to itself -/
def dqN (g : Oq) (a b : D) : Option Bool := if isIns a = true then (if isIns b = true ∧ ownQ g a a = some true then ownQ g a b else none) else dEqA 99 a b
def dDeqB (g : Oq) (a b : D) : Option Bool := match a, b with
  | .ins _ _, b => ownQ g a b
  | .dct ks, .dct ls => if ks.length = ls.length then eqAllK (dqN g) ls ks else some false
  | _, _ => none
def dDeq (g : Oq) : List D → Option Out
  | [a, b] => (dDeqB g a b).map fun z => .val (.bl z) []
  | _ => none
section
variable {c : Cn} {Xr : XrT} {X : Cx} {W : WX} {F F' F2 : Fz} {H H' H2 : Hp} {pins : List (Addr × Obj)} {σ : L2.St} {k : Nat} {Q : VK} {a b : Expr}
abbrev Po (c : Cn) (F : Fz) (H : Hp) (F' : Fz) (H' : Hp) : Prop := PostR c F H [] [] [] [] F' H' []
theorem Po.refl (fk : Fok F H) : Po c F H F H := ⟨Kp.refl, fk, fun a f => .inl f, fun a o e _ => e, fun a z => (nomatch z), .nil, fun a z => by simp at z⟩
theorem Po.ext (p : Po c F H F' H') : Ext H H' := fun a o e => p.keep a o e (fun z => (nomatch z))
theorem Po.trans (p : Po c F H F' H') (q : Po c F' H' F2 H2) : Po c F H F2 H2 := by
  refine ⟨p.kp.trans q.kp, q.fk, fun a f => ?_, fun a o e _ => q.ext a o (p.ext a o e), fun a z => (nomatch z), .nil, fun a z => by simp at z⟩
  rcases q.f1 a f with f | f
  · exact p.f1 a f
  · refine .inr ?_
    cases h : H a with
    | none => rfl
    | some o => rw [p.ext a o h] at f; cases f
/-- what is kept while an own == runs -/
def KeepS (c : Cn) (F : Fz) (H : Hp) (X : Cx) (pins : List (Addr × Obj)) (σ : L2.St) (s : Shared) : Prop := ∃ F' H', Inv X pins σ H' s ∧ Po c F H F' H'
/-- all own == that may be asked -/
def OqOk (X : Cx) (c : Cn) (Xr : XrT) (k : Nat) (g : Oq) : Prop := ∀ kn C, c.cl kn = some C → (∀ ds, g kn ds = none) ∨ (kn ∈ dKs ∧ ∃ p q, isIo p = false ∧ isIo q = false ∧ (p = .fz ∨ p = .bo) ∧ MtS X.prog X.w X.K X.mg X.base k c Xr kn "__eq__" ⟨[p, q], .fz⟩ (g kn))
theorem ownQ_inv {g : Oq} {d e : D} {z : Bool} (h : ownQ g d e = some z) : ∃ kn fs, d = .ins kn fs ∧ g kn [d, e] = some (.val (.bl z) []) ∧ okB e = true := by
  unfold ownQ at h
  cases d <;> first | (cases h; done) | skip
  simp only [] at h
  split at h
  · rename_i z2 hg
    split at h
    · cases h; exact ⟨_, _, rfl, hg, by assumption⟩
    · cases h
  · cases h
/-- an own ==, run -/
theorem own_rc {g : Oq} (isf : IsF X.K c X.mg) (G : OqOk X c Xr k g) {A : Around} (hr : Room k A) {s : Shared} (e0 : Env0 X.prog X.w X.K X.mg X.base A X.stack s H) (tk : Takes X W) (I : Inv X pins σ H s) (fk : Fok F H) {d e : D} {y z : V} {u v : Value}
    (rd : Rep c.cl F H y d) (re : Rep c.cl F H z e) (ry : RelV y u) (rz : RelV z v) {r : Bool} (h : ownQ g d e = some r) :
    wpAny (model X.prog X.w) A (richCompare .Eq u v) (fun t s' => t = .bool r ∧ KeepS c F H X pins σ s') X.xe s := by
  obtain ⟨kn, fs, rfl, hg, ok⟩ := ownQ_inv h
  obtain ⟨a, C, dx, gs, rfl, hC, ha⟩ := (R1.of rd).insV
  rcases G kn C hC with no | ⟨hk, p, q, i1, i2, _, M⟩
  · rw [no] at hg; cases hg
  obtain ⟨C', f, hc, cl, mt, fs'⟩ := M.ok
  rw [hC] at hc
  cases hc
  obtain ⟨fd, ps, fo, hb⟩ := fs'.ok
  obtain rfl : u = .ref a := ry
  obtain ⟨_, J, _⟩ := ins_get I.hok ha
  obtain ⟨od, J, _⟩ := J.look
  obtain ⟨mm, fr⟩ := I.fr
  obtain ⟨tb, t1, t2⟩ := first_of isf hk hC (R1.of re) ok
  obtain ⟨Pz, Z, pz, _⟩ := kit_of I rz t1
  have arg : ∀ {p : Pm} {y : V} {d : D}, isIo p = false → Rep c.cl F H y d → ArgN c F H [p] [y] [d] := fun {p y d} i r => by
    cases p with
    | fz => exact .fz r .nil
    | bo => exact .bo (R1.of r) .nil
    | io m => cases i
  have sp : spF c Xr ⟨[p, q], .fz⟩ (g kn) [.ref a, z] H (fun t H' => t = .bl r ∧ ∃ F', Po c F H F' H') fun cls d H' => W cls d σ H' := by
    refine spF_from (noIo2 i1 i2) fk ((arg i1 rd).app (arg i2 re)) ?_
    show OutN c Xr F .fz (g kn [.ins kn fs, e]) H _ _
    rw [hg]
    intro v' F' H' po res
    unfold ResR at res
    rw [if_pos rfl] at res
    cases res
    exact ⟨rfl, F', po⟩
  refine PySem.W.cmp_K (op := .Eq) (tb := tb) hr.units0 fr I.ok.mod.kin J (Z.ty _ _ I.kIn pz) t2 mt.at_ mt.fn ?_
  refine wpAny_mono (run_fnA (vs := [.ref a, z]) fo hr e0 hb tk I (.cons (show RelV (.ref a) (.ref a) from rfl) (.cons rz .nil)) sp) (fun t s' ⟨x, H3, I3, rx, ⟨ex, F3, po⟩⟩ => ?_) fun _ _ w => w
  subst ex
  obtain rfl : t = .bool r := rx
  exact ⟨rfl, F3, H3, I3, po⟩
end
end Nc

set_option Elab.async false
set_option linter.all false
set_option autoImplicit false
set_option maxRecDepth 100000
set_option maxHeartbeats 4000000
/-! == of data whose instances have an own ==: the rule. -/
namespace Nc
open PySem PySem.Spec PyProof.Rows L2
section
variable {c : Cn} {Xr : XrT} {X : Cx} {W : WX} {F F' F2 : Fz} {H H' H2 : Hp} {pins : List (Addr × Obj)} {σ : L2.St} {k : Nat} {Q : VK} {a b : Expr} {g : Oq}
theorem eqBool_it {M : Model} {A : Around} {E : Value → Shared → Prop} {s : Shared} {v : Value} {Q : Bool → Shared → Prop} (h : (v == v) = true) (q : Q true s) : wpAny M A (eqBool v v) Q E s := by
  unfold eqBool
  refine wpAny_holding (wpAny_ite_split (fun _ => ?_) fun z => absurd h z)
  exact wpAny_bind (wpAny_rule (wpAny_pure q))
/-- == within a dict -/
theorem dqN_run (inj : ∀ a b C, c.cl a = some C → c.cl b = some C → a = b) (isf : IsF X.K c X.mg) (G : OqOk X c Xr k g) (hr : Room k X.A.in1) (tk : Takes X W) {d e : D} {y z : V} {u v : Value} {r : Bool} (rd : Rep c.cl F H y d) (re : Rep c.cl F H z e) (ry : RelV y u) (rz : RelV z v)
    (h : dqN g d e = some r) (s : Shared) (Q : Bool → Shared → Prop) (st : KeepS c F H X pins σ s) (q : ∀ s', KeepS c F H X pins σ s' → Q r s') : wpAny (model X.prog X.w) X.A.in1 (eqBool u v) Q X.xe s := by
  obtain ⟨F1, H1, I1, po⟩ := st
  have rd1 := rd.mono po.kp
  have re1 := re.mono po.kp
  unfold dqN at h
  split at h
  · split at h
    · rename_i h1 h2
      cases d <;> first | (cases h1; done) | skip
      cases e <;> first | (cases h2.1; done) | skip
      obtain ⟨a1, C1, dx1, gs1, rfl, hC1, ha1⟩ := (R1.of rd1).insV
      obtain ⟨a2, C2, dx2, gs2, rfl, hC2, ha2⟩ := (R1.of re1).insV
      obtain rfl : u = .ref a1 := ry
      obtain rfl : v = .ref a2 := rz
      by_cases e12 : a1 = a2
      · subst e12
        have := Shp.one inj rd.shp re.shp
        rw [← this] at h
        rw [h2.2] at h
        cases h
        exact eqBool_it (by simp) (q s ⟨F1, H1, I1, po⟩)
      · refine GQ.eqBool_refG e12 (wpAny_mono (own_rc isf G hr I1.env0.in1 tk I1 po.fk rd1 re1 rfl rfl h) (fun t s' ⟨et, F2, H2, I2, po2⟩ => ⟨r, et, q s' ⟨F2, H2, I2, po.trans po2⟩⟩) fun _ _ w => w)
    · cases h
  · exact eqA_ok inj I1 99 d e y z u v r rd1 re1 ry rz h X.A.in1 (by have := hr.un; show X.A.units + 1 + 99 < cLine; have : X.A.in1.units = X.A.units + 1 := rfl; omega) _ _ _ _ (q s ⟨F1, H1, I1, po⟩)
/-- a == b, by the own == of what they hold -/
theorem pc_deq (inj : ∀ a b C, c.cl a = some C → c.cl b = some C → a = b) (isf : IsF X.K c X.mg) (G : OqOk X c Xr k g) (hr : Room (k + 1) X.A) (tk : Takes X W) :
    PC X .Eq a b (fun σ H Q => SEs X [a, b] σ H fun vs H1 => spF c Xr ⟨[.fz, .fz], .fz⟩ (dDeq g) vs H1 Q fun cls d H2 => W cls d σ H2) := by
  refine ⟨fun pins t σ H Q I h => binT pe_S pe_S (R := fun u v H2 => spF c Xr ⟨[.fz, .fz], .fz⟩ (dDeq g) [u, v] H2 Q fun cls d H2 => W cls d σ H2) I h fun u v t2 y z H2 I2 ry rz hq => ?_⟩
  obtain ⟨F, ds, fk, r, o⟩ := spF_to (by decide) hq (fun ds => by
    unfold dDeq
    split
    · cases dDeqB g _ _ <;> rfl
    · rfl)
  obtain ⟨d1, d2, rfl, ra, rb⟩ := r.two
  have ra : Rep c.cl F H2 y d1 := by cases ra; assumption
  have rb : Rep c.cl F H2 z d2 := by cases rb; assumption
  have o : OutN c Xr F .fz ((dDeqB g d1 d2).map fun z => .val (.bl z) []) H2 Q fun cls d H2 => W cls d σ H2 := o
  cases hb : dDeqB g d1 d2 with
  | none => rw [hb] at o; exact o.elim
  | some b =>
    rw [hb] at o
    have fin : ∀ s', KeepS c F H2 X pins σ s' → EP X pins σ Q (.bool b) s' := fun s' ⟨F3, H3, I3, po⟩ => ⟨.bl b, H3, I3, rfl, o (.bl b) F3 H3 po (by unfold ResR; rw [if_pos rfl]; exact .bl b)⟩
    show wpAny (model X.prog X.w) X.A (richCompare .Eq u v) (EP X pins σ Q) X.xe t2
    cases d1 with
    | ins kn fs =>
      refine wpAny_mono (own_rc isf G (hr.mono (Nat.le_succ k)) I2.env0 tk I2 fk ra rb ry rz (show ownQ g (.ins kn fs) d2 = some b from hb)) (fun t s' ⟨et, ks⟩ => ?_) fun _ _ w => w
      subst et
      exact fin s' ks
    | dct ks =>
      cases d2 with
      | dct ls =>
        obtain ⟨a1, vs, rfl, h1, q1⟩ := (R1.of ra).dct
        obtain ⟨a2, ws, rfl, h2, q2⟩ := (R1.of rb).dct
        obtain rfl : u = .ref a1 := ry
        obtain rfl : v = .ref a2 := rz
        obtain ⟨_, ya, va, r1, da⟩ := dk_rd I2.hok h1
        obtain ⟨_, yb, vb, r2, db⟩ := dk_rd I2.hok h2
        have l1 : va.length = ks.length := by rw [← r1.length, q1.length]
        have l2 : vb.length = ls.length := by rw [← r2.length, q2.length]
        have hb : (if ks.length = ls.length then eqAllK (dqN g) ls ks else some false) = some b := hb
        have s0 : KeepS c F H2 X pins σ t2 := ⟨F, H2, I2, Po.refl fk⟩
        have fz1 : ∃ o, H2 a1 = some (.frz o (.dK vs)) := by
          cases ra with
          | dct f h r =>
            rcases h1 with h1 | h1
            · rw [h] at h1; cases h1
            · exact h1
        have fz2 : ∃ o, H2 a2 = some (.frz o (.dK ws)) := by
          cases rb with
          | dct f h r =>
            rcases h2 with h2 | h2
            · rw [h] at h2; cases h2
            · exact h2
        have keep : ∀ {ad : Addr} {us : List (Key × V)}, (∃ o, H2 ad = some (.frz o (.dK us))) → ∀ s', KeepS c F H2 X pins σ s' → ∀ o, t2.heap.get? ad = some o → s'.heap.get? ad = some o := fun {ad us} ⟨ob, hz⟩ s' ⟨F3, H3, I3, po⟩ o ho => by
          obtain ⟨z1, _⟩ := I2.hok ad _ hz
          obtain ⟨z2, _⟩ := I3.hok ad _ (po.ext ad _ hz)
          rw [z1] at ho
          cases ho
          exact z2
        by_cases el : ks.length = ls.length
        · rw [if_pos el] at hb
          refine rc_dictsS (r := b) ya yb da db (by have := hr.un; omega) (fun s' st o => ⟨keep fz1 s' st o, keep fz2 s' st o⟩) s0 (fun _ => ?_) ?_
          · exact hits_of (c := c) (F := F) (H := H2) (Eq := fun u1 u2 b => ∀ s Q, KeepS c F H2 X pins σ s → (∀ s', KeepS c F H2 X pins σ s' → Q b s') → wpAny (model X.prog X.w) X.A.in1 (eqBool u1 u2) Q X.xe s) (Hits := fun kb ka b => HitsS X.prog X.w X.A.in1 X.xe (KeepS c F H2 X pins σ) kb ka b) (fun _ => .done) (fun _ _ _ _ h => .lack h) (fun _ _ _ _ _ _ _ h1 h2 h3 => .found h1 h2 h3)
              q2 r2 (fun x y v w u1 u2 b h1 h2 h3 h4 h5 => dqN_run inj isf G hr.in1 tk h1 h2 h3 h4 h5) q1 r1 hb
          · intro s' st
            have : (va.length == vb.length) = true := by rw [l1, l2, el]; exact beq_self_eq_true _
            rw [this, Bool.true_and]
            exact fin s' st
        · rw [if_neg el] at hb
          cases hb
          refine rc_dictsS (r := false) ya yb da db (by have := hr.un; omega) (fun s' st o => ⟨keep fz1 s' st o, keep fz2 s' st o⟩) s0 (fun z => absurd (by rw [← l1, ← l2, z]) el) ?_
          intro s' st
          have : (va.length == vb.length) = false := by rw [l1, l2]; simpa using el
          rw [this, Bool.false_and]
          exact fin s' st
      | _ => cases hb
    | _ => cases hb
end
end Nc

set_option Elab.async false
set_option linter.all false
set_option autoImplicit false
set_option maxRecDepth 100000
set_option maxHeartbeats 4000000
/-! Exceptions made; the table of all defs, by levels. -/
namespace Nc
open PySem PySem.Spec PyProof.Rows L2
/-- the exception classes: without __init__, with one that stores a field -/
def exF : Str → Option (Option Str) := fun k => ([("CastError", none), ("BadField", none), ("BadTemplate", none), ("NotComparable", none), ("BadRecord", none), ("BadText", none), ("NothingToUndo", none),
  ("BadName", some "name"), ("BadPart", some "index"), ("BadBan", some "index"), ("BadGap", some "gap"), ("BadLine", some "line"), ("Clash", some "name"), ("NoName", some "name")] : List (Str × Option Str)).lookup k
/-- what is known of an exception -/
def XrD (c : Cn) : XrT := fun k ds cls dx F H => ∃ C, c.xl k = some C ∧ cls = .ref C ∧ ((exF k = some none ∧ ds = [] ∧ dx = none) ∨ ∃ f v d dd, exF k = some (some f) ∧ ds = [d] ∧ dx = some dd ∧ H dd = some (.xd [(f, v)]) ∧ Rep c.cl F H v d)
section
variable {X : Cx} {C : Addr} {bmB : List Value} {B newId initId : String}
/-- k(), k an own exception class without __init__ -/
theorem pmk_none {nm : Str} {p pos : Pos} (bf : ExcBaseFacts B newId initId bmB) (ok : PySem.W.excIn X.K C bmB newId = true) (hm : X.mg nm = some (.ref C)) (kp : PySem.W.keepIn X.K (.ref C) = true) (rz : Raises X (.ref C)) (hg : Gl X nm) (hd : (nm == ("__debug__" : Str)) = false) :
    PMk X (.Call (.Name nm p) [] [] pos) (fun _ H Q => Q (.ref C) none H) := by
  intro pins s σ H Q I h
  refine wpAny_Call_Name_kw (ld_glob I hg hm (PySem.W.callWith_K0 I.kIn kp ?_) hd)
  obtain ⟨bm, N, n1, n2, bs, e1, e2, e3, e4, e5, e6, k0, k1, k2, k3, k5, mN, o1, o2, o3, tl⟩ := exc_obj I.kIn ok
  exact wpAny_call_exc_subT bf tl o1 o2 o3 (fun h' a made => mk_of I made rz h (I.hok.gone made.new)) (Nat.zero_le _)
end
/-! ### the table -/
/-- a def: how it is called, what it does, how many slots -/
structure Dfn where
  s : Sig
  sm : Sm
  n : Nat
structure Pg where
  fns : Str → Option Dfn
  mts : Str → Str → Option Dfn
  pcl : Str → Option Str  -- a property's class
  msg : Str → Option Sig  -- a method's, whatever the class
  gc : Str → Option D
  fuel : Nat
  tc : Str → Option (List (List Nat × List Nat))  -- tables of the module
  dv : Str → Nat → Option (List D)   -- a class called with so many: what stands for the others
  kd : Str → Option (List Str)   -- the defs that tell of which classes an exception is
/-- a constructor by its __init__ -/
def conS (s : Sig) : Option Sig := match s.ps with
  | .io m :: ps => if isI m = true ∧ (ps.all fun p => !isIo p) = true ∧ s.res = .fz then some ⟨ps, m⟩ else none
  | _ => none
/-- a method of two, none of those that change -/
def two (sw : Bool) (s : Sig) : Option Sig := match s.ps with
  | [p, q] => if isIo p = false ∧ isIo q = false then some ⟨if sw = true then [q, p] else [p, q], s.res⟩ else none
  | _ => none
def twoB (sw : Bool) (s : Sig) : Option Sig := if s.res = .fz then two sw s else none
def one_ (s : Sig) : Option Sig := match s.ps with
  | [p] => if isIo p = false then some s else none
  | _ => none
def one_B (s : Sig) : Option Sig := if s.res = .fz then one_ s else none
def Pg.ms (P : Pg) (k m : Str) : Option Sig := (P.mts k m).map Dfn.s
def Pg.sg (P : Pg) : Kf → Option Sig
  | .fn f => match P.fns f with
    | some d => some d.s
    | none => (P.ms f "__init__").bind conS
  | .cm k m => if P.pcl m = some k then none else P.ms k m
  | .mt m => P.msg m
  | .pr m => (P.pcl m).bind fun k => (P.ms k m).bind one_
  | .ln k => (P.ms k "__len__").bind one_B
  | .ct k => (P.ms k "__contains__").bind (twoB true)
  | .nct k => (P.ms k "__contains__").bind (twoB true)
  | .ne => none
  | .ad k => (P.ms k "__add__").bind (two false)
  | .gi k => (P.ms k "__getitem__").bind (two false)
  | .isi _ => some ⟨[.bo], .fz⟩
  | .bi b => (biD b).map BiD.sg
  | .srtK _ => none
  | .dfl f n => match P.dv f n with
    | some ds => ((P.ms f "__init__").bind conS).bind fun s => if s.ps.length = n + ds.length ∧ ((s.ps.drop n).all fun p => decide (p = .fz)) = true ∧ (s.ps.all fun p => !isIo p) = true then some ⟨s.ps.take n, s.res⟩ else none
    | none => none
  | .knd f ks => if P.kd f = some ks then some ⟨[], .fz⟩ else none
  | .deq => some ⟨[.fz, .fz], .fz⟩
  | .dne => none
  | .minK _ => none
  | .tab y => (P.tc y).map fun _ => ⟨[.bo, .bo], .fz⟩
  | .eq k => (P.ms k "__eq__").bind (twoB false)
def no1 : List D → Option Out := fun _ => none
abbrev Bd := Dfn → List D → Option Out
def Pg.md (P : Pg) (b : Bd) (k m : Str) : List D → Option Out := match P.mts k m with
  | some d => b d
  | none => no1
/-- the own == of the classes -/
def Pg.oq (P : Pg) (b : Bd) : Oq := fun k => if k ∈ dKs ∧ ((P.ms k "__eq__").bind (twoB false)).isSome = true then P.md b k "__eq__" else no1
/-- what each gives, by what the defs' bodies give -/
def Pg.fnK (P : Pg) (b : Bd) : Kf → List D → Option Out
  | .fn f => match P.fns f with
    | some d => b d
    | none => conD f (P.md b f "__init__")
  | .cm k m => P.md b k m
  | .pr m => match P.pcl m with
    | some k => dPr k (P.md b k m)
    | none => no1
  | .ln k => dLn k (P.md b k "__len__")
  | .ct k => dCt k (P.md b k "__contains__")
  | .nct k => dNct k (P.md b k "__contains__")
  | .ad k => dAdd k (P.md b k "__add__")
  | .gi k => dOp2 k (P.md b k "__getitem__")
  | .eq k => dOeq k (P.md b k "__eq__")
  | .deq => dDeq (P.oq b)
  | .isi t => outO (bIsi t)
  | .bi o => match biD o with
    | some d => outO d.f
    | none => no1
  | .tab y => match P.tc y with
    | some kvs => outO (dTab kvs)
    | none => no1
  | .dfl f n => match P.dv f n with
    | some ds => fun vs => conD f (P.md b f "__init__") (vs ++ ds)
    | none => no1
  | _ => no1
def Pg.tb (P : Pg) (b : Bd) : Tb := ⟨P.sg, P.fnK b, P.gc, P.fuel⟩
/-- the bodies, so many calls deep -/
def Pg.bd (P : Pg) : Nat → Bd
  | 0 => fun _ => no1
  | k + 1 => fun d => fnD (P.tb (P.bd k)) d.s d.sm d.n
def Pg.T (P : Pg) (k : Nat) : Tb := P.tb (P.bd k)
end Nc

set_option Elab.async false
set_option linter.all false
set_option autoImplicit false
set_option maxRecDepth 100000
set_option maxHeartbeats 4000000
/-! Exceptions whose __init__ stores a field. -/
namespace Nc
open PySem PySem.Spec PyProof.Rows L2
/-- the class, tested -/
def oexB (K : PySem.W.Frag) (C : Addr) : Bool := (match K.lookup C with
  | some ⟨.type t, _, .cls cd, sl⟩ => (match cd.mro, sl.toList with
    | .ref C' :: bm, [_, _, _, _, some (.builtin n), _] => (t == "type" && (C' == C && n == "ValueError.__new__")) && (cd.hasDict && (!cd.hasDel && PySem.HandSPX.refsVE bm))
    | _, _ => false)
  | _ => false) && (decide (PySem.W.findIn K (.ref C) "__setattr__" = some (some (.builtin "object.__setattr__"))) && (decide (PySem.W.subIn K (.ref C) (.type "BaseException") = some true) && (decide (PySem.W.typeIn K (.ref C) = some (.type "type")) && PySem.W.keepIn K (.ref C))))
theorem oexB_ok {K : PySem.W.Frag} {C : Addr} (h : oexB K C = true) : OexC K C := by
  unfold oexB at h
  rw [Bool.and_eq_true, Bool.and_eq_true, Bool.and_eq_true, Bool.and_eq_true, decide_eq_true_eq, decide_eq_true_eq, decide_eq_true_eq] at h
  obtain ⟨h0, h1, h2, h3, h4⟩ := h
  refine ⟨?_, h1, h2, h3, h4⟩
  split at h0
  · rename_i t dd cd sl ho
    split at h0
    · rename_i C' bm k0 k1 k2 k3 n k5 hm hs
      simp only [Bool.and_eq_true, beq_iff_eq, Bool.not_eq_true'] at h0
      obtain ⟨⟨rfl, rfl, rfl⟩, hd, hdel, hv⟩ := h0
      obtain ⟨nm, bs, mro, ns, qn, hdc, sn, sub, ab, col, del⟩ := cd
      simp only at hm hd hdel
      subst hm hd hdel
      have hsl : sl = #[k0, k1, k2, k3, some (.builtin "ValueError.__new__"), k5] := by
        obtain ⟨l⟩ := sl
        simp only at hs
        rw [hs]
      subst hsl
      exact ⟨_, _, _, _, _, _, _, _, _, _, _, _, _, _, _, ho, hv⟩
    · cases h0
  · cases h0
/-- what such an __init__ promises -/
def spXI (C : Addr) (f : Str) : Sp := fun vs H Q _ => ∃ a y, vs = [.ref a, y] ∧ H a = some (exo a C none) ∧ ∀ dx, H dx = none → dx ≠ a → Q .non (upd (upd H dx (exd dx [(f, y)])) a (exo a C (some dx)))
/-- its text -/
def xiB (f : Str) : List Stmt → Bool
  | [.Assign [.Attribute (.Name s _) g _] (.Name h _) _] => decide (s = "self") && (decide (g = f) && (decide (h = f) && ((f == ("__debug__" : Str)) == false && (f == ("__classdict__" : Str)) == false)))
  | _ => false
section
variable {P : Program} {w : World} {K : PySem.W.Frag} {mg : Str → Option Value} {base : Heap} {C fI : Addr} {f nm qual : Str} {params : Arguments} {body : List Stmt} {scope : Scope} {dvs : List V} {kws : List (Str × V)} {fd : FuncData}
theorem xinit_ok (F : FunD K nm qual params body scope dvs kws fI fd) (S : FnScope ["self", f] ["self", f] scope) (hb : xiB f body = true) (T : OexC K C) (no : PySem.W.findIn K (.ref C) f = some none) : FnOk P w K mg base (CX P w) 1 fI fd ["self", f] (spXI C f) := by
  unfold xiB at hb
  split at hb
  · rename_i s p1 g p2 nn p3 p4
    simp only [Bool.and_eq_true, decide_eq_true_eq, beq_iff_eq] at hb
    obtain ⟨rfl, rfl, rfl, d1, d2⟩ := hb
    have vis : ∀ x ∈ (["self", nn] : List Str), Vis scope x := fun x hx => (S.par x hx).elim .inl fun z => .inr (.inl z)
    refine F.ok S (fun vs H Q E ⟨a, y, e, _⟩ => by rw [e]; rfl) (fun cdv A outer s' H vs Q E hr h => ?_)
    obtain ⟨a, y, rfl, ha, q⟩ := h
    refine ⟨_, pss_one (ps_ost (pe_var (i := 0) rfl (vis "self" (by simp)) (by decide) (by decide)) (pe_var (i := 1) rfl (vis nn (by simp)) d1 d2) rfl), ?_⟩
    refine ⟨y, rfl, .ref a, rfl, a, C, rfl, T, no, .inl ⟨ha, fun dx n ne => ?_⟩⟩
    exact q dx n ne
  · cases hb
end
section
variable {X : Cx} {c : Cn} {W : WX} {C fI : Addr} {k f : Str} {fd : FuncData} {σ : L2.St} {H : Hp} {e : Expr} {p pos : Pos} {D : Ends}
/-- raise k(e) -/
theorem rse_some (gm : X.calm = true) (tk : Takes X W) (T : OexC X.K C) (iC : PySem.W.findIn X.K (.ref C) "__init__" = some (some (.ref fI))) (tI : PySem.W.typeIn X.K (.ref fI) = some (.type "function")) (F1 : FnOk X.prog X.w X.K X.mg X.base (CX X.prog X.w) 1 fI fd ["self", f] (spXI C f)) (hr : Room 2 X.A) (hb : Binds X.K fd ["self", f] [])
    (hg : Gl X k) (hm : X.mg k = some (.ref C)) (hd : (k == ("__debug__" : Str)) = false) (hn : nst e = true) (hC : c.xl k = some C) (hf : exF k = some (some f)) {pos' : Pos}
    (z : SE X e σ H fun v H1 => ∃ F ds, Fok F H1 ∧ RepL c.cl F H1 [v] ds ∧ ∀ cls dx H2, Ext H1 H2 → XrD c k ds cls dx F H2 → W cls dx σ H2) : SS X (.Raise (some (.Call (.Name k p) [e] [] pos)) none pos') D σ H := by
  have hx : Passes (CX X.prog X.w) X (fun _ _ _ => False) := fun pins σ H s e s' I q => by
    obtain ⟨_, _, _, _, _, _, _, _, _, _, _, _, y⟩ := q
    exact y.elim
  refine SS.of (ps_raise gm tk (pmk_oex (ds := []) (dvs := []) T iC tI F1 hr hb .nil hx hg hm (pa_S (es := [e]) (by simp [hn])) hd (nst_each hn _) rfl)) ?_
  refine SE.mono z fun v H1 ⟨F, ds, fk, r, q⟩ => ?_
  cases r with
  | @cons _ d _ _ rd rn =>
    cases rn
    refine ⟨by simp, fun a ha => ⟨a, v, rfl, upd_same, fun dx n ne => ⟨rfl, dx, [(f, v)], upd_same, ?_, ?_, ?_⟩⟩⟩
    · rw [upd_ne ne]; exact upd_same
    · rw [upd_ne ne] at n; exact n
    · have n1 : H1 dx = none := by rw [upd_ne ne] at n; exact n
      have ext : Ext H1 (upd (L2.del (upd (upd (upd H1 a (exo a C none)) dx (exd dx [(f, v)])) a (exo a C (some dx))) a) dx (.xd [(f, v)])) := fun b o hb => by
        have b1 : b ≠ dx := fun z => by rw [z, n1] at hb; cases hb
        have b2 : b ≠ a := fun z => by rw [z, ha] at hb; cases hb
        rw [upd_ne b1, del_ne b2, upd_ne b2, upd_ne b1, upd_ne b2]
        exact hb
      refine q _ _ _ ext ⟨C, hC, rfl, .inr ⟨f, v, d, dx, hf, rfl, rfl, upd_same, rd.mono (Kp.ext fk ext)⟩⟩
end
end Nc

set_option Elab.async false
set_option linter.all false
set_option autoImplicit false
set_option maxRecDepth 100000
set_option maxHeartbeats 4000000
/-! Properties, len and + of own classes. -/
namespace Nc
open PySem PySem.Spec PyProof.Rows L2
/-- a property of a class, by its name, with a promise -/
structure PrS (P : Program) (w : World) (K : PySem.W.Frag) (mg : Str → Option Value) (base : Heap) (k : Nat) (c : Cn) (Xr : XrT) (kn m : Str) (s : Sig) (g : List D → Option Out) : Prop where
  ok : ∃ C p f, c.cl kn = some C ∧ Cls K C ∧ PropOf K C m p f ∧ FnS P w K mg base k c Xr s g f
section
variable {c : Cn} {Xr : XrT} {X : Cx} {W : WX} {x : Sx} {k : Nat} {kn m : Str} {g : List D → Option Out} {σ : L2.St} {H : Hp} {Q : VK} {E E' : XK} {o e : Expr} {as : List Expr} {p q : Pm} {r : Mk}
theorem pln_vlO {o : Option Out} : pln (vlO o) = vlO o := by
  unfold vlO
  split <;> rfl
/-- of values alone: whatever is asked of exceptions -/
theorem outN_vl {F : Fz} {o : Option Out} (h : OutN c Xr F r (vlO o) H Q E) : OutN c Xr F r o H Q E' := by
  unfold vlO at h
  split at h
  · exact h
  · exact h.elim
theorem prA_inv (h : kfA x (.pr m) e = some as) : ∃ o pos, e = .Attribute o m pos ∧ as = [o] ∧ abOk o = true := by
  unfold kfA at h
  split at h <;> first | (rename_i heq; cases heq; done) | skip
  all_goals first | (cases h; done) | contradiction | (rename_i heq; cases heq; obtain ⟨h1, h2⟩ := grd_some h; cases h2; simp only [Bool.and_eq_true, decide_eq_true_eq] at h1; exact ⟨_, _, by rw [h1.1], rfl, h1.2⟩)
theorem se_pr (M : PrS X.prog X.w X.K X.mg X.base k c Xr kn m ⟨[p], r⟩ g) (hp : isIo p = false) (hr : Room (k + 1) X.A) (h : kfA x (.pr m) e = some as) (z : SEs X as σ H fun vs H1 => spF c Xr ⟨[p], r⟩ (dPr kn g) vs H1 Q E) : SE X e σ H Q := by
  obtain ⟨o, pos, rfl, rfl, ab⟩ := prA_inv h
  obtain ⟨C, pa, f, hC, cl, pr, fs⟩ := M.ok
  obtain ⟨fd, ps, fo, hb⟩ := fs.ok
  have hx : Passes (CX X.prog X.w) X.nox (fun _ _ _ => False) := fun pins σ H s e s' I q => by
    obtain ⟨_, _, _, _, _, _, _, _, _, _, _, _, y⟩ := q
    exact y.elim
  refine SE.of (pe_prop (ds := []) (dvs := []) pe_S cl pr fo hr hb .nil hx (abOk_eq ab _ _ _)) (SE.mono z fun v H1 q => ?_)
  have hio : ∀ y ∈ [p], isIo y = false := fun y hy => by rw [List.mem_singleton.mp hy]; exact hp
  obtain ⟨F, ds, fk, ra, ou⟩ := spF_to hio q (fun ds => by
    unfold dPr
    split
    · split
      · exact pln_vlO
      · rfl
    · rfl)
  have one : ∃ d, ds = [d] ∧ ∃ B, R1 c F H1 v d B := by
    cases ra with
    | fz h r => cases r; exact ⟨_, rfl, _, R1.of h⟩
    | bo h r => cases r; exact ⟨_, rfl, _, h⟩
  obtain ⟨d, rfl, B, r1⟩ := one
  unfold dPr at ou
  simp only [] at ou
  split at ou
  · rename_i hk
    obtain ⟨fs', rfl⟩ := kOf_ins hk
    obtain ⟨a, C', dx, gs, rfl, hC', ha⟩ := r1.insV
    rw [hC] at hC'
    cases hC'
    exact ⟨a, dx, gs, rfl, ha, spF_from hio fk ra (outN_vl ou)⟩
  · exact ou.elim
theorem lnA_inv {kk : Str} (h : kfA x (.ln kk) e = some as) : ∃ a p pos, e = .Call (.Name "len" p) [a] [] pos ∧ as = [a] ∧ gl x "len" = true := by
  unfold kfA at h
  split at h <;> first | (rename_i heq; cases heq; done) | skip
  all_goals first | (cases h; done) | contradiction | (obtain ⟨h1, h2⟩ := grd_some h; cases h2; simp only [Bool.and_eq_true, decide_eq_true_eq] at h1; obtain ⟨rfl, h1⟩ := h1; exact ⟨_, _, _, rfl, rfl, h1⟩)
theorem se_ln (gn : Gn X x) (M : MtS X.prog X.w X.K X.mg X.base k c Xr kn "__len__" ⟨[p], .fz⟩ g) (hp : isIo p = false) (hr : Room (k + 1) X.A) (tk : Takes X W) (h : kfA x (.ln kn) e = some as) (hn : as.all nst = true) (z : SEs X as σ H fun vs H1 => spF c Xr ⟨[p], .fz⟩ (dLn kn g) vs H1 Q E) : SE X e σ H Q := by
  obtain ⟨a, p1, pos, rfl, rfl, g1⟩ := lnA_inv h
  obtain ⟨C, f, hC, cl, mt, fs⟩ := M.ok
  obtain ⟨fd, ps, fo, hb⟩ := fs.ok
  refine lift_callB (r := fun vs H1 Q => spF c Xr ⟨[p], .fz⟩ (dLn kn g) vs H1 Q fun _ _ _ => False) ?_ (gn.gl g1) (gn.bl _ (by decide)) PySem.boot_len (by decide) (by decide) (nst_one hn) z ?_
  · intro pins s σ' H xs us Q I rv q
    have hio : ∀ y ∈ [p], isIo y = false := fun y hy => by rw [List.mem_singleton.mp hy]; exact hp
    obtain ⟨F, ds, fk, ra, ou⟩ := spF_to hio q (fun ds => by
      unfold dLn
      split
      · split
        · exact pln_vlO
        · rfl
      · rfl)
    have one : ∃ v d, xs = [v] ∧ ds = [d] ∧ ∃ B, R1 c F H v d B := by
      cases ra with
      | fz h r => cases r; exact ⟨_, _, rfl, rfl, _, R1.of h⟩
      | bo h r => cases r; exact ⟨_, _, rfl, rfl, _, h⟩
    obtain ⟨v, d, rfl, rfl, B, r1⟩ := one
    unfold dLn at ou
    simp only [] at ou
    split at ou
    · rename_i hk
      obtain ⟨fs', rfl⟩ := kOf_ins hk
      obtain ⟨ad, C', dx, gs, rfl, hC', ha⟩ := r1.insV
      rw [hC] at hC'
      cases hC'
      obtain ⟨u, rfl, ru⟩ := vals1 rv
      obtain rfl : u = .ref ad := ru
      obtain ⟨_, J, _⟩ := ins_get I.hok ha
      obtain ⟨od, J, _⟩ := J.look
      obtain ⟨mm, fr⟩ := I.fr
      have sp : spF c Xr ⟨[p], .fz⟩ g [.ref ad] H (fun v H' => (∃ n : Int, v = .int n ∧ 0 ≤ n ∧ n < 2 ^ 62) ∧ Q v H') fun cls d H' => W cls d σ' H' := by
        refine spF_from hio fk ra (outN_plnV (P := fun v => ∃ n : Int, v = .int n ∧ 0 ≤ n ∧ n < 2 ^ 62) (fun d F' H' v hd hv => ?_) (outN_vl ou))
        cases d <;> first | (cases hd; done) | skip
        cases hv
        exact ⟨_, rfl, (of_decide_eq_true hd).1, (of_decide_eq_true hd).2⟩
      refine PySem.W.len_K fr I.ok.mod.kin J mt.at_ mt.fn ?_
      refine wpAny_mono (run_fnA (vs := [.ref ad]) fo hr.in1 I.env0.in1 hb tk I (.cons (show RelV (.ref ad) (.ref ad) from rfl) .nil) sp) (fun t s' ⟨y, H3, I3, ry, ⟨n, en, n0, n1⟩, q3⟩ => ?_) fun _ _ w => w
      subst en
      obtain ⟨tk', rfl⟩ := (show ∃ t', t = Value.int n t' from ry)
      exact ⟨⟨n0, by omega⟩, .int n, H3, I3.tok _, ⟨_, rfl⟩, q3⟩
    · exact ou.elim
  · intro u H1 q
    have hio : ∀ y ∈ [p], isIo y = false := fun y hy => by rw [List.mem_singleton.mp hy]; exact hp
    obtain ⟨F, ds, fk, ra, ou⟩ := spF_to hio q (fun ds => by
      unfold dLn
      split
      · split
        · exact pln_vlO
        · rfl
      · rfl)
    refine spF_from hio fk ra ?_
    unfold dLn at ou ⊢
    split at ou
    · rename_i a0
      split at ou
      · rename_i hk
        rw [if_pos hk]
        generalize plnV isLn (g [a0]) = o at ou ⊢
        unfold vlO at ou ⊢
        split at ou
        · exact ou
        · exact ou.elim
      · exact ou.elim
    · exact ou.elim
end
end Nc

set_option Elab.async false
set_option linter.all false
set_option autoImplicit false
set_option maxRecDepth 100000
set_option maxHeartbeats 4000000
/-! isinstance of an exception that a suite holds, in a def that the suite calls. -/
namespace Nc
open PySem PySem.Spec PySem.Calls PyProof.Rows L2
section
variable {prog : Program} {w : World} {A : Around} {E : Value → Shared → Prop} {s : Shared} {K : PySem.W.Frag} {x D : Addr} {ox : Obj} {od : Option Obj}
theorem find_cls {C : Addr} {name : Str} {a g : Value} (hc : (PySem.W.clsIn K C).isSome = true) (ha : PySem.W.findIn K (.ref C) name = some (some a)) (hg : PySem.W.specialIn K a "__get__" = some (some g)) (ht : PySem.W.takesIn K a = some true) : PySem.W.findObj K C od name = some (.bind g a) := by
  cases od with
  | none => exact PySem.W.findObj_dataN hc ha hg ht
  | some o => exact PySem.W.findObj_data hc ha hg ht
/-- e.__class__ -/
theorem exc_cls {Q : Option Value → Shared → Prop} (T : ExcC K D) (X : K.In s.heap) (I : PySem.W.InstAt s.heap x ox D od) (h : Q (some (.ref D)) { s with toks := s.toks + 1 }) : wpAny (model prog w) A (getAttr? (.ref x) "__class__") Q E s := by
  have hcl : (PySem.W.clsIn K D).isSome = true := by obtain ⟨cd, hc, _⟩ := PySem.W.any_some T.hd; rw [hc]; rfl
  obtain ⟨hp, g, d, t, os⟩ := s
  have L0 := I.type (M := model prog w)
  have L1 := PySem.W.looks_findIn (M := model prog w) X T.hg
  have L2 := PySem.W.looks_findIn (M := model prog w) X T.hk
  have L3 := PySem.W.looks_find (M := model prog w) X I (find_cls hcl T.ha T.hn T.ht)
  have sub : PySem.W.Looks (model prog w) hp (isInstance (.ref x) (.type "BaseException")) true := L0.andThen (PySem.W.looks_subIn X T.hs)
  have n1 : (onTheHeap (Value.ref D) && Value.builtin "BaseException.__getattribute__" == Value.builtin "object.__getattribute__") = false := by
    rw [show (Value.builtin "BaseException.__getattribute__" == Value.builtin "object.__getattribute__") = false by decide +kernel]; rfl
  unfold getAttr? getAttrBy? getAttrBy
  refine wpAny_bind (wpAny_mkText (wpAny_bind (wpAny_attempt (wpAny_holding (wpAny_bind (L0.at (wpAny_bind (L1.at ?_))))))))
  show wpAny _ _ (if (onTheHeap (Value.ref D) && Value.builtin "BaseException.__getattribute__" == Value.builtin "object.__getattribute__") = true then _ else _) _ _ _
  rw [n1, if_neg Bool.false_ne_true]
  unfold getAttrByItsOwn hookBefore
  refine wpAny_bind ?_
  rw [if_pos (show onTheHeap (Value.ref D) = true from rfl)]
  refine L2.at (wpAny_bind (wpAny_attempt (wpAny_holding ?_)))
  unfold callGetattribute
  rw [show (false && onTheHeap (Value.builtin "BaseException.__getattribute__")) = false from rfl, if_neg Bool.false_ne_true]
  unfold boundAndCalled
  rw [PySem.F.excAttr_ValueError.ga.bind (.ref x)]
  refine wpAny_bind (wpAny_pure ?_)
  show wpAny _ _ (call (.builtin "BaseException.__getattribute__") [.ref x, .str "__class__" t]) _ _ _
  refine wpAny_call (codeAny_call_builtin PySem.F.excAttr_ValueError.ga.plain PySem.F.entry_bexc_ga ?_)
  refine @PySem.W.check_slot (model prog w) _ _ ⟨hp, g, d, t + 1, os⟩ "BaseException.__getattribute__" "BaseException" "__getattribute__" (.ref x) [.str "__class__" t] [] _ (by decide +kernel) (by decide +kernel) sub (PySem.F.args_bexc_ga (.ref x) (.str "__class__" t)) ?_
  unfold Builtin.«object.__getattribute__»
  refine wpAny_bind (wpAny_of_eq (a := ((Value.ref x : Value), [Value.str "__class__" t])) (by first | rfl | (simp only [slotArgs]; rfl)) ?_)
  refine wpAny_bind (wpAny_pure (wpAny_bind (L0.at (wpAny_bind (L3.at ?_)))))
  show wpAny _ _ (holding [Value.builtin "object.__class__"] (call (.builtin "getset_descriptor.__get__") [.builtin "object.__class__", .ref x, .ref D]) >>= ret) _ _ _
  refine wpAny_bind (wpAny_holding (wpAny_call (PySem.W.class_get (s := ⟨hp, g, d, t + 1, os⟩) (ox := ox) (od := od) X I T.hm ?_)))
  refine wpAny_pure ?_
  show wpAny _ _ (handedOut (.ref D)) _ _ _
  rw [PySem.W.handedOut_of (v := .ref D) rfl]
  first
    | exact wpAny_pure (wpAny_pure h)
    | exact wpAny_pure h
    | exact wpAny_pure (wpAny_bind (wpAny_pure (wpAny_pure h)))
theorem kit_exc (T : ExcC K D) : PySem.W.KitX K (.ref x) (.ref D) (fun h => PySem.W.InstAt h x ox D od) where
  ty := fun _ _ _ I => I.type
  it := fun _ _ X _ => by
    obtain ⟨cdD, hcD, _⟩ := PySem.W.any_some T.hd
    unfold PySem.W.clsIn at hcD
    split at hcD
    · rename_i c' d' cd' sl' ho
      intro A' Q' E' s' k q
      unfold isType loadHead
      exact wpAny_bind (wpAny_loadPart (k _ _ (X _ _ ho)) (wpAny_pure q))
    · cases hcD
  ne := (PySem.W.handS_kitx_exc (x := x) (ox := ox) T.hg T.hk T.hs T.hd T.ha T.hn T.ht T.hm).ne
  ca := fun X I k => exc_cls T X I k
end
/-- what the exceptions' classes say -/
structure XkF (K : PySem.W.Frag) (c : Cn) : Prop where
  ec : ∀ k C, c.xl k = some C → ExcC K C
  ve : ∀ k C, c.xl k = some C → PySem.W.kitOne K (.ref C) (.type "ValueError") = some true
  cc : ∀ k l C D, c.xl k = some C → c.xl l = some D → l ≠ "CastError" → PySem.W.kitOne K (.ref C) (.ref D) = some (decide (k = l))
/-- isinstance(e, c), e's object pinned -/
def rIsP (K : PySem.W.Frag) (p : Addr × Obj) (C : Addr) (dx : Option Addr) : List V → Hp → VK → Prop := fun xs H Q => ∃ (c : V) (cv : Value) (b : Bool), xs = [.ref p.1, c] ∧ ErO H dx ∧ (∀ u, RelV c u → u = cv) ∧ PySem.W.kitOne K (.ref C) cv = some b ∧ Q (.bl b) H
section
variable {X : Cx} {p : Addr × Obj} {C : Addr} {dx : Option Addr} {c : Cn} {σ : L2.St} {H : Hp} {Q : VK} {kk : Str}
theorem call_isP (T : ExcC X.K C) (hp : p ∈ X.pn) (hz : Zc (.ref C) dx p.2) (hf : ∃ vs, p.2.data = .fields vs) : CallR X (.builtin "isinstance") (rIsP X.K p C dx) := by
  intro pins s σ H xs us Q I r h
  obtain ⟨c, cv, b, rfl, er, hcv, e, q⟩ := h
  obtain ⟨u1, u2, rfl, r1, r2⟩ := vals2 r
  cases (show u1 = Value.ref p.1 from r1)
  have ec := hcv _ r2
  subst ec
  obtain ⟨hget, _⟩ := I.pin p (List.mem_append.mpr (.inl hp))
  obtain ⟨vs, hv⟩ := hf
  obtain ⟨h1, h2⟩ := hz
  have no : PySem.W.notCls p.2 = true := by
    have : ∀ o : Obj, o.data = .fields vs → PySem.W.notCls o = true := fun o ho => by
      obtain ⟨oc, od, oda, osl⟩ := o
      dsimp only at ho
      subst ho
      rfl
    exact this _ hv
  have J : ∃ od, PySem.W.InstAt s.heap p.1 p.2 C od := by
    rcases er with rfl | ⟨dd, fs, rfl, hd⟩
    · exact ⟨none, hget, h1, no, by rw [h2]; trivial⟩
    · obtain ⟨_, ⟨_, _, _, e2, _⟩, _⟩ := (show ObjOk X.prog X.w H s.heap dd (.xd fs) from I.hok dd _ hd)
      exact ⟨some _, hget, h1, no, by rw [h2]; exact e2⟩
  obtain ⟨od, J⟩ := J
  exact PySem.W.kia_one (kit_exc T) I.kIn J e (fun z => nomatch z) fun tk => ⟨.bl b, H, I.kept (t' := tk) fun _ _ z => z, rfl, q⟩
/-! ### the text -/
def isiK (sc : Scope) (e : Expr) (k : Str) : Bool := match e with
  | .Call (.Name n _) [.Name w _, .Name m _] [] _ => decide (n = ("isinstance" : Str)) && (decide (w = ("_law_e" : Str)) && (decide (m = k) && (decide (sc.names.lookup k = some .globalImplicit) && (k == ("__debug__" : Str)) == false)))
  | _ => false
def isiL (sc : Scope) : List Expr → List Str → Bool
  | [], [] => true
  | e :: es, k :: ks => isiK sc e k && isiL sc es ks
  | _, _ => false
def isT (t : Str) : Bool := decide (t = ("_law_told" : Str))
def kndB (sc : Scope) (k1 k2 k3 k4 : List Str) : List Stmt → Bool
  | [.Assign [.Name t1 _] (.List e1 _) _, .Assign [.Name t2 _] (.BinOp (.Name t3 _) .Add (.List e2 _) _) _, .Assign [.Name t4 _] (.BinOp (.Name t5 _) .Add (.List e3 _) _) _, .Return (some (.BinOp (.Name t6 _) .Add (.List e4 _) _)) _] =>
    (isT t1 && (isT t2 && (isT t3 && (isT t4 && (isT t5 && isT t6))))) && (isiL sc e1 k1 && (isiL sc e2 k2 && (isiL sc e3 k3 && isiL sc e4 k4)))
  | _ => false
/-- what a class's name means -/
def KsOk (mg : Str → Option Value) (c : Cn) (h : Str) : Prop := (h = ("ValueError" : Str) ∧ mg h = none) ∨ (h ≠ ("ValueError" : Str) ∧ h ≠ ("CastError" : Str) ∧ ∃ D, c.xl h = some D ∧ mg h = some (.ref D))
/-- the context -/
structure Kx (X : Cx) (c : Cn) (p : Addr × Obj) (kk : Str) (C : Addr) (dx : Option Addr) : Prop where
  f : XkF X.K c
  hC : c.xl kk = some C
  hp : p ∈ X.pn
  hz : Zc (.ref C) dx p.2
  hf : ∃ vs, p.2.data = .fields vs
  bi : X.mg ("isinstance" : Str) = none
  gi : Gl X ("isinstance" : Str)
  n0 : X.N[0]? = some ("_law_e" : Str)
  n1 : X.N[1]? = some ("_law_told" : Str)
  v0 : Vis X.env.scope ("_law_e" : Str)
  v1 : Vis X.env.scope ("_law_told" : Str)
theorem se_isK (g : Kx X c p kk C dx) {e : Expr} {k : Str} (h : isiK X.env.scope e k = true) (hk : KsOk X.mg c k) (hs : σ[0]? = some (some (.ref p.1))) (er : ErO H dx) (q : Q (.bl (xmV kk k)) H) : SE X e σ H Q ∧ nst e = true := by
  unfold isiK at h
  split at h
  · rename_i n q1 w q2 m q3 q4
    simp only [Bool.and_eq_true, decide_eq_true_eq, beq_iff_eq] at h
    obtain ⟨rfl, rfl, rfl, h1, h2⟩ := h
    refine ⟨?_, rfl⟩
    have hnd : [Expr.Name ("_law_e" : Str) q2, Expr.Name m q3].all nst = true := rfl
    refine SE.of (pe_callB (call_isP (g.f.ec kk C g.hC) g.hp g.hz g.hf) g.gi g.bi (by decide +kernel) (pa_S hnd) (by decide) (by decide) (nst_each rfl _) (plain_of hnd)) ?_
    refine SE.of (pe_var (i := 0) g.n0 g.v0 (by decide) (by decide)) ?_
    refine ⟨_, hs, ?_⟩
    rcases hk with ⟨rfl, hm⟩ | ⟨hv, hn, D, hD, hm⟩
    · refine fun pins s1 I => ld_blt I h1 hm (by decide +kernel) ⟨.ty "ValueError", H, I, rfl, ?_⟩ (by decide) h2
      refine ⟨.ty "ValueError", _, true, rfl, er, fun u z => z, g.f.ve kk C g.hC, ?_⟩
      have e : xmV kk ("ValueError" : Str) = true := by unfold xmV; simp
      rw [e] at q; exact q
    · refine SE.of (pe_glob (v := .ref D) h1 hm rfl h2) ?_
      refine ⟨.ref D, _, decide (kk = m), rfl, er, fun u z => z, g.f.cc kk m C D g.hC hD hn, ?_⟩
      have e : xmV kk m = decide (kk = m) := by unfold xmV; rw [decide_eq_false hv, Bool.or_false]
      rw [e] at q; exact q
  · cases h
theorem ses_isK (g : Kx X c p kk C dx) : ∀ {es : List Expr} {ks : List Str} {Q : List V → Hp → Prop}, isiL X.env.scope es ks = true → (∀ k ∈ ks, KsOk X.mg c k) → σ[0]? = some (some (.ref p.1)) → ErO H dx → Q (ks.map fun h => .bl (xmV kk h)) H → SEs X es σ H Q ∧ es.all nst = true
  | [], [], Q, _, _, _, _, q => ⟨q, rfl⟩
  | e :: es, k :: ks, Q, h, hk, hs, er, q => by
    unfold isiL at h
    rw [Bool.and_eq_true] at h
    obtain ⟨i1, i2⟩ := ses_isK g (Q := fun vs H1 => Q (V.bl (xmV kk k) :: vs) H1) h.2 (fun k hk' => hk k (List.mem_cons_of_mem _ hk')) hs er q
    obtain ⟨j1, j2⟩ := se_isK (Q := fun v H1 => SEs X es σ H1 fun vs H2 => Q (v :: vs) H2) g h.1 (hk k List.mem_cons_self) hs er i1
    exact ⟨j1, by rw [List.all_cons, j2, i2]; rfl⟩
  | [], _ :: _, _, h, _, _, _, _ => by cases h
  | _ :: _, [], _, h, _, _, _, _ => by cases h
theorem se_lstK (g : Kx X c p kk C dx) {es : List Expr} {ks : List Str} {pos : Pos} (h : isiL X.env.scope es ks = true) (hk : ∀ k ∈ ks, KsOk X.mg c k) (hl : ks.length ≤ 100) (hs : σ[0]? = some (some (.ref p.1))) (er : ErO H dx)
    (q : ∀ a, H a = none → Q (.ref a) (upd H a (.lst (ks.map fun h => .bl (xmV kk h))))) : SE X (.List es pos) σ H Q := by
  have hz : ks.length ≤ sizeLine := by rw [lim_eq]; have : (100 : Nat) ≤ LIM := by decide
                                       omega
  obtain ⟨h1, h2⟩ := ses_isK (Q := fun xs H1 => xs.length ≤ sizeLine ∧ ∀ p, H1 p = none → Q (.ref p) (upd H1 p (.lst xs))) g h hk hs er ⟨by rw [List.length_map]; exact hz, q⟩
  exact SE.of (pe_lst (pa_S h2)) h1
theorem se_addK (g : Kx X c p kk C dx) {es : List Expr} {k1 ks : List Str} {p1 p2 pos : Pos} {a : Addr} (h : isiL X.env.scope es ks = true) (hk : ∀ k ∈ ks, KsOk X.mg c k) (hl : k1.length + ks.length ≤ 100) (hs : σ[0]? = some (some (.ref p.1))) (er : ErO H dx)
    (ht : σ[1]? = some (some (.ref a))) (ha : H a = some (.lst (k1.map fun h => .bl (xmV kk h)))) (q : ∀ b H', Ext H H' → H b = none → H' b = some (.lst ((k1 ++ ks).map fun h => .bl (xmV kk h))) → Q (.ref b) H') : SE X (.BinOp (.Name ("_law_told" : Str) p1) .Add (.List es p2) pos) σ H Q := by
  refine SE.of (pe_op op_cat (pe_var (i := 1) g.n1 g.v1 (by decide) (by decide)) pe_S) ?_
  refine ⟨_, ht, se_lstK g h hk (by omega) hs er fun b hb => ?_⟩
  have ne : b ≠ a := fun z => by rw [z, ha] at hb; cases hb
  refine ⟨a, b, _, _, rfl, rfl, by rw [upd_ne (Ne.symm ne)]; exact ha, upd_same, ?_, fun d hd => ?_⟩
  · rw [List.length_map, List.length_map, lim_eq]
    have : (100 : Nat) ≤ LIM := by decide
    omega
  · have x1 : Ext H (upd H b (.lst (ks.map fun h => .bl (xmV kk h)))) := Ext.new hb
    refine q d _ (x1.trans (Ext.new hd)) ?_ ?_
    · cases e : H d with
      | none => rfl
      | some o => rw [x1 d o e] at hd; cases hd
    · rw [upd_same, List.map_append]
theorem er_ext {H H' : Hp} {dx : Option Addr} (h : ErO H dx) (x : Ext H H') : ErO H' dx := h.imp (fun z => z) fun ⟨dd, fs, e1, e2⟩ => ⟨dd, fs, e1, x _ _ e2⟩
theorem kd_body (g : Kx X c p kk C dx) {k1 k2 k3 k4 : List Str} {body : List Stmt} (h : kndB X.env.scope k1 k2 k3 k4 body = true) (hk : ∀ k ∈ k1 ++ k2 ++ k3 ++ k4, KsOk X.mg c k) (hl : (k1 ++ k2 ++ k3 ++ k4).length ≤ 100) (nd : X.N.Nodup) (hloc : X.env.scope.names.lookup ("_law_told" : Str) = some .local) (hlen : σ.length = 2)
    (hs : σ[0]? = some (some (.ref p.1))) (er : ErO H dx) (q : ∀ b H', Ext H H' → H b = none → H' b = some (.lst ((k1 ++ k2 ++ k3 ++ k4).map fun h => .bl (xmV kk h))) → Q (.ref b) H') : ∃ t, PSs X body t ∧ t { nx := fun _ H' => Q .non H', rt := Q } σ H := by
  unfold kndB at h
  split at h
  · rename_i t1 q1 e1 q2 q3 t2 q4 t3 q5 e2 q6 q7 q8 t4 q9 t5 q10 e3 q11 q12 q13 t6 q14 e4 q15 q16 q17
    simp only [Bool.and_eq_true, isT, decide_eq_true_eq] at h
    obtain ⟨⟨rfl, rfl, rfl, rfl, rfl, rfl⟩, h1, h2, h3, h4⟩ := h
    have st : ∀ {e : Expr} {pos' pos : Pos}, swapsWith e (some (.Name "_law_told" pos')) pos.line X.env = pure false → PS X (.Assign [.Name ("_law_told" : Str) pos'] e pos) (tAsg (SE X e) (gName 1)) := fun {e pos' pos} hsw =>
      ps_set nd g.n1 (.inl hloc) pe_S hsw (.inr hloc)
    refine ⟨_, pss_cons (st rfl) (pss_cons (st rfl) (pss_cons (st rfl) (pss_one (ps_ret pe_S)))), ?_⟩
    rw [List.length_append, List.length_append, List.length_append] at hl
    have kin : ∀ k, (k ∈ k1 ∨ k ∈ k2 ∨ k ∈ k3 ∨ k ∈ k4) → KsOk X.mg c k := fun k hk' => hk k (by
      simp only [List.mem_append]
      rcases hk' with z | z | z | z
      · exact .inl (.inl (.inl z))
      · exact .inl (.inl (.inr z))
      · exact .inl (.inr z)
      · exact .inr z)
    have s0 : ∀ {σ : L2.St} {v : V}, σ[0]? = some (some (.ref p.1)) → (σ.set 1 (some v))[0]? = some (some (.ref p.1)) := fun {σ v} z => by rw [List.getElem?_set_ne (by decide)]; exact z
    have s1 : ∀ {σ : L2.St} {v : V}, σ.length = 2 → (σ.set 1 (some v))[1]? = some (some v) := fun {σ v} z => List.getElem?_set_self (by omega)
    refine se_lstK g h1 (fun k z => kin k (.inl z)) (by omega) hs er fun a ha => ?_
    have x1 : Ext H (upd H a (.lst (k1.map fun h => V.bl (xmV kk h)))) := Ext.new ha
    refine se_addK g h2 (fun k z => kin k (.inr (.inl z))) (by omega) (s0 hs) (er_ext er x1) (s1 hlen) upd_same fun b H2 y2 b0 b1 => ?_
    have x2 := x1.trans y2
    refine se_addK g h3 (fun k z => kin k (.inr (.inr (.inl z)))) (by rw [List.length_append]; omega) (s0 (s0 hs)) (er_ext er x2) (s1 (by rw [List.length_set]; exact hlen)) b1 fun d H3 y3 d0 d1 => ?_
    have x3 := x2.trans y3
    refine se_addK g h4 (fun k z => kin k (.inr (.inr (.inr z)))) (by rw [List.length_append, List.length_append]; omega) (s0 (s0 (s0 hs))) (er_ext er x3) (s1 (by rw [List.length_set, List.length_set]; exact hlen)) d1 fun r H4 y4 r0 r1 => ?_
    refine q r H4 (x3.trans y4) ?_ r1
    cases e : H r with
    | none => rfl
    | some o => rw [x3 r o e] at r0; cases r0
  · cases h
end
/-- the def, called -/
theorem kd_ok {P : Program} {w : World} {K : PySem.W.Frag} {mg : Str → Option Value} {base : Heap} {c : Cn} {nm qual : Str} {params : Arguments} {body : List Stmt} {scope : Scope} {dvs : List V} {kws : List (Str × V)} {f : Addr} {fd : FuncData} {k1 k2 k3 k4 : List Str}
    (F : FunD K nm qual params body scope dvs kws f fd) (S : FnScope ["_law_e", "_law_told"] ["_law_e"] scope) (hb : Binds K fd ["_law_e"] []) (ht : kndB scope k1 k2 k3 k4 body = true) (hl : (k1 ++ k2 ++ k3 ++ k4).length ≤ 100) (hloc : scope.names.lookup ("_law_told" : Str) = some .local) (hl0 : scope.names.lookup ("_law_e" : Str) = some .local)
    (hgi : scope.names.lookup ("isinstance" : Str) = some .globalImplicit) (xk : XkF K c) (hk : ∀ k ∈ k1 ++ k2 ++ k3 ++ k4, KsOk mg c k) (hbi : mg ("isinstance" : Str) = none) : KdOk P w K mg base c (k1 ++ k2 ++ k3 ++ k4) f := by
  obtain ⟨oc, od, dV, kV, doc, pm, an, cdv, ct, osl, rfl, lk, hcd, _, _⟩ := F.ex
  intro A outer s H p kk C dx Q hr hpin e0 hz hf hC er q
  have KX : K.In s.heap := e0.mod.kin.keeps fun b o e => (e0.bs b o e).1
  have lim : s.heap.NoLimit := e0.mod.nolimit.keeps fun b o e => (e0.bs b o e).1
  have hkind : ∀ y ∈ (["_law_e"] : List Str).zip [Value.ref p.1], scope.names.lookup y.1 = some .local ∨ (scope.names.lookup y.1 = some .cell ∧ ((cellsFrom (s.heap.objs.size + 1) scope.names []).lookup y.1).isSome = true) := fun ⟨n, v⟩ hy => by
    rcases S.par n (List.of_mem_zip hy).1 with q | q
    · exact .inl q
    · exact .inr ⟨q, PySem.W.cellsFrom_some _ _ _ (.inl q)⟩
  have hbb := hb s [.ref p.1] KX rfl
  refine codeAny_call_function (hr.mono (by decide : 1 ≤ 2)).depth (KX _ _ lk) rfl S.co S.gen rfl (PySem.W.codeRec_of KX hcd) (hbb _ _ _ _ ?_)
  refine wpAny_newFunctionEnv_cells S.kind hkind fun env he s1 x => ?_
  subst he
  refine ⟨lim.keeps x.toInCall.keep, codeAny_func ?_⟩
  have I : Inv (L2H.cxH (CX P w) P w K mg base ["_law_e", "_law_told"] qual scope f cdv A outer s H (fun _ _ _ => False) p) [] (L2.start ["_law_e", "_law_told"] [.ref p.1]) H s1 := L2H.inv_startH S hpin e0 rfl (.cons rfl .nil) x
  have g : Kx (L2H.cxH (CX P w) P w K mg base ["_law_e", "_law_told"] qual scope f cdv A outer s H (fun _ _ _ => False) p) c p kk C dx := ⟨xk, hC, List.mem_cons_self, hz, hf, hbi, hgi, rfl, rfl, .inl hl0, .inl hloc⟩
  obtain ⟨t, ht2, hq⟩ := kd_body (H := H) (Q := Q) (σ := L2.start ["_law_e", "_law_told"] [.ref p.1]) g ht hk hl S.nd hloc rfl rfl er q
  refine wpAny_mono (ht2.run [] s1 _ H _ I hq) (fun fl s' hs => ?_) fun e s' hs => hs
  have fin : ∀ {σ' : L2.St} {H' : Hp} {v : V} {u : Value}, Inv (L2H.cxH (CX P w) P w K mg base ["_law_e", "_law_told"] qual scope f cdv A outer s H (fun _ _ _ => False) p) [] σ' H' s' → RelV v u → Q v H' → CE outer P w H s Q u s' :=
    fun {σ' H' v u} J rv q => ⟨v, H', J.os, J.bare, J.base, J.hok, rv, q⟩
  cases fl with
  | ret u =>
    obtain ⟨v, σ', H', J, rv, q⟩ := hs
    exact fin J rv q
  | next =>
    obtain ⟨σ', H', J, q⟩ := hs
    exact fin (v := V.non) (u := Value.none) J rfl q
  | brk =>
    obtain ⟨_, _, _, q⟩ := hs
    exact False.elim q
  | cont =>
    obtain ⟨_, _, _, q⟩ := hs
    exact False.elim q
end Nc

set_option Elab.async false
set_option linter.all false
set_option autoImplicit false
set_option maxRecDepth 100000
set_option maxHeartbeats 4000000
/-! What is known of a law's program; the levels. -/
namespace Nc
open PySem PySem.Spec PyProof.Rows L2
/-- a def stands at f, and its text is checked -/
def DefAt (K : PySem.W.Frag) (sg : Kf → Option Sig) (ats : List Str) (ex : Str → Option (Option Str)) (d : Dfn) (f : Addr) : Prop :=
  ∃ (nm qual : Str) (params : Arguments) (body : List Stmt) (scope : Scope) (dvs : List V) (kws : List (Str × V)) (fd : FuncData) (N ps : List Str) (o : Option Ms), FunD K nm qual params body scope dvs kws f fd ∧ FnScope N ps scope ∧ d.s.ps.length = ps.length ∧ ps.length ≤ N.length ∧ N.length = d.n ∧
    (chk2 (kcOf ⟨N, scope, sg, ats, fun _ => true, ex⟩ d.s) d.sm).s body (mStart d.s.ps N.length) = some o ∧ endOk d.s N.length o = true ∧ Binds K fd ps []
/-- the same, called with some left out -/
def DefAtB (K : PySem.W.Frag) (sg : Kf → Option Sig) (ats : List Str) (ex : Str → Option (Option Str)) (d : Dfn) (f : Addr) (bs : List V) : Prop :=
  ∃ (nm qual : Str) (params : Arguments) (body : List Stmt) (scope : Scope) (dvs : List V) (kws : List (Str × V)) (fd : FuncData) (N ps : List Str) (o : Option Ms), FunD K nm qual params body scope dvs kws f fd ∧ FnScope N ps scope ∧ d.s.ps.length = ps.length ∧ ps.length ≤ N.length ∧ N.length = d.n ∧
    (chk2 (kcOf ⟨N, scope, sg, ats, fun _ => true, ex⟩ d.s) d.sm).s body (mStart d.s.ps N.length) = some o ∧ endOk d.s N.length o = true ∧ ∃ us, Vals bs us ∧ Binds K fd ps us
/-- what stands for what is left out -/
inductive DvR : List V → List D → Prop where
  | nil : DvR [] []
  | non {vs ds} (r : DvR vs ds) : DvR (.non :: vs) (.non :: ds)
  | int {vs ds} (i : Int) (r : DvR vs ds) : DvR (.int i :: vs) (.int i :: ds)
structure FnSB (P : Program) (w : World) (K : PySem.W.Frag) (mg : Str → Option Value) (base : Heap) (k : Nat) (c : Cn) (Xr : XrT) (s : Sig) (g : List D → Option Out) (f : Addr) (bs : List V) : Prop where
  kp : PySem.W.keepIn K (.ref f) = true
  ok : ∃ fd ps us, FnOk P w K mg base (CX P w) k f fd ps (spF c Xr s g) ∧ Vals bs us ∧ Binds K fd ps us
structure Lw where
  P : Pg
  fl : List Str   -- defs
  cl : List Str   -- classes
  ats : List Str  -- attributes
  xl : List Str   -- exceptions
def Lw.ok (L : Lw) : Kf → Bool
  | .fn f => match L.P.fns f with
    | some _ => L.fl.contains f
    | none => L.cl.contains f
  | .cm k _ => L.cl.contains k
  | .pr m => match L.P.pcl m with
    | some k => L.cl.contains k
    | none => false
  | .ln k => L.cl.contains k
  | .ct k => L.cl.contains k
  | .nct k => L.cl.contains k
  | .ad k => false
  | .gi k => false
  | .dfl k _ => L.cl.contains k
  | .eq k => L.cl.contains k && decide (k ∈ dKs)
  | .isi t => match clsK t with
    | some k => L.cl.contains k
    | none => true
  | _ => true
def Lw.sg (L : Lw) (f : Kf) : Option Sig := if L.ok f = true then L.P.sg f else none
def Lw.ex (L : Lw) (k : Str) : Option (Option Str) := if L.xl.contains k = true then exF k else none
/-- what is known of a law's program -/
structure LwF (w : World) (K : PySem.W.Frag) (mg : Str → Option Value) (c : Cn) (L : Lw) : Prop where
  inj : ∀ a b C, c.cl a = some C → c.cl b = some C → a = b
  bl : ∀ n ∈ bnames, mg n = none
  cls : ∀ k C, c.cl k = some C → L.cl.contains k = true ∧ Cls K C
  mgc : ∀ k, L.cl.contains k = true → ∃ C, c.cl k = some C ∧ mg k = some (.ref C)
  att : ∀ k C f, c.cl k = some C → L.ats.contains f = true → NoAttr K C f
  fns : ∀ f d, L.P.fns f = some d → L.fl.contains f = true → ∃ a, mg f = some (.ref a) ∧ DefAt K L.sg L.ats L.ex d a
  mts : ∀ k m d C, c.cl k = some C → L.P.mts k m = some d → L.P.pcl m ≠ some k → ∃ a, Meth K C m a ∧ DefAt K L.sg L.ats L.ex d a
  prs : ∀ k m d C, c.cl k = some C → L.P.mts k m = some d → L.P.pcl m = some k → ∃ p a, PropOf K C m p a ∧ DefAt K L.sg L.ats L.ex d a
  spc : ∀ m ∈ (["__init__", "__len__", "__contains__", "__add__", "__getitem__", "__eq__"] : List Str), L.P.pcl m = none
  mks : ∀ k C, c.cl k = some C → PySem.W.makesIn K C = true ∧ PySem.W.keepIn K (.ref C) = true
  isf : IsF K c mg
  xc : ∀ h f, L.ex h = some f → ∃ C, c.xl h = some C ∧ mg h = some (.ref C) ∧ PySem.W.keepIn K (.ref C) = true ∧ PySem.W.subIn K (.ref C) (.type "BaseException") = some true ∧ PySem.W.typeIn K (.ref C) = some (.type "type") ∧ (f = none → PySem.W.excIn K C [.type "ValueError", .type "Exception", .type "BaseException", .type "object"] "ValueError.__new__" = true)
  xm : ∀ k h f C D, L.ex h = some f → c.xl h = some C → c.xl k = some D → PySem.W.exmOne K (.ref D) (.ref C) = some (xmD k h)
  xi : ∀ k f, L.ex k = some (some f) → ∃ (C fI : Addr) (nm qual : Str) (params : Arguments) (body : List Stmt) (scope : Scope) (dvs : List V) (kws : List (Str × V)) (fd : FuncData), c.xl k = some C ∧ OexC K C ∧ PySem.W.findIn K (.ref C) "__init__" = some (some (.ref fI)) ∧
    PySem.W.typeIn K (.ref fI) = some (.type "function") ∧ PySem.W.findIn K (.ref C) f = some none ∧ FunD K nm qual params body scope dvs kws fI fd ∧ FnScope ["self", f] ["self", f] scope ∧ xiB f body = true ∧ Binds K fd ["self", f] []
  xf : ∀ k f C, L.ex k = some (some f) → c.xl k = some C → XfC K C ∧ PySem.W.findIn K (.ref C) f = some none
  gc : ∀ k d, L.P.gc k = some d → ∃ v u, mg k = some u ∧ RelV v u ∧ ∀ F H, Rep c.cl F H v d
  dv : ∀ k n ds, L.P.dv k n = some ds → ∀ C, c.cl k = some C → ∃ d a bs, L.P.mts k "__init__" = some d ∧ Meth K C "__init__" a ∧ DvR bs ds ∧ DefAtB K L.sg L.ats L.ex d a bs
  kd : ∀ f ks, L.P.kd f = some ks → ∃ fa, mg f = some (.ref fa) ∧ PySem.W.keepIn K (.ref fa) = true ∧ ∀ Pr base, KdOk Pr w K mg base c ks fa
  tb : ∀ y kvs, L.P.tc y = some kvs → ∃ a es n, mg y = some (.ref a) ∧ KDict K w a es n ∧ TabF es kvs
section
variable {Pr : Program} {w : World} {K : PySem.W.Frag} {mg : Str → Option Value} {base : Heap} {c : Cn} {L : Lw} {Xr : XrT} {d : Dfn} {f : Addr} {k : Nat}
theorem fnsb_zero {bs : List V} (h : DefAtB K L.sg L.ats L.ex d f bs) : FnSB Pr w K mg base 0 c Xr d.s no1 f bs := by
  obtain ⟨nm, qual, params, body, scope, dvs, kws, fd, N, ps, o, F, S, h1, h2, h3, h4, h5, us, h6, h7⟩ := h
  have no : ∀ vs H Q E, ¬ spF c Xr d.s no1 vs H Q E := fun vs H Q E ⟨_, _, _, _, _, z⟩ => z
  exact ⟨F.kp, fd, ps, us, ⟨fun vs H Q E z => (no _ _ _ _ z).elim, fun A outer s H args us vs Q E _ _ _ _ z => (no _ _ _ _ z).elim⟩, h6, h7⟩
theorem fnsb_succ {bs : List V} (F : LwF w K mg c L) {T : Tb} (hT : T.sg = L.P.sg) (h : DefAtB K L.sg L.ats L.ex d f bs) (lv : Lvl Pr w K mg base k c T Xr L.sg L.ats L.ex) : FnSB Pr w K mg base (k + 1) c Xr d.s (fnD T d.s d.sm d.n) f bs := by
  obtain ⟨nm, qual, params, body, scope, dvs, kws, fd, N, ps, o, Fn, S, h1, h2, h3, h4, h5, us, h6, h7⟩ := h
  refine ⟨Fn.kp, fd, ps, us, ?_, h6, h7⟩
  rw [← h3]
  refine fn_ok (x := ⟨N, scope, L.sg, L.ats, fun _ => true, L.ex⟩) Fn S rfl (fun _ _ => trivial) h1 h2 F.inj (fun g s q => ?_) F.bl lv h4 h5
  rw [hT]
  replace q : (if L.ok g = true then L.P.sg g else none) = some s := q
  split at q
  · exact q
  · cases q
theorem DefAt.toB (h : DefAt K L.sg L.ats L.ex d f) : DefAtB K L.sg L.ats L.ex d f [] := by
  obtain ⟨nm, qual, params, body, scope, dvs, kws, fd, N, ps, o, Fn, S, h1, h2, h3, h4, h5, h6⟩ := h
  exact ⟨nm, qual, params, body, scope, dvs, kws, fd, N, ps, o, Fn, S, h1, h2, h3, h4, h5, [], .nil, h6⟩
theorem FnSB.nil {s : Sig} {g : List D → Option Out} (h : FnSB Pr w K mg base k c Xr s g f []) : FnS Pr w K mg base k c Xr s g f := by
  obtain ⟨fd, ps, us, h1, h2, h3⟩ := h.ok
  cases h2
  exact ⟨h.kp, fd, ps, h1, h3⟩
theorem FnS.mono {j : Nat} {s : Sig} {g : List D → Option Out} (h : FnS Pr w K mg base k c Xr s g f) (hj : k ≤ j) : FnS Pr w K mg base j c Xr s g f :=
  let ⟨fd, ps, a, b⟩ := h.ok
  ⟨h.kp, fd, ps, a.mono hj, b⟩
end
end Nc

set_option Elab.async false
set_option linter.all false
set_option autoImplicit false
set_option maxRecDepth 100000
set_option maxHeartbeats 4000000
/-! What calls give, at a level. -/
namespace Nc
open PySem PySem.Spec PyProof.Rows L2
section
variable {X : Cx} {x : Sx} {c : Cn} {W : WX} {o e : Expr} {m : Str} {as : List Expr} {p q : Pos} {j : Nat} {L : Lw} {b : Bd} {Q : VK} {H : Hp} {σ : L2.St} {nm : Str}
theorem meth_form (ok : abOk o = true) (ln : (p.endLine == q.line) = true) (hn : as.all nst = true) (hl : as.length < 30) : eval (.Call (.Attribute o m p) as [] q) X.env = (do
      let ov ← eval o X.env
      standAt p.atName
      let (f, first) ← holding [ov] (getMethod ov m (do return (← importBound o X.env).getD true))
      callWith q f first (backTo q (starEach as X.env)) (backToKw q (keywordEach [] X.env))) := by
  rw [arm_eval_Call, abOk_eq ok]
  have few : methodCallForm (as.length + ([] : List Keyword).length) (backTo q (starEach as X.env)) (backToKw q (keywordEach [] X.env)) = true := by
    unfold methodCallForm
    rw [starEach_nst hn, Bool.true_and]
    have : (backToKw q (keywordEach [] X.env)).all (fun x => x.1.isSome) = true := rfl
    rw [this, Bool.true_and, decide_eq_true_eq]
    show as.length + 0 + 0 < 30
    omega
  refine congrArg _ (funext fun ov => congrArg _ (funext fun _ => ?_))
  unfold methodCall calleeOf methodCallPos
  rw [few, ln]
  rfl
theorem se_met (F : LwF X.w X.K X.mg c L) (hS : ∀ d a, DefAt X.K L.sg L.ats L.ex d a → FnS X.prog X.w X.K X.mg X.base j c (XrD c) d.s (b d) a) (hr : Room j X.A) (tk : Takes X W) {k : Str} {s : Sig} (hs : (L.P.mts k m).map Dfn.s = some s) (hp : L.P.pcl m ≠ some k) (h : metA m e = some (o, as)) (hn : as.all nst = true)
    (z : SE X o σ H fun v H1 => ∃ a C dx gs, c.cl k = some C ∧ v = .ref a ∧ H1 a = some (.ins C dx gs) ∧ gs.lookup m = none ∧ SEs X as σ H1 fun vs H2 => spF c (XrD c) s (L.P.md b k m) (v :: vs) H2 Q fun cls d H3 => W cls d σ H3) : SE X e σ H Q := by
  obtain ⟨p, q, rfl, ok, ln⟩ := metA_inv h
  have ht := meth_form (X := X) (m := m) ok ln hn (metA_few h)
  cases hc : c.cl k with
  | none =>
    intro pins t I
    refine PySem.W.methodCall_KW (thn (z pins t I) fun u s1 ⟨v, H1, I1, r, a, C, dx, gs, h1, _⟩ => ?_) ht
    rw [hc] at h1
    cases h1
  | some C =>
    obtain ⟨d, hd, rfl⟩ := Option.map_eq_some_iff.mp hs
    obtain ⟨a, mt, da⟩ := F.mts k m d C hc hd hp
    obtain ⟨fd, ps, fo, hb⟩ := (hS d a da).ok
    refine se_meth (ds := []) (dvs := []) (F.cls k C hc).2 mt fo hr hb .nil tk hn ht (SE.mono z fun v H1 ⟨a, C', dx, gs, h1, h2, h3, h4, h5⟩ => ?_)
    rw [hc] at h1
    cases h1
    refine ⟨a, dx, gs, h2, h3, h4, SEs.mono h5 fun vs H2 q => ?_⟩
    rw [List.append_nil]
    unfold Pg.md at q
    rw [hd] at q
    exact q
/-- a method among the special ones -/
theorem mt_of (F : LwF X.w X.K X.mg c L) (hS : ∀ d a, DefAt X.K L.sg L.ats L.ex d a → FnS X.prog X.w X.K X.mg X.base j c (XrD c) d.s (b d) a) {k : Str} {s : Sig} (hs : L.P.ms k m = some s) (hk : L.cl.contains k = true) (hm : L.P.pcl m = none) :
    MtS X.prog X.w X.K X.mg X.base j c (XrD c) k m s (L.P.md b k m) := by
  obtain ⟨d, hd, rfl⟩ := Option.map_eq_some_iff.mp hs
  obtain ⟨C, hc, _⟩ := F.mgc k hk
  obtain ⟨a, mt, da⟩ := F.mts k m d C hc hd (by rw [hm]; exact fun z => (nomatch z))
  refine ⟨C, a, hc, (F.cls k C hc).2, mt, ?_⟩
  have : L.P.md b k m = b d := by unfold Pg.md; rw [hd]
  rw [this]
  exact hS d a da
theorem two_some {sw : Bool} {s r : Sig} (h : two sw s = some r) : ∃ p q m, s = ⟨[p, q], m⟩ ∧ isIo p = false ∧ isIo q = false ∧ r = ⟨if sw = true then [q, p] else [p, q], m⟩ := by
  obtain ⟨ps, m⟩ := s
  unfold two at h
  split at h
  · rename_i p q hp
    simp only at hp
    subst hp
    split at h
    · rename_i z
      cases h
      exact ⟨p, q, m, rfl, z.1, z.2, rfl⟩
    · cases h
  · cases h
theorem twoB_some {sw : Bool} {s r : Sig} (h : twoB sw s = some r) : ∃ p q, s = ⟨[p, q], .fz⟩ ∧ isIo p = false ∧ isIo q = false ∧ r = ⟨if sw = true then [q, p] else [p, q], .fz⟩ := by
  unfold twoB at h
  split at h
  · rename_i z
    obtain ⟨p, q, m, rfl, h1, h2, h3⟩ := two_some h
    obtain rfl : m = .fz := z
    exact ⟨p, q, rfl, h1, h2, h3⟩
  · cases h
/-- a constructor's call -/
theorem cal_con (F : LwF X.w X.K X.mg c L) (hS : ∀ d a, DefAt X.K L.sg L.ats L.ex d a → FnS X.prog X.w X.K X.mg X.base j c (XrD c) d.s (b d) a) (hr : Room (j + 1) X.A) (g : Gn X x) (tk : Takes X W) {k : Str} {s0 s : Sig} (hs : L.P.ms k "__init__" = some s0) (hc0 : conS s0 = some s) (hk : L.cl.contains k = true)
    (h : kfA x (.fn k) e = some as) (hn : as.all nst = true) (z : SEs X as σ H fun vs H1 => spF c (XrD c) s (conD k (L.P.md b k "__init__")) vs H1 Q fun cls d H2 => W cls d σ H2) : SE X e σ H Q := by
  obtain ⟨C, hc, hm⟩ := F.mgc k hk
  obtain ⟨d, hd, rfl⟩ := Option.map_eq_some_iff.mp hs
  obtain ⟨a, mt, da⟩ := F.mts k _ d C hc hd (by rw [F.spc _ (by simp)]; exact fun z => (nomatch z))
  obtain ⟨mk1, mk2⟩ := F.mks k C hc
  obtain ⟨fd, ps, fo, hb⟩ := (hS d a da).ok
  have hmd : L.P.md b k "__init__" = b d := by unfold Pg.md; rw [hd]
  rw [hmd] at z
  unfold kfA at h
  split at h
  case h_1 f' m' es p q' heq =>
    cases heq
    obtain ⟨h1, h2⟩ := grd_some h
    cases h2
    simp only [Bool.and_eq_true, decide_eq_true_eq, beq_iff_eq] at h1
    obtain ⟨rfl, h2, h3⟩ := h1
    obtain ⟨⟨dps, dres⟩, dsm, dn⟩ := d
    unfold conS at hc0
    simp only at hc0
    split at hc0
    · rename_i m0 ps0
      split at hc0
      · rename_i hh
        cases hc0
        obtain ⟨i1, i2, i3⟩ := hh
        refine se_make (ds := []) (dvs := []) ⟨mk1, mt.at_, mt.fn, mk2⟩ fo hr (g.gl h2) hm hb .nil tk h3 hn (SEs.mono z fun vs H1 y a' dx h4 h5 h6 => ?_)
        rw [List.append_nil]
        have := con_ok (s := ⟨ps0, m0⟩) hc i1 (fun p hp => by have := List.all_eq_true.mp i2 p hp; simpa using this) y a' dx h4 h5 h6
        rw [← i3] at this
        exact this
      · cases hc0
    · cases hc0
  all_goals first | (rename_i heq; cases heq; done) | cases h
end
section
variable {c : Cn} {Xr : XrT} {F : Fz} {H : Hp} {AA : List Addr}
theorem dv_args : ∀ {qs : List Pm} {bs : List V} {es : List D}, DvR bs es → qs.length = es.length → (qs.all fun p => decide (p = .fz)) = true → ArgR c F H AA qs bs es []
  | [], _, _, .nil, _, _ => .nil
  | q :: qs, _, _, .non r, hl, h => by
    rw [List.all_cons, Bool.and_eq_true, decide_eq_true_eq] at h
    obtain ⟨rfl, h⟩ := h
    exact .fz .non (dv_args r (by simpa using hl) h)
  | q :: qs, _, _, .int i r, hl, h => by
    rw [List.all_cons, Bool.and_eq_true, decide_eq_true_eq] at h
    obtain ⟨rfl, h⟩ := h
    exact .fz (.int i) (dv_args r (by simpa using hl) h)
  | [], _, _, .non _, hl, _ => by simp at hl
  | [], _, _, .int _ _, hl, _ => by simp at hl
  | _ :: _, _, _, .nil, hl, _ => by simp at hl
theorem args_app {qs : List Pm} {bs : List V} {es : List D} (r2 : ArgR c F H AA qs bs es []) : ∀ {ps : List Pm} {vs : List V} {ds : List D}, ArgR c F H AA ps vs ds [] → (∀ p ∈ ps, isIo p = false) → ArgR c F H AA (ps ++ qs) (vs ++ bs) (ds ++ es) []
  | _, _, _, .nil, _ => r2
  | _, _, _, .fz h r, hp => .fz h (args_app r2 r fun p z => hp p (List.mem_cons_of_mem _ z))
  | _, _, _, .bo h n r, hp => .bo h n (args_app r2 r fun p z => hp p (List.mem_cons_of_mem _ z))
theorem ios_app {F' : Fz} {H' : Hp} {ios : List D} {As : List (List Addr)} {qs : List Pm} {bs : List V} : ∀ {ps : List Pm} {vs : List V}, vs.length = ps.length → (∀ p ∈ ps, isIo p = false) → IoR c F' H' (ps ++ qs) (vs ++ bs) ios As → ∃ ios0 As0, IoR c F' H' qs bs ios0 As0 ∧ ios = ios0 ∧ As = As0 ∧ IoR c F' H' ps vs [] []
  | [], [], _, _, h => ⟨_, _, h, rfl, rfl, .nil⟩
  | .fz :: ps, v :: vs, hl, hp, h => by
    cases h with
    | fz r =>
      obtain ⟨a, b, e, e1, e2, e3⟩ := ios_app (by simpa using hl) (fun p z => hp p (List.mem_cons_of_mem _ z)) r
      exact ⟨a, b, e, e1, e2, .fz e3⟩
  | .bo :: ps, v :: vs, hl, hp, h => by
    cases h with
    | bo r =>
      obtain ⟨a, b, e, e1, e2, e3⟩ := ios_app (by simpa using hl) (fun p z => hp p (List.mem_cons_of_mem _ z)) r
      exact ⟨a, b, e, e1, e2, .bo e3⟩
  | .io m :: ps, v :: vs, hl, hp, h => by have := hp _ List.mem_cons_self; cases this
  | [], _ :: _, hl, _, _ => by simp at hl
  | _ :: _, [], hl, _, _ => by simp at hl
theorem ios_fz {F' : Fz} {H' : Hp} {ios : List D} {As : List (List Addr)} : ∀ {qs : List Pm} {bs : List V}, (qs.all fun p => decide (p = .fz)) = true → IoR c F' H' qs bs ios As → ios = [] ∧ As = []
  | _, _, _, .nil => ⟨rfl, rfl⟩
  | _, _, h, .fz r => by
    rw [List.all_cons, Bool.and_eq_true] at h
    exact ios_fz h.2 r
  | _, _, h, .bo r => by
    rw [List.all_cons, Bool.and_eq_true] at h
    exact ios_fz h.2 r
  | _, _, h, .io a b r => by
    rw [List.all_cons, Bool.and_eq_true, decide_eq_true_eq] at h
    cases h.1
/-- what is left out is put in -/
theorem spF_dfl {s : Sig} {f : List D → Option Out} {n : Nat} {bs : List V} {es : List D} {vs : List V} {Q : VK} {E : XK} (dr : DvR bs es) (hl : s.ps.length = n + es.length) (h1 : ((s.ps.drop n).all fun p => decide (p = .fz)) = true) (h2 : (s.ps.all fun p => !isIo p) = true)
    (h : spF c Xr ⟨s.ps.take n, s.res⟩ (fun ds => f (ds ++ es)) vs H Q E) : spF c Xr s f (vs ++ bs) H Q E := by
  obtain ⟨F, ds, As, fk, r, q⟩ := h
  have nio : ∀ p ∈ s.ps.take n, isIo p = false := fun p hp => by
    have := List.all_eq_true.mp h2 p (List.mem_of_mem_take hp)
    simpa using this
  obtain ⟨rfl, _⟩ := args_noio r nio
  have rd := dv_args (c := c) (F := F) (H := H) (AA := ([] : List (List Addr)).flatten) (qs := s.ps.drop n) dr (by rw [List.length_drop]; omega) h1
  have ra := args_app rd r nio
  rw [List.take_append_drop] at ra
  have back : ∀ {ios : List D} {F' : Fz} {H' : Hp} {As' : List (List Addr)}, PostR c F H ([] : List (List Addr)).flatten s.ps (vs ++ bs) ios F' H' As' → ios = [] ∧ As' = [] ∧ PostR c F H ([] : List (List Addr)).flatten (s.ps.take n) vs [] F' H' [] := fun {ios F' H' As'} p => by
    obtain ⟨p1, p2, p3, p4, p5, p6, p7⟩ := p
    rw [← List.take_append_drop n s.ps] at p6
    obtain ⟨a, b, e, e1, e2, e3⟩ := ios_app r.len nio p6
    obtain ⟨e4, e5⟩ := ios_fz h1 e
    subst e4 e5 e1 e2
    exact ⟨rfl, rfl, ⟨p1, p2, p3, p4, p5, e3, fun a h => (nomatch h)⟩⟩
  refine ⟨F, ds ++ es, [], fk, ra, ?_⟩
  simp only [] at q
  cases hf : f (ds ++ es) with
  | none => rw [hf] at q; exact q
  | some o =>
    rw [hf] at q
    cases o with
    | val d ios =>
      cases ios with
      | nil =>
        intro v F' H' As' p rr
        obtain ⟨_, e2, p2⟩ := back p
        subst e2
        exact q v F' H' [] p2 rr
      | cons i ios =>
        intro v F' H' As' p rr
        obtain ⟨e1, _⟩ := back p
        cases e1
    | exc k xs ios =>
      cases ios with
      | nil =>
        intro cls dx F' H' As' p xr
        obtain ⟨_, e2, p2⟩ := back p
        subst e2
        exact q cls dx F' H' [] p2 xr
      | cons i ios =>
        intro cls dx F' H' As' p xr
        obtain ⟨e1, _⟩ := back p
        cases e1
end
section
variable {X : Cx} {x : Sx} {c : Cn} {W : WX} {o e : Expr} {m : Str} {as : List Expr} {p q : Pos} {j : Nat} {L : Lw} {b : Bd} {Q : VK} {H : Hp} {σ : L2.St} {nm : Str}
theorem dflA_inv {k : Str} {n : Nat} (h : kfA x (.dfl k n) e = some as) : ∃ p q, e = .Call (.Name k p) as [] q ∧ gl x k = true ∧ (k == ("__debug__" : Str)) = false ∧ as.length = n := by
  unfold kfA at h
  split at h <;> first | (rename_i heq; cases heq; done) | skip
  all_goals first | (cases h; done) | skip
  · rename_i heq
    cases heq
    obtain ⟨h1, h2⟩ := grd_some h
    cases h2
    simp only [Bool.and_eq_true, decide_eq_true_eq, beq_iff_eq] at h1
    obtain ⟨rfl, g1, g2, g3⟩ := h1
    exact ⟨_, _, rfl, g1, g2, g3⟩
/-- a constructor's call, some left out -/
theorem cal_dfl (F : LwF X.w X.K X.mg c L) (hS : ∀ d a bs, DefAtB X.K L.sg L.ats L.ex d a bs → FnSB X.prog X.w X.K X.mg X.base j c (XrD c) d.s (b d) a bs) (hr : Room (j + 1) X.A) (g : Gn X x) (tk : Takes X W) {k : Str} {n : Nat} {s : Sig} (hs : L.P.sg (.dfl k n) = some s) (hk : L.cl.contains k = true)
    (h : kfA x (.dfl k n) e = some as) (hn : as.all nst = true) (z : SEs X as σ H fun vs H1 => spF c (XrD c) s (L.P.fnK b (.dfl k n)) vs H1 Q fun cls d H2 => W cls d σ H2) : SE X e σ H Q := by
  obtain ⟨C, hc, hm⟩ := F.mgc k hk
  have hs : (match L.P.dv k n with
    | some ds => ((L.P.ms k "__init__").bind conS).bind fun s => if s.ps.length = n + ds.length ∧ ((s.ps.drop n).all fun p => decide (p = .fz)) = true ∧ (s.ps.all fun p => !isIo p) = true then some (⟨s.ps.take n, s.res⟩ : Sig) else none
    | none => none) = some s := hs
  cases hdv : L.P.dv k n with
  | none => rw [hdv] at hs; cases hs
  | some es =>
    rw [hdv] at hs
    obtain ⟨s1, hs1, hs⟩ := Option.bind_eq_some_iff.mp hs
    split at hs
    · rename_i hh
      cases hs
      obtain ⟨g1, g2, g3⟩ := hh
      obtain ⟨s0, hs0, hc0⟩ := Option.bind_eq_some_iff.mp hs1
      obtain ⟨d, a, bs, hd, mt, dr, da⟩ := F.dv k n es hdv C hc
      obtain rfl : s0 = d.s := by unfold Pg.ms at hs0; rw [hd] at hs0; cases hs0; rfl
      obtain ⟨mk1, mk2⟩ := F.mks k C hc
      obtain ⟨fd, ps, us, fo, hv, hb⟩ := (hS d a bs da).ok
      have hmd : L.P.fnK b (.dfl k n) = fun vs => conD k (b d) (vs ++ es) := by
        show (match L.P.dv k n with | some ds => fun vs => conD k (L.P.md b k "__init__") (vs ++ ds) | none => no1) = _
        rw [hdv]
        unfold Pg.md
        rw [hd]
      rw [hmd] at z
      obtain ⟨p, q', rfl, h2, h3, h4⟩ := dflA_inv h
      obtain ⟨⟨dps, dres⟩, dsm, dn⟩ := d
      unfold conS at hc0
      simp only at hc0
      split at hc0
      · rename_i m0 ps0
        split at hc0
        · rename_i hh
          cases hc0
          obtain ⟨i1, i2, i3⟩ := hh
          refine se_make (ds := us) (dvs := bs) ⟨mk1, mt.at_, mt.fn, mk2⟩ fo hr (g.gl h2) hm hb hv tk h3 hn (SEs.mono z fun vs H1 y a' dx h4 h5 h6 => ?_)
          have y2 := spF_dfl (s := ⟨ps0, m0⟩) dr g1 g2 g3 y
          have := con_ok (s := ⟨ps0, m0⟩) hc i1 (fun p hp => by have := List.all_eq_true.mp i2 p hp; simpa using this) y2 a' dx h4 h5 h6
          rw [← i3] at this
          exact this
        · cases hc0
      · cases hc0
    · cases hs
end
end Nc

set_option Elab.async false
set_option linter.all false
set_option autoImplicit false
set_option maxRecDepth 100000
set_option maxHeartbeats 4000000
/-! All that is called, at a level. -/
namespace Nc
open PySem PySem.Spec PyProof.Rows L2
section
variable {X : Cx} {x : Sx} {c : Cn} {W : WX} {o e : Expr} {m : Str} {as : List Expr} {p q : Pos} {j : Nat} {L : Lw} {b : Bd} {Q : VK} {H : Hp} {σ : L2.St} {nm : Str}
/-- exceptions made, by the text -/
def ExI (K : PySem.W.Frag) (c : Cn) (L : Lw) (b : Bd) : Prop := True
theorem ctA_inv {k : Str} {neg : Bool} (h : kfA x (if neg then .nct k else .ct k) e = some as) : ∃ a b pos, e = .Compare a [if neg then .NotIn else .In] [b] pos ∧ as = [a, b] ∧ behindInMarks (if neg then .NotIn else .In) b = false := by
  cases neg with
  | true =>
    have h : kfA x (.nct k) e = some as := h
    unfold kfA at h
    split at h <;> first | (rename_i heq; cases heq; done) | skip
    all_goals first | (cases h; done) | contradiction | (obtain ⟨h1, h2⟩ := grd_some h; cases h2; exact ⟨_, _, _, rfl, rfl, by simpa using h1⟩)
  | false =>
    have h : kfA x (.ct k) e = some as := h
    unfold kfA at h
    split at h <;> first | (rename_i heq; cases heq; done) | skip
    all_goals first | (cases h; done) | contradiction | (obtain ⟨h1, h2⟩ := grd_some h; cases h2; exact ⟨_, _, _, rfl, rfl, by simpa using h1⟩)
theorem eqA_inv {k : Str} (h : kfA x (.eq k) e = some as) : ∃ a b pos, e = .Compare a [.Eq] [b] pos ∧ as = [a, b] := by
  unfold kfA at h
  split at h <;> first | (rename_i heq; cases heq; done) | skip
  all_goals first | (cases h; done) | (cases h; exact ⟨_, _, _, rfl, rfl⟩)
theorem deqA_inv (h : kfA x .deq e = some as) : ∃ a b pos, e = .Compare a [.Eq] [b] pos ∧ as = [a, b] := by
  unfold kfA at h
  split at h <;> first | (rename_i heq; cases heq; done) | skip
  all_goals first | (cases h; done) | (cases h; exact ⟨_, _, _, rfl, rfl⟩)
theorem tabA_inv {y : Str} (h : kfA x (.tab y) e = some as) : ∃ p0 p q a b, e = .Call (.Attribute (.Name y p0) "get" p) [a, b] [] q ∧ as = [a, b] ∧ gl x y = true ∧ (y == ("__debug__" : Str)) = false ∧ (p.endLine == q.line) = true := by
  unfold kfA at h
  split at h <;> first | (rename_i heq; cases heq; done) | skip
  all_goals first | (cases h; done) | skip
  · rename_i heq
    cases heq
    obtain ⟨h1, h2⟩ := grd_some h
    cases h2
    simp only [Bool.and_eq_true, decide_eq_true_eq, beq_iff_eq] at h1
    obtain ⟨rfl, rfl, g1, g2, g3⟩ := h1
    exact ⟨_, _, _, _, _, rfl, rfl, g1, g2, by rw [beq_iff_eq]; exact g3⟩
/-- both readings of a comparison -/
def Both (X : Cx) (c : Cn) (W : WX) (s : Sig) (f : List D → Option Out) (e : Expr) (as : List Expr) (ck : Bool) : Prop :=
  (∀ σ H Q, SEs X as σ H (fun vs H1 => spF c (XrD c) s f vs H1 Q fun cls d H2 => W cls d σ H2) → SE X e σ H Q) ∧
  (ck = true → ∀ σ H (Q : Bool → Hp → Prop), SEs X as σ H (fun vs H1 => spF c (XrD c) s f vs H1 (fun v H2 => ∃ k, v = .bl k ∧ Q k H2) fun cls d H2 => W cls d σ H2) → ST X e σ H Q)
theorem both_pc {op : CmpOp} {a d : Expr} {pos : Pos} {s : Sig} {f : List D → Option Out} (h : PC X op a d (fun σ H Q => SEs X [a, d] σ H fun vs H1 => spF c (XrD c) s f vs H1 Q fun cls d H2 => W cls d σ H2)) (m : behindInMarks op d = false) : Both X c W s f (.Compare a [op] [d] pos) [a, d] true :=
  ⟨fun σ H Q q => SE.of (pe_cmp h m) q, fun _ σ H Q q => ST.of (pt_cmp h m) q⟩
theorem both_ct (F : LwF X.w X.K X.mg c L) (hS : ∀ d a, DefAt X.K L.sg L.ats L.ex d a → FnS X.prog X.w X.K X.mg X.base j c (XrD c) d.s (b d) a) (hr : Room j X.A) (tk : Takes X W) (neg : Bool) {k : Str} {s : Sig} (hs : (L.P.ms k "__contains__").bind (twoB true) = some s) (hk : L.cl.contains k = true)
    (h : kfA x (if neg then .nct k else .ct k) e = some as) : Both X c W s (if neg then dNct k (L.P.md b k "__contains__") else dCt k (L.P.md b k "__contains__")) e as true := by
  obtain ⟨s0, h1, h2⟩ := Option.bind_eq_some_iff.mp hs
  obtain ⟨p, q, rfl, i1, i2, rfl⟩ := twoB_some h2
  obtain ⟨a, d, pos, rfl, rfl, hm⟩ := ctA_inv h
  exact both_pc (pc_own neg (mt_of F hS h1 hk (F.spc _ (by simp))) i1 i2 hr tk) hm
theorem both_eq (F : LwF X.w X.K X.mg c L) (hS : ∀ d a, DefAt X.K L.sg L.ats L.ex d a → FnS X.prog X.w X.K X.mg X.base j c (XrD c) d.s (b d) a) (hr : Room j X.A) (tk : Takes X W) {k : Str} {s : Sig} (hs : (L.P.ms k "__eq__").bind (twoB false) = some s) (hk : L.cl.contains k = true) (hd : k ∈ dKs)
    (h : kfA x (.eq k) e = some as) : Both X c W s (dOeq k (L.P.md b k "__eq__")) e as true := by
  obtain ⟨s0, h1, h2⟩ := Option.bind_eq_some_iff.mp hs
  obtain ⟨p, q, rfl, i1, i2, rfl⟩ := twoB_some h2
  obtain ⟨a, d, pos, rfl, rfl⟩ := eqA_inv h
  exact both_pc (pc_oeq F.isf hd (mt_of F hS h1 hk (F.spc _ (by simp))) i1 i2 hr tk) (nobehind d (by decide) (by decide))
theorem one_some {s r : Sig} (h : one_ s = some r) : ∃ p m, s = ⟨[p], m⟩ ∧ isIo p = false ∧ r = s := by
  obtain ⟨ps, m⟩ := s
  unfold one_ at h
  split at h
  · rename_i p hp
    simp only at hp
    subst hp
    split at h
    · rename_i z
      cases h
      exact ⟨p, m, rfl, z, rfl⟩
    · cases h
  · cases h
theorem ok_of {f : Kf} {s : Sig} (h : L.sg f = some s) : L.ok f = true ∧ L.P.sg f = some s := by
  unfold Lw.sg at h
  split at h
  · exact ⟨by assumption, h⟩
  · cases h
theorem cal_all (F : LwF X.w X.K X.mg c L) (hB : ∀ d a bs, DefAtB X.K L.sg L.ats L.ex d a bs → FnSB X.prog X.w X.K X.mg X.base j c (XrD c) d.s (b d) a bs) (hr : Room (j + 1) X.A) (g : Gn X x) (tk : Takes X W) :
    ∀ (f : Kf) (s : Sig), L.sg f = some s → ∀ e as, kfA x f e = some as → as.all nst = true → Both X c W s (L.P.fnK b f) e as (isCK f) := by
  have hr0 : Room j X.A := hr.mono (Nat.le_succ j)
  have hS : ∀ d a, DefAt X.K L.sg L.ats L.ex d a → FnS X.prog X.w X.K X.mg X.base j c (XrD c) d.s (b d) a := fun d a h => (hB d a [] h.toB).nil
  intro f s hs e as h hn
  obtain ⟨ok, hs⟩ := ok_of hs
  cases f with
  | fn f =>
    refine ⟨fun σ H Q q => ?_, fun z => by cases z⟩
    have hs : (match L.P.fns f with | some d => some d.s | none => (L.P.ms f "__init__").bind conS) = some s := hs
    have ok : (match L.P.fns f with | some _ => L.fl.contains f | none => L.cl.contains f) = true := ok
    have q : SEs X as σ H fun vs H1 => spF c (XrD c) s (match L.P.fns f with | some d => b d | none => conD f (L.P.md b f "__init__")) vs H1 Q fun cls d H2 => W cls d σ H2 := q
    cases hf : L.P.fns f with
    | some d =>
      rw [hf] at hs ok q
      cases hs
      obtain ⟨a, h1, h2⟩ := F.fns f d hf ok
      exact cal_fn (hS d a h2) hr0 g tk h1 h hn q
    | none =>
      rw [hf] at hs ok q
      obtain ⟨s0, h1, h2⟩ := Option.bind_eq_some_iff.mp hs
      exact cal_con F hS hr g tk h1 h2 ok h hn q
  | cm k m => unfold kfA at h; split at h <;> first | (rename_i heq; cases heq; done) | cases h
  | mt m => unfold kfA at h; split at h <;> first | (rename_i heq; cases heq; done) | cases h
  | pr m =>
    refine ⟨fun σ H Q q => ?_, fun z => by cases z⟩
    have ok : (match L.P.pcl m with | some k => L.cl.contains k | none => false) = true := ok
    have hs : (L.P.pcl m).bind (fun k => (L.P.ms k m).bind one_) = some s := hs
    have q : SEs X as σ H fun vs H1 => spF c (XrD c) s (match L.P.pcl m with | some k => dPr k (L.P.md b k m) | none => no1) vs H1 Q fun cls d H2 => W cls d σ H2 := q
    cases hp : L.P.pcl m with
    | none => rw [hp] at hs; cases hs
    | some k =>
      rw [hp] at hs ok q
      obtain ⟨s0, z1, z2⟩ := Option.bind_eq_some_iff.mp (show (L.P.ms k m).bind one_ = some s from hs)
      obtain ⟨p, r, rfl, i1, rfl⟩ := one_some z2
      obtain ⟨d, hd, hds⟩ := Option.map_eq_some_iff.mp z1
      obtain ⟨C, hc, _⟩ := F.mgc k ok
      obtain ⟨pa, a, pr, da⟩ := F.prs k m d C hc hd hp
      refine se_pr (kn := k) (g := L.P.md b k m) ⟨C, pa, a, hc, (F.cls k C hc).2, pr, ?_⟩ i1 hr h q
      have e1 : L.P.md b k m = b d := by unfold Pg.md; rw [hd]
      rw [e1, ← hds]
      exact hS d a da
  | ln k =>
    refine ⟨fun σ H Q q => ?_, fun z => by cases z⟩
    obtain ⟨s0, z1, z2⟩ := Option.bind_eq_some_iff.mp (show (L.P.ms k "__len__").bind one_B = some s from hs)
    unfold one_B at z2
    split at z2
    · rename_i hres
      obtain ⟨p, r, rfl, i1, rfl⟩ := one_some z2
      obtain rfl : r = .fz := hres
      exact se_ln g (mt_of F hS z1 ok (F.spc _ (by simp))) i1 hr tk h hn q
    · cases z2
  | ct k => exact both_ct F hS hr0 tk false hs ok h
  | nct k => exact both_ct F hS hr0 tk true hs ok h
  | eq k => exact both_eq F hS hr0 tk hs (Bool.and_eq_true_iff.mp ok).1 (of_decide_eq_true (Bool.and_eq_true_iff.mp ok).2) h
  | ne => cases hs
  | dne => cases hs
  | deq =>
    have hs : some (⟨[.fz, .fz], .fz⟩ : Sig) = some s := hs
    cases hs
    obtain ⟨a, d, pos, rfl, rfl⟩ := deqA_inv h
    refine both_pc (pc_deq (g := L.P.oq b) F.inj F.isf (fun kn C hC => ?_) hr tk) (nobehind d (by decide) (by decide))
    by_cases hk : kn ∈ dKs ∧ ((L.P.ms kn "__eq__").bind (twoB false)).isSome = true
    · obtain ⟨s1, hs1⟩ := Option.isSome_iff_exists.mp hk.2
      obtain ⟨s0, z1, z2⟩ := Option.bind_eq_some_iff.mp hs1
      obtain ⟨p, q, rfl, i1, i2, _⟩ := twoB_some z2
      have e : L.P.oq b kn = L.P.md b kn "__eq__" := if_pos hk
      refine .inr ⟨hk.1, p, q, i1, i2, ?_, ?_⟩
      · cases p with
        | fz => exact .inl rfl
        | bo => exact .inr rfl
        | io m => cases i1
      · rw [e]; exact mt_of F hS z1 (F.cls kn C hC).1 (F.spc _ (by simp))
    · exact .inl fun ds => by
        have e : L.P.oq b kn = no1 := if_neg hk
        rw [e]; rfl
  | dfl f n => exact ⟨fun σ H Q q => cal_dfl F hB hr g tk hs ok h hn q, fun z => by cases z⟩
  | knd f ks => unfold kfA at h; split at h <;> first | (rename_i heq; cases heq; done) | cases h
  | ad k => cases ok
  | gi k => cases ok
  | isi t =>
    refine ⟨fun σ H Q q => ?_, fun z => by cases z⟩
    have hs : some (⟨[.bo], .fz⟩ : Sig) = some s := hs
    cases hs
    have h : isiA x t e = some as := by
      unfold kfA at h
      split at h <;> first | (rename_i heq; cases heq; done) | skip
      all_goals first | (rename_i h2; cases h2; exact h) | exact h
    refine se_isi g F.isf (fun k e2 => ?_) h hn (SEs.mono q fun vs H1 z => (spF_opM (fr := false) (ps := [.bo]) (f := bIsi t) (by decide) z).opP)
    subst e2
    obtain ⟨C, h1, _⟩ := F.mgc k ok
    exact ⟨C, h1⟩
  | bi o =>
    have hs : (biD o).map BiD.sg = some s := hs
    obtain ⟨d, hd, rfl⟩ := Option.map_eq_some_iff.mp hs
    have h : biA x o e = some as := by
      unfold kfA at h
      split at h <;> first | (rename_i heq; cases heq; done) | skip
      all_goals first | (rename_i h2; cases h2; exact h) | exact h
    have e1 : L.P.fnK b (.bi o) = outO d.f := by
      show (match biD o with | some d => outO d.f | none => no1) = _
      rw [hd]
    rw [e1]
    exact ⟨fun σ H Q q => (cal_bi g F.inj o d hd h hn fun _ => fun cls dx H2 => W cls dx σ H2).1 q, fun z σ H Q' q => (cal_bi (Q := fun _ _ => True) g F.inj o d hd h hn fun _ => fun cls dx H2 => W cls dx σ H2).2 z Q' q⟩
  | tab y =>
    refine ⟨fun σ H Q q => ?_, fun z => by cases z⟩
    have hs : (L.P.tc y).map (fun _ => (⟨[.bo, .bo], .fz⟩ : Sig)) = some s := hs
    obtain ⟨kvs, hk, rfl⟩ := Option.map_eq_some_iff.mp hs
    obtain ⟨p0, p, q', a, b', rfl, rfl, g1, g2, g3⟩ := tabA_inv h
    obtain ⟨ad, es, n, hm, D, tf⟩ := F.tb y kvs hk
    have e1 : L.P.fnK b (.tab y) = outO (dTab kvs) := by
      show (match L.P.tc y with | some kvs => outO (dTab kvs) | none => no1) = _
      rw [hk]
    rw [e1] at q
    exact se_tab (c := c) (g.gl g1) hm g2 D tf g3 hn (SEs.mono q fun vs H1 z => (spF_opM (fr := false) (ps := [.bo, .bo]) (f := dTab kvs) (by decide) z).opP)
  | srtK f => cases hs
  | minK f => cases hs
end
end Nc

set_option Elab.async false
set_option linter.all false
set_option autoImplicit false
set_option maxRecDepth 100000
set_option maxHeartbeats 4000000
/-! The levels. -/
namespace Nc
open PySem PySem.Spec PyProof.Rows L2
theorem rsA_inv {x : Sx} {k : Str} {e : Expr} {es : List Expr} (h : rsA x k e = some es) : ∃ p pos f, e = .Call (.Name k p) es [] pos ∧ gl x k = true ∧ (k == ("__debug__" : Str)) = false ∧ x.ex k = some f ∧ es.length = exN f := by
  unfold rsA at h
  split at h
  · obtain ⟨h1, h2⟩ := grd_some h
    cases h2
    simp only [Bool.and_eq_true, decide_eq_true_eq, beq_iff_eq] at h1
    obtain ⟨rfl, h2, h3, h4⟩ := h1
    split at h4
    · rename_i f hf
      exact ⟨_, _, f, rfl, h2, h3, hf, of_decide_eq_true h4⟩
    · cases h4
  · cases h
section
variable {Pr : Program} {w : World} {K : PySem.W.Frag} {mg : Str → Option Value} {base : Heap} {c : Cn} {L : Lw} {j : Nat} {b : Bd}
theorem ex_of {k : Str} {f : Option Str} (h : L.ex k = some f) : exF k = some f := by
  unfold Lw.ex at h
  split at h
  · exact h
  · cases h
theorem gtp (F : LwF w K mg c L) (hB : ∀ d a bs, DefAtB K L.sg L.ats L.ex d a bs → FnSB Pr w K mg base j c (XrD c) d.s (b d) a bs) : Lvl Pr w K mg base (j + 2) c (L.P.tb b) (XrD c) L.sg L.ats L.ex := by
  have hS : ∀ d a, DefAt K L.sg L.ats L.ex d a → FnS Pr w K mg base j c (XrD c) d.s (b d) a := fun d a h => (hB d a [] h.toB).nil
  intro X x W e1 e2 e3 e4 e5 hr gn tk e6 e7 e8
  subst e1 e2 e3 e4 e5
  refine ⟨fun k C f hc hf => ⟨(F.cls k C hc).2, F.att k C f hc (by rw [← e7]; exact hf)⟩, fun f s hs e as h hn => ?_, fun k m s hs e o as h hn σ H Q z => ?_, fun o s hs e oe as h hn σ H Q z => ?_, fun k e es h hn pos σ H D z => ?_, fun h f hf => ?_, fun k h f C ds cls dx Fz H hf hc xr => ?_, fun k f C hf hc => ?_, fun k f d C cls dx Fz H hf hc xr => ?_, F.gc, fun f ks s hs => ?_, fun k ds cls dx Fz H xr => ?_⟩
  · exact cal_all F hB (hr.mono (Nat.le_succ (j + 1))) gn tk f s (by rw [← e6]; exact hs) e as h hn
  · have hs : (if L.P.pcl m = some k then none else L.P.ms k m) = some s := hs
    split at hs
    · cases hs
    · rename_i hp
      exact se_met F hS (hr.mono (by omega)) tk hs hp h hn z
  · rw [e6] at hs
    obtain ⟨_, hs⟩ := ok_of hs
    have hs : (biD o).map BiD.sg = some s := hs
    obtain ⟨d, hd, rfl⟩ := Option.map_eq_some_iff.mp hs
    have e9 : (L.P.tb b).fn (.bi o) = outO d.f := by
      show (match biD o with | some d => outO d.f | none => no1) = _
      rw [hd]
    rw [e9] at z
    exact bm_bi gn o d hd h hn (fun _ => fun cls dx H2 => W cls dx σ H2) z
  · obtain ⟨p, pos2, f, rfl, h1, h2, h3, h4⟩ := rsA_inv h
    rw [e8] at h3
    obtain ⟨C, x1, x2, x3, x4, x5, x6⟩ := F.xc k f h3
    have hx := ex_of h3
    cases f with
    | none =>
      match es, h4 with
      | [], _ =>
        refine SS.of (ps_raise gn.calm tk (pmk_none PySem.F.excBase_ValueError (x6 rfl) x2 x3 (raises_own x4 x5) (gn.gl h1) h2)) ?_
        obtain ⟨Fz, ds, fk, r, q⟩ := z
        cases r
        exact q _ _ _ (Ext.refl H) ⟨C, x1, rfl, .inl ⟨hx, rfl, rfl⟩⟩
    | some f =>
      match es, h4 with
      | [e1], _ =>
        obtain ⟨C', fI, nm, qual, params, body, scope, dvs, kws, fd, y1, y2, y3, y4, y5, y6, y7, y8, y9⟩ := F.xi k f h3
        rw [x1] at y1
        cases y1
        exact rse_some gn.calm tk y2 y3 y4 (xinit_ok y6 y7 y8 y2 y5) (hr.mono (by omega)) y9 (gn.gl h1) x2 h2 (nst_one hn) x1 hx z
  · rw [e8] at hf
    obtain ⟨C, x1, x2, _⟩ := F.xc h f hf
    exact ⟨C, x1, x2⟩
  · rw [e8] at hf
    obtain ⟨D, x1, rfl, _⟩ := xr
    exact F.xm k h f C D hf hc x1
  · rw [e8] at hf
    exact F.xf k f C hf hc
  · rw [e8] at hf
    obtain ⟨D, x1, rfl, x2⟩ := xr
    rw [hc] at x1
    cases x1
    refine ⟨rfl, ?_⟩
    rcases x2 with ⟨_, x2, _⟩ | ⟨g, v, d', dd, x2, x3, rfl, x4, x5⟩
    · cases x2
    · cases x3
      rw [ex_of hf] at x2
      cases x2
      exact ⟨dd, v, _, rfl, x4, by simp, x5⟩
  · rw [e6] at hs
    obtain ⟨_, hs⟩ := ok_of hs
    have hs : (if L.P.kd f = some ks then some (⟨[], .fz⟩ : Sig) else none) = some s := hs
    split at hs
    · rename_i hk
      obtain ⟨fa, h1, h2, h3⟩ := F.kd f ks hk
      exact ⟨fa, h1, h2, L2H.roomH_of (hr.mono (by omega)), h3 _ _⟩
    · cases hs
  · obtain ⟨D, x1, rfl, x2⟩ := xr
    refine ⟨D, x1, rfl, ?_⟩
    rcases x2 with ⟨_, _, rfl⟩ | ⟨g, v, d', dd, _, _, rfl, x4, _⟩
    · exact .inl rfl
    · exact .inr ⟨dd, _, rfl, x4⟩
/-- all levels -/
theorem lvl_all (F : LwF w K mg c L) : ∀ k : Nat, (∀ d a, DefAt K L.sg L.ats L.ex d a → FnS Pr w K mg base (3 * k) c (XrD c) d.s (L.P.bd k d) a) ∧ Lvl Pr w K mg base (3 * k + 2) c (L.P.T k) (XrD c) L.sg L.ats L.ex
  | 0 => by
    have h : ∀ d a bs, DefAtB K L.sg L.ats L.ex d a bs → FnSB Pr w K mg base 0 c (XrD c) d.s (L.P.bd 0 d) a bs := fun d a bs q => fnsb_zero q
    exact ⟨fun d a q => (h d a [] q.toB).nil, gtp F h⟩
  | k + 1 => by
    obtain ⟨_, lv⟩ := lvl_all F k
    have h : ∀ d a bs, DefAtB K L.sg L.ats L.ex d a bs → FnSB Pr w K mg base (3 * (k + 1)) c (XrD c) d.s (L.P.bd (k + 1) d) a bs := fun d a bs q => fnsb_succ F rfl q lv
    exact ⟨fun d a q => (h d a [] q.toB).nil, gtp F h⟩
end
end Nc

set_option Elab.async false
set_option linter.all false
set_option autoImplicit false
set_option maxRecDepth 100000
set_option maxHeartbeats 4000000
/-! The head: facts of the written part by one test. -/
namespace Nc
open PySem PySem.Spec PyProof.Rows L2
/-! ### a wider way out -/
def CXa : CXT := fun st H s E e s' => ∃ P w, CX P w st H s E e s'
theorem fnOk_cxa {P : Program} {w : World} {K : PySem.W.Frag} {mg : Str → Option Value} {base : Heap} {k : Nat} {f : Addr} {fd : FuncData} {ps : List Str} {sp : Sp} (F : FnOk P w K mg base (CX P w) k f fd ps sp) : FnOk P w K mg base CXa k f fd ps sp :=
  ⟨F.len, fun A outer s H args us vs Q E hr he hb hv hs => codeAny_mono (F.run A outer s H args us vs Q E hr he hb hv hs) fun r s' q => by
    cases r with
    | error e => exact ⟨P, w, q⟩
    | ok fl => cases fl <;> exact q⟩
theorem cxa_no {st : List PySem.Env} {H : Hp} {s : Shared} {e : Value} {s' : Shared} (h : CXa st H s (fun _ _ _ => False) e s') : False := by
  obtain ⟨P, w, a, B, H', cls, d, _, _, _, _, _, _, _, z⟩ := h
  exact z
/-! ### getters of properties -/
def propB (K : PySem.W.Frag) (C : Addr) (m : Str) : Bool := match PySem.W.findIn K (.ref C) m with
  | some (some (.ref p)) => decide (PySem.W.specialIn K (.ref p) "__get__" = some (some (.builtin "property.__get__"))) && (decide (PySem.W.takesIn K (.ref p) = some true) && (match PySem.W.recIn K p "property" with
    | some (.ref _ :: _) => true
    | _ => false))
  | _ => false
/-- the getter -/
def pgA (K : PySem.W.Frag) (C : Addr) (m : Str) : Addr := match PySem.W.findIn K (.ref C) m with
  | some (some (.ref p)) => (match PySem.W.recIn K p "property" with
    | some (.ref g :: _) => g
    | _ => 0)
  | _ => 0
theorem propB_ok {K : PySem.W.Frag} {C : Addr} {m : Str} (h : propB K C m = true) : ∃ p, PropOf K C m p (pgA K C m) := by
  unfold propB at h
  split at h
  · rename_i p hp
    rw [Bool.and_eq_true, Bool.and_eq_true, decide_eq_true_eq, decide_eq_true_eq] at h
    obtain ⟨h1, h2, h3⟩ := h
    split at h3
    · rename_i g r hr
      refine ⟨p, hp, h1, h2, r, ?_⟩
      unfold pgA
      rw [hp]
      show PySem.W.recIn K p "property" = some (.ref (match PySem.W.recIn K p "property" with | some (.ref g :: _) => g | _ => 0) :: r)
      rw [hr]
    · cases h3
  · cases h
/-- a def at an address -/
def fnWa (K : PySem.W.Frag) (a : Addr) : He.FnW := match K.lookup a with
  | some ⟨_, _, .func fd, _⟩ => some (fd.name, fd.qualname, fd.params, fd.body, fd.scope, fd.globals, fd.closure, fd.builtins)
  | _ => none
def okA (K : PySem.W.Frag) (a : Addr) (d : He.DefD) : Bool := PySem.W.keepIn K (.ref a) && (match K.lookup a with
  | some ⟨_, _, .func fd, _⟩ => PySem.W.codeIn K fd.code d.qual && (He.dflB K fd.defaults (d.dvs K) && He.kwdB K fd.kwdefaults (d.kws K))
  | _ => false)
theorem funDa {K : PySem.W.Frag} {a : Addr} {d : He.DefD} (e : fnWa K a = d.val) (c : okA K a d = true) : ∃ fd, FunD K d.name d.qual d.params d.body d.scope (d.dvs K) (d.kws K) a fd := by
  obtain ⟨kp, c2⟩ := Bool.and_eq_true_iff.mp c
  unfold fnWa at e
  split at e
  · rename_i oc od fd osl q
    rw [q] at c2
    obtain ⟨m1, m2, m3, m4, m5, m6, m7, m8, m9, m10, m11, m12, m13, m14, m15⟩ := fd
    have e2 : (some (m1, m2, m3, m4, m5, m6, m7, m15) : He.FnW) = some (d.name, d.qual, d.params, .stmts d.body, d.scope, mainGlobals, [], builtinsNs) := e
    simp only [Option.some.injEq, Prod.mk.injEq] at e2
    obtain ⟨rfl, rfl, rfl, rfl, rfl, rfl, rfl, rfl⟩ := e2
    have c3 : (PySem.W.codeIn K m13 d.qual && (He.dflB K m8 (d.dvs K) && He.kwdB K m9 (d.kws K))) = true := c2
    obtain ⟨k1, k2⟩ := Bool.and_eq_true_iff.mp c3
    obtain ⟨k3, k4⟩ := Bool.and_eq_true_iff.mp k2
    exact ⟨_, ⟨oc, od, m8, m9, m10, m11, m12, m13, m14, osl, rfl, q, k1, He.dflB_ok k3, He.kwdB_ok k4⟩, kp⟩
  · cases e
/-! ### the test -/
/-- a constant of the module: a text or an int -/
inductive Cv where
  | s (z : Str)
  | i (k : Int)
def Cv.d : Cv → D
  | .s z => .str z.cps.toList
  | .i k => .int k
def Cv.fa (x : Str) : Cv → He.Fa
  | .s z => .str x z
  | .i k => .int x k
def Cv.le : Cv → Bool
  | .s z => decide (z.cps.toList.length ≤ LIM)
  | .i _ => true
structure Hd0 where
  fn : List He.DefD      -- the defs, by place
  fl : List Str
  cl : List Str
  ats : List Str
  xl : List Str
  cs : List (Str × Cv)   -- constants
  ms : List (Str × Str)   -- methods
  pr : List (Str × Str × He.DefD)  -- properties: class, name, getter
  tb : List (Str × List (List Nat × List Nat))  -- tables
  kd : List Str   -- the defs that tell of which classes an exception is
def clsB (K : PySem.W.Frag) (x : Str) : Bool := (He.Fa.cls x).ok K
def isfB (K : PySem.W.Frag) (cl : List Str) : Bool := cl.all fun x =>
  (decide (PySem.W.findIn K (.ref (He.ga K x)) "__class__" = some (some (.builtin "object.__class__"))) && (decide (PySem.W.specialIn K (.builtin "object.__class__") "__get__" = some (some (.builtin "getset_descriptor.__get__"))) &&
  (decide (PySem.W.takesIn K (.builtin "object.__class__") = some true) && decide (PySem.W.mroIn K (He.ga K x) (.type "object") = some true)))) &&
  ((tyB.all fun T => decide (PySem.W.kitOne K (.ref (He.ga K x)) (.type T) = some false) && decide (PySem.W.kitOne K (.type T) (.ref (He.ga K x)) = some false)) &&
  cl.all fun y => decide (PySem.W.kitOne K (.ref (He.ga K x)) (.ref (He.ga K y)) = some (decide (x = y))))
/-- an exception class that stores a field -/
def xiT (K : PySem.W.Frag) (x : Str) : Bool := match exF x with
  | some (some f) => xfB K (He.ga K x) && (oexB K (He.ga K x) && (decide (PySem.W.findIn K (.ref (He.ga K x)) f = some none) && (He.Fa.meth x "__init__").ok K))
  | _ => true
def excCB (K : PySem.W.Frag) (D : Addr) : Bool :=
  decide (PySem.W.findIn K (.ref D) "__getattribute__" = some (some (.builtin "BaseException.__getattribute__"))) && (decide (PySem.W.findIn K (.ref D) "__getattr__" = some none) && (decide (PySem.W.subIn K (.ref D) (.type "BaseException") = some true) && (PySem.W.hasDictIn K D &&
  (decide (PySem.W.findIn K (.ref D) "__class__" = some (some (.builtin "object.__class__"))) && (decide (PySem.W.specialIn K (.builtin "object.__class__") "__get__" = some (some (.builtin "getset_descriptor.__get__"))) && (decide (PySem.W.takesIn K (.builtin "object.__class__") = some true) && decide (PySem.W.mroIn K D (.type "object") = some true)))))))
theorem excCB_ok {K : PySem.W.Frag} {D : Addr} (h : excCB K D = true) : ExcC K D := by
  unfold excCB at h
  simp only [Bool.and_eq_true, decide_eq_true_eq] at h
  obtain ⟨h1, h2, h3, h4, h5, h6, h7, h8⟩ := h
  exact ⟨h1, h2, h3, h4, h5, h6, h7, h8⟩
def xkB (K : PySem.W.Frag) (xl : List Str) : Bool := xl.all fun x => excCB K (He.ga K x) && (decide (PySem.W.kitOne K (.ref (He.ga K x)) (.type "ValueError") = some true) && xl.all fun y => decide (y = "CastError") || decide (PySem.W.kitOne K (.ref (He.ga K x)) (.ref (He.ga K y)) = some (decide (x = y))))
def Hd0.B (h : Hd0) (K : PySem.W.Frag) : Bool :=
  (bnames.all fun x => (He.Fa.free x).ok K) && ((h.fl.all fun x => (He.Fa.glo x).ok K) && ((h.cl.all fun x => (He.Fa.glo x).ok K && (clsB K x && (h.ats.all fun f => (He.Fa.noat x f).ok K))) &&
  ((h.cl.all fun x => PySem.W.makesIn K (He.ga K x) && (He.Fa.keep x).ok K) && ((h.ms.all fun p => (He.Fa.meth p.1 p.2).ok K) && (isfB K h.cl && ((h.xl.all fun x => (He.Fa.glo x).ok K && ((He.Fa.keep x).ok K && (decide (PySem.W.subIn K (.ref (He.ga K x)) (.type "BaseException") = some true) && (decide (PySem.W.typeIn K (.ref (He.ga K x)) = some (.type "type")) &&
    ((exF x != some none || (He.Fa.exc x).ok K) && (xiT K x && (h.xl.all fun y => (He.Fa.exm x y (xmD x y)).ok K))))))) &&
  ((h.cs.all fun p => (p.2.fa p.1).ok K) && ((decide (h.cl.map (He.ga K)).Nodup && (h.kd.isEmpty || ((He.Fa.free "ValueError").ok K && ((h.kd.all fun f => (He.Fa.glo f).ok K) && xkB K h.xl))))))))))))
/-- a part of the heap without lists -/
def noLs (o : Obj) : Bool := !(o.cls == Value.type "list")
def frN (g : Addr → Option Obj) (as : List Addr) : PySem.W.Frag := (He.frG g as).filter fun p => noLs p.2
theorem look_filter {p : Addr × Obj → Bool} : ∀ {l : PySem.W.Frag} {a : Addr} {o : Obj}, (l.filter p).lookup a = some o → (a, o) ∈ l ∧ p (a, o) = true
  | [], _, _, h => by cases h
  | (b, u) :: l, a, o, h => by
    rw [List.filter_cons] at h
    split at h
    · rename_i hp
      rw [List.lookup_cons] at h
      split at h
      · rename_i e
        cases h
        rw [beq_iff_eq.mp e]
        exact ⟨List.mem_cons_self, hp⟩
      · exact ⟨List.mem_cons_of_mem _ (look_filter h).1, (look_filter h).2⟩
    · exact ⟨List.mem_cons_of_mem _ (look_filter h).1, (look_filter h).2⟩
theorem frN_in {as : List Addr} {h : Heap} : (frN h.get? as).In h := fun a o e => by
  have := (look_filter e).1
  obtain ⟨b, _, hb⟩ := List.mem_filterMap.mp this
  obtain ⟨u, h1, h2⟩ := Option.map_eq_some_iff.mp hb
  cases h2
  exact h1
def NoL (K : PySem.W.Frag) : Prop := ∀ a o, K.lookup a = some o → o.cls ≠ .type "list"
theorem frN_no {g : Addr → Option Obj} {as : List Addr} : NoL (frN g as) := fun a o e z => by
  have := (look_filter e).2
  unfold noLs at this
  simp only at this
  rw [z] at this
  simp at this
abbrev AlN : Type := Bool × List He.FnW
def prA (K : PySem.W.Frag) (p : Str × Str × He.DefD) : Addr := pgA K (He.ga K p.1) p.2.1
def Hd0.obsK (h : Hd0) (K : PySem.W.Frag) : AlN := (h.B K && ((h.fn.all fun d => d.ok K) && h.pr.all fun p => propB K (He.ga K p.1) p.2.1 && okA K (prA K p) p.2.2), (h.fn.map fun d => He.fnW K d.at_) ++ h.pr.map fun p => fnWa K (prA K p))
def Hd0.val (h : Hd0) : AlN := (true, h.fn.map He.DefD.val ++ h.pr.map fun p => p.2.2.val)
/-- a table's entries -/
def enT (e : DictEntry) : Option (Str × Int × Str) := match e.key, e.val with
  | .str x _, .str y _ => some (x, e.hash, y)
  | _, _ => none
def tabW (K : PySem.W.Frag) (a : Addr) : Option (List (Option (Str × Int × Str))) := match K.lookup a with
  | some ⟨.type c, none, .dict es _, sl⟩ => (match decide (c = "dict") && (sl.isEmpty && !(a == sysModules)) with
    | true => some (es.toList.map enT)
    | false => none)
  | _ => none
def tabV (P : Params) (kvs : List (List Nat × List Nat)) : List (Option (Str × Int × Str)) := kvs.map fun p => some (sOf p.1, PyData.keyHash P (sOf p.1), sOf p.2)
abbrev AlT : Type := AlN × Bool × List (Option (List (Option (Str × Int × Str))))
def Hd0.obsT (h : Hd0) (K : PySem.W.Frag) : AlT := (h.obsK K, h.tb.all (fun p => (He.Fa.glo p.1).ok K), h.tb.map fun p => tabW K (He.ga K p.1))
def Hd0.valT (h : Hd0) (w : World) : AlT := (h.val, true, h.tb.map fun p => some (tabV w.params p.2))
/-- the addresses to look at: from the names that are wanted -/
def asN (g : Addr → Option Obj) : Nat → List Addr → List Addr → List Addr
  | 0, seen, fr => seen ++ fr
  | n + 1, seen, fr => asN g n (seen ++ fr) (((fr.flatMap fun a => match g a with
    | some o => He.refsD o
    | none => []).filter fun a => !((seen ++ fr).contains a)).eraseDups)
def pickN (ns : List Str) (o : Obj) : List Addr := match o.data with
  | .dict es _ => es.toList.filterMap fun e => match e.key, e.val with
    | .str k _, .ref a => (match ns.contains k with
      | true => some a
      | false => none)
    | _, _ => none
  | _ => []
def Hd0.asM (h : Hd0) (n : Nat) (g : Addr → Option Obj) : List Addr := asN g n [mainGlobals] (match g mainGlobals with
  | some o => (pickN (h.fl ++ h.cl ++ h.xl ++ h.kd ++ h.tb.map (·.1)) o).eraseDups
  | none => [])
def Hd0.obsG (h : Hd0) (n : Nat) (g : Addr → Option Obj) : AlT := h.obsT (frN g (h.asM n g))
def Hd0.hook (h : Hd0) (n : Nat) : PySem.W.Hook where
  α := AlT
  obs := fun s => h.obsG n s.heap.get?
  val := fun w => h.valT w
  says := fun w hp => ∃ K : PySem.W.Frag, K.In hp ∧ NoL K ∧ h.obsT K = h.valT w
  of := fun _ _ e => ⟨_, frN_in, frN_no, e⟩
  keeps := fun _ _ _ ⟨K, hK, c⟩ k => ⟨K, PySem.W.Frag.In.keeps hK k, c⟩
theorem Hd0.obs_eq (h : Hd0) {n : Nat} {g : Addr → Option Obj} {s : Shared} (e : ∀ a, g a = s.heap.get? a) : h.obsG n g = (h.hook n).obs s := by
  have e : g = s.heap.get? := funext e
  rw [e]; rfl
def Hd0.ob (h : Hd0) (n : Nat) (s : PySem.W.SharedT) : AlT := h.obsG n (HandSHeadRun.getT s)
theorem Hd0.ob_eq (h : Hd0) (n : Nat) (s : PySem.W.SharedT) : h.ob n s = (h.hook n).obs s.abs := h.obs_eq (HandSHeadRun.getT_eq s)
section
variable {h : Hd0} {K : PySem.W.Frag}
theorem Hd0.b_all (c : h.obsK K = h.val) : h.B K = true ∧ (∀ d ∈ h.fn, d.ok K = true) ∧ ∀ p ∈ h.pr, propB K (He.ga K p.1) p.2.1 = true ∧ okA K (prA K p) p.2.2 = true := by
  have e : (h.B K && ((h.fn.all fun d => d.ok K) && h.pr.all fun p => propB K (He.ga K p.1) p.2.1 && okA K (prA K p) p.2.2)) = true := congrArg (fun z : AlN => z.1) c
  simp only [Bool.and_eq_true, List.all_eq_true] at e
  exact ⟨e.1, e.2.1, e.2.2⟩
theorem Hd0.b_ok (c : h.obsK K = h.val) : h.B K = true := (h.b_all c).1
theorem Hd0.w_all (c : h.obsK K = h.val) : (h.fn.map fun d => He.fnW K d.at_) = h.fn.map He.DefD.val ∧ (h.pr.map fun p => fnWa K (prA K p)) = h.pr.map fun p => p.2.2.val :=
  List.append_inj (show (h.fn.map fun d => He.fnW K d.at_) ++ (h.pr.map fun p => fnWa K (prA K p)) = h.fn.map He.DefD.val ++ h.pr.map (fun p => p.2.2.val) from congrArg (fun z : AlN => z.2) c) (by simp)
theorem Hd0.def_ (c : h.obsK K = h.val) {d : He.DefD} (hd : d ∈ h.fn) : ∃ fd, FunD K d.name d.qual d.params d.body d.scope (d.dvs K) (d.kws K) (He.fAd K d.at_) fd := by
  have e := (h.w_all c).1
  obtain ⟨i, hi⟩ := List.mem_iff_getElem?.mp hd
  have e2 : (h.fn.map fun d => He.fnW K d.at_)[i]? = (h.fn.map He.DefD.val)[i]? := by rw [e]
  rw [List.getElem?_map, List.getElem?_map, hi] at e2
  exact He.DefD.funD (Option.some.inj e2) ((h.b_all c).2.1 d hd)
theorem Hd0.prop_ (c : h.obsK K = h.val) {p : Str × Str × He.DefD} (hp : p ∈ h.pr) : (∃ a, PropOf K (He.ga K p.1) p.2.1 a (prA K p)) ∧ ∃ fd, FunD K p.2.2.name p.2.2.qual p.2.2.params p.2.2.body p.2.2.scope (p.2.2.dvs K) (p.2.2.kws K) (prA K p) fd := by
  obtain ⟨z1, z2⟩ := (h.b_all c).2.2 p hp
  refine ⟨propB_ok z1, ?_⟩
  have e := (h.w_all c).2
  obtain ⟨i, hi⟩ := List.mem_iff_getElem?.mp hp
  have e2 : (h.pr.map fun p => fnWa K (prA K p))[i]? = (h.pr.map fun p => p.2.2.val)[i]? := by rw [e]
  rw [List.getElem?_map, List.getElem?_map, hi] at e2
  exact funDa (Option.some.inj e2) z2
theorem tabW_ok {w : World} {a : Addr} {kvs : List (List Nat × List Nat)} (h : tabW K a = some (tabV w.params kvs)) (hl : (kvs.all fun p => decide (p.2.length ≤ LIM)) = true) : ∃ es n, KDict K w a es n ∧ TabF es kvs := by
  unfold tabW at h
  split at h
  · rename_i c es n sl hk
    split at h
    · rename_i hb
      simp only [Bool.and_eq_true, decide_eq_true_eq, Bool.not_eq_true', Array.isEmpty_iff] at hb
      obtain ⟨rfl, rfl, lo⟩ := hb
      have h := Option.some.inj h
      have en : ∀ (l : List DictEntry) (kvs : List (List Nat × List Nat)), l.map enT = tabV w.params kvs → PySem.W.KeysLit w.params l ∧ ∀ z : List Nat, match kvs.find? fun p => decide (p.1 = z) with
          | none => l.find? (fun e => Value.isStrOf (sOf z) e.key) = none
          | some p => ∃ e t, l.find? (fun e => Value.isStrOf (sOf z) e.key) = some e ∧ e.val = .str (sOf p.2) t := by
        intro l
        induction l with
        | nil =>
          intro kvs h
          have : kvs = [] := by cases kvs with | nil => rfl | cons _ _ => cases h
          subst this
          exact ⟨trivial, fun z => rfl⟩
        | cons e l ih =>
          intro kvs h
          cases kvs with
          | nil => cases h
          | cons p kvs =>
            have h0 : enT e :: l.map enT = some (sOf p.1, PyData.keyHash w.params (sOf p.1), sOf p.2) :: tabV w.params kvs := h
            injection h0 with h1 h2
            obtain ⟨i1, i2⟩ := ih kvs h2
            obtain ⟨eh, ek, ev⟩ := e
            unfold enT at h1
            split at h1
            · rename_i x t1 y t2 g1 g2
              simp only at g1 g2
              subst g1 g2
              have h3 := Option.some.inj h1
              obtain ⟨h4, h5⟩ := Prod.mk.inj h3
              obtain ⟨h6, h7⟩ := Prod.mk.inj h5
              subst h4 h7
              refine ⟨⟨⟨_, t1, rfl, h6⟩, i1⟩, fun z => ?_⟩
              have hk : Value.isStrOf (sOf z) (.str (sOf p.1) t1) = decide (p.1 = z) := by
                show (sOf p.1 == sOf z) = _
                exact beq_sOf p.1 z
              rw [List.find?_cons, List.find?_cons]
              by_cases hz : p.1 = z
              · rw [hk, decide_eq_true hz]
                exact ⟨_, t2, rfl, rfl⟩
              · rw [hk, decide_eq_false hz]
                exact i2 z
            · cases h1
      obtain ⟨k1, k2⟩ := en es.toList kvs h
      refine ⟨es, n, ⟨hk, k1, lo⟩, fun z => ?_⟩
      have h3 := k2 z
      obtain ⟨l⟩ := es
      unfold findBy
      rw [List.find?_toArray]
      cases hf : kvs.find? fun p => decide (p.1 = z) with
      | none => rw [hf] at h3; rw [h3]; rfl
      | some p =>
        rw [hf] at h3
        obtain ⟨e, t, h4, h5⟩ := h3
        refine ⟨t, ?_, ?_⟩
        · rw [h4]; show some e.val = _; rw [h5]
        · have := List.all_eq_true.mp hl p (List.mem_of_find?_eq_some hf)
          exact of_decide_eq_true this
    · cases h
  · cases h
theorem Hd0.tab_ok {w : World} (c : h.obsT K = h.valT w) {y : Str} {kvs : List (List Nat × List Nat)} (hy : (y, kvs) ∈ h.tb) (hl : (kvs.all fun p => decide (p.2.length ≤ LIM)) = true) : (He.Fa.glo y).ok K = true ∧ ∃ es n, KDict K w (He.ga K y) es n ∧ TabF es kvs := by
  have c2 : h.tb.all (fun p => (He.Fa.glo p.1).ok K) = true := congrArg (fun z : AlT => z.2.1) c
  have c3 : h.tb.map (fun p => tabW K (He.ga K p.1)) = h.tb.map fun p => some (tabV w.params p.2) := congrArg (fun z : AlT => z.2.2) c
  refine ⟨List.all_eq_true.mp c2 _ hy, tabW_ok ?_ hl⟩
  obtain ⟨i, hi⟩ := List.mem_iff_getElem?.mp hy
  have e2 : (h.tb.map fun p => tabW K (He.ga K p.1))[i]? = (h.tb.map fun p => some (tabV w.params p.2))[i]? := by rw [c3]
  rw [List.getElem?_map, List.getElem?_map, hi] at e2
  exact Option.some.inj e2
end
end Nc

set_option Elab.async false
set_option linter.all false
set_option autoImplicit false
set_option maxRecDepth 100000
set_option maxHeartbeats 4000000
/-! From the test to what is known of a law's program. -/
namespace Nc
open PySem PySem.Spec PyProof.Rows L2
def cnOf (h : Hd0) (K : PySem.W.Frag) : Cn := ⟨fun k => if h.cl.contains k = true then some (He.ga K k) else none, fun k => if h.xl.contains k = true then some (He.ga K k) else none⟩
theorem cnOf_cl {h : Hd0} {K : PySem.W.Frag} {k : Str} {C : Addr} (e : (cnOf h K).cl k = some C) : h.cl.contains k = true ∧ C = He.ga K k := by
  replace e : (if h.cl.contains k = true then some (He.ga K k) else none) = some C := e
  split at e
  · cases e; exact ⟨by assumption, rfl⟩
  · cases e
theorem cnOf_xl {h : Hd0} {K : PySem.W.Frag} {k : Str} {C : Addr} (e : (cnOf h K).xl k = some C) : h.xl.contains k = true ∧ C = He.ga K k := by
  replace e : (if h.xl.contains k = true then some (He.ga K k) else none) = some C := e
  split at e
  · cases e; exact ⟨by assumption, rfl⟩
  · cases e
/-- a def's text, tested -/
def scB (N P : List Str) (sc : Scope) : Bool := (match sc.kind with | .function => true | _ => false) && (sc.isCoroutine == false && (sc.isGenerator == false && (decide N.Nodup && (decide (N.take P.length = P) && ((P.all fun x => decide (sc.names.lookup x = some .local) || decide (sc.names.lookup x = some .cell)) && sc.names.all fun y => decide (y.2 ≠ .free))))))
theorem scB_ok {N P : List Str} {sc : Scope} (h : scB N P sc = true) : FnScope N P sc := by
  unfold scB at h
  simp only [Bool.and_eq_true, decide_eq_true_eq, beq_iff_eq, List.all_eq_true, Bool.or_eq_true] at h
  obtain ⟨h1, h2, h3, h4, h5, h6, h7⟩ := h
  refine ⟨?_, h2, h3, h4, h5, h6, h7⟩
  split at h1
  · assumption
  · cases h1
def dfB (L : Lw) (d : Dfn) (t : He.DefD) (N ps : List Str) : Bool := scB N ps t.scope && (decide (d.s.ps.length = ps.length) && (decide (ps.length ≤ N.length) && (decide (N.length = d.n) && match (chk2 (kcOf ⟨N, t.scope, L.sg, L.ats, fun _ => true, L.ex⟩ d.s) d.sm).s t.body (mStart d.s.ps N.length) with
  | some o => endOk d.s N.length o
  | none => false)))
theorem defAt_of {h : Hd0} {K : PySem.W.Frag} {L : Lw} {d : Dfn} {t : He.DefD} {N ps : List Str} (c : h.obsK K = h.val) (hd : t ∈ h.fn) (hb : ∀ fd, FunD K t.name t.qual t.params t.body t.scope (t.dvs K) (t.kws K) (He.fAd K t.at_) fd → Binds K fd ps [])
    (ok : dfB L d t N ps = true) : DefAt K L.sg L.ats L.ex d (He.fAd K t.at_) := by
  obtain ⟨fd, F⟩ := h.def_ c hd
  unfold dfB at ok
  simp only [Bool.and_eq_true, decide_eq_true_eq] at ok
  obtain ⟨h1, h2, h3, h4, h5⟩ := ok
  split at h5
  · rename_i o ho
    exact ⟨_, _, _, _, _, _, _, fd, N, ps, o, F, scB_ok h1, h2, h3, h4, ho, h5, hb fd F⟩
  · cases h5
theorem defAtP_of {h : Hd0} {K : PySem.W.Frag} {L : Lw} {d : Dfn} {p : Str × Str × He.DefD} {N ps : List Str} (c : h.obsK K = h.val) (hp : p ∈ h.pr) (hb : ∀ fd, FunD K p.2.2.name p.2.2.qual p.2.2.params p.2.2.body p.2.2.scope (p.2.2.dvs K) (p.2.2.kws K) (prA K p) fd → Binds K fd ps [])
    (ok : dfB L d p.2.2 N ps = true) : ∃ a, PropOf K (He.ga K p.1) p.2.1 a (prA K p) ∧ DefAt K L.sg L.ats L.ex d (prA K p) := by
  obtain ⟨⟨a, pr⟩, fd, F⟩ := h.prop_ c hp
  unfold dfB at ok
  simp only [Bool.and_eq_true, decide_eq_true_eq] at ok
  obtain ⟨h1, h2, h3, h4, h5⟩ := ok
  split at h5
  · rename_i o ho
    exact ⟨a, pr, _, _, _, _, _, _, _, fd, N, ps, o, F, scB_ok h1, h2, h3, h4, ho, h5, hb fd F⟩
  · cases h5
theorem defAtB_of {h : Hd0} {K : PySem.W.Frag} {L : Lw} {d : Dfn} {t : He.DefD} {N ps : List Str} {bs : List V} (c : h.obsK K = h.val) (hd : t ∈ h.fn) (hb : ∀ fd, FunD K t.name t.qual t.params t.body t.scope (t.dvs K) (t.kws K) (He.fAd K t.at_) fd → ∃ us, Vals bs us ∧ Binds K fd ps us)
    (ok : dfB L d t N ps = true) : DefAtB K L.sg L.ats L.ex d (He.fAd K t.at_) bs := by
  obtain ⟨fd, F⟩ := h.def_ c hd
  unfold dfB at ok
  simp only [Bool.and_eq_true, decide_eq_true_eq] at ok
  obtain ⟨h1, h2, h3, h4, h5⟩ := ok
  split at h5
  · rename_i o ho
    exact ⟨_, _, _, _, _, _, _, fd, N, ps, o, F, scB_ok h1, h2, h3, h4, ho, h5, hb fd F⟩
  · cases h5
/-- a def that tells of which classes an exception is -/
def kdT (t : He.DefD) (k1 k2 k3 k4 xl : List Str) : Bool := scB ["_law_e", "_law_told"] ["_law_e"] t.scope && (kndB t.scope k1 k2 k3 k4 t.body && (decide ((k1 ++ k2 ++ k3 ++ k4).length ≤ 100) && (decide (t.scope.names.lookup ("_law_told" : Str) = some .local) && (decide (t.scope.names.lookup ("_law_e" : Str) = some .local) &&
  (decide (t.scope.names.lookup ("isinstance" : Str) = some .globalImplicit) && (k1 ++ k2 ++ k3 ++ k4).all fun k => decide (k = ("ValueError" : Str)) || (xl.contains k && (decide (k ≠ ("ValueError" : Str)) && decide (k ≠ ("CastError" : Str)))))))))
theorem kd_of {h : Hd0} {K : PySem.W.Frag} {hp : Heap} {mg : Str → Option Value} {w : World} {f : Str} {t : He.DefD} {k1 k2 k3 k4 : List Str} (c : h.obsK K = h.val) (X : K.In hp) (G : hp.Ns mainGlobals mg) (hf : f ∈ h.kd) (ht : t ∈ h.fn) (hat : t.at_ = (f, none))
    (hb : ∀ fd, FunD K t.name t.qual t.params t.body t.scope (t.dvs K) (t.kws K) (He.fAd K t.at_) fd → Binds K fd ["_law_e"] []) (hk : kdT t k1 k2 k3 k4 h.xl = true) :
    ∃ fa, mg f = some (.ref fa) ∧ PySem.W.keepIn K (.ref fa) = true ∧ ∀ Pr base, KdOk Pr w K mg base (cnOf h K) (k1 ++ k2 ++ k3 ++ k4) fa := by
  have hB := h.b_ok c
  unfold Hd0.B at hB
  simp only [Bool.and_eq_true, List.all_eq_true, decide_eq_true_eq] at hB
  obtain ⟨b1, b2, b3, b4, b5, b6, b7, b8, b9, b10⟩ := hB
  have hne : h.kd.isEmpty = false := by
    cases e : h.kd with
    | nil => rw [e] at hf; cases hf
    | cons _ _ => rfl
  rw [hne, Bool.false_or, Bool.and_eq_true, Bool.and_eq_true, List.all_eq_true] at b10
  obtain ⟨v1, v2, v3⟩ := b10
  unfold xkB at v3
  simp only [Bool.and_eq_true, List.all_eq_true, decide_eq_true_eq, Bool.or_eq_true] at v3
  have mem : ∀ {l : List Str} {k : Str}, l.contains k = true → k ∈ l := fun {l k} z => by simpa using z
  have xk : XkF K (cnOf h K) := ⟨fun k C hc => by
      obtain ⟨a1, rfl⟩ := cnOf_xl hc
      exact excCB_ok (v3 k (mem a1)).1, fun k C hc => by
      obtain ⟨a1, rfl⟩ := cnOf_xl hc
      exact (v3 k (mem a1)).2.1, fun k l C D hc hd hl => by
      obtain ⟨a1, rfl⟩ := cnOf_xl hc
      obtain ⟨a2, rfl⟩ := cnOf_xl hd
      exact ((v3 k (mem a1)).2.2 l (mem a2)).resolve_left hl⟩
  obtain ⟨fd, F⟩ := h.def_ c ht
  unfold kdT at hk
  simp only [Bool.and_eq_true, decide_eq_true_eq] at hk
  obtain ⟨s1, s2, s3, s4, s5, s6, s7⟩ := hk
  rw [hat] at F hb
  refine ⟨_, He.glo_ok X G (v2 f hf), F.kp, fun Pr base => kd_ok F (scB_ok s1) (hb fd F) s2 s3 s4 s5 s6 xk (fun k hk => ?_) (He.free_ok X G (b1 _ (by decide)))⟩
  have := List.all_eq_true.mp s7 k hk
  rw [Bool.or_eq_true, decide_eq_true_eq, Bool.and_eq_true, Bool.and_eq_true, decide_eq_true_eq, decide_eq_true_eq] at this
  rcases this with rfl | ⟨y1, y2, y3⟩
  · exact .inl ⟨rfl, He.free_ok X G v1⟩
  · have y1' : h.xl.contains k = true := y1
    exact .inr ⟨y2, y3, _, if_pos y1', He.glo_ok X G (b7 k (mem y1)).1⟩
theorem map_inj {α β : Type} {f : α → β} : ∀ {l : List α}, (l.map f).Nodup → ∀ {x y : α}, x ∈ l → y ∈ l → f x = f y → x = y
  | [], _, _, _, h, _, _ => (nomatch h)
  | a :: l, n, x, y, hx, hy, e => by
    rw [List.map_cons, List.nodup_cons] at n
    rcases List.mem_cons.mp hx with q1 | q1
    · rcases List.mem_cons.mp hy with q2 | q2
      · rw [q1, q2]
      · exact absurd (by rw [← q1, e]; exact List.mem_map_of_mem q2) n.1
    · rcases List.mem_cons.mp hy with q2 | q2
      · exact absurd (by rw [← q2, ← e]; exact List.mem_map_of_mem q1) n.1
      · exact map_inj n.2 q1 q2 e
theorem lwF_of {h : Hd0} {K : PySem.W.Frag} {L : Lw} {hp : Heap} {mg : Str → Option Value} (c : h.obsK K = h.val) (X : K.In hp) (G : hp.Ns mainGlobals mg) (e1 : L.fl = h.fl) (e2 : L.cl = h.cl) (e3 : L.ats = h.ats) (e4 : L.xl = h.xl)
    (hf : ∀ f d, L.P.fns f = some d → L.fl.contains f = true ∧ DefAt K L.sg L.ats L.ex d (He.fAd K (f, none))) (hm : ∀ k m d, L.P.mts k m = some d → L.P.pcl m ≠ some k → (k, m) ∈ h.ms ∧ DefAt K L.sg L.ats L.ex d (He.fAd K (k, some m))) (hp : ∀ k m d, L.P.mts k m = some d → L.P.pcl m = some k → ∃ a g, PropOf K (He.ga K k) m a g ∧ DefAt K L.sg L.ats L.ex d g)
    (hsp : ∀ m ∈ (["__init__", "__len__", "__contains__", "__add__", "__getitem__", "__eq__"] : List Str), L.P.pcl m = none)
    (hx : ∀ k f, L.ex k = some (some f) → ∃ (nm qual : Str) (params : Arguments) (body : List Stmt) (scope : Scope) (dvs : List V) (kws : List (Str × V)) (fd : FuncData), FunD K nm qual params body scope dvs kws (He.fAd K (k, some "__init__")) fd ∧ FnScope ["self", f] ["self", f] scope ∧ xiB f body = true ∧ Binds K fd ["self", f] [])
    (hg : ∀ k d, L.P.gc k = some d → ∃ z : Cv, (k, z) ∈ h.cs ∧ z.le = true ∧ d = z.d) {w : World} (ct : h.obsT K = h.valT w) (ht : ∀ y kvs, L.P.tc y = some kvs → (y, kvs) ∈ h.tb ∧ (kvs.all fun p => decide (p.2.length ≤ LIM)) = true)
    (hdv : ∀ k n ds, L.P.dv k n = some ds → ∃ d bs, L.P.mts k "__init__" = some d ∧ (k, ("__init__" : Str)) ∈ h.ms ∧ DvR bs ds ∧ DefAtB K L.sg L.ats L.ex d (He.fAd K (k, some "__init__")) bs)
    (hkd : ∀ f ks, L.P.kd f = some ks → ∃ fa, mg f = some (.ref fa) ∧ PySem.W.keepIn K (.ref fa) = true ∧ ∀ Pr base, KdOk Pr w K mg base (cnOf h K) ks fa) : LwF w K mg (cnOf h K) L := by
  have hB := h.b_ok c
  unfold Hd0.B at hB
  simp only [Bool.and_eq_true, List.all_eq_true, decide_eq_true_eq] at hB
  obtain ⟨b1, b2, b3, b4, b5, b6, b7, b8, b9, _⟩ := hB
  have mem : ∀ {l : List Str} {k : Str}, l.contains k = true → k ∈ l := fun {l k} z => by simpa using z
  refine ⟨fun a b C ha hb => ?_, fun n hn => He.free_ok X G (b1 n hn), fun k C hc => ?_, fun k hk => ?_, fun k C f hc hf' => ?_, fun f d hd _ => ?_, fun k m d C hc hd hnp => ?_, fun k m d C hc hd z => ?_, hsp, fun k C hc => ?_, ?_, fun x f hx => ?_, fun k x f C D hx hc hd => ?_, fun k f he => ?_, fun k f C hx hc => ?_, fun k d hd => ?_, fun k n ds hd C hc => ?_, hkd, fun y kvs hk => ?_⟩
  · obtain ⟨a1, rfl⟩ := cnOf_cl ha
    obtain ⟨a2, a3⟩ := cnOf_cl hb
    exact map_inj b9 (mem a1) (mem a2) a3
  · obtain ⟨a1, rfl⟩ := cnOf_cl hc
    exact ⟨by rw [e2]; exact a1, He.cls_ok (b3 k (mem a1)).2.1⟩
  · rw [e2] at hk
    exact ⟨He.ga K k, if_pos hk, He.glo_ok X G (b3 k (mem hk)).1⟩
  · obtain ⟨a1, rfl⟩ := cnOf_cl hc
    rw [e3] at hf'
    exact He.noat_ok ((b3 k (mem a1)).2.2 f (mem hf'))
  · obtain ⟨z1, z2⟩ := hf f d hd
    rw [e1] at z1
    exact ⟨_, He.glo_ok X G (b2 f (mem z1)), z2⟩
  · obtain ⟨a1, rfl⟩ := cnOf_cl hc
    obtain ⟨z1, z2⟩ := hm k m d hd hnp
    exact ⟨_, He.meth_ok (b5 (k, m) z1), z2⟩
  · obtain ⟨a1, rfl⟩ := cnOf_cl hc
    exact hp k m d hd z
  · obtain ⟨a1, rfl⟩ := cnOf_cl hc
    exact ⟨(b4 k (mem a1)).1, He.keep_ok (b4 k (mem a1)).2⟩
  · unfold isfB at b6
    simp only [Bool.and_eq_true, List.all_eq_true, decide_eq_true_eq] at b6
    refine ⟨fun k _ C hc => ?_, fun k _ C hc T hT => ?_, fun k _ C hc T hT => ?_, fun k _ l _ C D hc hd => ?_, fun k C hc => ?_⟩
    · obtain ⟨a1, rfl⟩ := cnOf_cl hc
      obtain ⟨⟨z1, z2, z3, z4⟩, _⟩ := b6 k (mem a1)
      exact ⟨He.cls_ok (b3 k (mem a1)).2.1, z1, z2, z3, z4⟩
    · obtain ⟨a1, rfl⟩ := cnOf_cl hc
      exact ((b6 k (mem a1)).2.1 T hT).1
    · obtain ⟨a1, rfl⟩ := cnOf_cl hc
      exact ((b6 k (mem a1)).2.1 T hT).2
    · obtain ⟨a1, rfl⟩ := cnOf_cl hc
      obtain ⟨a2, rfl⟩ := cnOf_cl hd
      exact (b6 k (mem a1)).2.2 l (mem a2)
    · obtain ⟨a1, rfl⟩ := cnOf_cl hc
      exact He.glo_ok X G (b3 k (mem a1)).1
  · unfold Lw.ex at hx
    split at hx
    · rename_i z
      have z1 := z
      have z2 : f = none → exF x = some none := fun e => by rw [hx, e]
      rw [e4] at z1
      obtain ⟨y1, y2, y3, y4, y5, y6⟩ := b7 x (mem z1)
      refine ⟨He.ga K x, if_pos z1, He.glo_ok X G y1, He.keep_ok y2, y3, y4, fun e => ?_⟩
      replace z2 := z2 e
      have : (He.Fa.exc x).ok K = true := by
        rw [Bool.or_eq_true] at y5
        rcases y5 with y5 | y5
        · rw [z2] at y5
          exact absurd y5 (by decide)
        · exact y5
      exact (He.exc_ok this).1
    · cases hx
  · obtain ⟨a1, rfl⟩ := cnOf_xl hc
    obtain ⟨a2, rfl⟩ := cnOf_xl hd
    obtain ⟨y1, y2, y3, y4, y5, y6⟩ := b7 k (mem a2)
    exact He.exm_ok (y6.2 x (mem a1))
  · obtain ⟨nm, qual, params, body, scope, dvs, kws, fd, z1, z2, z3, z4⟩ := hx k f he
    unfold Lw.ex at he
    split at he
    · rename_i hk
      rw [e4] at hk
      obtain ⟨y1, y2, y3, y4, y5, y6⟩ := b7 k (mem hk)
      have yx := y6.1
      unfold xiT at yx
      rw [he] at yx
      simp only [Bool.and_eq_true, decide_eq_true_eq] at yx
      have mt := He.meth_ok yx.2.2.2
      exact ⟨He.ga K k, _, nm, qual, params, body, scope, dvs, kws, fd, if_pos hk, oexB_ok yx.2.1, mt.at_, beq_iff_eq.mp mt.fn, yx.2.2.1, z1, z2, z3, z4⟩
    · cases he
  · obtain ⟨a1, rfl⟩ := cnOf_xl hc
    obtain ⟨y1, y2, y3, y4, y5, y6⟩ := b7 k (mem a1)
    have yx := y6.1
    unfold xiT at yx
    rw [ex_of hx] at yx
    simp only [Bool.and_eq_true, decide_eq_true_eq] at yx
    exact ⟨xfB_ok yx.1, yx.2.2.1⟩
  · obtain ⟨z, z1, z2, rfl⟩ := hg k d hd
    cases z with
    | i j =>
      obtain ⟨t, ht⟩ := He.int_ok X G (b8 (k, .i j) z1)
      exact ⟨.int j, _, ht, ⟨t, rfl⟩, fun F H => .int j⟩
    | s z =>
      obtain ⟨t, ht⟩ := He.str_ok X G (b8 (k, .s z) z1)
      refine ⟨.str z, _, ht, ⟨t, rfl⟩, fun F H => ?_⟩
      have := Rep.str (cl := (cnOf h K).cl) (F := F) (H := H) z.cps.toList (by rw [lim_eq]; exact of_decide_eq_true z2)
      rw [str_of] at this
      exact this
  · obtain ⟨a1, rfl⟩ := cnOf_cl hc
    obtain ⟨d, bs, z1, z2, z3, z4⟩ := hdv k n ds hd
    exact ⟨d, _, bs, z1, He.meth_ok (b5 (k, ("__init__" : Str)) z2), z3, z4⟩
  · obtain ⟨h1, h2⟩ := ht y kvs hk
    obtain ⟨g1, es, n, D, tf⟩ := Hd0.tab_ok ct h1 h2
    exact ⟨_, es, n, He.glo_ok X G g1, D, tf⟩
end Nc

set_option Elab.async false
set_option linter.all false
set_option autoImplicit false
set_option maxRecDepth 100000
set_option maxHeartbeats 4000000
/-! Small things for a law's own head. -/
namespace Nc
open PySem PySem.Spec PyProof.Rows L2
def inCls (s : Stmt) (j : Nat) : Stmt := match s with
  | .ClassDef _ _ _ b _ _ _ _ _ _ _ => b.getD j (.Pass ⟨0, 0, 0, 0⟩)
  | _ => .Pass ⟨0, 0, 0, 0⟩
def argsOf : Stmt → Arguments
  | .FunctionDef _ a _ _ _ _ _ _ _ _ => a
  | _ => { posonlyargs := [], args := [], vararg := none, kwonlyargs := [], kw_defaults := [], kwarg := none, defaults := [] }
def bodyOf : Stmt → List Stmt
  | .FunctionDef _ _ b _ _ _ _ _ _ _ => b
  | _ => []
def scopeOf : Stmt → Scope
  | .FunctionDef _ _ _ _ _ _ s _ _ _ => s
  | _ => { kind := .module, names := [], isGenerator := false, isCoroutine := false, more := [] }
theorem mem_of_lookup {α β : Type} [BEq α] [LawfulBEq α] {l : List (α × β)} {a : α} {b : β} (h : l.lookup a = some b) : (a, b) ∈ l := by
  induction l with
  | nil => cases h
  | cons p l ih =>
    obtain ⟨x, y⟩ := p
    rw [List.lookup_cons] at h
    split at h
    · rename_i e
      cases h
      rw [beq_iff_eq.mp e]
      exact List.mem_cons_self
    · exact List.mem_cons_of_mem _ (ih h)
/-- a method's promise, whatever the class: the first of that name -/
def mtS : List ((Str × Str) × Dfn) → Str → Option Sig
  | [], _ => none
  | (p, d) :: r, m => if p.2 = m then some d.s else mtS r m
theorem binds_dfl {K : PySem.W.Frag} {x qual : Str} {params : Arguments} {body : List Stmt} {scope : Scope} {dvs : List V} {kws : List (Str × V)} {f : Addr} {fd : FuncData} {ps : List Str} (F : FunD K x qual params body scope dvs kws f fd) (hd : dvs ≠ [])
    (h : ∀ (T : Addr) (kV doc pm : Value) (an : Option Addr) (cdv ct : Value) (us its : List Value), us.length = ps.length → its.length = dvs.length →
      ∃ k, bindArgs (PySem.W.fnOf x qual params body scope (.ref T) kV doc pm an cdv ct) ⟨us, []⟩ = seqItems? (.ref T) >>= k ∧ k (some its.toArray) = pure (ps.zip us)) : Binds K fd ps [] := by
  obtain ⟨ds, h1, h2⟩ := F.binds1 (ps := ps) ps.length dvs.length hd (by omega) (fun T kV doc pm an cdv ct us its l1 l2 => by
    obtain ⟨k, k1, k2⟩ := h T kV doc pm an cdv ct us its l1 l2
    refine ⟨k, k1, ?_⟩
    rw [k2, ← l2, List.drop_length, List.append_nil])
  rw [List.drop_length] at h1
  cases h1
  exact h2
/-- the world with one word of its text known: a written dict with text keys asks it -/
def setW (w : PySem.World) (b : Bool) : PySem.World := { w with params := { w.params with followText := fun s => if s = "special-get-raises" then b else w.params.followText s } }
theorem setW_eq (w : PySem.World) {b : Bool} (h : w.params.followText "special-get-raises" = b) : w = setW w b := by
  obtain ⟨dr, p⟩ := w
  have : (fun s => if s = "special-get-raises" then b else p.followText s) = p.followText := by
    funext s
    split
    · rename_i e; rw [e]; exact h.symm
    · rfl
  show (⟨dr, p⟩ : PySem.World) = ⟨dr, { p with followText := fun s => if s = "special-get-raises" then b else p.followText s }⟩
  rw [this]
end Nc

set_option Elab.async false
set_option linter.all false
set_option autoImplicit false
set_option maxRecDepth 100000
set_option maxHeartbeats 4000000
/-! A law's def, and what it promises. -/
namespace Nc
open PySem PySem.Spec PyProof.Rows L2
section
variable {Pr : Program} {w : World} {K : PySem.W.Frag} {mg : Str → Option Value} {base : Heap} {c : Cn} {L : Lw} {d : Dfn} {f : Addr} {t : He.DefD} {N ps : List Str} {fd : FuncData}
theorem law_ok (F : LwF w K mg c L) (n : Nat) (ok : dfB L d t N ps = true) (Fn : FunD K t.name t.qual t.params t.body t.scope (t.dvs K) (t.kws K) f fd) : FnOk Pr w K mg base CXa (3 * n + 3) f fd ps (spF c (XrD c) d.s (L.P.bd (n + 1) d)) := by
  unfold dfB at ok
  simp only [Bool.and_eq_true, decide_eq_true_eq] at ok
  obtain ⟨h1, h2, h3, h4, h5⟩ := ok
  split at h5
  · rename_i o ho
    refine fnOk_cxa ?_
    show FnOk Pr w K mg base (CX Pr w) (3 * n + 2 + 1) f fd ps (spF c (XrD c) d.s (fnD (L.P.T n) d.s d.sm d.n))
    rw [← h4]
    refine fn_ok (x := ⟨N, t.scope, L.sg, L.ats, fun _ => true, L.ex⟩) Fn (scB_ok h1) rfl (fun _ _ => trivial) h2 h3 F.inj (fun g s q => ?_) F.bl (lvl_all F n).2 ho h5
    exact (ok_of q).2
  · cases h5
theorem law_sp {H : Hp} {a : Addr} {ns : List Int} {g : List D → Option Out} (no : NoL K) (h : g [.lst (ns.map .int)] = some (.val (.bl true) [])) (hS : SqL K H a (ns.map V.int)) : spF c (XrD c) ⟨[.fz], .fz⟩ g [.ref a] H (fun v _ => v = .bl true) fun _ _ _ => False := by
  rcases hS with hS | ⟨o, its, m, h1, h2, _⟩
  · refine ⟨fun b => b = a, [.lst (ns.map .int)], [], fun b hb => ?_, .fz (.lst rfl hS ?_) .nil, ?_⟩
    · subst hb
      rcases hS with h | ⟨o, h⟩ <;> exact ⟨_, h⟩
    · clear hS h
      induction ns with
      | nil => exact .nil
      | cons n ns ih => exact .cons (.int n) ih
    · rw [h]
      intro v F' H' As' po re
      unfold ResR at re
      rw [if_pos rfl] at re
      cases re
      rfl
  · exact absurd h2 (no a o h1)
end
end Nc

set_option Elab.async false
set_option linter.all false
set_option autoImplicit false
set_option maxRecDepth 100000
set_option maxHeartbeats 4000000
/-! Plain rules of the evaluator. -/
namespace Nc
open PySem PySem.Spec PyProof.Rows L2
def okR {α : Type} (r : R α) (P : α → Env → Prop) : Prop := match r with
  | .ok a δ => P a δ
  | _ => False
/-- a statement's ends: next, return, exception -/
structure En3 where
  nx : Env → Prop
  rt : D → Env → Prop
  ex : Str → List D → Env → Prop
  bk : Env → Prop
  ct : Env → Prop
def okS (r : S3) (E : En3) : Prop := match r with
  | .no => False
  | .nx δ => E.nx δ
  | .rt d δ => E.rt d δ
  | .bk δ => E.bk δ
  | .ct δ => E.ct δ
  | .ex k ds δ => E.ex k ds δ
theorem okR.bnd {α β : Type} {r : R α} {f : α → Env → R β} {P : α → Env → Prop} {Q : β → Env → Prop} (h : okR r P) (k : ∀ a δ, P a δ → okR (f a δ) Q) : okR (r.bnd f) Q := by
  cases r with
  | ok a δ => exact k a δ h
  | _ => exact h.elim
theorem okR.mono {α : Type} {r : R α} {P Q : α → Env → Prop} (h : okR r P) (k : ∀ a δ, P a δ → Q a δ) : okR r Q := by
  cases r with
  | ok a δ => exact k a δ h
  | _ => exact h.elim
theorem okR.st {α : Type} {r : R α} {f : α → Env → S3} {P : α → Env → Prop} {E : En3} (h : okR r P) (k : ∀ a δ, P a δ → okS (f a δ) E) : okS (r.st f) E := by
  cases r with
  | ok a δ => exact k a δ h
  | _ => exact h.elim
theorem okS.seq {r : S3} {f : Env → S3} {N : Env → Prop} {E : En3} (h : okS r { E with nx := N }) (k : ∀ δ, N δ → okS (f δ) E) : okS (r.seq f) E := by
  cases r with
  | nx δ => exact k δ h
  | _ => exact h
theorem okS.mono {r : S3} {E E' : En3} (h : okS r E) (h1 : ∀ δ, E.nx δ → E'.nx δ) (h2 : ∀ d δ, E.rt d δ → E'.rt d δ) (h3 : ∀ k ds δ, E.ex k ds δ → E'.ex k ds δ) (h4 : ∀ δ, E.bk δ → E'.bk δ) (h5 : ∀ δ, E.ct δ → E'.ct δ) : okS r E' := by
  cases r with
  | no => exact h
  | nx δ => exact h1 δ h
  | rt d δ => exact h2 d δ h
  | bk δ => exact h4 δ h
  | ct δ => exact h5 δ h
  | ex k ds δ => exact h3 k ds δ h
/-- a loop by an invariant over how many items are done -/
theorem okS.for {t : List Nat} {b : Env → S3} {E : En3} (I : Nat → Env → Prop) : ∀ (ds : List D) (n : Nat) (δ : Env), I n δ →
    (∀ j d δ, ds[j]? = some d → I (n + j) δ → ∃ δ1, bindT t d δ = some δ1 ∧ okS (b δ1) { E with nx := I (n + j + 1), ct := I (n + j + 1), bk := E.nx }) →
    (∀ δ, I (n + ds.length) δ → E.nx δ) → okS (forGo t b ds δ) E
  | [], n, δ, h, _, fin => fin δ h
  | d :: ds, n, δ, h, step, fin => by
    obtain ⟨δ1, e, hb⟩ := step 0 d δ rfl h
    unfold forGo
    rw [e]
    have rec_ : ∀ δ2, I (n + 1) δ2 → okS (forGo t b ds δ2) E := fun δ2 h2 => okS.for I ds (n + 1) δ2 h2 (fun j d δ e h => by
      have := step (j + 1) d δ (by simpa using e) (by rw [← Nat.add_assoc, Nat.add_right_comm]; exact h)
      obtain ⟨δ1, h1, h2⟩ := this
      refine ⟨δ1, h1, ?_⟩
      have e2 : n + (j + 1) + 1 = n + 1 + j + 1 := by omega
      rw [e2] at h2
      exact h2) (fun δ h => fin δ (by
        have e2 : n + (d :: ds).length = n + 1 + ds.length := by simp; omega
        rw [e2]; exact h))
    show okS (match b δ1 with | .nx δ2 => forGo t b ds δ2 | .ct δ2 => forGo t b ds δ2 | .bk δ2 => .nx δ2 | r => r) E
    cases hr : b δ1 with
    | no => rw [hr] at hb; exact hb
    | nx δ2 => rw [hr] at hb; exact rec_ δ2 hb
    | ct δ2 => rw [hr] at hb; exact rec_ δ2 hb
    | bk δ2 => rw [hr] at hb; exact hb
    | rt d δ2 => rw [hr] at hb; exact hb
    | ex k ds δ2 => rw [hr] at hb; exact hb
/-! ### comprehensions over one slot -/
theorem lcGo_pure {α : Type} {f : D → Env → R (Option α)} {h : D → Option α} {S : D → Env → Env} : ∀ (ds : List D) (acc : List α) (δ : Env), acc.length + ds.length ≤ LIM →
    (∀ d ∈ ds, ∀ δ', (δ' = δ ∨ ∃ e ∈ ds, δ' = S e δ) → f d δ' = .ok (h d) (S d δ)) → ∃ δ', lcGo f ds acc δ = .ok (acc.reverse ++ ds.filterMap h) δ' ∧ (δ' = δ ∨ ∃ e ∈ ds, δ' = S e δ) := by
  intro ds acc δ hl hf
  have key : ∀ (es : List D) (acc : List α) (δ' : Env), (∀ e ∈ es, e ∈ ds) → acc.length + es.length ≤ LIM → (δ' = δ ∨ ∃ e ∈ ds, δ' = S e δ) →
      ∃ δ2, lcGo f es acc δ' = .ok (acc.reverse ++ es.filterMap h) δ2 ∧ (δ2 = δ ∨ ∃ e ∈ ds, δ2 = S e δ) := by
    intro es
    induction es with
    | nil => intro acc δ' _ _ hd; exact ⟨δ', by simp [lcGo], hd⟩
    | cons e es ih =>
      intro acc δ' hm hl hd
      have he := hf e (hm e List.mem_cons_self) δ' hd
      unfold lcGo
      rw [he]
      cases hh : h e with
      | none =>
        obtain ⟨δ2, h1, h2⟩ := ih acc (S e δ) (fun x hx => hm x (List.mem_cons_of_mem _ hx)) (by simp at hl; omega) (.inr ⟨e, hm e List.mem_cons_self, rfl⟩)
        exact ⟨δ2, by simp [h1, hh], h2⟩
      | some y =>
        obtain ⟨δ2, h1, h2⟩ := ih (y :: acc) (S e δ) (fun x hx => hm x (List.mem_cons_of_mem _ hx)) (by simp at hl ⊢; omega) (.inr ⟨e, hm e List.mem_cons_self, rfl⟩)
        refine ⟨δ2, ?_, h2⟩
        show (if acc.length < LIM then lcGo f es (y :: acc) (S e δ) else .no) = _
        rw [if_pos (by simp at hl; omega), h1]
        simp [hh]
  exact key ds acc δ (fun _ h => h) hl (.inl rfl)
theorem set_get_self {δ : Env} {i : Nat} (h : i < δ.length) : δ.set i ((δ[i]?).getD none) = δ := by
  apply List.ext_getElem?
  intro j
  rw [List.getElem?_set]
  by_cases e : i = j
  · subst e
    rw [if_pos rfl, if_pos h, List.getElem?_eq_getElem h]
    rfl
  · rw [if_neg e]
theorem lc_pure {i : Nat} {n : Str} {hasC : Bool} {it : Env → R (List D)} {c : Env → R Bool} {e : Env → R D} {δ δ1 : Env} {ds : List D} (h : D → Option D) (hi : it δ = .ok ds δ1) (hl : i < δ1.length) (hz : ds.length ≤ LIM)
    (hc : ∀ d ∈ ds, (match hasC with | false => True | true => c (δ1.set i (some d)) = .ok (h d).isSome (δ1.set i (some d))) ∧ ∀ y, h d = some y → e (δ1.set i (some d)) = .ok y (δ1.set i (some d)))
    (hn : hasC = false → ∀ d ∈ ds, (h d).isSome = true) : lcV [i] [(n, i)] hasC it c e δ = .ok (.lst (ds.filterMap h)) δ1 := by
  unfold lcV
  rw [hi]
  show (lcGo (lcF [i] hasC c e) ds [] (wip [(n, i)] δ1)).bnd _ = _
  have hw : wip [(n, i)] δ1 = δ1.set i none := rfl
  rw [hw]
  obtain ⟨δ', h1, h2⟩ := lcGo_pure (f := lcF [i] hasC c e) (h := h) (S := fun d δ => δ.set i (some d)) ds [] (δ1.set i none) (by simpa using hz) (fun d hd δ' hδ => by
    have e1 : δ'.set i (some d) = δ1.set i (some d) := by
      rcases hδ with rfl | ⟨x, _, rfl⟩ <;> simp [List.set_set]
    have e2 : (δ1.set i none).set i (some d) = δ1.set i (some d) := by simp [List.set_set]
    unfold lcF bindT
    simp only []
    rw [e1, e2]
    obtain ⟨c1, c2⟩ := hc d hd
    cases hasC with
    | false =>
      obtain ⟨y, hy⟩ := Option.isSome_iff_exists.mp (hn rfl d hd)
      show (e (δ1.set i (some d))).bnd _ = _
      rw [c2 y hy, hy]; rfl
    | true =>
      show (c (δ1.set i (some d))).bnd _ = _
      rw [show c (δ1.set i (some d)) = _ from c1]
      cases hh : h d with
      | none => rfl
      | some y =>
        show (if true = true then (e (δ1.set i (some d))).bnd (fun y δ5 => R.ok (some y) δ5) else R.ok none (δ1.set i (some d))) = _
        rw [if_pos rfl, c2 y hh]; rfl)
  rw [h1]
  show R.ok (D.lst ([].reverse ++ ds.filterMap h)) (back [(n, i)] δ1 δ') = _
  have hb : back [(n, i)] δ1 δ' = δ'.set i ((δ1[i]?).getD none) := rfl
  rw [hb]
  have : δ'.set i ((δ1[i]?).getD none) = δ1 := by
    rcases h2 with rfl | ⟨x, _, rfl⟩ <;> simp only [List.set_set] <;> exact set_get_self hl
  rw [this]
  simp
end Nc
namespace Nc
open PySem PySem.Spec PyProof.Rows L2
def sg1 (s : List Nat) : List D := s.map fun a => .str [a]
theorem sg1_len (s : List Nat) : (sg1 s).length = s.length := by simp [sg1]
theorem bls_map {α : Type} (p : α → Bool) : ∀ s : List α, bls (s.map fun a => .bl (p a)) = some (s.map p)
  | [] => rfl
  | a :: s => by
    have := bls_map p s
    simp [bls, this]
theorem dAll_map {α : Type} (p : α → Bool) (s : List α) : dAll [.lst (s.map fun a => .bl (p a))] = some (.bl (s.all p)) := by
  show (bls _).map _ = _
  rw [bls_map]
  simp [List.all_map, Function.comp_def]
theorem dAny_map {α : Type} (p : α → Bool) (s : List α) : dAny [.lst (s.map fun a => .bl (p a))] = some (.bl (s.any p)) := by
  show (bls _).map _ = _
  rw [bls_map]
  simp [List.any_map, Function.comp_def]
theorem strsOf_map {α : Type} (f : α → List Nat) : ∀ s : List α, strsOf (s.map fun a => .str (f a)) = some (s.map f)
  | [] => rfl
  | a :: s => by
    have := strsOf_map f s
    simp [strsOf, this]
theorem joinL_sg : ∀ s : List Nat, TL.joinL [] (s.map fun a => [a]) = s
  | [] => rfl
  | [a] => rfl
  | a :: b :: s => by
    have := joinL_sg (b :: s)
    simp only [List.map_cons] at this ⊢
    show [a] ++ ([] ++ TL.joinL [] ([b] :: s.map fun a => [a])) = _
    rw [this]; rfl
theorem sum_ones (s : List Nat) : ((s.map fun a => [a]).map List.length).sum = s.length := by
  induction s with
  | nil => rfl
  | cons a s ih => simp only [List.map_cons, List.sum_cons, ih, List.length_cons]; simp; omega
theorem dJoin_sg (s : List Nat) (h : s.length ≤ LIM) : dJoin [.str [], .lst (s.map fun a => .str [a])] = some (.str s) := by
  show (strsOf _).bind _ = _
  rw [strsOf_map (fun a => [a])]
  show (if ((s.map fun a => [a]).map List.length).sum + (s.map fun a => [a]).length * 0 ≤ LIM then _ else _) = _
  rw [sum_ones, Nat.mul_zero, Nat.add_zero, if_pos h, joinL_sg]
/-- [p(c) for c in s] -/
theorem lc_map {i : Nat} {n : Str} {it : Env → R (List D)} {c : Env → R Bool} {e : Env → R D} {δ δ1 : Env} {α : Type} (s : List α) (g f : α → D) (hi : it δ = .ok (s.map g) δ1) (hl : i < δ1.length) (hz : s.length ≤ LIM)
    (he : ∀ a ∈ s, e (δ1.set i (some (g a))) = .ok (f a) (δ1.set i (some (g a)))) (inj : ∀ a b, g a = g b → a = b) : lcV [i] [(n, i)] false it c e δ = .ok (.lst (s.map f)) δ1 := by
  have key : ∀ (h : D → Option D), (∀ a ∈ s, h (g a) = some (f a)) → (s.map g).filterMap h = s.map f := fun h hh => by
    rw [List.filterMap_map]
    clear hi hz he
    induction s with
    | nil => rfl
    | cons a s ih =>
      have e1 : (h ∘ g) a = some (f a) := hh a List.mem_cons_self
      rw [List.filterMap_cons, e1, List.map_cons, ih fun b hb => hh b (List.mem_cons_of_mem _ hb)]
  have ex : ∃ h : D → Option D, (∀ a ∈ s, h (g a) = some (f a)) ∧ ∀ d ∈ s.map g, (h d).isSome = true := by
    classical
    refine ⟨fun d => if hd : ∃ a, g a = d then some (f hd.choose) else none, fun a _ => ?_, fun d hd => ?_⟩
    · have hx : ∃ b, g b = g a := ⟨a, rfl⟩
      refine (dif_pos hx).trans ?_
      rw [inj _ _ hx.choose_spec]
    · obtain ⟨a, _, e2⟩ := List.mem_map.mp hd
      have hx : ∃ b, g b = d := ⟨a, e2⟩
      exact congrArg Option.isSome (dif_pos hx)
  obtain ⟨h, h1, h2⟩ := ex
  rw [← key h h1]
  refine lc_pure h hi hl (by simpa using hz) (fun d hd => ⟨trivial, fun y hy => ?_⟩) (fun _ => h2)
  obtain ⟨a, ha, rfl⟩ := List.mem_map.mp hd
  rw [h1 a ha] at hy
  cases hy
  exact he a ha
/-- [c for c in s if p(c)] -/
theorem lc_filter {i : Nat} {n : Str} {it : Env → R (List D)} {c : Env → R Bool} {e : Env → R D} {δ δ1 : Env} {α : Type} (s : List α) (g : α → D) (p : α → Bool) (hi : it δ = .ok (s.map g) δ1) (hl : i < δ1.length) (hz : s.length ≤ LIM)
    (hc : ∀ a ∈ s, c (δ1.set i (some (g a))) = .ok (p a) (δ1.set i (some (g a)))) (he : ∀ a ∈ s, e (δ1.set i (some (g a))) = .ok (g a) (δ1.set i (some (g a)))) (inj : ∀ a b, g a = g b → a = b) :
    lcV [i] [(n, i)] true it c e δ = .ok (.lst ((s.filter p).map g)) δ1 := by
  classical
  let h : D → Option D := fun d => if hd : ∃ a, g a = d then (if p hd.choose = true then some d else none) else none
  have hg : ∀ a, h (g a) = if p a = true then some (g a) else none := fun a => by
    have hx : ∃ b, g b = g a := ⟨a, rfl⟩
    show (if hd : ∃ b, g b = g a then _ else _) = _
    rw [dif_pos hx, inj _ _ hx.choose_spec]
  have key : (s.map g).filterMap h = (s.filter p).map g := by
    rw [List.filterMap_map]
    clear hi hz hc he
    induction s with
    | nil => rfl
    | cons a s ih =>
      have e1 : (h ∘ g) a = if p a = true then some (g a) else none := hg a
      rw [List.filterMap_cons, e1]
      by_cases hp : p a = true
      · rw [if_pos hp, List.filter_cons_of_pos hp]; simp [ih]
      · rw [if_neg hp, List.filter_cons_of_neg hp]; simp [ih]
  rw [← key]
  refine lc_pure h hi hl (by simpa using hz) (fun d hd => ?_) (fun z => by cases z)
  obtain ⟨a, ha, rfl⟩ := List.mem_map.mp hd
  refine ⟨?_, fun y hy => ?_⟩
  · show c _ = _
    rw [hc a ha, hg]
    by_cases hp : p a = true
    · rw [if_pos hp, hp]; rfl
    · rw [if_neg hp, show p a = false by simpa using hp]; rfl
  · rw [hg] at hy
    split at hy
    · cases hy; exact he a ha
    · cases hy
theorem str1_inj (a b : Nat) (h : D.str [a] = D.str [b]) : a = b := by simpa using h
end Nc
namespace Nc
open PySem PySem.Spec PyProof.Rows L2
theorem dIx_nat (xs : List D) (j : Nat) (h : j < xs.length) : dIx [.lst xs, .int j] = some xs[j] := by
  show atI xs (j : Int) = _
  unfold atI ixN
  rw [if_pos (by omega), if_pos (by omega)]
  simp [h]
theorem dIx_in (xs : List D) (i : Int) (h0 : 0 ≤ i) (h : i < xs.length) : dIx [.lst xs, .int i] = some (xs[i.toNat]'(by omega)) := by
  have := dIx_nat xs i.toNat (by omega)
  have e : ((i.toNat : Nat) : Int) = i := Int.toNat_of_nonneg h0
  rw [e] at this
  exact this
theorem dIx0 (a : D) (l : List D) : dIx [.lst (a :: l), .int 0] = some a := dIx_nat (a :: l) 0 (by simp)
theorem dIx1 (a b : D) (l : List D) : dIx [.lst (a :: b :: l), .int 1] = some b := dIx_nat (a :: b :: l) 1 (by simp)
theorem dIx2 (a b c : D) (l : List D) : dIx [.lst (a :: b :: c :: l), .int 2] = some c := dIx_nat (a :: b :: c :: l) 2 (by simp)
theorem dIx3 (a b c d : D) (l : List D) : dIx [.lst (a :: b :: c :: d :: l), .int 3] = some d := dIx_nat (a :: b :: c :: d :: l) 3 (by simp)
theorem stD_nat (xs : List D) (j : Nat) (x : D) (h : j < xs.length) : stD (.lst xs) (.int j) x = some (.lst (xs.set j x)) := by
  show (ixN xs.length (j : Int)).map _ = _
  unfold ixN
  rw [if_pos (by omega), if_pos (by omega)]
  simp
theorem stD1 (a b x : D) (l : List D) : stD (.lst (a :: b :: l)) (.int 1) x = some (.lst (a :: x :: l)) := stD_nat (a :: b :: l) 1 x (by simp)
theorem stD2 (a b c x : D) (l : List D) : stD (.lst (a :: b :: c :: l)) (.int 2) x = some (.lst (a :: b :: x :: l)) := stD_nat (a :: b :: c :: l) 2 x (by simp)
theorem stD3 (a b c d x : D) (l : List D) : stD (.lst (a :: b :: c :: d :: l)) (.int 3) x = some (.lst (a :: b :: c :: x :: l)) := stD_nat (a :: b :: c :: d :: l) 3 x (by simp)
end Nc
namespace Nc
def SIGNS : List Nat := [97, 98, 99, 65, 66, 67, 48, 49, 45, 95, 46, 47]
end Nc
namespace Nc
open PySem PySem.Spec PyProof.Rows L2
theorem dLst_ok (ds : List D) (h : ds.length ≤ 100) : dLst ds = some (.lst ds) := if_pos (Nat.le_trans h (by decide))
theorem dTup_ok (ds : List D) (h : ds.length ≤ 100) : dTup ds = some (.tup ds) := if_pos (Nat.le_trans h (by decide))
theorem dIx_mem (xs : List D) (i : Int) (h0 : 0 ≤ i) (h : i < xs.length) : ∃ x ∈ xs, dIx [.lst xs, .int i] = some x := ⟨_, List.getElem_mem _, dIx_in xs i h0 h⟩
theorem rng1 (n : Int) (h0 : 0 ≤ n) (h : n ≤ 1000) : rngD [.int n] = some ((List.range n.toNat).map fun (k : Nat) => .int k) := by
  unfold rngD
  exact if_pos (by have : (LIM : Int) = 16777216 := rfl; omega)
theorem evS_cons (T : Tb) (s r : Sm) (δ : Env) : evS T (.cons s r) δ = (evS T s δ).seq (evS T r) := rfl
theorem evS_nil (T : Tb) (δ : Env) : evS T .nil δ = .nx δ := rfl
def rtE (P : D → Env → Prop) : En3 := ⟨fun _ => False, P, fun _ _ _ => False, fun _ => False, fun _ => False⟩
theorem fnD_ok {T : Tb} {s : Sig} {sm : Sm} {k : Nat} {ds : List D} {P : D → Env → Prop} (h : okS (evS T sm (eStart k ds)) (rtE P)) : ∃ d δ, P d δ ∧ fnD T s sm k ds = some (.val d (ioD s.ps δ)) := by
  unfold fnD
  cases hr : evS T sm (eStart k ds) with
  | rt d δ => rw [hr] at h; exact ⟨d, δ, h, rfl⟩
  | _ => rw [hr] at h; exact h.elim
/-- pop(i) of a list of texts -/
theorem popA_in (xs : List D) (i : Int) (h0 : 0 ≤ i) (h : i < xs.length) (hz : xs.length ≤ 100) : muD .popA (.lst xs) [.int i] = some (.lst (xs.eraseIdx i.toNat), xs[i.toNat]'(by omega)) := by
  show (if xs.length > LIM then none else (ixN xs.length i).bind fun k => (xs[k]?).map fun x => (D.lst (xs.eraseIdx k), x)) = _
  have : LIM = 16777216 := rfl
  rw [if_neg (by omega)]
  unfold ixN
  rw [if_pos h0, if_pos h]
  have hl : i.toNat < xs.length := by omega
  simp [hl]
end Nc
namespace Nc
open PySem PySem.Spec PyProof.Rows L2
theorem okS_fr {T : Tb} {t : List Nat} {it : Ex} {b : Sm} {δ δ1 : Env} {ds : List D} {E : En3} (I : Nat → Env → Prop) (hi : evi T it δ = .ok ds δ1) (h0 : I 0 δ1)
    (step : ∀ j d δ, ds[j]? = some d → I j δ → ∃ δ1, bindT t d δ = some δ1 ∧ okS (evS T b δ1) { E with nx := I (j + 1), ct := I (j + 1), bk := E.nx }) (fin : ∀ δ, I ds.length δ → E.nx δ) : okS (evS T (.fr t it b) δ) E := by
  show okS ((evi T it δ).st fun ds δ1 => forGo t (evS T b) ds δ1) E
  rw [hi]
  exact okS.for I ds 0 δ1 h0 (fun j d δ e h => by
    rw [Nat.zero_add] at h ⊢
    exact step j d δ e h) (fun δ h => fin δ (by rw [Nat.zero_add] at h; exact h))
theorem okS_eq {r r' : S3} {E : En3} (h : r = r') (q : okS r' E) : okS r E := h ▸ q
end Nc

set_option Elab.async false
set_option linter.all false
set_option autoImplicit false
set_option maxRecDepth 100000
set_option maxHeartbeats 4000000
/-! More plain rules: steps, while loops, dicts, slices, comprehensions. -/
namespace Nc
open PySem PySem.Spec PyProof.Rows L2
def SMALL : List Nat := [97, 98, 99, 100, 101, 102, 103, 104, 105, 106, 107, 108, 109, 110, 111, 112, 113, 114, 115, 116, 117, 118, 119, 120, 121, 122]
theorem okS_run {T : Tb} {s r : Sm} {δ δ1 : Env} {E : En3} (h : evS T s δ = .nx δ1) (q : okS (evS T r δ1) E) : okS (evS T (.cons s r) δ) E := by
  rw [evS_cons, h]; exact q
/-- a statement that ends so or so -/
theorem okS_seq {T : Tb} {s r : Sm} {δ : Env} {E : En3} (N : Env → Prop) (h : okS (evS T s δ) { E with nx := N }) (k : ∀ δ, N δ → okS (evS T r δ) E) : okS (evS T (.cons s r) δ) E := by
  rw [evS_cons]; exact okS.seq h k
theorem okS_end {T : Tb} {δ : Env} {E : En3} (h : E.nx δ) : okS (evS T .nil δ) E := h
theorem okS_whl {c : Env → R Bool} {b : Env → S3} {E : En3} (I : Nat → Env → Prop) (st : ∀ n δ, I n δ → (∃ δ1, c δ = .ok false δ1 ∧ E.nx δ1) ∨ (∃ δ1, c δ = .ok true δ1 ∧ okS (b δ1) { E with nx := fun δ2 => ∃ m, m < n ∧ I m δ2, ct := fun δ2 => ∃ m, m < n ∧ I m δ2, bk := E.nx })) :
    ∀ (fuel n : Nat) (δ : Env), n < fuel → I n δ → okS (whlGo c b fuel δ) E
  | 0, n, δ, h, _ => absurd h (by omega)
  | fuel + 1, n, δ, h, hi => by
    unfold whlGo
    rcases st n δ hi with ⟨δ1, e, q⟩ | ⟨δ1, e, q⟩
    · rw [e]; exact q
    · rw [e]
      show okS (match b δ1 with | .nx δ2 => whlGo c b fuel δ2 | .ct δ2 => whlGo c b fuel δ2 | .bk δ2 => .nx δ2 | r => r) E
      cases hr : b δ1 with
      | no => rw [hr] at q; exact q
      | nx δ2 => rw [hr] at q; obtain ⟨m, hm, im⟩ := q; exact okS_whl I st fuel m δ2 (by omega) im
      | ct δ2 => rw [hr] at q; obtain ⟨m, hm, im⟩ := q; exact okS_whl I st fuel m δ2 (by omega) im
      | bk δ2 => rw [hr] at q; exact q
      | rt d δ2 => rw [hr] at q; exact q
      | ex k ds δ2 => rw [hr] at q; exact q
/-! ### dicts with texts as keys -/
section
variable {α : Type}
def kvM (g : α → D) (fs : List (List Nat × α)) : List (Kd × D) := fs.map fun p => (.inr p.1, g p.2)
theorem kvM_len (g : α → D) (fs : List (List Nat × α)) : (kvM g fs).length = fs.length := by simp [kvM]
theorem dGet_find (g : α → D) (n : List Nat) : ∀ fs : List (List Nat × α), dGet (kvM g fs) (.inr n) = (fs.find? fun p => decide (p.1 = n)).map fun p => g p.2
  | [] => rfl
  | p :: fs => by
    show dGet ((.inr p.1, g p.2) :: kvM g fs) (.inr n) = _
    rw [dget_cons, List.find?_cons]
    by_cases h : p.1 = n
    · rw [if_pos (by rw [h])]; simp [h]
    · rw [if_neg (by simpa using h), dGet_find g n fs]; simp [h]
theorem find_nd : ∀ {fs : List (List Nat × α)} {p : List Nat × α}, (fs.map (·.1)).Nodup → p ∈ fs → (fs.find? fun q => decide (q.1 = p.1)) = some p
  | [], p, _, h => by cases h
  | q :: fs, p, nd, h => by
    rw [List.find?_cons]
    rw [List.map_cons, List.nodup_cons] at nd
    rcases List.mem_cons.mp h with rfl | h
    · simp
    · have : q.1 ≠ p.1 := fun e => nd.1 (e ▸ List.mem_map_of_mem (f := (·.1)) h)
      simp [this, find_nd nd.2 h]
theorem dGet_mem (g : α → D) {fs : List (List Nat × α)} (nd : (fs.map (·.1)).Nodup) {p : List Nat × α} (h : p ∈ fs) : dGet (kvM g fs) (.inr p.1) = some (g p.2) := by
  rw [dGet_find, find_nd nd h]; rfl
theorem dGet_non (g : α → D) {fs : List (List Nat × α)} {n : List Nat} (h : n ∉ fs.map (·.1)) : dGet (kvM g fs) (.inr n) = none := by
  rw [dGet_find, List.find?_eq_none.mpr]; rfl
  intro p hp
  simp only [decide_eq_true_eq]
  exact fun e => h (e ▸ List.mem_map_of_mem (f := (·.1)) hp)
theorem dGet_some (g : α → D) (fs : List (List Nat × α)) (n : List Nat) : (dGet (kvM g fs) (.inr n)).isSome = decide (n ∈ fs.map (·.1)) := by
  rw [Bool.eq_iff_iff, decide_eq_true_eq, dGet_find, Option.isSome_map, List.find?_isSome, List.mem_map]
  constructor
  · rintro ⟨p, h, e⟩; exact ⟨p, h, by simpa using e⟩
  · rintro ⟨p, h, e⟩; exact ⟨p, h, by simpa using e⟩
theorem putD_new (g : α → D) {fs : List (List Nat × α)} {n : List Nat} {a : α} (h : n ∉ fs.map (·.1)) : putD (kvM g fs) (.inr n) (g a) = kvM g (fs ++ [(n, a)]) := by
  unfold putD
  rw [if_neg]
  · simp [kvM]
  · simp only [kvM, List.any_map, List.any_eq_true, Function.comp_apply, decide_eq_true_eq, not_exists, not_and]
    intro p hp e
    exact h (Sum.inr.inj e ▸ List.mem_map_of_mem (f := (·.1)) hp)
theorem items_kvM (g : α → D) (fs : List (List Nat × α)) : items (.dct (kvM g fs)) = some (fs.map fun p => .str p.1) := by
  unfold items kvM
  simp [List.map_map, Function.comp_def, kD]
theorem keyS_kvM (g : α → D) : ∀ fs : List (List Nat × α), keyS (kvM g fs) = some (fs.map (·.1))
  | [] => rfl
  | p :: fs => by
    show (keyS (kvM g fs)).map _ = _
    rw [keyS_kvM g fs]; rfl
end
/-! ### slices, enumerate -/
theorem cut_take {α : Type} (xs : List α) (j : Nat) : cutL xs none (some (j : Int)) = xs.take j := by
  unfold cutL
  rw [HT.sIx_none, HT.sIx_nat, List.drop_zero, Nat.sub_zero]
  by_cases h : j ≤ xs.length
  · rw [Nat.min_eq_left h]
  · rw [Nat.min_eq_right (by omega), List.take_of_length_le (Nat.le_refl _), List.take_of_length_le (by omega)]
theorem cut_drop {α : Type} (xs : List α) (j : Nat) : cutL xs (some (j : Int)) none = xs.drop j := by
  unfold cutL
  rw [HT.sIx_none, HT.sIx_nat]
  by_cases h : j ≤ xs.length
  · rw [Nat.min_eq_left h, List.take_of_length_le (by simp)]
  · rw [Nat.min_eq_right (by omega), List.drop_of_length_le (Nat.le_refl _), List.drop_of_length_le (by omega)]; simp
theorem cut_mid {α : Type} (xs : List α) (j : Nat) : cutL xs (some (j : Int)) (some ((j : Int) + 1)) = (xs.drop j).take 1 := by
  unfold cutL
  have e : ((j : Int) + 1) = ((j + 1 : Nat) : Int) := by omega
  rw [e, HT.sIx_nat, HT.sIx_nat]
  by_cases h : j + 1 ≤ xs.length
  · rw [Nat.min_eq_left h, Nat.min_eq_left (by omega)]
    congr 1; omega
  · rw [Nat.min_eq_right (by omega : xs.length ≤ j + 1)]
    by_cases h2 : j ≤ xs.length
    · rw [Nat.min_eq_left h2, List.drop_of_length_le (by omega)]; simp
    · rw [Nat.min_eq_right (by omega), List.drop_of_length_le (Nat.le_refl _), List.drop_of_length_le (by omega)]; simp
theorem enmL_len : ∀ (ds : List D) (k : Nat), (enmL k ds).length = ds.length
  | [], _ => rfl
  | d :: ds, k => by simp [enmL, enmL_len ds (k + 1)]
theorem enmL_get : ∀ (ds : List D) (k j : Nat), (enmL k ds)[j]? = (ds[j]?).map fun d => .tup [.int ((k + j : Nat) : Int), d]
  | [], k, j => by simp [enmL]
  | d :: ds, k, 0 => by simp [enmL]
  | d :: ds, k, j + 1 => by
    have e : k + (j + 1) = k + 1 + j := by omega
    rw [e]
    show (enmL (k + 1) ds)[j]? = _
    rw [enmL_get ds (k + 1) j]; rfl
theorem enm_inv {ds : List D} {j : Nat} {x : D} (h : (enmL 0 ds)[j]? = some x) : ∃ d, ds[j]? = some d ∧ x = .tup [.int (j : Int), d] := by
  rw [enmL_get] at h
  obtain ⟨d, h1, h2⟩ := Option.map_eq_some_iff.mp h
  exact ⟨d, h1, by rw [← h2, Nat.zero_add]⟩
theorem range_inv {n j : Nat} {x : D} (h : ((List.range n).map fun (k : Nat) => D.int k)[j]? = some x) : j < n ∧ x = .int (j : Int) := by
  rw [List.getElem?_map] at h
  obtain ⟨d, h1, h2⟩ := Option.map_eq_some_iff.mp h
  obtain ⟨h3, h4⟩ := List.getElem?_eq_some_iff.mp h1
  rw [List.getElem_range] at h4
  rw [List.length_range] at h3
  exact ⟨h3, by rw [← h2, ← h4]⟩
theorem map_inv {α : Type} {g : α → D} {s : List α} {j : Nat} {x : D} (h : (s.map g)[j]? = some x) : ∃ a, s[j]? = some a ∧ a ∈ s ∧ x = g a := by
  rw [List.getElem?_map] at h
  obtain ⟨d, h1, h2⟩ := Option.map_eq_some_iff.mp h
  exact ⟨d, h1, List.mem_of_getElem? h1, h2.symm⟩
/-! ### comprehensions over a mapped list -/
theorem lcGo_fm {α β : Type} {f : D → Env → R (Option β)} {g : α → D} {y : α → Option β} {S : D → Env → Env} (s : List α) (δ : Env) (hf : ∀ a ∈ s, ∀ δ', (δ' = δ ∨ ∃ b ∈ s, δ' = S (g b) δ) → f (g a) δ' = .ok (y a) (S (g a) δ)) (hl : s.length ≤ LIM) :
    ∃ δ', lcGo f (s.map g) [] δ = .ok (s.filterMap y) δ' ∧ (δ' = δ ∨ ∃ b ∈ s, δ' = S (g b) δ) := by
  have key : ∀ (es : List α) (acc : List β) (δ' : Env), (∀ e ∈ es, e ∈ s) → acc.length + es.length ≤ LIM → (δ' = δ ∨ ∃ e ∈ s, δ' = S (g e) δ) →
      ∃ δ2, lcGo f (es.map g) acc δ' = .ok (acc.reverse ++ es.filterMap y) δ2 ∧ (δ2 = δ ∨ ∃ e ∈ s, δ2 = S (g e) δ) := by
    intro es
    induction es with
    | nil => intro acc δ' _ _ hd; exact ⟨δ', by simp [lcGo], hd⟩
    | cons e es ih =>
      intro acc δ' hm hl hd
      have he := hf e (hm e List.mem_cons_self) δ' hd
      show ∃ δ2, lcGo f (g e :: es.map g) acc δ' = _ ∧ _
      unfold lcGo
      rw [he]
      cases hh : y e with
      | none =>
        obtain ⟨δ2, h1, h2⟩ := ih acc (S (g e) δ) (fun x hx => hm x (List.mem_cons_of_mem _ hx)) (by simp at hl; omega) (.inr ⟨e, hm e List.mem_cons_self, rfl⟩)
        exact ⟨δ2, by simp [h1, hh], h2⟩
      | some z =>
        obtain ⟨δ2, h1, h2⟩ := ih (z :: acc) (S (g e) δ) (fun x hx => hm x (List.mem_cons_of_mem _ hx)) (by simp at hl ⊢; omega) (.inr ⟨e, hm e List.mem_cons_self, rfl⟩)
        refine ⟨δ2, ?_, h2⟩
        show (if acc.length < LIM then lcGo f (es.map g) (z :: acc) (S (g e) δ) else .no) = _
        rw [if_pos (by simp at hl; omega), h1]
        simp [hh]
  exact key s [] δ (fun _ h => h) (by simpa using hl) (.inl rfl)
theorem back_self {δ1 δ' : Env} {i : Nat} {P : D → Prop} (hl : i < δ1.length) (h2 : δ' = δ1.set i none ∨ ∃ b, P b ∧ δ' = (δ1.set i none).set i (some b)) : δ'.set i ((δ1[i]?).getD none) = δ1 := by
  rcases h2 with rfl | ⟨x, _, rfl⟩ <;> simp only [List.set_set] <;> exact set_get_self hl
/-- [e for x in s if c] -/
theorem lc_fm {i : Nat} {n : Str} {it : Env → R (List D)} {c : Env → R Bool} {e : Env → R D} {δ δ1 : Env} {α : Type} (s : List α) (g : α → D) (y : α → Option D) (hi : it δ = .ok (s.map g) δ1) (hl : i < δ1.length) (hz : s.length ≤ LIM)
    (h : ∀ a ∈ s, (y a = none ∧ c (δ1.set i (some (g a))) = .ok false (δ1.set i (some (g a)))) ∨ ∃ d, y a = some d ∧ c (δ1.set i (some (g a))) = .ok true (δ1.set i (some (g a))) ∧ e (δ1.set i (some (g a))) = .ok d (δ1.set i (some (g a)))) :
    lcV [i] [(n, i)] true it c e δ = .ok (.lst (s.filterMap y)) δ1 := by
  unfold lcV
  rw [hi]
  show (lcGo (lcF [i] true c e) (s.map g) [] (δ1.set i none)).bnd _ = _
  obtain ⟨δ', h1, h2⟩ := lcGo_fm (f := lcF [i] true c e) (y := y) (g := g) (S := fun d δ => δ.set i (some d)) s (δ1.set i none) (fun a ha δ' hδ => by
    have e1 : δ'.set i (some (g a)) = δ1.set i (some (g a)) := by
      rcases hδ with rfl | ⟨x, _, rfl⟩ <;> simp [List.set_set]
    have e2 : (δ1.set i none).set i (some (g a)) = δ1.set i (some (g a)) := by simp [List.set_set]
    unfold lcF bindT
    simp only []
    rw [e1, e2]
    show (c (δ1.set i (some (g a)))).bnd _ = _
    rcases h a ha with ⟨h1, h2⟩ | ⟨d, h1, h2, h3⟩
    · rw [h2, h1]; rfl
    · rw [h2, h1]
      show (if true = true then (e (δ1.set i (some (g a)))).bnd (fun y δ5 => R.ok (some y) δ5) else R.ok none (δ1.set i (some (g a)))) = _
      rw [if_pos rfl, h3]; rfl) hz
  rw [h1]
  show R.ok (D.lst (s.filterMap y)) (δ'.set i ((δ1[i]?).getD none)) = _
  rw [back_self (P := fun b => ∃ a ∈ s, g a = b) hl]
  rcases h2 with h2 | ⟨b, hb, h2⟩
  · exact .inl h2
  · exact .inr ⟨g b, ⟨b, hb, rfl⟩, h2⟩
/-- [e for x in s] -/
theorem lc_mp {i : Nat} {n : Str} {it : Env → R (List D)} {c : Env → R Bool} {e : Env → R D} {δ δ1 : Env} {α : Type} (s : List α) (g f : α → D) (hi : it δ = .ok (s.map g) δ1) (hl : i < δ1.length) (hz : s.length ≤ LIM)
    (h : ∀ a ∈ s, e (δ1.set i (some (g a))) = .ok (f a) (δ1.set i (some (g a)))) : lcV [i] [(n, i)] false it c e δ = .ok (.lst (s.map f)) δ1 := by
  unfold lcV
  rw [hi]
  show (lcGo (lcF [i] false c e) (s.map g) [] (δ1.set i none)).bnd _ = _
  obtain ⟨δ', h1, h2⟩ := lcGo_fm (f := lcF [i] false c e) (y := fun a => some (f a)) (g := g) (S := fun d δ => δ.set i (some d)) s (δ1.set i none) (fun a ha δ' hδ => by
    have e1 : δ'.set i (some (g a)) = δ1.set i (some (g a)) := by
      rcases hδ with rfl | ⟨x, _, rfl⟩ <;> simp [List.set_set]
    have e2 : (δ1.set i none).set i (some (g a)) = δ1.set i (some (g a)) := by simp [List.set_set]
    unfold lcF bindT
    simp only []
    rw [e1, e2, h a ha]; rfl) hz
  rw [h1, List.filterMap_eq_map']
  show R.ok (D.lst (s.map f)) (δ'.set i ((δ1[i]?).getD none)) = _
  rw [back_self (P := fun b => ∃ a ∈ s, g a = b) hl]
  rcases h2 with h2 | ⟨b, hb, h2⟩
  · exact .inl h2
  · exact .inr ⟨g b, ⟨b, hb, rfl⟩, h2⟩
theorem dOf_nd {α : Type} (g : α → D) : ∀ (s acc : List (List Nat × α)), ((acc ++ s).map (·.1)).Nodup → dOf (s.map fun p => (.str p.1, g p.2)) (kvM g acc) = some (kvM g (acc ++ s))
  | [], acc, _ => by simp [dOf]
  | p :: s, acc, nd => by
    show dOf (s.map fun p => (.str p.1, g p.2)) (putD (kvM g acc) (.inr p.1) (g p.2)) = _
    have hn : p.1 ∉ acc.map (·.1) := by
      rw [List.map_append, List.nodup_append] at nd
      exact fun h => nd.2.2 _ h _ (by simp) rfl
    rw [putD_new g hn]
    have e : acc ++ p :: s = (acc ++ [(p.1, p.2)]) ++ s := by simp
    rw [e] at nd ⊢
    exact dOf_nd g s (acc ++ [(p.1, p.2)]) nd
/-- {k: e for x in s} -/
theorem dc_mp {i : Nat} {n : Str} {it : Env → R (List D)} {c : Env → R Bool} {k e : Env → R D} {δ δ1 : Env} {α β : Type} (s : List α) (g : α → D) (v : β → D) (f : α → List Nat × β) (hi : it δ = .ok (s.map g) δ1) (hl : i < δ1.length) (hz : s.length ≤ LIM) (nd : (s.map fun a => (f a).1).Nodup)
    (h : ∀ a ∈ s, k (δ1.set i (some (g a))) = .ok (.str (f a).1) (δ1.set i (some (g a))) ∧ e (δ1.set i (some (g a))) = .ok (v (f a).2) (δ1.set i (some (g a)))) : dcV [i] [(n, i)] false it c k e δ = .ok (.dct (kvM v (s.map f))) δ1 := by
  unfold dcV
  rw [hi]
  show (lcGo (lcF [i] false c fun δ2 => (k δ2).bnd fun x δ3 => (e δ3).bnd fun y δ4 => .ok (x, y) δ4) (s.map g) [] (δ1.set i none)).bnd _ = _
  obtain ⟨δ', h1, h2⟩ := lcGo_fm (f := lcF [i] false c fun δ2 => (k δ2).bnd fun x δ3 => (e δ3).bnd fun y δ4 => .ok (x, y) δ4) (y := fun a => some (D.str (f a).1, v (f a).2)) (g := g) (S := fun d δ => δ.set i (some d)) s (δ1.set i none) (fun a ha δ' hδ => by
    have e1 : δ'.set i (some (g a)) = δ1.set i (some (g a)) := by
      rcases hδ with rfl | ⟨x, _, rfl⟩ <;> simp [List.set_set]
    have e2 : (δ1.set i none).set i (some (g a)) = δ1.set i (some (g a)) := by simp [List.set_set]
    unfold lcF bindT
    simp only []
    rw [e1, e2, (h a ha).1]
    show ((e (δ1.set i (some (g a)))).bnd _).bnd _ = _
    rw [(h a ha).2]; rfl) hz
  rw [h1, List.filterMap_eq_map']
  show (match dOf (s.map fun a => (D.str (f a).1, v (f a).2)) [] with | some kvs => R.ok (D.dct kvs) (δ'.set i ((δ1[i]?).getD none)) | none => .no) = _
  have e3 := dOf_nd v (s.map f) [] (by rw [List.nil_append, List.map_map]; exact nd)
  rw [List.map_map, List.nil_append] at e3
  rw [show (s.map fun a => (D.str (f a).1, v (f a).2)) = s.map ((fun p => (D.str p.1, v p.2)) ∘ f) from rfl, show ([] : List (Kd × D)) = kvM v [] from rfl, e3]
  show R.ok _ (δ'.set i ((δ1[i]?).getD none)) = _
  rw [back_self (P := fun b => ∃ a ∈ s, g a = b) hl]
  rcases h2 with h2 | ⟨b, hb, h2⟩
  · exact .inl h2
  · exact .inr ⟨g b, ⟨b, hb, rfl⟩, h2⟩
/-! ### == of data that are equal -/
theorem eqAll_same {f : D → D → Option Bool} : ∀ {ds : List D}, (∀ d ∈ ds, f d d = some true) → eqAll f ds ds = some true
  | [], _ => rfl
  | d :: ds, h => by
    unfold eqAll
    rw [h d List.mem_cons_self, eqAll_same fun e he => h e (List.mem_cons_of_mem _ he)]; rfl
theorem eqAllK_same {f : D → D → Option Bool} {ls : List (Kd × D)} : ∀ {ks : List (Kd × D)}, (∀ p ∈ ks, dGet ls p.1 = some p.2 ∧ f p.2 p.2 = some true) → eqAllK f ls ks = some true
  | [], _ => rfl
  | (k, x) :: ks, h => by
    unfold eqAllK
    obtain ⟨h1, h2⟩ := h (k, x) List.mem_cons_self
    rw [show dGet ls k = some x from h1]
    show (match f x x, eqAllK f ls ks with | some a, some b => some (a && b) | _, _ => none) = _
    rw [show f x x = some true from h2, eqAllK_same fun p hp => h p (List.mem_cons_of_mem _ hp)]; rfl
end Nc
namespace Nc
open PySem PySem.Spec PyProof.Rows L2
/-- how a def ends -/
theorem fnD_gen {T : Tb} {s : Sig} {sm : Sm} {k : Nat} {ds : List D} {E : En3} (h : okS (evS T sm (eStart k ds)) E) (hb : ∀ δ, ¬ E.bk δ) (hc : ∀ δ, ¬ E.ct δ) :
    (∃ δ, E.nx δ ∧ fnD T s sm k ds = some (.val .non (ioD s.ps δ))) ∨ (∃ d δ, E.rt d δ ∧ fnD T s sm k ds = some (.val d (ioD s.ps δ))) ∨ ∃ e xs δ, E.ex e xs δ ∧ fnD T s sm k ds = some (.exc e xs (ioD s.ps δ)) := by
  unfold fnD
  cases hr : evS T sm (eStart k ds) with
  | no => rw [hr] at h; exact h.elim
  | nx δ => rw [hr] at h; exact .inl ⟨δ, h, rfl⟩
  | rt d δ => rw [hr] at h; exact .inr (.inl ⟨d, δ, h, rfl⟩)
  | ex e xs δ => rw [hr] at h; exact .inr (.inr ⟨e, xs, δ, h, rfl⟩)
  | bk δ => rw [hr] at h; exact absurd h (hb δ)
  | ct δ => rw [hr] at h; exact absurd h (hc δ)
def nxE (P : Env → Prop) : En3 := ⟨P, fun _ _ => False, fun _ _ _ => False, fun _ => False, fun _ => False⟩
def exE (P : Str → List D → Env → Prop) : En3 := ⟨fun _ => False, fun _ _ => False, P, fun _ => False, fun _ => False⟩
theorem fnD_nx {T : Tb} {s : Sig} {sm : Sm} {k : Nat} {ds : List D} {P : Env → Prop} (h : okS (evS T sm (eStart k ds)) (nxE P)) : ∃ δ, P δ ∧ fnD T s sm k ds = some (.val .non (ioD s.ps δ)) := by
  rcases fnD_gen (s := s) h (fun _ z => z) (fun _ z => z) with ⟨δ, p, e⟩ | ⟨d, δ, p, e⟩ | ⟨x, xs, δ, p, e⟩
  · exact ⟨δ, p, e⟩
  · exact p.elim
  · exact p.elim
theorem fnD_ex {T : Tb} {s : Sig} {sm : Sm} {k : Nat} {ds : List D} {P : Str → List D → Env → Prop} (h : okS (evS T sm (eStart k ds)) (exE P)) : ∃ x xs δ, P x xs δ ∧ fnD T s sm k ds = some (.exc x xs (ioD s.ps δ)) := by
  rcases fnD_gen (s := s) h (fun _ z => z) (fun _ z => z) with ⟨δ, p, e⟩ | ⟨d, δ, p, e⟩ | ⟨x, xs, δ, p, e⟩
  · exact p.elim
  · exact p.elim
  · exact ⟨x, xs, δ, p, e⟩
/-- == of data of a kind -/
theorem dSlL_take (ds : List D) (j : Nat) : dSlL false true [.lst ds, .int (j : Int)] = some (.lst (ds.take j)) := by
  show some (D.lst (cutL ds none (some (j : Int)))) = _
  rw [cut_take]
theorem dSlA_take (ds : List D) (j : Nat) : dSlA false true [.lst ds, .int (j : Int)] = some (.lst (ds.take j)) := by
  show some (D.lst (cutL ds none (some (j : Int)))) = _
  rw [cut_take]
theorem dSlA_takeT (ds : List D) (j : Nat) : dSlA false true [.tup ds, .int (j : Int)] = some (.tup (ds.take j)) := by
  show some (D.tup (cutL ds none (some (j : Int)))) = _
  rw [cut_take]
theorem dSlT_take (ds : List D) (j : Nat) : dSlT false true [.tup ds, .int (j : Int)] = some (.tup (ds.take j)) := by
  show some (D.tup (cutL ds none (some (j : Int)))) = _
  rw [cut_take]
theorem dSlL_drop (ds : List D) (j : Nat) : dSlL true false [.lst ds, .int (j : Int)] = some (.lst (ds.drop j)) := by
  show some (D.lst (cutL ds (some (j : Int)) none)) = _
  rw [cut_drop]
theorem dSlT_mid (ds : List D) (j : Nat) : dSlT true true [.tup ds, .int (j : Int), .int ((j : Int) + 1)] = some (.tup ((ds.drop j).take 1)) := by
  show some (D.tup (cutL ds (some (j : Int)) (some ((j : Int) + 1)))) = _
  rw [cut_mid]
end Nc
namespace Nc
open PySem PySem.Spec PyProof.Rows L2
theorem evi_rng {T : Tb} {es : Ex} {δ δ1 : Env} {ds xs : List D} (h : evs T es δ = .ok ds δ1) (h2 : rngD ds = some xs) : evi T (.rng es) δ = .ok xs δ1 := by
  show (evs T es δ).bnd _ = _
  rw [h]
  show (match rngD ds with | some ds => R.ok ds δ1 | none => .no) = _
  rw [h2]
end Nc
namespace Nc
open PySem PySem.Spec PyProof.Rows L2
/-! ### walks and comprehensions over pairs -/
theorem enmL_zip {α : Type} (g : α → D) : ∀ (v : List α) (k : Nat), enmL k (v.map g) = (v.zipIdx k).map fun p => .tup [.int (p.2 : Int), g p.1]
  | [], _ => rfl
  | a :: v, k => by
    rw [List.zipIdx_cons, List.map_cons, List.map_cons, ← enmL_zip g v (k + 1)]; rfl
/-- [e for x, y in s] -/
theorem lc_mp2 {i j : Nat} {n1 n2 : Str} {it : Env → R (List D)} {c : Env → R Bool} {e : Env → R D} {δ δ1 : Env} {α : Type} (s : List α) (g1 g2 f : α → D) (hij : i ≠ j) (hi : it δ = .ok (s.map fun a => .tup [g1 a, g2 a]) δ1) (li : i < δ1.length) (lj : j < δ1.length) (hz : s.length ≤ LIM)
    (h : ∀ a ∈ s, e ((δ1.set i (some (g1 a))).set j (some (g2 a))) = .ok (f a) ((δ1.set i (some (g1 a))).set j (some (g2 a)))) : lcV [i, j] [(n1, i), (n2, j)] false it c e δ = .ok (.lst (s.map f)) δ1 := by
  unfold lcV
  rw [hi]
  have hw : wip [(n1, i), (n2, j)] δ1 = (δ1.set i none).set j none := rfl
  show (lcGo (lcF [i, j] false c e) (s.map fun a => .tup [g1 a, g2 a]) [] (wip [(n1, i), (n2, j)] δ1)).bnd _ = _
  rw [hw]
  have ov : ∀ (x y x' y' : Option D), (((δ1.set i x).set j y).set i x').set j y' = (δ1.set i x').set j y' := fun x y x' y' => by
    rw [List.set_comm _ _ (Ne.symm hij), List.set_set, List.set_set]
  obtain ⟨δ', h1, h2⟩ := lcGo_fm (f := lcF [i, j] false c e) (y := fun a => some (f a)) (g := fun a => .tup [g1 a, g2 a]) (S := fun d δ => match d with | .tup [x, y] => (δ.set i (some x)).set j (some y) | _ => δ) s ((δ1.set i none).set j none) (fun a ha δ' hδ => by
    have e1 : (δ'.set i (some (g1 a))).set j (some (g2 a)) = (δ1.set i (some (g1 a))).set j (some (g2 a)) := by
      rcases hδ with rfl | ⟨x, _, rfl⟩
      · exact ov _ _ _ _
      · show ((((((δ1.set i none).set j none).set i (some (g1 x))).set j (some (g2 x))).set i (some (g1 a))).set j (some (g2 a))) = _
        rw [ov, ov]
    unfold lcF
    show (match bindT [i, j] (.tup [g1 a, g2 a]) δ' with | none => R.no | some δ3 => (e δ3).bnd fun y δ4 => .ok (some y) δ4) = _
    rw [show bindT [i, j] (.tup [g1 a, g2 a]) δ' = some ((δ'.set i (some (g1 a))).set j (some (g2 a))) from rfl]
    show (e ((δ'.set i (some (g1 a))).set j (some (g2 a)))).bnd _ = R.ok (some (f a)) ((((δ1.set i none).set j none).set i (some (g1 a))).set j (some (g2 a)))
    rw [e1, h a ha, ov]; rfl) hz
  rw [h1, List.filterMap_eq_map']
  show R.ok (D.lst (s.map f)) (back [(n1, i), (n2, j)] δ1 δ') = _
  have hb : back [(n1, i), (n2, j)] δ1 δ' = (δ'.set i ((δ1[i]?).getD none)).set j ((δ1[j]?).getD none) := rfl
  rw [hb]
  have fin : ∀ x y, ((((δ1.set i x).set j y).set i ((δ1[i]?).getD none)).set j ((δ1[j]?).getD none)) = δ1 := fun x y => by
    rw [ov, set_get_self li, set_get_self lj]
  rcases h2 with rfl | ⟨a, _, rfl⟩
  · rw [fin]
  · show R.ok _ (((((((δ1.set i none).set j none).set i (some (g1 a))).set j (some (g2 a))).set i ((δ1[i]?).getD none)).set j ((δ1[j]?).getD none))) = _
    rw [ov (none) none, fin]
/-! ### "".join of texts -/
theorem joinL_nil : ∀ xs : List (List Nat), TL.joinL [] xs = xs.flatten
  | [] => rfl
  | [a] => by simp [TL.joinL]
  | a :: b :: xs => by
    show a ++ ([] ++ TL.joinL [] (b :: xs)) = _
    rw [joinL_nil (b :: xs)]; simp
theorem dJoin_nil (xs : List (List Nat)) (h : xs.flatten.length ≤ LIM) : dJoin [.str [], .lst (xs.map .str)] = some (.str xs.flatten) := by
  show (strsOf (xs.map D.str)).bind _ = _
  rw [strsOf_map (fun a => a) xs, List.map_id']
  show (if (xs.map List.length).sum + xs.length * 0 ≤ LIM then _ else _) = _
  rw [Nat.mul_zero, Nat.add_zero, ← List.length_flatten, if_pos h, joinL_nil]
/-- a store into a dict of texts -/
theorem putD_any {α : Type} (g : α → D) {fs : List (List Nat × α)} (nd : (fs.map (·.1)).Nodup) (n : List Nat) (a : α) : ∃ gs : List (List Nat × α), putD (kvM g fs) (.inr n) (g a) = kvM g gs ∧ (gs.map (·.1)).Nodup ∧ gs.length ≤ fs.length + 1 ∧ ∀ p ∈ gs, p ∈ fs ∨ p = (n, a) := by
  by_cases h : n ∈ fs.map (·.1)
  · refine ⟨fs.map fun p => if p.1 = n then (p.1, a) else p, ?_, ?_, by simp, fun p hp => ?_⟩
    · unfold putD
      rw [if_pos]
      · unfold kvM
        rw [List.map_map, List.map_map]
        apply List.map_congr_left
        intro p _
        show (if (Sum.inr p.1 : Kd) = .inr n then ((Sum.inr p.1 : Kd), g a) else (Sum.inr p.1, g p.2)) = _
        by_cases e : p.1 = n
        · rw [if_pos (by rw [e])]
          show _ = ((Sum.inr (if p.1 = n then (p.1, a) else p).1 : Kd), g (if p.1 = n then (p.1, a) else p).2)
          rw [if_pos e]
        · rw [if_neg (fun z => e (Sum.inr.inj z))]
          show _ = ((Sum.inr (if p.1 = n then (p.1, a) else p).1 : Kd), g (if p.1 = n then (p.1, a) else p).2)
          rw [if_neg e]
      · obtain ⟨p, hp, e⟩ := List.mem_map.mp h
        rw [List.any_eq_true]
        exact ⟨_, List.mem_map_of_mem (f := fun p => ((Sum.inr p.1 : Kd), g p.2)) hp, decide_eq_true (by rw [← e])⟩
    · rw [List.map_map]
      have e : ((fun p : List Nat × α => p.1) ∘ fun p => if p.1 = n then (p.1, a) else p) = fun p => p.1 := by
        funext p
        show (if p.1 = n then (p.1, a) else p).1 = p.1
        split <;> rfl
      rw [e]; exact nd
    · obtain ⟨q, hq, e⟩ := List.mem_map.mp hp
      by_cases z : q.1 = n
      · rw [if_pos z] at e
        exact .inr (by rw [← e, z])
      · rw [if_neg z] at e
        exact .inl (e ▸ hq)
  · refine ⟨fs ++ [(n, a)], putD_new g h, ?_, by simp, fun p hp => ?_⟩
    · rw [List.map_append, List.nodup_append]
      refine ⟨nd, by simp, fun x hx y hy => ?_⟩
      simp only [List.map_cons, List.map_nil, List.mem_singleton] at hy
      rw [hy]
      exact fun e => h (e ▸ hx)
    · rcases List.mem_append.mp hp with hp | hp
      · exact .inl hp
      · exact .inr (List.mem_singleton.mp hp)
end Nc
namespace Nc
open PySem PySem.Spec PyProof.Rows L2
theorem okS_if1 {T : Tb} {c : Ex} {a b : Sm} {δ δ1 : Env} {E : En3} (h : evt T c δ = .ok true δ1) (q : okS (evS T a δ1) E) : okS (evS T (.ite c a b) δ) E := by
  show okS ((evt T c δ).st fun z δ1 => if z = true then evS T a δ1 else evS T b δ1) E
  rw [h]; exact q
theorem okS_if0 {T : Tb} {c : Ex} {a b : Sm} {δ δ1 : Env} {E : En3} (h : evt T c δ = .ok false δ1) (q : okS (evS T b δ1) E) : okS (evS T (.ite c a b) δ) E := by
  show okS ((evt T c δ).st fun z δ1 => if z = true then evS T a δ1 else evS T b δ1) E
  rw [h]; exact q
end Nc


set_option Elab.async false
set_option linter.all false
set_option autoImplicit false
set_option maxRecDepth 100000
set_option maxHeartbeats 0
namespace Nc
open PySem PySem.Spec PyProof.Rows L2
def sm_is_int : Sm := (.cons (.ret (.and (.cal (.isi .int) (.cons (.v 0 []) .nil)) (.and (.not (.cal (.isi .bl) (.cons (.v 0 []) .nil))) (.chn .le .le (.v 1 []) (.v 0 []) (.v 2 [])))))
  .nil)
def ir_is_int : Dfn := ⟨⟨[.fz, .fz, .fz], .fz⟩, sm_is_int, 3⟩
theorem xs_is_int : ir_is_int.s = ⟨[.fz, .fz, .fz], .fz⟩ := rfl
theorem xm_is_int : ir_is_int.sm = sm_is_int := rfl
theorem xn_is_int : ir_is_int.n = 3 := rfl
def sm_is_of : Sm := (.cons (.ite (.or (.not (.cal (.isi .str) (.cons (.v 0 []) .nil))) (.not (.chn .le .le (.v 2 []) (.op .len (.cons (.v 0 []) .nil)) (.v 3 [])))) (.cons (.ret (.bl false))
  .nil) .nil)
  (.cons (.ret (.op .all (.cons (.fz (.lc (.op .inS (.cons (.v 4 []) (.cons (.v 1 []) .nil))) [4] (.v 0 []) .nil [("sign", 4)])) .nil)))
  .nil))
def ir_is_of : Dfn := ⟨⟨[.fz, .fz, .fz, .fz], .fz⟩, sm_is_of, 5⟩
theorem xs_is_of : ir_is_of.s = ⟨[.fz, .fz, .fz, .fz], .fz⟩ := rfl
theorem xm_is_of : ir_is_of.sm = sm_is_of := rfl
theorem xn_is_of : ir_is_of.n = 5 := rfl
def sm_is_word : Sm := (.cons (.ret (.cal (.fn "is_of") (.cons (.v 0 []) (.cons (.g "SMALL") (.cons (.int 1) (.cons (.int 6) .nil))))))
  .nil)
def ir_is_word : Dfn := ⟨⟨[.fz], .fz⟩, sm_is_word, 1⟩
theorem xs_is_word : ir_is_word.s = ⟨[.fz], .fz⟩ := rfl
theorem xm_is_word : ir_is_word.sm = sm_is_word := rfl
theorem xn_is_word : ir_is_word.n = 1 := rfl
def sm_is_text : Sm := (.cons (.ret (.cal (.fn "is_of") (.cons (.v 0 []) (.cons (.g "SIGNS") (.cons (.int 1) (.cons (.int 4) .nil))))))
  .nil)
def ir_is_text : Dfn := ⟨⟨[.fz], .fz⟩, sm_is_text, 1⟩
theorem xs_is_text : ir_is_text.s = ⟨[.fz], .fz⟩ := rfl
theorem xm_is_text : ir_is_text.sm = sm_is_text := rfl
theorem xn_is_text : ir_is_text.n = 1 := rfl
def sm_are_signs : Sm := (.cons (.ite (.not (.cal (.fn "is_of") (.cons (.v 0 []) (.cons (.g "SIGNS") (.cons (.int 1) (.cons (.v 1 []) .nil)))))) (.cons (.ret (.bl false))
  .nil) .nil)
  (.cons (.ret (.op .all (.cons (.fz (.lc (.cal (.bi .eq) (.cons (.bm .cnt (.v 0 []) (.cons (.v 2 []) .nil)) (.cons (.int 1) .nil))) [2] (.v 0 []) .nil [("sign", 2)])) .nil)))
  .nil))
def ir_are_signs : Dfn := ⟨⟨[.fz, .fz], .fz⟩, sm_are_signs, 3⟩
theorem xs_are_signs : ir_are_signs.s = ⟨[.fz, .fz], .fz⟩ := rfl
theorem xm_are_signs : ir_are_signs.sm = sm_are_signs := rfl
theorem xn_are_signs : ir_are_signs.n = 3 := rfl
def sm_check_fields : Sm := (.cons (.fr [1] (.v 0 []) (.cons (.ite (.or (.not (.cal (.fn "is_word") (.cons (.v 1 []) .nil))) (.not (.cal (.isi (.cls "Field")) (.cons (.op .ixD (.cons (.v 0 []) (.cons (.v 1 []) .nil))) .nil)))) (.cons (.rse "BadName" (.cons (.v 1 []) .nil))
  .nil) .nil)
  .nil))
  (.cons (.ite (.not (.chn .le .le (.int 1) (.op .len (.cons (.v 0 []) .nil)) (.g "MOST_FIELDS"))) (.cons (.rse "BadTemplate" .nil)
  .nil) .nil)
  .nil))
def ir_check_fields : Dfn := ⟨⟨[.fz], .fz⟩, sm_check_fields, 2⟩
theorem xs_check_fields : ir_check_fields.s = ⟨[.fz], .fz⟩ := rfl
theorem xm_check_fields : ir_check_fields.sm = sm_check_fields := rfl
theorem xn_check_fields : ir_check_fields.n = 2 := rfl
def sm_is_part : Sm := (.cons (.ite (.or (.not (.cal (.isi .tup) (.cons (.v 0 []) .nil))) (.or (.not (.v 0 [])) (.not (.cal (.isi .str) (.cons (.op .ix (.cons (.v 0 []) (.cons (.int 0) .nil))) .nil))))) (.cons (.ret (.bl false))
  .nil) .nil)
  (.cons (.ite (.cal (.bi .eq) (.cons (.op .ix (.cons (.v 0 []) (.cons (.int 0) .nil))) (.cons (.str "text") .nil))) (.cons (.ret (.and (.cal (.bi .eq) (.cons (.op .len (.cons (.v 0 []) .nil)) (.cons (.int 2) .nil))) (.cal (.fn "is_text") (.cons (.op .ix (.cons (.v 0 []) (.cons (.int 1) .nil))) .nil))))
  .nil) .nil)
  (.cons (.ite (.or (.cal (.bi .ne) (.cons (.op .ix (.cons (.v 0 []) (.cons (.int 0) .nil))) (.cons (.str "field") .nil))) (.or (.cal (.bi .ne) (.cons (.op .len (.cons (.v 0 []) .nil)) (.cons (.int 3) .nil))) (.or (.not (.cal (.fn "is_word") (.cons (.op .ix (.cons (.v 0 []) (.cons (.int 1) .nil))) .nil))) (.op .niD (.cons (.op .ix (.cons (.v 0 []) (.cons (.int 1) .nil))) (.cons (.v 1 []) .nil)))))) (.cons (.ret (.bl false))
  .nil) .nil)
  (.cons (.ret .any)
  .nil))))
def ir_is_part : Dfn := ⟨⟨[.fz, .fz, .fz], .fz⟩, sm_is_part, 3⟩
theorem xs_is_part : ir_is_part.s = ⟨[.fz, .fz, .fz], .fz⟩ := rfl
theorem xm_is_part : ir_is_part.sm = sm_is_part := rfl
theorem xn_is_part : ir_is_part.n = 3 := rfl
def sm_separated : Sm := (.cons (.ite (.not (.cal (.fn "is_text") (.cons (.v 2 []) .nil))) (.cons (.rse "BadText" .nil)
  .nil) .nil)
  (.cons (.fr [3, 4] (.enm (.v 1 [])) (.cons (.ite (.or (.not (.chn .le .le (.int 0) (.v 4 []) (.op .len (.cons (.cal (.pr "parts") (.cons (.v 0 []) .nil)) .nil)))) (.op .inL (.cons (.v 4 []) (.cons (.fz (.op (.slL false true) (.cons (.v 1 []) (.cons (.v 3 []) .nil)))) .nil)))) (.cons (.rse "BadGap" (.cons (.v 4 []) .nil))
  .nil) .nil)
  .nil))
  .any))
def ir_separated : Dfn := ⟨⟨[.fz, .fz, .fz], .fz⟩, sm_separated, 5⟩
theorem xs_separated : ir_separated.s = ⟨[.fz, .fz, .fz], .fz⟩ := rfl
theorem xm_separated : ir_separated.sm = sm_separated := rfl
theorem xn_separated : ir_separated.n = 5 := rfl
def sm_forbidden : Sm := (.cons (.set [2] (.cal (.pr "fields") (.cons (.v 0 []) .nil)))
  (.cons (.fr [3, 4] (.enm (.v 1 [])) (.cons (.set [5, 6] (.v 4 []))
  (.cons (.ite (.or (.op .niD (.cons (.v 5 []) (.cons (.v 2 []) .nil))) (.or (.op .niL (.cons (.v 6 []) (.cons (.fz (.cal (.bi .listS) (.cons (.at "signs" (.op .ixD (.cons (.v 2 []) (.cons (.v 5 []) .nil)))) .nil))) .nil))) (.cal (.bi .eq) (.cons (.op .len (.cons (.at "signs" (.op .ixD (.cons (.v 2 []) (.cons (.v 5 []) .nil)))) .nil)) (.cons (.int 1) .nil))))) (.cons (.rse "BadBan" (.cons (.v 3 []) .nil))
  .nil) .nil)
  .any)))
  .any))
def ir_forbidden : Dfn := ⟨⟨[.fz, .fz], .fz⟩, sm_forbidden, 7⟩
theorem xs_forbidden : ir_forbidden.s = ⟨[.fz, .fz], .fz⟩ := rfl
theorem xm_forbidden : ir_forbidden.sm = sm_forbidden := rfl
theorem xn_forbidden : ir_forbidden.n = 7 := rfl
def sm_is_record : Sm := (.cons (.set [2] (.cal (.pr "fields") (.cons (.v 0 []) .nil)))
  (.cons (.ite (.or (.not (.cal (.isi .dct) (.cons (.v 1 []) .nil))) (.cal (.bi .ne) (.cons (.op .len (.cons (.v 1 []) .nil)) (.cons (.op .len (.cons (.v 2 []) .nil)) .nil)))) (.cons (.ret (.bl false))
  .nil) .nil)
  (.cons (.ret (.op .all (.cons (.fz (.lc (.and (.op .inD (.cons (.v 3 []) (.cons (.v 1 []) .nil))) (.cal (.ct "Field") (.cons (.op .ixD (.cons (.v 1 []) (.cons (.v 3 []) .nil))) (.cons (.op .ixD (.cons (.v 2 []) (.cons (.v 3 []) .nil))) .nil)))) [3] (.v 2 []) .nil [("name", 3)])) .nil)))
  .nil)))
def ir_is_record : Dfn := ⟨⟨[.fz, .fz], .fz⟩, sm_is_record, 4⟩
theorem xs_is_record : ir_is_record.s = ⟨[.fz, .fz], .fz⟩ := rfl
theorem xm_is_record : ir_is_record.sm = sm_is_record := rfl
theorem xn_is_record : ir_is_record.n = 4 := rfl
def sm_made_name : Sm := (.cons (.set [2] (.str ""))
  (.cons (.fr [3] (.cal (.pr "parts") (.cons (.v 0 []) .nil)) (.cons (.ite (.cal (.bi .eq) (.cons (.op .ix (.cons (.v 3 []) (.cons (.int 0) .nil))) (.cons (.str "text") .nil))) (.cons (.set [2] (.op .addS (.cons (.v 2 []) (.cons (.op .ix (.cons (.v 3 []) (.cons (.int 1) .nil))) .nil))))
  .nil) .any)
  .nil))
  (.cons (.ret (.v 2 []))
  .nil)))
def ir_made_name : Dfn := ⟨⟨[.fz, .fz], .fz⟩, sm_made_name, 4⟩
theorem xs_made_name : ir_made_name.s = ⟨[.fz, .fz], .fz⟩ := rfl
theorem xm_made_name : ir_made_name.sm = sm_made_name := rfl
theorem xn_made_name : ir_made_name.n = 4 := rfl
def sm_name_of : Sm := (.cons (.ite (.not (.cal (.fn "is_record") (.cons (.v 0 []) (.cons (.v 1 []) .nil)))) (.cons (.rse "BadRecord" .nil)
  .nil) .nil)
  (.cons (.ret (.cal (.fn "made_name") (.cons (.v 0 []) (.cons (.v 1 []) .nil))))
  .nil))
def ir_name_of : Dfn := ⟨⟨[.fz, .fz], .fz⟩, sm_name_of, 2⟩
theorem xs_name_of : ir_name_of.s = ⟨[.fz, .fz], .fz⟩ := rfl
theorem xm_name_of : ir_name_of.sm = sm_name_of := rfl
theorem xn_name_of : ir_name_of.n = 2 := rfl
def sm_common_order : Sm := (.cons (.ite (.cal (.bi .ne) (.cons (.cal (.pr "fields") (.cons (.v 0 []) .nil)) (.cons (.cal (.pr "fields") (.cons (.v 1 []) .nil)) .nil))) (.cons (.rse "NotComparable" .nil)
  .nil) .nil)
  .any)
def ir_common_order : Dfn := ⟨⟨[.fz, .fz], .fz⟩, sm_common_order, 2⟩
theorem xs_common_order : ir_common_order.s = ⟨[.fz, .fz], .fz⟩ := rfl
theorem xm_common_order : ir_common_order.sm = sm_common_order := rfl
theorem xn_common_order : ir_common_order.n = 2 := rfl
def sm_parting : Sm := (.cons (.set [2] (.fz (.op .lst .nil)))
  (.cons (.fr [3] (.cal (.fn "common_order") (.cons (.v 0 []) (.cons (.v 1 []) .nil))) .any)
  .any))
def ir_parting : Dfn := ⟨⟨[.fz, .fz], .fz⟩, sm_parting, 4⟩
theorem xs_parting : ir_parting.s = ⟨[.fz, .fz], .fz⟩ := rfl
theorem xm_parting : ir_parting.sm = sm_parting := rfl
theorem xn_parting : ir_parting.n = 4 := rfl
def sm_part_of : Sm := (.cons (.ite (.cal (.bi .eq) (.cons (.op .ix (.cons (.v 0 []) (.cons (.int 0) .nil))) (.cons (.str "text") .nil))) .any .nil)
  (.cons (.ite (.or (.cal (.bi .ne) (.cons (.op .ix (.cons (.v 0 []) (.cons (.int 0) .nil))) (.cons (.str "put") .nil))) .any) (.cons (.ret .non)
  .nil) .nil)
  .any))
def ir_part_of : Dfn := ⟨⟨[.fz], .fz⟩, sm_part_of, 1⟩
theorem xs_part_of : ir_part_of.s = ⟨[.fz], .fz⟩ := rfl
theorem xm_part_of : ir_part_of.sm = sm_part_of := rfl
theorem xn_part_of : ir_part_of.n = 1 := rfl
def sm_read : Sm := (.cons (.set [1] (.fz (.bm .spl (.v 0 []) (.cons (.str "\n") .nil))))
  (.cons (.set [2] (.fz (.op .dct0 .nil)))
  (.cons (.set [3] (.fz (.op .lst .nil)))
  (.cons (.fr [4, 5] (.enm (.v 1 [])) (.cons (.set [6] (.fz (.bm .spl (.v 5 []) (.cons (.str " ") .nil))))
  (.cons (.ite (.cal (.bi .eq) (.cons (.op .ix (.cons (.v 6 []) (.cons (.int 0) .nil))) (.cons (.str "field") .nil))) .any (.cons (.set [7] (.cal (.fn "part_of") (.cons (.v 6 []) .nil)))
  (.cons (.ite (.or (.op .isN (.cons (.v 7 []) .nil)) .any) (.cons (.rse "BadLine" (.cons (.op .addI (.cons (.v 4 []) (.cons (.int 1) .nil))) .nil))
  .nil) .nil)
  .any)))
  .nil)))
  .any))))
def ir_read : Dfn := ⟨⟨[.fz], .fz⟩, sm_read, 8⟩
theorem xs_read : ir_read.s = ⟨[.fz], .fz⟩ := rfl
theorem xm_read : ir_read.sm = sm_read := rfl
theorem xn_read : ir_read.n = 8 := rfl
def sm__law_begin : Sm := (.cons (.ret (.op .lst (.cons (.fz (.op .listL (.cons (.v 0 []) .nil))) (.cons (.int 0) (.cons (.int 0) (.cons (.int 7) .nil))))))
  .nil)
def ir__law_begin : Dfn := ⟨⟨[.fz], (.own .fz)⟩, sm__law_begin, 1⟩
theorem xs__law_begin : ir__law_begin.s = ⟨[.fz], (.own .fz)⟩ := rfl
theorem xm__law_begin : ir__law_begin.sm = sm__law_begin := rfl
theorem xn__law_begin : ir__law_begin.n = 1 := rfl
def sm__law_draw : Sm := (.cons (.ite (.cal (.bi .eq) (.cons (.op .ix (.cons (.b 0) (.cons (.int 2) .nil))) (.cons (.int 0) .nil))) (.cons (.ite (.op .lt (.cons (.op .ix (.cons (.b 0) (.cons (.int 1) .nil))) (.cons (.op .len (.cons (.op .ix (.cons (.b 0) (.cons (.int 0) .nil))) .nil)) .nil))) (.cons (.set [3] (.op .ix (.cons (.op .ix (.cons (.b 0) (.cons (.int 0) .nil))) (.cons (.op .ix (.cons (.b 0) (.cons (.int 1) .nil))) .nil))))
  (.cons (.sti 0 [] (.int 1) (.op .addI (.cons (.op .ix (.cons (.b 0) (.cons (.int 1) .nil))) (.cons (.int 1) .nil))))
  (.cons (.ite (.op .ge (.cons (.v 3 []) (.cons (.op .pow (.cons (.int 10) (.cons (.int 18) .nil))) .nil))) (.cons (.sti 0 [] (.int 2) (.v 3 []))
  .nil) (.cons (.sti 0 [] (.int 3) (.op .mod (.cons (.op .int (.cons (.op .addI (.cons (.op .addI (.cons (.op .mul (.cons (.op .ix (.cons (.b 0) (.cons (.int 3) .nil))) (.cons (.int 48271) .nil))) (.cons (.op .mul (.cons (.v 3 []) (.cons (.int 69621) .nil))) .nil))) (.cons (.int 11) .nil))) .nil)) (.cons (.int 2147483647) .nil))))
  .nil))
  .nil))) (.cons (.sti 0 [] (.int 3) (.op .mod (.cons (.op .int (.cons (.op .addI (.cons (.op .mul (.cons (.op .ix (.cons (.b 0) (.cons (.int 3) .nil))) (.cons (.int 48271) .nil))) (.cons (.int 7) .nil))) .nil)) (.cons (.int 2147483647) .nil))))
  .nil))
  .nil) .nil)
  (.cons (.ite (.op .gt (.cons (.op .ix (.cons (.b 0) (.cons (.int 2) .nil))) (.cons (.int 0) .nil))) (.cons (.set [2] (.op .mod (.cons (.op .int (.cons (.op .ix (.cons (.b 0) (.cons (.int 2) .nil))) .nil)) (.cons (.v 1 []) .nil))))
  (.cons (.sti 0 [] (.int 2) (.op .fdiv (.cons (.op .ix (.cons (.b 0) (.cons (.int 2) .nil))) (.cons (.v 1 []) .nil))))
  (.cons (.ret (.v 2 []))
  .nil))) .nil)
  (.cons (.ret (.op .mod (.cons (.op .mod (.cons (.op .int (.cons (.op .mul (.cons (.op .ix (.cons (.b 0) (.cons (.int 3) .nil))) (.cons (.int 16807) .nil))) .nil)) (.cons (.int 2147483629) .nil))) (.cons (.v 1 []) .nil))))
  .nil)))
def ir__law_draw : Dfn := ⟨⟨[.io (.own .fz), .fz], .fz⟩, sm__law_draw, 4⟩
theorem xs__law_draw : ir__law_draw.s = ⟨[.io (.own .fz), .fz], .fz⟩ := rfl
theorem xm__law_draw : ir__law_draw.sm = sm__law_draw := rfl
theorem xn__law_draw : ir__law_draw.n = 4 := rfl
def sm__law_first : Sm := (.cons (.ite (.cal (.bi .eq) (.cons (.v 0 []) (.cons (.int 0) .nil))) (.cons (.exp (.cal (.dfl "Field" 1) (.cons (.str "") .nil)))
  .nil) .nil)
  (.cons (.ite (.cal (.bi .eq) (.cons (.v 0 []) (.cons (.int 1) .nil))) (.cons (.exp (.cal (.fn "Template") (.cons (.fz (.op .dct0 .nil)) (.cons (.fz (.op .lst .nil)) .nil))))
  .nil) .nil)
  (.cons (.ite (.cal (.bi .eq) (.cons (.v 0 []) (.cons (.int 2) .nil))) (.cons (.exp (.cal (.fn "name_of") (.cons (.v 1 []) (.cons (.fz (.op .dct0 .nil)) .nil))))
  .nil) .nil)
  (.cons (.ite (.cal (.bi .eq) (.cons (.v 0 []) (.cons (.int 3) .nil))) (.cons (.exp (.cal (.fn "separated") (.cons (.v 1 []) (.cons (.fz (.op .lst (.cons (.int 0) .nil))) (.cons (.str "") .nil)))))
  .nil) .nil)
  (.cons (.ite (.cal (.bi .eq) (.cons (.v 0 []) (.cons (.int 4) .nil))) (.cons (.exp (.cal (.fn "parting") (.cons (.v 1 []) (.cons (.fz (.cal (.fn "Template") (.cons (.fz (.dsp "b" (.fz (.cal (.dfl "Field" 1) (.cons (.str "a") .nil))))) (.cons (.fz (.op .lst .nil)) .nil)))) .nil))))
  .nil) .nil)
  (.cons (.ite (.cal (.bi .eq) (.cons (.v 0 []) (.cons (.int 5) .nil))) (.cons (.exp (.met "undo" (.fz (.cal (.fn "Shelf") (.cons (.v 1 []) .nil))) .nil))
  .nil) .nil)
  (.cons (.ite (.cal (.bi .eq) (.cons (.v 0 []) (.cons (.int 6) .nil))) (.cons (.exp (.cal (.fn "Template") (.cons (.fz (.dsp "A" (.fz (.cal (.dfl "Field" 1) (.cons (.str "a") .nil))))) (.cons (.fz (.op .lst .nil)) .nil))))
  .nil) .nil)
  .nil)))))))
def ir__law_first : Dfn := ⟨⟨[.fz, .fz], .fz⟩, sm__law_first, 2⟩
theorem xs__law_first : ir__law_first.s = ⟨[.fz, .fz], .fz⟩ := rfl
theorem xm__law_first : ir__law_first.sm = sm__law_first := rfl
theorem xn__law_first : ir__law_first.n = 2 := rfl
def sm__law_second : Sm := (.cons (.ite (.cal (.bi .eq) (.cons (.v 0 []) (.cons (.int 7) .nil))) (.cons (.exp (.met "drop" (.fz (.cal (.fn "Shelf") (.cons (.v 1 []) .nil))) (.cons (.str "lost") .nil)))
  .nil) .nil)
  (.cons (.ite (.cal (.bi .eq) (.cons (.v 0 []) (.cons (.int 8) .nil))) (.cons (.set [2] (.cal (.fn "Shelf") (.cons (.v 1 []) .nil)))
  (.cons (.exp (.met "put" (.b 2) (.cons (.fz (.op (.cdct [([97], [97])]) .nil)) .nil)))
  (.cons (.exp (.met "put" (.b 2) (.cons (.fz (.op (.cdct [([97], [98])]) .nil)) .nil)))
  .nil))) .nil)
  (.cons (.ite (.cal (.bi .eq) (.cons (.v 0 []) (.cons (.int 9) .nil))) (.cons (.exp (.cal (.fn "Template") (.cons (.fz (.dsp "a" (.fz (.cal (.dfl "Field" 1) (.cons (.str "a") .nil))))) (.cons (.fz (.op .lst (.cons (.op .tup (.cons (.str "loop") .nil)) .nil))) .nil))))
  .nil) .nil)
  (.cons (.ite (.cal (.bi .eq) (.cons (.v 0 []) (.cons (.int 10) .nil))) (.cons (.exp (.cal (.fn "forbidden") (.cons (.v 1 []) (.cons (.fz (.op .lst (.cons (.op .tup (.cons (.str "a") (.cons (.str "z") .nil))) .nil))) .nil))))
  .nil) .nil)
  (.cons (.ite (.cal (.bi .eq) (.cons (.v 0 []) (.cons (.int 11) .nil))) (.cons (.exp (.cal (.fn "separated") (.cons (.v 1 []) (.cons (.fz (.op .lst (.cons (.int 9) .nil))) (.cons (.str "a") .nil)))))
  .nil) .nil)
  (.cons (.ite (.cal (.bi .eq) (.cons (.v 0 []) (.cons (.int 12) .nil))) (.cons (.exp (.cal (.fn "read") (.cons (.str "loop") .nil)))
  .nil) .nil)
  .nil))))))
def ir__law_second : Dfn := ⟨⟨[.fz, .fz], .fz⟩, sm__law_second, 3⟩
theorem xs__law_second : ir__law_second.s = ⟨[.fz, .fz], .fz⟩ := rfl
theorem xm__law_second : ir__law_second.sm = sm__law_second := rfl
theorem xn__law_second : ir__law_second.n = 3 := rfl
def sm_law : Sm := (.cons (.set [1] (.cal (.fn "_law_begin") (.cons (.v 0 []) .nil)))
  (.cons (.set [2] (.cal (.fn "_law_draw") (.cons (.b 1) (.cons (.int 13) .nil))))
  (.cons (.set [3] (.fz (.cal (.fn "Template") (.cons (.fz (.dsp "a" (.fz (.cal (.dfl "Field" 1) (.cons (.str "ab") .nil))))) (.cons (.fz (.op .lst (.cons (.op .tup (.cons (.str "text") (.cons (.str "-") .nil))) .nil))) .nil)))))
  (.cons (.set [4] (.op .lst .nil))
  (.cons (.tri (.cons (.exp (.cal (.fn "_law_first") (.cons (.v 2 []) (.cons (.v 3 []) .nil))))
  (.cons (.exp (.cal (.fn "_law_second") (.cons (.v 2 []) (.cons (.v 3 []) .nil))))
  .nil)) [⟨"CastError", (some 5), 4, .knd "_law_kinds" ["BadField", "BadTemplate", "BadRecord", "BadText", "NotComparable", "NothingToUndo", "BadName", "NoName", "Clash", "BadPart", "BadBan", "BadGap", "BadLine", "ValueError"]⟩])
  (.cons (.ret (.cal (.bi .eq) (.cons (.b 4) (.cons (.fz (.op .addL (.cons (.fz (.lc (.cal (.bi .eq) (.cons (.v 6 []) (.cons (.v 2 []) .nil))) [6] (.rng (.cons (.int 13) .nil)) .nil [("_law_k", 6)])) (.cons (.fz (.op .lst (.cons (.bl true) .nil))) .nil)))) .nil))))
  .nil))))))
def ir_law : Dfn := ⟨⟨[.fz], .fz⟩, sm_law, 7⟩
theorem xs_law : ir_law.s = ⟨[.fz], .fz⟩ := rfl
theorem xm_law : ir_law.sm = sm_law := rfl
theorem xn_law : ir_law.n = 7 := rfl
def sm_Fieldu_initu : Sm := (.cons (.ite (.or (.not (.cal (.fn "are_signs") (.cons (.v 1 []) (.cons (.int 8) .nil)))) (.not (.cal (.fn "is_int") (.cons (.v 2 []) (.cons (.int 0) (.cons (.int 4) .nil)))))) (.cons (.rse "BadField" .nil)
  .nil) .nil)
  (.cons (.ite (.and (.op .notN (.cons (.v 3 []) .nil)) (.not (.cal (.fn "is_int") (.cons (.v 3 []) (.cons (.v 2 []) (.cons (.int 6) .nil)))))) (.cons (.rse "BadField" .nil)
  .nil) .nil)
  (.cons (.sta 0 [] "signs" (.bm .joi (.str "") (.cons (.fz (.lc (.v 4 []) [4] (.g "SIGNS") (.op .inS (.cons (.v 4 []) (.cons (.v 1 []) .nil))) [("sign", 4)])) .nil)))
  (.cons (.sta 0 [] "least" (.v 2 []))
  (.cons (.sta 0 [] "most" (.v 3 []))
  .nil)))))
def ir_Fieldu_initu : Dfn := ⟨⟨[.io .ie, .fz, .fz, .fz], .fz⟩, sm_Fieldu_initu, 5⟩
theorem xs_Fieldu_initu : ir_Fieldu_initu.s = ⟨[.io .ie, .fz, .fz, .fz], .fz⟩ := rfl
theorem xm_Fieldu_initu : ir_Fieldu_initu.sm = sm_Fieldu_initu := rfl
theorem xn_Fieldu_initu : ir_Fieldu_initu.n = 5 := rfl
def sm_Fieldu_containsu : Sm := (.cons (.ite (.or (.not (.cal (.isi .str) (.cons (.v 1 []) .nil))) (.op .lt (.cons (.op .len (.cons (.v 1 []) .nil)) (.cons (.at "least" (.v 0 [])) .nil)))) (.cons (.ret (.bl false))
  .nil) .nil)
  (.cons (.ite (.and (.op .notN (.cons (.at "most" (.v 0 [])) .nil)) (.op .gt (.cons (.op .len (.cons (.v 1 []) .nil)) (.cons (.at "most" (.v 0 [])) .nil)))) (.cons (.ret (.bl false))
  .nil) .nil)
  (.cons (.ret (.op .all (.cons (.fz (.lc (.op .inS (.cons (.v 2 []) (.cons (.at "signs" (.v 0 [])) .nil))) [2] (.v 1 []) .nil [("sign", 2)])) .nil)))
  .nil)))
def ir_Fieldu_containsu : Dfn := ⟨⟨[.fz, .fz], .fz⟩, sm_Fieldu_containsu, 3⟩
theorem xs_Fieldu_containsu : ir_Fieldu_containsu.s = ⟨[.fz, .fz], .fz⟩ := rfl
theorem xm_Fieldu_containsu : ir_Fieldu_containsu.sm = sm_Fieldu_containsu := rfl
theorem xn_Fieldu_containsu : ir_Fieldu_containsu.n = 3 := rfl
def sm_Templateu_initu : Sm := (.cons (.exp (.cal (.fn "check_fields") (.cons (.v 1 []) .nil)))
  (.cons (.ite (.op .gt (.cons (.op .len (.cons (.v 2 []) .nil)) (.cons (.g "MOST_PARTS") .nil))) (.cons (.rse "BadPart" (.cons (.g "MOST_PARTS") .nil))
  .nil) .nil)
  (.cons (.fr [3, 4] (.enm (.v 2 [])) (.cons (.ite (.not (.cal (.fn "is_part") (.cons (.v 4 []) (.cons (.v 1 []) (.cons (.op (.slA false true) (.cons (.v 2 []) (.cons (.v 3 []) .nil))) .nil))))) (.cons (.rse "BadPart" (.cons (.v 3 []) .nil))
  .nil) .nil)
  .nil))
  (.cons (.sta 0 [] "table" (.fz (.dc (.v 5 []) (.op .ixD (.cons (.v 1 []) (.cons (.v 5 []) .nil))) [5] (.fz (.cal (.bi .sortS) (.cons (.v 1 []) .nil))) .nil [("name", 5)])))
  (.cons (.sta 0 [] "row" (.op .tupL (.cons (.v 2 []) .nil)))
  .nil)))))
def ir_Templateu_initu : Dfn := ⟨⟨[.io .ie, .fz, .fz], .fz⟩, sm_Templateu_initu, 6⟩
theorem xs_Templateu_initu : ir_Templateu_initu.s = ⟨[.io .ie, .fz, .fz], .fz⟩ := rfl
theorem xm_Templateu_initu : ir_Templateu_initu.sm = sm_Templateu_initu := rfl
theorem xn_Templateu_initu : ir_Templateu_initu.n = 6 := rfl
def sm_Template_fields : Sm := (.cons (.ret (.fz (.cal (.bi .dctC) (.cons (.at "table" (.v 0 [])) .nil))))
  .nil)
def ir_Template_fields : Dfn := ⟨⟨[.fz], .fz⟩, sm_Template_fields, 1⟩
theorem xs_Template_fields : ir_Template_fields.s = ⟨[.fz], .fz⟩ := rfl
theorem xm_Template_fields : ir_Template_fields.sm = sm_Template_fields := rfl
theorem xn_Template_fields : ir_Template_fields.n = 1 := rfl
def sm_Template_parts : Sm := (.cons (.ret (.at "row" (.v 0 [])))
  .nil)
def ir_Template_parts : Dfn := ⟨⟨[.fz], .fz⟩, sm_Template_parts, 1⟩
theorem xs_Template_parts : ir_Template_parts.s = ⟨[.fz], .fz⟩ := rfl
theorem xm_Template_parts : ir_Template_parts.sm = sm_Template_parts := rfl
theorem xn_Template_parts : ir_Template_parts.n = 1 := rfl
def sm_Shelfu_initu : Sm := (.cons (.sta 0 [] "present" (.v 1 []))
  (.cons (.sta 0 [] "rows" (.fz (.op .dct0 .nil)))
  (.cons (.sta 0 [] "past" (.op .lst .nil))
  .nil)))
def ir_Shelfu_initu : Dfn := ⟨⟨[.io (.ia "past" (.own .fz) .ie), .fz], .fz⟩, sm_Shelfu_initu, 2⟩
theorem xs_Shelfu_initu : ir_Shelfu_initu.s = ⟨[.io (.ia "past" (.own .fz) .ie), .fz], .fz⟩ := rfl
theorem xm_Shelfu_initu : ir_Shelfu_initu.sm = sm_Shelfu_initu := rfl
theorem xn_Shelfu_initu : ir_Shelfu_initu.n = 2 := rfl
def sm_Shelf_go_to : Sm := (.cons (.exp (.mu .app 0 [.at "past"] (.cons (.op .tup (.cons (.v 0 [.at "present"]) (.cons (.v 0 [.at "rows"]) .nil))) .nil)))
  (.cons (.sta 0 [] "present" (.v 1 []))
  (.cons (.sta 0 [] "rows" (.v 2 []))
  .nil)))
def ir_Shelf_go_to : Dfn := ⟨⟨[.io (.ia "past" (.own .fz) .ie), .fz, .fz], .fz⟩, sm_Shelf_go_to, 3⟩
theorem xs_Shelf_go_to : ir_Shelf_go_to.s = ⟨[.io (.ia "past" (.own .fz) .ie), .fz, .fz], .fz⟩ := rfl
theorem xm_Shelf_go_to : ir_Shelf_go_to.sm = sm_Shelf_go_to := rfl
theorem xn_Shelf_go_to : ir_Shelf_go_to.n = 3 := rfl
def sm_Shelf_put : Sm := (.cons (.set [2] (.cal (.fn "name_of") (.cons (.v 0 [.at "present"]) (.cons (.v 1 []) .nil))))
  (.cons (.ite (.op .niD (.cons (.v 2 []) (.cons (.v 0 [.at "rows"]) .nil))) (.cons (.set [3] (.cal (.bi .dctC) (.cons (.v 0 [.at "rows"]) .nil)))
  (.cons (.sti 3 [] (.v 2 []) (.fz (.cal (.bi .dctC) (.cons (.v 1 []) .nil))))
  (.cons (.exp (.met "go_to" (.b 0) (.cons (.v 0 [.at "present"]) (.cons (.f 3) .nil))))
  .nil))) (.cons (.ite (.cal (.bi .ne) (.cons (.op .ixD (.cons (.v 0 [.at "rows"]) (.cons (.v 2 []) .nil))) (.cons (.v 1 []) .nil))) (.cons (.rse "Clash" (.cons (.v 2 []) .nil))
  .nil) .nil)
  .nil))
  (.cons (.ret (.v 2 []))
  .nil)))
def ir_Shelf_put : Dfn := ⟨⟨[.io (.ia "past" (.own .fz) .ie), .fz], .fz⟩, sm_Shelf_put, 4⟩
theorem xs_Shelf_put : ir_Shelf_put.s = ⟨[.io (.ia "past" (.own .fz) .ie), .fz], .fz⟩ := rfl
theorem xm_Shelf_put : ir_Shelf_put.sm = sm_Shelf_put := rfl
theorem xn_Shelf_put : ir_Shelf_put.n = 4 := rfl
def sm_Shelf_drop : Sm := (.cons (.ite (.op .niD (.cons (.v 1 []) (.cons (.at "rows" (.v 0 [])) .nil))) (.cons (.rse "NoName" (.cons (.v 1 []) .nil))
  .nil) .nil)
  .any)
def ir_Shelf_drop : Dfn := ⟨⟨[.fz, .fz], .fz⟩, sm_Shelf_drop, 2⟩
theorem xs_Shelf_drop : ir_Shelf_drop.s = ⟨[.fz, .fz], .fz⟩ := rfl
theorem xm_Shelf_drop : ir_Shelf_drop.sm = sm_Shelf_drop := rfl
theorem xn_Shelf_drop : ir_Shelf_drop.n = 2 := rfl
def sm_Shelf_undo : Sm := (.cons (.ite (.not (.at "past" (.v 0 []))) (.cons (.rse "NothingToUndo" .nil)
  .nil) .nil)
  .any)
def ir_Shelf_undo : Dfn := ⟨⟨[.fz], .fz⟩, sm_Shelf_undo, 1⟩
theorem xs_Shelf_undo : ir_Shelf_undo.s = ⟨[.fz], .fz⟩ := rfl
theorem xm_Shelf_undo : ir_Shelf_undo.sm = sm_Shelf_undo := rfl
theorem xn_Shelf_undo : ir_Shelf_undo.n = 1 := rfl
def irF : List (Str × Dfn) := (("is_int", ir_is_int) :: ("is_of", ir_is_of) :: ("is_word", ir_is_word) :: ("is_text", ir_is_text) :: ("are_signs", ir_are_signs) :: ("check_fields", ir_check_fields) :: ("is_part", ir_is_part) :: ("separated", ir_separated) :: ("forbidden", ir_forbidden) :: ("is_record", ir_is_record) :: ("made_name", ir_made_name) :: ("name_of", ir_name_of) :: ("common_order", ir_common_order) :: ("parting", ir_parting) :: ("part_of", ir_part_of) :: ("read", ir_read) :: ("_law_begin", ir__law_begin) :: ("_law_draw", ir__law_draw) :: ("_law_first", ir__law_first) :: ("_law_second", ir__law_second) :: ("law", ir_law) :: [])
def irM : List ((Str × Str) × Dfn) := [(("Field", "__init__"), ir_Fieldu_initu), (("Field", "__contains__"), ir_Fieldu_containsu), (("Template", "__init__"), ir_Templateu_initu), (("Template", "fields"), ir_Template_fields), (("Template", "parts"), ir_Template_parts), (("Shelf", "__init__"), ir_Shelfu_initu), (("Shelf", "go_to"), ir_Shelf_go_to), (("Shelf", "put"), ir_Shelf_put), (("Shelf", "drop"), ir_Shelf_drop), (("Shelf", "undo"), ir_Shelf_undo)]
def irP : List (Str × Str) := [("fields", "Template"), ("parts", "Template")]
def irC : List (Str × Cv) := [("SIGNS", .s "abcABC01-_./"), ("SMALL", .s "abcdefghijklmnopqrstuvwxyz"), ("MOST_FIELDS", .i 4), ("MOST_PARTS", .i 8)]
def irT : List (Str × List (List Nat × List Nat)) := []
def irD : List ((Str × Nat) × List D) := [(("Field", 1), [.int 0, .non])]
def irK : List (Str × List Str) := [("_law_kinds", ["BadField", "BadTemplate", "BadRecord", "BadText", "NotComparable", "NothingToUndo", "BadName", "NoName", "Clash", "BadPart", "BadBan", "BadGap", "BadLine", "ValueError"])]
def pg : Pg := ⟨fun f => irF.lookup f, fun k m => irM.lookup (k, m), fun m => irP.lookup m, fun m => mtS irM m, fun x => (irC.lookup x).map Cv.d, 1000000, fun y => irT.lookup y, fun f n => irD.lookup (f, n), fun f => irK.lookup f⟩
def lw : Lw := ⟨pg, irF.map (·.1), ["Field", "Template", "Shelf"], ["least", "most", "past", "present", "row", "rows", "signs", "table"], ["CastError", "BadField", "BadTemplate", "BadRecord", "BadText", "NotComparable", "NothingToUndo", "BadName", "NoName", "Clash", "BadPart", "BadBan", "BadGap", "BadLine"]⟩
theorem sg_is_int (k : Nat) : (pg.T k).sg (.fn "is_int") = some ⟨[.fz, .fz, .fz], .fz⟩ := rfl
theorem fn_is_int (k : Nat) : (pg.T k).fn (.fn "is_int") = pg.bd k ir_is_int := rfl
theorem sg_is_of (k : Nat) : (pg.T k).sg (.fn "is_of") = some ⟨[.fz, .fz, .fz, .fz], .fz⟩ := rfl
theorem fn_is_of (k : Nat) : (pg.T k).fn (.fn "is_of") = pg.bd k ir_is_of := rfl
theorem sg_is_word (k : Nat) : (pg.T k).sg (.fn "is_word") = some ⟨[.fz], .fz⟩ := rfl
theorem fn_is_word (k : Nat) : (pg.T k).fn (.fn "is_word") = pg.bd k ir_is_word := rfl
theorem sg_is_text (k : Nat) : (pg.T k).sg (.fn "is_text") = some ⟨[.fz], .fz⟩ := rfl
theorem fn_is_text (k : Nat) : (pg.T k).fn (.fn "is_text") = pg.bd k ir_is_text := rfl
theorem sg_are_signs (k : Nat) : (pg.T k).sg (.fn "are_signs") = some ⟨[.fz, .fz], .fz⟩ := rfl
theorem fn_are_signs (k : Nat) : (pg.T k).fn (.fn "are_signs") = pg.bd k ir_are_signs := rfl
theorem sg_check_fields (k : Nat) : (pg.T k).sg (.fn "check_fields") = some ⟨[.fz], .fz⟩ := rfl
theorem fn_check_fields (k : Nat) : (pg.T k).fn (.fn "check_fields") = pg.bd k ir_check_fields := rfl
theorem sg_is_part (k : Nat) : (pg.T k).sg (.fn "is_part") = some ⟨[.fz, .fz, .fz], .fz⟩ := rfl
theorem fn_is_part (k : Nat) : (pg.T k).fn (.fn "is_part") = pg.bd k ir_is_part := rfl
theorem sg_separated (k : Nat) : (pg.T k).sg (.fn "separated") = some ⟨[.fz, .fz, .fz], .fz⟩ := rfl
theorem fn_separated (k : Nat) : (pg.T k).fn (.fn "separated") = pg.bd k ir_separated := rfl
theorem sg_forbidden (k : Nat) : (pg.T k).sg (.fn "forbidden") = some ⟨[.fz, .fz], .fz⟩ := rfl
theorem fn_forbidden (k : Nat) : (pg.T k).fn (.fn "forbidden") = pg.bd k ir_forbidden := rfl
theorem sg_is_record (k : Nat) : (pg.T k).sg (.fn "is_record") = some ⟨[.fz, .fz], .fz⟩ := rfl
theorem fn_is_record (k : Nat) : (pg.T k).fn (.fn "is_record") = pg.bd k ir_is_record := rfl
theorem sg_made_name (k : Nat) : (pg.T k).sg (.fn "made_name") = some ⟨[.fz, .fz], .fz⟩ := rfl
theorem fn_made_name (k : Nat) : (pg.T k).fn (.fn "made_name") = pg.bd k ir_made_name := rfl
theorem sg_name_of (k : Nat) : (pg.T k).sg (.fn "name_of") = some ⟨[.fz, .fz], .fz⟩ := rfl
theorem fn_name_of (k : Nat) : (pg.T k).fn (.fn "name_of") = pg.bd k ir_name_of := rfl
theorem sg_common_order (k : Nat) : (pg.T k).sg (.fn "common_order") = some ⟨[.fz, .fz], .fz⟩ := rfl
theorem fn_common_order (k : Nat) : (pg.T k).fn (.fn "common_order") = pg.bd k ir_common_order := rfl
theorem sg_parting (k : Nat) : (pg.T k).sg (.fn "parting") = some ⟨[.fz, .fz], .fz⟩ := rfl
theorem fn_parting (k : Nat) : (pg.T k).fn (.fn "parting") = pg.bd k ir_parting := rfl
theorem sg_part_of (k : Nat) : (pg.T k).sg (.fn "part_of") = some ⟨[.fz], .fz⟩ := rfl
theorem fn_part_of (k : Nat) : (pg.T k).fn (.fn "part_of") = pg.bd k ir_part_of := rfl
theorem sg_read (k : Nat) : (pg.T k).sg (.fn "read") = some ⟨[.fz], .fz⟩ := rfl
theorem fn_read (k : Nat) : (pg.T k).fn (.fn "read") = pg.bd k ir_read := rfl
theorem sg__law_begin (k : Nat) : (pg.T k).sg (.fn "_law_begin") = some ⟨[.fz], (.own .fz)⟩ := rfl
theorem fn__law_begin (k : Nat) : (pg.T k).fn (.fn "_law_begin") = pg.bd k ir__law_begin := rfl
theorem sg__law_draw (k : Nat) : (pg.T k).sg (.fn "_law_draw") = some ⟨[.io (.own .fz), .fz], .fz⟩ := rfl
theorem fn__law_draw (k : Nat) : (pg.T k).fn (.fn "_law_draw") = pg.bd k ir__law_draw := rfl
theorem sg__law_first (k : Nat) : (pg.T k).sg (.fn "_law_first") = some ⟨[.fz, .fz], .fz⟩ := rfl
theorem fn__law_first (k : Nat) : (pg.T k).fn (.fn "_law_first") = pg.bd k ir__law_first := rfl
theorem sg__law_second (k : Nat) : (pg.T k).sg (.fn "_law_second") = some ⟨[.fz, .fz], .fz⟩ := rfl
theorem fn__law_second (k : Nat) : (pg.T k).fn (.fn "_law_second") = pg.bd k ir__law_second := rfl
theorem sg_law (k : Nat) : (pg.T k).sg (.fn "law") = some ⟨[.fz], .fz⟩ := rfl
theorem fn_law (k : Nat) : (pg.T k).fn (.fn "law") = pg.bd k ir_law := rfl
theorem sg_Fieldu_initu (k : Nat) : (pg.T k).sg (.fn "Field") = some ⟨[.fz, .fz, .fz], .ie⟩ := rfl
theorem fn_Fieldu_initu (k : Nat) : (pg.T k).fn (.fn "Field") = conD "Field" (pg.bd k ir_Fieldu_initu) := rfl
theorem sg_Fieldu_containsu_ct (k : Nat) : (pg.T k).sg (.ct "Field") = some ⟨[.fz, .fz], .fz⟩ := rfl
theorem fn_Fieldu_containsu_ct (k : Nat) : (pg.T k).fn (.ct "Field") = dCt "Field" (pg.bd k ir_Fieldu_containsu) := rfl
theorem sg_Fieldu_containsu_nct (k : Nat) : (pg.T k).sg (.nct "Field") = some ⟨[.fz, .fz], .fz⟩ := rfl
theorem fn_Fieldu_containsu_nct (k : Nat) : (pg.T k).fn (.nct "Field") = dNct "Field" (pg.bd k ir_Fieldu_containsu) := rfl
theorem sg_Templateu_initu (k : Nat) : (pg.T k).sg (.fn "Template") = some ⟨[.fz, .fz], .ie⟩ := rfl
theorem fn_Templateu_initu (k : Nat) : (pg.T k).fn (.fn "Template") = conD "Template" (pg.bd k ir_Templateu_initu) := rfl
theorem sg_pr_fields (k : Nat) : (pg.T k).sg (.pr "fields") = some ⟨[.fz], .fz⟩ := rfl
theorem fn_pr_fields (k : Nat) : (pg.T k).fn (.pr "fields") = dPr "Template" (pg.bd k ir_Template_fields) := rfl
theorem sg_pr_parts (k : Nat) : (pg.T k).sg (.pr "parts") = some ⟨[.fz], .fz⟩ := rfl
theorem fn_pr_parts (k : Nat) : (pg.T k).fn (.pr "parts") = dPr "Template" (pg.bd k ir_Template_parts) := rfl
theorem sg_Shelfu_initu (k : Nat) : (pg.T k).sg (.fn "Shelf") = some ⟨[.fz], (.ia "past" (.own .fz) .ie)⟩ := rfl
theorem fn_Shelfu_initu (k : Nat) : (pg.T k).fn (.fn "Shelf") = conD "Shelf" (pg.bd k ir_Shelfu_initu) := rfl
theorem sg_cm_Shelf_go_to (k : Nat) : (pg.T k).sg (.cm "Shelf" "go_to") = some ⟨[.io (.ia "past" (.own .fz) .ie), .fz, .fz], .fz⟩ := rfl
theorem sg_mt_Shelf_go_to (k : Nat) : (pg.T k).sg (.mt "go_to") = (pg.T k).sg (.cm "Shelf" "go_to") := rfl
theorem fn_cm_Shelf_go_to (k : Nat) : (pg.T k).fn (.cm "Shelf" "go_to") = pg.bd k ir_Shelf_go_to := rfl
theorem sg_cm_Shelf_put (k : Nat) : (pg.T k).sg (.cm "Shelf" "put") = some ⟨[.io (.ia "past" (.own .fz) .ie), .fz], .fz⟩ := rfl
theorem sg_mt_Shelf_put (k : Nat) : (pg.T k).sg (.mt "put") = (pg.T k).sg (.cm "Shelf" "put") := rfl
theorem fn_cm_Shelf_put (k : Nat) : (pg.T k).fn (.cm "Shelf" "put") = pg.bd k ir_Shelf_put := rfl
theorem sg_cm_Shelf_drop (k : Nat) : (pg.T k).sg (.cm "Shelf" "drop") = some ⟨[.fz, .fz], .fz⟩ := rfl
theorem sg_mt_Shelf_drop (k : Nat) : (pg.T k).sg (.mt "drop") = (pg.T k).sg (.cm "Shelf" "drop") := rfl
theorem fn_cm_Shelf_drop (k : Nat) : (pg.T k).fn (.cm "Shelf" "drop") = pg.bd k ir_Shelf_drop := rfl
theorem sg_cm_Shelf_undo (k : Nat) : (pg.T k).sg (.cm "Shelf" "undo") = some ⟨[.fz], .fz⟩ := rfl
theorem sg_mt_Shelf_undo (k : Nat) : (pg.T k).sg (.mt "undo") = (pg.T k).sg (.cm "Shelf" "undo") := rfl
theorem fn_cm_Shelf_undo (k : Nat) : (pg.T k).fn (.cm "Shelf" "undo") = pg.bd k ir_Shelf_undo := rfl
theorem sg_bi_eq (k : Nat) : (pg.T k).sg (.bi .eq) = some ⟨[.bo, .bo], .fz⟩ := rfl
theorem fn_bi_eq (k : Nat) : (pg.T k).fn (.bi .eq) = outO bEq := rfl
theorem sg_bi_ne (k : Nat) : (pg.T k).sg (.bi .ne) = some ⟨[.bo, .bo], .fz⟩ := rfl
theorem fn_bi_ne (k : Nat) : (pg.T k).fn (.bi .ne) = outO bNe := rfl
theorem sg_bi_cnt (k : Nat) : (pg.T k).sg (.bi .cnt) = some ⟨[.bo, .bo], .fz⟩ := rfl
theorem fn_bi_cnt (k : Nat) : (pg.T k).fn (.bi .cnt) = outO bCnt := rfl
theorem sg_bi_joi (k : Nat) : (pg.T k).sg (.bi .joi) = some ⟨[.bo, .bo], .fz⟩ := rfl
theorem fn_bi_joi (k : Nat) : (pg.T k).fn (.bi .joi) = outO dJoin := rfl
theorem sg_bi_revS (k : Nat) : (pg.T k).sg (.bi .revS) = some ⟨[.bo], .fz⟩ := rfl
theorem fn_bi_revS (k : Nat) : (pg.T k).fn (.bi .revS) = outO bRevS := rfl
theorem sg_bi_lnset (k : Nat) : (pg.T k).sg (.bi .lnset) = some ⟨[.bo], .fz⟩ := rfl
theorem fn_bi_lnset (k : Nat) : (pg.T k).fn (.bi .lnset) = outO bLnset := rfl
theorem sg_bi_sortS (k : Nat) : (pg.T k).sg (.bi .sortS) = some ⟨[.bo], (.own .fz)⟩ := rfl
theorem fn_bi_sortS (k : Nat) : (pg.T k).fn (.bi .sortS) = outO bSortS := rfl
theorem sg_bi_dctC (k : Nat) : (pg.T k).sg (.bi .dctC) = some ⟨[.bo], (.own .fz)⟩ := rfl
theorem fn_bi_dctC (k : Nat) : (pg.T k).fn (.bi .dctC) = outO bDctC := rfl
theorem sg_bi_listD (k : Nat) : (pg.T k).sg (.bi .listD) = some ⟨[.bo], (.own .fz)⟩ := rfl
theorem fn_bi_listD (k : Nat) : (pg.T k).fn (.bi .listD) = outO bListD := rfl
theorem sg_bi_listS (k : Nat) : (pg.T k).sg (.bi .listS) = some ⟨[.bo], (.own .fz)⟩ := rfl
theorem fn_bi_listS (k : Nat) : (pg.T k).fn (.bi .listS) = outO bListS := rfl
theorem sg_bi_spl (k : Nat) : (pg.T k).sg (.bi .spl) = some ⟨[.bo, .bo], (.own .fz)⟩ := rfl
theorem fn_bi_spl (k : Nat) : (pg.T k).fn (.bi .spl) = outO bSpl := rfl
theorem sg_bi_get1 (k : Nat) : (pg.T k).sg (.bi .get1) = some ⟨[.bo, .bo], .fz⟩ := rfl
theorem fn_bi_get1 (k : Nat) : (pg.T k).fn (.bi .get1) = outO bGet1 := rfl
theorem sg_bi_get2 (k : Nat) : (pg.T k).sg (.bi .get2) = some ⟨[.bo, .bo, .bo], .fz⟩ := rfl
theorem fn_bi_get2 (k : Nat) : (pg.T k).fn (.bi .get2) = outO bGet2 := rfl
theorem sg_deq (k : Nat) : (pg.T k).sg .deq = some ⟨[.fz, .fz], .fz⟩ := rfl
theorem fn_deq (k : Nat) : (pg.T k).fn .deq = dDeq (pg.oq (pg.bd k)) := rfl
theorem sg_dfl_Field_1 (k : Nat) : (pg.T k).sg (.dfl "Field" 1) = some ⟨[.fz], .ie⟩ := rfl
theorem fn_dfl_Field_1 (k : Nat) (vs : List D) : (pg.T k).fn (.dfl "Field" 1) vs = conD "Field" (pg.bd k ir_Fieldu_initu) (vs ++ [.int 0, .non]) := rfl
theorem sg_isi (k : Nat) (t : Ik) : (pg.T k).sg (.isi t) = some ⟨[.bo], .fz⟩ := rfl
theorem fn_isi (k : Nat) (t : Ik) : (pg.T k).fn (.isi t) = outO (bIsi t) := rfl
theorem gc_SIGNS (k : Nat) : (pg.T k).gc "SIGNS" = some (.str SIGNS) := rfl
theorem gc_SMALL (k : Nat) : (pg.T k).gc "SMALL" = some (.str SMALL) := rfl
theorem gc_MOST_FIELDS (k : Nat) : (pg.T k).gc "MOST_FIELDS" = some (.int 4) := rfl
theorem gc_MOST_PARTS (k : Nat) : (pg.T k).gc "MOST_PARTS" = some (.int 8) := rfl
theorem sl_0 : strC "text" = some (.str [116, 101, 120, 116]) := rfl
theorem sl_1 : strC "field" = some (.str [102, 105, 101, 108, 100]) := rfl
theorem sl_2 : strC "" = some (.str []) := rfl
theorem sl_3 : strC "put" = some (.str [112, 117, 116]) := rfl
theorem sl_4 : strC "\n" = some (.str [10]) := rfl
theorem sl_5 : strC " " = some (.str [32]) := rfl
theorem sl_6 : strC "A" = some (.str [65]) := rfl
theorem sl_7 : strC "b" = some (.str [98]) := rfl
theorem sl_8 : strC "a" = some (.str [97]) := rfl
theorem sl_9 : strC "lost" = some (.str [108, 111, 115, 116]) := rfl
theorem sl_10 : strC "loop" = some (.str [108, 111, 111, 112]) := rfl
theorem sl_11 : strC "z" = some (.str [122]) := rfl
theorem sl_12 : strC "ab" = some (.str [97, 98]) := rfl
theorem sl_13 : strC "-" = some (.str [45]) := rfl
end Nc

set_option Elab.async false
set_option linter.all false
set_option autoImplicit false
set_option maxRecDepth 100000
set_option maxHeartbeats 4000000
namespace Nc
open PySem PySem.Spec PyProof.Rows L2
def drwD (ns : List Int) (p q r : Int) : D := .lst [.lst (ns.map .int), .int p, .int q, .int r]
/-- the draws as they stand -/
def Drw (d : D) : Prop := ∃ (ns : List Int) (p q r : Int), d = drwD ns p q r ∧ 0 ≤ p ∧ 0 ≤ q
theorem dIx_int (ns : List Int) (p : Int) (h0 : 0 ≤ p) (h1 : p < ns.length) : ∃ c, dIx [.lst (ns.map D.int), .int p] = some (.int c) := by
  refine ⟨ns[p.toNat]'(by omega), ?_⟩
  rw [dIx_in _ p h0 (by simpa using h1)]
  simp
theorem m_draw (k : Nat) {d : D} (h : Drw d) {m : Int} (h0 : 0 < m) (h1 : m < 1073741824) : ∃ v d', pg.bd (k + 1) ir__law_draw [d, .int m] = some (.val (.int v) [d']) ∧ 0 ≤ v ∧ v < m ∧ Drw d' := by
  obtain ⟨ns, p, q, r, rfl, hp, hq⟩ := h
  have hm : ∀ x : Int, 0 ≤ x % m ∧ x % m < m := fun x => ⟨Int.emod_nonneg _ (by omega), Int.emod_lt_of_pos _ h0⟩
  show ∃ v d', fnD (pg.T k) _ _ _ _ = _ ∧ _
  by_cases hq0 : q = 0
  · subst hq0
    by_cases hl : p < ns.length
    · obtain ⟨c, hc⟩ := dIx_int ns p hp hl
      by_cases hb : 1000000000000000000 ≤ c
      · refine ⟨c % m, drwD ns (p + 1) (c / m) r, ?_, (hm _).1, (hm _).2, _, _, _, _, rfl, by omega, Int.ediv_nonneg (by omega) (by omega)⟩
        have hc0 : 0 < c := by omega
        simp [fnD, eStart, evS, ev, evs, evt, evi, ev3, andV, orV, notV, andT, orT, notT, chnV, ifeV, R.bnd, R.st, S3.seq, val1, callR, callO, consS, rsv, opV, tru, truB, trD, slotP, slot, getP, accD, ofO, putIo, ioD, opD, dCmp, outO, bmV, bmT, isCK, setV, bindT, bIsi, isiB, isiN, clsK, insK, grd, atV, rngV, itV, itemsB, isB, isNil, items, sg_cm_Shelf_go_to, fn_cm_Shelf_go_to, sg_cm_Shelf_put, fn_cm_Shelf_put, sg_cm_Shelf_drop, fn_cm_Shelf_drop, sg_cm_Shelf_undo, fn_cm_Shelf_undo, sg_dfl_Field_1, fn_dfl_Field_1, sg_bi_eq, fn_bi_eq, xs__law_draw, xm__law_draw, xn__law_draw, sm__law_draw, drwD, hc, hl, hb, hc0, h0, h1, dIx0, dIx1, dIx2, dIx3, dLen, dPow, dInt, dMod, dDiv, dMul, dAddI, stiV, stD1, stD2, stD3, setP, bEq, mixK, fEq]
      · refine ⟨(r * 48271 + c * 69621 + 11) % 2147483647 * 16807 % 2147483629 % m, drwD ns (p + 1) 0 ((r * 48271 + c * 69621 + 11) % 2147483647), ?_, (hm _).1, (hm _).2, _, _, _, _, rfl, by omega, by omega⟩
        simp [fnD, eStart, evS, ev, evs, evt, evi, ev3, andV, orV, notV, andT, orT, notT, chnV, ifeV, R.bnd, R.st, S3.seq, val1, callR, callO, consS, rsv, opV, tru, truB, trD, slotP, slot, getP, accD, ofO, putIo, ioD, opD, dCmp, outO, bmV, bmT, isCK, setV, bindT, bIsi, isiB, isiN, clsK, insK, grd, atV, rngV, itV, itemsB, isB, isNil, items, sg_cm_Shelf_go_to, fn_cm_Shelf_go_to, sg_cm_Shelf_put, fn_cm_Shelf_put, sg_cm_Shelf_drop, fn_cm_Shelf_drop, sg_cm_Shelf_undo, fn_cm_Shelf_undo, sg_dfl_Field_1, fn_dfl_Field_1, sg_bi_eq, fn_bi_eq, xs__law_draw, xm__law_draw, xn__law_draw, sm__law_draw, drwD, hc, hl, hb, h0, h1, dIx0, dIx1, dIx2, dIx3, dLen, dPow, dInt, dMod, dDiv, dMul, dAddI, stiV, stD1, stD2, stD3, setP, bEq, mixK, fEq]
    · refine ⟨(r * 48271 + 7) % 2147483647 * 16807 % 2147483629 % m, drwD ns p 0 ((r * 48271 + 7) % 2147483647), ?_, (hm _).1, (hm _).2, _, _, _, _, rfl, by omega, by omega⟩
      simp [fnD, eStart, evS, ev, evs, evt, evi, ev3, andV, orV, notV, andT, orT, notT, chnV, ifeV, R.bnd, R.st, S3.seq, val1, callR, callO, consS, rsv, opV, tru, truB, trD, slotP, slot, getP, accD, ofO, putIo, ioD, opD, dCmp, outO, bmV, bmT, isCK, setV, bindT, bIsi, isiB, isiN, clsK, insK, grd, atV, rngV, itV, itemsB, isB, isNil, items, sg_cm_Shelf_go_to, fn_cm_Shelf_go_to, sg_cm_Shelf_put, fn_cm_Shelf_put, sg_cm_Shelf_drop, fn_cm_Shelf_drop, sg_cm_Shelf_undo, fn_cm_Shelf_undo, sg_dfl_Field_1, fn_dfl_Field_1, sg_bi_eq, fn_bi_eq, xs__law_draw, xm__law_draw, xn__law_draw, sm__law_draw, drwD, hl, h0, h1, dIx0, dIx1, dIx2, dIx3, dLen, dPow, dInt, dMod, dDiv, dMul, dAddI, stiV, stD1, stD2, stD3, setP, bEq, mixK, fEq]
  · refine ⟨q % m, drwD ns p (q / m) r, ?_, (hm _).1, (hm _).2, _, _, _, _, rfl, hp, Int.ediv_nonneg (by omega) (by omega)⟩
    have hq1 : 0 < q := by omega
    simp [fnD, eStart, evS, ev, evs, evt, evi, ev3, andV, orV, notV, andT, orT, notT, chnV, ifeV, R.bnd, R.st, S3.seq, val1, callR, callO, consS, rsv, opV, tru, truB, trD, slotP, slot, getP, accD, ofO, putIo, ioD, opD, dCmp, outO, bmV, bmT, isCK, setV, bindT, bIsi, isiB, isiN, clsK, insK, grd, atV, rngV, itV, itemsB, isB, isNil, items, sg_cm_Shelf_go_to, fn_cm_Shelf_go_to, sg_cm_Shelf_put, fn_cm_Shelf_put, sg_cm_Shelf_drop, fn_cm_Shelf_drop, sg_cm_Shelf_undo, fn_cm_Shelf_undo, sg_dfl_Field_1, fn_dfl_Field_1, sg_bi_eq, fn_bi_eq, xs__law_draw, xm__law_draw, xn__law_draw, sm__law_draw, drwD, hq0, hq1, h0, h1, dIx0, dIx1, dIx2, dIx3, dLen, dPow, dInt, dMod, dDiv, dMul, dAddI, stiV, stD1, stD2, stD3, setP, bEq, mixK, fEq]
end Nc

set_option Elab.async false
set_option linter.all false
set_option autoImplicit false
set_option maxRecDepth 100000
set_option maxHeartbeats 4000000
namespace Nc
open PySem PySem.Spec PyProof.Rows L2
/-- what stands behind the draw -/
def smR : Sm → Sm
  | .cons _ (.cons _ r) => r
  | s => s
def outB : S3 → Option D
  | .rt d _ => some d
  | _ => none
def eK (a b : Option D) (v : Int) : Env := [a, b, some (.int v), none, none, none, none]
theorem kw0 (a b : Option D) : outB (evS (pg.T 60) (smR sm_law) (eK a b 0)) = some (.bl true) := by kernel_rfl
theorem kw1 (a b : Option D) : outB (evS (pg.T 60) (smR sm_law) (eK a b 1)) = some (.bl true) := by kernel_rfl
theorem kw2 (a b : Option D) : outB (evS (pg.T 60) (smR sm_law) (eK a b 2)) = some (.bl true) := by kernel_rfl
theorem kw3 (a b : Option D) : outB (evS (pg.T 60) (smR sm_law) (eK a b 3)) = some (.bl true) := by kernel_rfl
theorem kw4 (a b : Option D) : outB (evS (pg.T 60) (smR sm_law) (eK a b 4)) = some (.bl true) := by kernel_rfl
theorem kw5 (a b : Option D) : outB (evS (pg.T 60) (smR sm_law) (eK a b 5)) = some (.bl true) := by kernel_rfl
theorem kw6 (a b : Option D) : outB (evS (pg.T 60) (smR sm_law) (eK a b 6)) = some (.bl true) := by kernel_rfl
theorem kw7 (a b : Option D) : outB (evS (pg.T 60) (smR sm_law) (eK a b 7)) = some (.bl true) := by kernel_rfl
theorem kw8 (a b : Option D) : outB (evS (pg.T 60) (smR sm_law) (eK a b 8)) = some (.bl true) := by kernel_rfl
theorem kw9 (a b : Option D) : outB (evS (pg.T 60) (smR sm_law) (eK a b 9)) = some (.bl true) := by kernel_rfl
theorem kw10 (a b : Option D) : outB (evS (pg.T 60) (smR sm_law) (eK a b 10)) = some (.bl true) := by kernel_rfl
theorem kw11 (a b : Option D) : outB (evS (pg.T 60) (smR sm_law) (eK a b 11)) = some (.bl true) := by kernel_rfl
theorem kw12 (a b : Option D) : outB (evS (pg.T 60) (smR sm_law) (eK a b 12)) = some (.bl true) := by kernel_rfl
theorem bd_succ (k : Nat) (d : Dfn) (ds : List D) : pg.bd (k + 1) d ds = fnD (pg.T k) d.s d.sm d.n ds := rfl
theorem m_begin (k : Nat) (ns : List Int) : pg.bd (k + 1) ir__law_begin [.lst (ns.map .int)] = some (.val (drwD ns 0 0 7) []) := by
  refine (bd_succ k ir__law_begin _).trans ?_
  have e : dListL [.lst (ns.map D.int)] = some (.lst (ns.map .int)) := rfl
  simp [fnD, eStart, evS, ev, evs, evt, evi, ev3, andV, orV, notV, andT, orT, notT, chnV, ifeV, R.bnd, R.st, S3.seq, val1, callR, callO, consS, rsv, opV, tru, truB, trD, slotP, slot, getP, accD, ofO, putIo, ioD, opD, dCmp, outO, bmV, bmT, isCK, setV, bindT, bIsi, isiB, isiN, clsK, insK, grd, atV, rngV, itV, itemsB, isB, isNil, items, sg_cm_Shelf_go_to, fn_cm_Shelf_go_to, sg_cm_Shelf_put, fn_cm_Shelf_put, sg_cm_Shelf_drop, fn_cm_Shelf_drop, sg_cm_Shelf_undo, fn_cm_Shelf_undo, sg_dfl_Field_1, fn_dfl_Field_1, xs__law_begin, xm__law_begin, xn__law_begin, sm__law_begin, drwD, e, dLst_ok]
theorem law_out {T : Tb} {s1 s2 r : Sm} {δ δ1 : Env} (h1 : (evS T s1 δ).seq (evS T s2) = .nx δ1) (h2 : outB (evS T r δ1) = some (.bl true)) : ∃ δ', evS T (.cons s1 (.cons s2 r)) δ = .rt (.bl true) δ' := by
  have e : evS T (.cons s1 (.cons s2 r)) δ = ((evS T s1 δ).seq (evS T s2)).seq (evS T r) := by
    show (evS T s1 δ).seq (fun δ => (evS T s2 δ).seq (evS T r)) = _
    cases evS T s1 δ <;> rfl
  rw [e, h1]
  show ∃ δ', evS T r δ1 = _
  cases h : evS T r δ1 with
  | rt d δ' => rw [h] at h2; cases h2; exact ⟨δ', rfl⟩
  | _ => rw [h] at h2; cases h2
theorem plain_law (ns : List Int) : pg.bd 61 ir_law [.lst (ns.map .int)] = some (.val (.bl true) []) := by
  have h0 := m_begin 59 ns
  obtain ⟨v, d1, h1, v0, v1, _⟩ := m_draw 59 (d := drwD ns 0 0 7) ⟨ns, 0, 0, 7, rfl, by omega, by omega⟩ (m := 13) (by omega) (by omega)
  have hk : outB (evS (pg.T 60) (smR sm_law) (eK (some (.lst (ns.map .int))) (some d1) v)) = some (.bl true) := by
    have : v = 0 ∨ v = 1 ∨ v = 2 ∨ v = 3 ∨ v = 4 ∨ v = 5 ∨ v = 6 ∨ v = 7 ∨ v = 8 ∨ v = 9 ∨ v = 10 ∨ v = 11 ∨ v = 12 := by omega
    rcases this with rfl | rfl | rfl | rfl | rfl | rfl | rfl | rfl | rfl | rfl | rfl | rfl | rfl
    · exact kw0 _ _
    · exact kw1 _ _
    · exact kw2 _ _
    · exact kw3 _ _
    · exact kw4 _ _
    · exact kw5 _ _
    · exact kw6 _ _
    · exact kw7 _ _
    · exact kw8 _ _
    · exact kw9 _ _
    · exact kw10 _ _
    · exact kw11 _ _
    · exact kw12 _ _
  have hs : ∃ δ', evS (pg.T 60) sm_law (eStart 7 [.lst (ns.map .int)]) = .rt (.bl true) δ' := by
    refine law_out (s1 := .set [1] (.cal (.fn "_law_begin") (.cons (.v 0 []) .nil))) (s2 := .set [2] (.cal (.fn "_law_draw") (.cons (.b 1) (.cons (.int 13) .nil)))) ?_ hk
    have c0 : (pg.T 60).sg (.fn "_law_begin") = some ⟨[.fz], .own .fz⟩ := rfl
    have c1 : (pg.T 60).sg (.fn "_law_draw") = some ⟨[.io (.own .fz), .fz], .fz⟩ := rfl
    have f0 : (pg.T 60).fn (.fn "_law_begin") = pg.bd 60 ir__law_begin := rfl
    have f1 : (pg.T 60).fn (.fn "_law_draw") = pg.bd 60 ir__law_draw := rfl
    generalize pg.T 60 = T at *
    simp [evS, ev, evs, ev3, callR, callO, consS, rsv, setV, bindT, slotP, slot, getP, ofO, val1, R.bnd, R.st, S3.seq, c0, c1, f0, f1, h0, h1, putIo, eStart, eK]
  obtain ⟨δ', e⟩ := hs
  show fnD (pg.T 60) ir_law.s ir_law.sm ir_law.n _ = _
  unfold fnD
  rw [xm_law, xn_law, e]
  rfl
end Nc

set_option Elab.async false
set_option linter.all false
set_option autoImplicit false
set_option maxRecDepth 100000
set_option maxHeartbeats 0
namespace Nc
open PySem PySem.Spec PyProof.Rows L2
abbrev prg : Program := PySem.Challenge.pw_namecasts_k23_errors_are_apart
def stAt (i : Nat) : Stmt := prg.main.body.getD i (.Pass ⟨0, 0, 0, 0⟩)
def t0 : He.DefD := ⟨("is_int", none), "is_int", "is_int", argsOf (stAt 19), bodyOf (stAt 19), scopeOf (stAt 19), [], []⟩
def t1 : He.DefD := ⟨("is_of", none), "is_of", "is_of", argsOf (stAt 20), bodyOf (stAt 20), scopeOf (stAt 20), [], []⟩
def t2 : He.DefD := ⟨("is_word", none), "is_word", "is_word", argsOf (stAt 21), bodyOf (stAt 21), scopeOf (stAt 21), [], []⟩
def t3 : He.DefD := ⟨("is_text", none), "is_text", "is_text", argsOf (stAt 22), bodyOf (stAt 22), scopeOf (stAt 22), [], []⟩
def t4 : He.DefD := ⟨("are_signs", none), "are_signs", "are_signs", argsOf (stAt 23), bodyOf (stAt 23), scopeOf (stAt 23), [], []⟩
def t5 : He.DefD := ⟨("check_fields", none), "check_fields", "check_fields", argsOf (stAt 33), bodyOf (stAt 33), scopeOf (stAt 33), [], []⟩
def t6 : He.DefD := ⟨("is_part", none), "is_part", "is_part", argsOf (stAt 34), bodyOf (stAt 34), scopeOf (stAt 34), [], []⟩
def t7 : He.DefD := ⟨("separated", none), "separated", "separated", argsOf (stAt 43), bodyOf (stAt 43), scopeOf (stAt 43), [], []⟩
def t8 : He.DefD := ⟨("forbidden", none), "forbidden", "forbidden", argsOf (stAt 44), bodyOf (stAt 44), scopeOf (stAt 44), [], []⟩
def t9 : He.DefD := ⟨("is_record", none), "is_record", "is_record", argsOf (stAt 46), bodyOf (stAt 46), scopeOf (stAt 46), [], []⟩
def t10 : He.DefD := ⟨("made_name", none), "made_name", "made_name", argsOf (stAt 48), bodyOf (stAt 48), scopeOf (stAt 48), [], []⟩
def t11 : He.DefD := ⟨("name_of", none), "name_of", "name_of", argsOf (stAt 49), bodyOf (stAt 49), scopeOf (stAt 49), [], []⟩
def t12 : He.DefD := ⟨("common_order", none), "common_order", "common_order", argsOf (stAt 57), bodyOf (stAt 57), scopeOf (stAt 57), [], []⟩
def t13 : He.DefD := ⟨("parting", none), "parting", "parting", argsOf (stAt 58), bodyOf (stAt 58), scopeOf (stAt 58), [], []⟩
def t14 : He.DefD := ⟨("part_of", none), "part_of", "part_of", argsOf (stAt 67), bodyOf (stAt 67), scopeOf (stAt 67), [], []⟩
def t15 : He.DefD := ⟨("read", none), "read", "read", argsOf (stAt 68), bodyOf (stAt 68), scopeOf (stAt 68), [], []⟩
def t16 : He.DefD := ⟨("_law_begin", none), "_law_begin", "_law_begin", argsOf (stAt 70), bodyOf (stAt 70), scopeOf (stAt 70), [], []⟩
def t17 : He.DefD := ⟨("_law_draw", none), "_law_draw", "_law_draw", argsOf (stAt 71), bodyOf (stAt 71), scopeOf (stAt 71), [], []⟩
def t18 : He.DefD := ⟨("_law_first", none), "_law_first", "_law_first", argsOf (stAt 72), bodyOf (stAt 72), scopeOf (stAt 72), [], []⟩
def t19 : He.DefD := ⟨("_law_second", none), "_law_second", "_law_second", argsOf (stAt 73), bodyOf (stAt 73), scopeOf (stAt 73), [], []⟩
def t20 : He.DefD := ⟨("law", none), "law", "law", argsOf (stAt 75), bodyOf (stAt 75), scopeOf (stAt 75), [], []⟩
def t21 : He.DefD := ⟨("Field", some "__init__"), "__init__", "Field.__init__", argsOf (inCls (stAt 25) 0), bodyOf (inCls (stAt 25) 0), scopeOf (inCls (stAt 25) 0), [.int 0, .non], []⟩
def t22 : He.DefD := ⟨("Field", some "__contains__"), "__contains__", "Field.__contains__", argsOf (inCls (stAt 25) 2), bodyOf (inCls (stAt 25) 2), scopeOf (inCls (stAt 25) 2), [], []⟩
def t23 : He.DefD := ⟨("Template", some "__init__"), "__init__", "Template.__init__", argsOf (inCls (stAt 35) 0), bodyOf (inCls (stAt 35) 0), scopeOf (inCls (stAt 35) 0), [], []⟩
def t24 : He.DefD := ⟨("Template", some "fields"), "fields", "Template.fields", argsOf (inCls (stAt 35) 1), bodyOf (inCls (stAt 35) 1), scopeOf (inCls (stAt 35) 1), [], []⟩
def t25 : He.DefD := ⟨("Template", some "parts"), "parts", "Template.parts", argsOf (inCls (stAt 35) 2), bodyOf (inCls (stAt 35) 2), scopeOf (inCls (stAt 35) 2), [], []⟩
def t26 : He.DefD := ⟨("Shelf", some "__init__"), "__init__", "Shelf.__init__", argsOf (inCls (stAt 60) 0), bodyOf (inCls (stAt 60) 0), scopeOf (inCls (stAt 60) 0), [], []⟩
def t27 : He.DefD := ⟨("Shelf", some "go_to"), "go_to", "Shelf.go_to", argsOf (inCls (stAt 60) 2), bodyOf (inCls (stAt 60) 2), scopeOf (inCls (stAt 60) 2), [], []⟩
def t28 : He.DefD := ⟨("Shelf", some "put"), "put", "Shelf.put", argsOf (inCls (stAt 60) 3), bodyOf (inCls (stAt 60) 3), scopeOf (inCls (stAt 60) 3), [], []⟩
def t29 : He.DefD := ⟨("Shelf", some "drop"), "drop", "Shelf.drop", argsOf (inCls (stAt 60) 8), bodyOf (inCls (stAt 60) 8), scopeOf (inCls (stAt 60) 8), [], []⟩
def t30 : He.DefD := ⟨("Shelf", some "undo"), "undo", "Shelf.undo", argsOf (inCls (stAt 60) 10), bodyOf (inCls (stAt 60) 10), scopeOf (inCls (stAt 60) 10), [], []⟩
def x0 : He.DefD := ⟨("BadName", some "__init__"), "__init__", "BadName.__init__", argsOf (inCls (stAt 8) 0), bodyOf (inCls (stAt 8) 0), scopeOf (inCls (stAt 8) 0), [], []⟩
def x1 : He.DefD := ⟨("NoName", some "__init__"), "__init__", "NoName.__init__", argsOf (inCls (stAt 9) 0), bodyOf (inCls (stAt 9) 0), scopeOf (inCls (stAt 9) 0), [], []⟩
def x2 : He.DefD := ⟨("Clash", some "__init__"), "__init__", "Clash.__init__", argsOf (inCls (stAt 10) 0), bodyOf (inCls (stAt 10) 0), scopeOf (inCls (stAt 10) 0), [], []⟩
def x3 : He.DefD := ⟨("BadPart", some "__init__"), "__init__", "BadPart.__init__", argsOf (inCls (stAt 11) 0), bodyOf (inCls (stAt 11) 0), scopeOf (inCls (stAt 11) 0), [], []⟩
def x4 : He.DefD := ⟨("BadBan", some "__init__"), "__init__", "BadBan.__init__", argsOf (inCls (stAt 12) 0), bodyOf (inCls (stAt 12) 0), scopeOf (inCls (stAt 12) 0), [], []⟩
def x5 : He.DefD := ⟨("BadGap", some "__init__"), "__init__", "BadGap.__init__", argsOf (inCls (stAt 13) 0), bodyOf (inCls (stAt 13) 0), scopeOf (inCls (stAt 13) 0), [], []⟩
def x6 : He.DefD := ⟨("BadLine", some "__init__"), "__init__", "BadLine.__init__", argsOf (inCls (stAt 14) 0), bodyOf (inCls (stAt 14) 0), scopeOf (inCls (stAt 14) 0), [], []⟩
def k0 : He.DefD := ⟨("_law_kinds", none), "_law_kinds", "_law_kinds", argsOf (stAt 74), bodyOf (stAt 74), scopeOf (stAt 74), [], []⟩
def hd : Hd0 := ⟨(t0 :: t1 :: t2 :: t3 :: t4 :: t5 :: t6 :: t7 :: t8 :: t9 :: t10 :: t11 :: t12 :: t13 :: t14 :: t15 :: t16 :: t17 :: t18 :: t19 :: t20 :: t21 :: t22 :: t23 :: t26 :: t27 :: t28 :: t29 :: t30 :: x0 :: x1 :: x2 :: x3 :: x4 :: x5 :: x6 :: k0 :: []), ("is_int" :: "is_of" :: "is_word" :: "is_text" :: "are_signs" :: "check_fields" :: "is_part" :: "separated" :: "forbidden" :: "is_record" :: "made_name" :: "name_of" :: "common_order" :: "parting" :: "part_of" :: "read" :: "_law_begin" :: "_law_draw" :: "_law_first" :: "_law_second" :: "law" :: []), ["Field", "Template", "Shelf"], ["least", "most", "past", "present", "row", "rows", "signs", "table"], ["CastError", "BadField", "BadTemplate", "BadRecord", "BadText", "NotComparable", "NothingToUndo", "BadName", "NoName", "Clash", "BadPart", "BadBan", "BadGap", "BadLine"], [("SIGNS", .s "abcABC01-_./"), ("SMALL", .s "abcdefghijklmnopqrstuvwxyz"), ("MOST_FIELDS", .i 4), ("MOST_PARTS", .i 8)], [("Field", "__init__"), ("Field", "__contains__"), ("Template", "__init__"), ("Shelf", "__init__"), ("Shelf", "go_to"), ("Shelf", "put"), ("Shelf", "drop"), ("Shelf", "undo")], [("Template", "fields", t24), ("Template", "parts", t25)], [], ["_law_kinds"]⟩
theorem c0 : dfB lw ir_is_int t0 ["value", "least", "most"] ["value", "least", "most"] = true := by decide +kernel
theorem d0 {K : PySem.W.Frag} (c : hd.obsK K = hd.val) : DefAt K lw.sg lw.ats lw.ex ir_is_int (He.fAd K t0.at_) := defAt_of (t := t0) (N := ["value", "least", "most"]) (ps := ["value", "least", "most"]) c (by simp [hd]) (fun fd F => FunD.bindsN F fun _ _ _ _ _ _ us hl => match us, hl with | [_, _, _], _ => rfl) c0
theorem c1 : dfB lw ir_is_of t1 ["value", "signs", "least", "most", "sign"] ["value", "signs", "least", "most"] = true := by decide +kernel
theorem d1 {K : PySem.W.Frag} (c : hd.obsK K = hd.val) : DefAt K lw.sg lw.ats lw.ex ir_is_of (He.fAd K t1.at_) := defAt_of (t := t1) (N := ["value", "signs", "least", "most", "sign"]) (ps := ["value", "signs", "least", "most"]) c (by simp [hd]) (fun fd F => FunD.bindsN F fun _ _ _ _ _ _ us hl => match us, hl with | [_, _, _, _], _ => rfl) c1
theorem c2 : dfB lw ir_is_word t2 ["value"] ["value"] = true := by decide +kernel
theorem d2 {K : PySem.W.Frag} (c : hd.obsK K = hd.val) : DefAt K lw.sg lw.ats lw.ex ir_is_word (He.fAd K t2.at_) := defAt_of (t := t2) (N := ["value"]) (ps := ["value"]) c (by simp [hd]) (fun fd F => FunD.bindsN F fun _ _ _ _ _ _ us hl => match us, hl with | [_], _ => rfl) c2
theorem c3 : dfB lw ir_is_text t3 ["value"] ["value"] = true := by decide +kernel
theorem d3 {K : PySem.W.Frag} (c : hd.obsK K = hd.val) : DefAt K lw.sg lw.ats lw.ex ir_is_text (He.fAd K t3.at_) := defAt_of (t := t3) (N := ["value"]) (ps := ["value"]) c (by simp [hd]) (fun fd F => FunD.bindsN F fun _ _ _ _ _ _ us hl => match us, hl with | [_], _ => rfl) c3
theorem c4 : dfB lw ir_are_signs t4 ["value", "most", "sign"] ["value", "most"] = true := by decide +kernel
theorem d4 {K : PySem.W.Frag} (c : hd.obsK K = hd.val) : DefAt K lw.sg lw.ats lw.ex ir_are_signs (He.fAd K t4.at_) := defAt_of (t := t4) (N := ["value", "most", "sign"]) (ps := ["value", "most"]) c (by simp [hd]) (fun fd F => FunD.bindsN F fun _ _ _ _ _ _ us hl => match us, hl with | [_, _], _ => rfl) c4
theorem c5 : dfB lw ir_check_fields t5 ["fields", "name"] ["fields"] = true := by decide +kernel
theorem d5 {K : PySem.W.Frag} (c : hd.obsK K = hd.val) : DefAt K lw.sg lw.ats lw.ex ir_check_fields (He.fAd K t5.at_) := defAt_of (t := t5) (N := ["fields", "name"]) (ps := ["fields"]) c (by simp [hd]) (fun fd F => FunD.bindsN F fun _ _ _ _ _ _ us hl => match us, hl with | [_], _ => rfl) c5
theorem c6 : dfB lw ir_is_part t6 ["part", "fields", "before"] ["part", "fields", "before"] = true := by decide +kernel
theorem d6 {K : PySem.W.Frag} (c : hd.obsK K = hd.val) : DefAt K lw.sg lw.ats lw.ex ir_is_part (He.fAd K t6.at_) := defAt_of (t := t6) (N := ["part", "fields", "before"]) (ps := ["part", "fields", "before"]) c (by simp [hd]) (fun fd F => FunD.bindsN F fun _ _ _ _ _ _ us hl => match us, hl with | [_, _, _], _ => rfl) c6
theorem c7 : dfB lw ir_separated t7 ["template", "gaps", "text", "at", "gap"] ["template", "gaps", "text"] = true := by decide +kernel
theorem d7 {K : PySem.W.Frag} (c : hd.obsK K = hd.val) : DefAt K lw.sg lw.ats lw.ex ir_separated (He.fAd K t7.at_) := defAt_of (t := t7) (N := ["template", "gaps", "text", "at", "gap"]) (ps := ["template", "gaps", "text"]) c (by simp [hd]) (fun fd F => FunD.bindsN F fun _ _ _ _ _ _ us hl => match us, hl with | [_, _, _], _ => rfl) c7
theorem c8 : dfB lw ir_forbidden t8 ["template", "bans", "fields", "index", "ban", "name", "sign"] ["template", "bans"] = true := by decide +kernel
theorem d8 {K : PySem.W.Frag} (c : hd.obsK K = hd.val) : DefAt K lw.sg lw.ats lw.ex ir_forbidden (He.fAd K t8.at_) := defAt_of (t := t8) (N := ["template", "bans", "fields", "index", "ban", "name", "sign"]) (ps := ["template", "bans"]) c (by simp [hd]) (fun fd F => FunD.bindsN F fun _ _ _ _ _ _ us hl => match us, hl with | [_, _], _ => rfl) c8
theorem c9 : dfB lw ir_is_record t9 ["template", "record", "fields", "name"] ["template", "record"] = true := by decide +kernel
theorem d9 {K : PySem.W.Frag} (c : hd.obsK K = hd.val) : DefAt K lw.sg lw.ats lw.ex ir_is_record (He.fAd K t9.at_) := defAt_of (t := t9) (N := ["template", "record", "fields", "name"]) (ps := ["template", "record"]) c (by simp [hd]) (fun fd F => FunD.bindsN F fun _ _ _ _ _ _ us hl => match us, hl with | [_, _], _ => rfl) c9
theorem c10 : dfB lw ir_made_name t10 ["template", "record", "found", "part"] ["template", "record"] = true := by decide +kernel
theorem d10 {K : PySem.W.Frag} (c : hd.obsK K = hd.val) : DefAt K lw.sg lw.ats lw.ex ir_made_name (He.fAd K t10.at_) := defAt_of (t := t10) (N := ["template", "record", "found", "part"]) (ps := ["template", "record"]) c (by simp [hd]) (fun fd F => FunD.bindsN F fun _ _ _ _ _ _ us hl => match us, hl with | [_, _], _ => rfl) c10
theorem c11 : dfB lw ir_name_of t11 ["template", "record"] ["template", "record"] = true := by decide +kernel
theorem d11 {K : PySem.W.Frag} (c : hd.obsK K = hd.val) : DefAt K lw.sg lw.ats lw.ex ir_name_of (He.fAd K t11.at_) := defAt_of (t := t11) (N := ["template", "record"]) (ps := ["template", "record"]) c (by simp [hd]) (fun fd F => FunD.bindsN F fun _ _ _ _ _ _ us hl => match us, hl with | [_, _], _ => rfl) c11
theorem c12 : dfB lw ir_common_order t12 ["one", "two"] ["one", "two"] = true := by decide +kernel
theorem d12 {K : PySem.W.Frag} (c : hd.obsK K = hd.val) : DefAt K lw.sg lw.ats lw.ex ir_common_order (He.fAd K t12.at_) := defAt_of (t := t12) (N := ["one", "two"]) (ps := ["one", "two"]) c (by simp [hd]) (fun fd F => FunD.bindsN F fun _ _ _ _ _ _ us hl => match us, hl with | [_, _], _ => rfl) c12
theorem c13 : dfB lw ir_parting t13 ["one", "two", "order", "name"] ["one", "two"] = true := by decide +kernel
theorem d13 {K : PySem.W.Frag} (c : hd.obsK K = hd.val) : DefAt K lw.sg lw.ats lw.ex ir_parting (He.fAd K t13.at_) := defAt_of (t := t13) (N := ["one", "two", "order", "name"]) (ps := ["one", "two"]) c (by simp [hd]) (fun fd F => FunD.bindsN F fun _ _ _ _ _ _ us hl => match us, hl with | [_, _], _ => rfl) c13
theorem c14 : dfB lw ir_part_of t14 ["words"] ["words"] = true := by decide +kernel
theorem d14 {K : PySem.W.Frag} (c : hd.obsK K = hd.val) : DefAt K lw.sg lw.ats lw.ex ir_part_of (He.fAd K t14.at_) := defAt_of (t := t14) (N := ["words"]) (ps := ["words"]) c (by simp [hd]) (fun fd F => FunD.bindsN F fun _ _ _ _ _ _ us hl => match us, hl with | [_], _ => rfl) c14
theorem c15 : dfB lw ir_read t15 ["text", "lines", "fields", "parts", "at", "line", "words", "part"] ["text"] = true := by decide +kernel
theorem d15 {K : PySem.W.Frag} (c : hd.obsK K = hd.val) : DefAt K lw.sg lw.ats lw.ex ir_read (He.fAd K t15.at_) := defAt_of (t := t15) (N := ["text", "lines", "fields", "parts", "at", "line", "words", "part"]) (ps := ["text"]) c (by simp [hd]) (fun fd F => FunD.bindsN F fun _ _ _ _ _ _ us hl => match us, hl with | [_], _ => rfl) c15
theorem c16 : dfB lw ir__law_begin t16 ["_law_script"] ["_law_script"] = true := by decide +kernel
theorem d16 {K : PySem.W.Frag} (c : hd.obsK K = hd.val) : DefAt K lw.sg lw.ats lw.ex ir__law_begin (He.fAd K t16.at_) := defAt_of (t := t16) (N := ["_law_script"]) (ps := ["_law_script"]) c (by simp [hd]) (fun fd F => FunD.bindsN F fun _ _ _ _ _ _ us hl => match us, hl with | [_], _ => rfl) c16
theorem c17 : dfB lw ir__law_draw t17 ["_law_draws", "_law_many", "_law_found", "_law_cell"] ["_law_draws", "_law_many"] = true := by decide +kernel
theorem d17 {K : PySem.W.Frag} (c : hd.obsK K = hd.val) : DefAt K lw.sg lw.ats lw.ex ir__law_draw (He.fAd K t17.at_) := defAt_of (t := t17) (N := ["_law_draws", "_law_many", "_law_found", "_law_cell"]) (ps := ["_law_draws", "_law_many"]) c (by simp [hd]) (fun fd F => FunD.bindsN F fun _ _ _ _ _ _ us hl => match us, hl with | [_, _], _ => rfl) c17
theorem c18 : dfB lw ir__law_first t18 ["_law_at", "_law_one"] ["_law_at", "_law_one"] = true := by decide +kernel
theorem d18 {K : PySem.W.Frag} (c : hd.obsK K = hd.val) : DefAt K lw.sg lw.ats lw.ex ir__law_first (He.fAd K t18.at_) := defAt_of (t := t18) (N := ["_law_at", "_law_one"]) (ps := ["_law_at", "_law_one"]) c (by simp [hd]) (fun fd F => FunD.bindsN F fun _ _ _ _ _ _ us hl => match us, hl with | [_, _], _ => rfl) c18
theorem c19 : dfB lw ir__law_second t19 ["_law_at", "_law_one", "_law_shelf"] ["_law_at", "_law_one"] = true := by decide +kernel
theorem d19 {K : PySem.W.Frag} (c : hd.obsK K = hd.val) : DefAt K lw.sg lw.ats lw.ex ir__law_second (He.fAd K t19.at_) := defAt_of (t := t19) (N := ["_law_at", "_law_one", "_law_shelf"]) (ps := ["_law_at", "_law_one"]) c (by simp [hd]) (fun fd F => FunD.bindsN F fun _ _ _ _ _ _ us hl => match us, hl with | [_, _], _ => rfl) c19
theorem c20 : dfB lw ir_law t20 ["_law_script", "_law_draws", "_law_at", "_law_one", "_law_told", "_law_e", "_law_k"] ["_law_script"] = true := by decide +kernel
theorem d20 {K : PySem.W.Frag} (c : hd.obsK K = hd.val) : DefAt K lw.sg lw.ats lw.ex ir_law (He.fAd K t20.at_) := defAt_of (t := t20) (N := ["_law_script", "_law_draws", "_law_at", "_law_one", "_law_told", "_law_e", "_law_k"]) (ps := ["_law_script"]) c (by simp [hd]) (fun fd F => FunD.bindsN F fun _ _ _ _ _ _ us hl => match us, hl with | [_], _ => rfl) c20
theorem c21 : dfB lw ir_Fieldu_initu t21 ["self", "signs", "least", "most", "sign"] ["self", "signs", "least", "most"] = true := by decide +kernel
theorem d21 {K : PySem.W.Frag} (c : hd.obsK K = hd.val) : DefAt K lw.sg lw.ats lw.ex ir_Fieldu_initu (He.fAd K t21.at_) := defAt_of (t := t21) (N := ["self", "signs", "least", "most", "sign"]) (ps := ["self", "signs", "least", "most"]) c (by simp [hd]) (fun fd F => binds_dfl F (by simp [He.DefD.dvs, t21]) fun T kV doc pm an cdv ct us its h1 h2 => match us, its, h1, h2 with | [_, _, _, _], [_, _], _, _ => ⟨_, rfl, rfl⟩) c21
theorem c22 : dfB lw ir_Fieldu_containsu t22 ["self", "value", "sign"] ["self", "value"] = true := by decide +kernel
theorem d22 {K : PySem.W.Frag} (c : hd.obsK K = hd.val) : DefAt K lw.sg lw.ats lw.ex ir_Fieldu_containsu (He.fAd K t22.at_) := defAt_of (t := t22) (N := ["self", "value", "sign"]) (ps := ["self", "value"]) c (by simp [hd]) (fun fd F => FunD.bindsN F fun _ _ _ _ _ _ us hl => match us, hl with | [_, _], _ => rfl) c22
theorem c23 : dfB lw ir_Templateu_initu t23 ["self", "fields", "parts", "index", "part", "name"] ["self", "fields", "parts"] = true := by decide +kernel
theorem d23 {K : PySem.W.Frag} (c : hd.obsK K = hd.val) : DefAt K lw.sg lw.ats lw.ex ir_Templateu_initu (He.fAd K t23.at_) := defAt_of (t := t23) (N := ["self", "fields", "parts", "index", "part", "name"]) (ps := ["self", "fields", "parts"]) c (by simp [hd]) (fun fd F => FunD.bindsN F fun _ _ _ _ _ _ us hl => match us, hl with | [_, _, _], _ => rfl) c23
theorem c24 : dfB lw ir_Template_fields t24 ["self"] ["self"] = true := by decide +kernel
theorem d24 {K : PySem.W.Frag} (c : hd.obsK K = hd.val) : ∃ a, PropOf K (He.ga K "Template") "fields" a (prA K ("Template", "fields", t24)) ∧ DefAt K lw.sg lw.ats lw.ex ir_Template_fields (prA K ("Template", "fields", t24)) := defAtP_of (p := ("Template", "fields", t24)) (N := ["self"]) (ps := ["self"]) c (by simp [hd]) (fun fd F => FunD.bindsN F fun _ _ _ _ _ _ us hl => match us, hl with | [_], _ => rfl) c24
theorem c25 : dfB lw ir_Template_parts t25 ["self"] ["self"] = true := by decide +kernel
theorem d25 {K : PySem.W.Frag} (c : hd.obsK K = hd.val) : ∃ a, PropOf K (He.ga K "Template") "parts" a (prA K ("Template", "parts", t25)) ∧ DefAt K lw.sg lw.ats lw.ex ir_Template_parts (prA K ("Template", "parts", t25)) := defAtP_of (p := ("Template", "parts", t25)) (N := ["self"]) (ps := ["self"]) c (by simp [hd]) (fun fd F => FunD.bindsN F fun _ _ _ _ _ _ us hl => match us, hl with | [_], _ => rfl) c25
theorem c26 : dfB lw ir_Shelfu_initu t26 ["self", "template"] ["self", "template"] = true := by decide +kernel
theorem d26 {K : PySem.W.Frag} (c : hd.obsK K = hd.val) : DefAt K lw.sg lw.ats lw.ex ir_Shelfu_initu (He.fAd K t26.at_) := defAt_of (t := t26) (N := ["self", "template"]) (ps := ["self", "template"]) c (by simp [hd]) (fun fd F => FunD.bindsN F fun _ _ _ _ _ _ us hl => match us, hl with | [_, _], _ => rfl) c26
theorem c27 : dfB lw ir_Shelf_go_to t27 ["self", "template", "rows"] ["self", "template", "rows"] = true := by decide +kernel
theorem d27 {K : PySem.W.Frag} (c : hd.obsK K = hd.val) : DefAt K lw.sg lw.ats lw.ex ir_Shelf_go_to (He.fAd K t27.at_) := defAt_of (t := t27) (N := ["self", "template", "rows"]) (ps := ["self", "template", "rows"]) c (by simp [hd]) (fun fd F => FunD.bindsN F fun _ _ _ _ _ _ us hl => match us, hl with | [_, _, _], _ => rfl) c27
theorem c28 : dfB lw ir_Shelf_put t28 ["self", "record", "name", "rows"] ["self", "record"] = true := by decide +kernel
theorem d28 {K : PySem.W.Frag} (c : hd.obsK K = hd.val) : DefAt K lw.sg lw.ats lw.ex ir_Shelf_put (He.fAd K t28.at_) := defAt_of (t := t28) (N := ["self", "record", "name", "rows"]) (ps := ["self", "record"]) c (by simp [hd]) (fun fd F => FunD.bindsN F fun _ _ _ _ _ _ us hl => match us, hl with | [_, _], _ => rfl) c28
theorem c29 : dfB lw ir_Shelf_drop t29 ["self", "name"] ["self", "name"] = true := by decide +kernel
theorem d29 {K : PySem.W.Frag} (c : hd.obsK K = hd.val) : DefAt K lw.sg lw.ats lw.ex ir_Shelf_drop (He.fAd K t29.at_) := defAt_of (t := t29) (N := ["self", "name"]) (ps := ["self", "name"]) c (by simp [hd]) (fun fd F => FunD.bindsN F fun _ _ _ _ _ _ us hl => match us, hl with | [_, _], _ => rfl) c29
theorem c30 : dfB lw ir_Shelf_undo t30 ["self"] ["self"] = true := by decide +kernel
theorem d30 {K : PySem.W.Frag} (c : hd.obsK K = hd.val) : DefAt K lw.sg lw.ats lw.ex ir_Shelf_undo (He.fAd K t30.at_) := defAt_of (t := t30) (N := ["self"]) (ps := ["self"]) c (by simp [hd]) (fun fd F => FunD.bindsN F fun _ _ _ _ _ _ us hl => match us, hl with | [_], _ => rfl) c30
theorem okF {K : PySem.W.Frag} (c : hd.obsK K = hd.val) : ∀ f d, pg.fns f = some d → lw.fl.contains f = true ∧ DefAt K lw.sg lw.ats lw.ex d (He.fAd K (f, none)) := fun f d e => by
  have m := mem_of_lookup (l := irF) (show irF.lookup f = some d from e)
  simp only [irF, List.mem_cons, List.not_mem_nil, or_false, Prod.mk.injEq] at m
  rcases m with ⟨rfl, rfl⟩ | ⟨rfl, rfl⟩ | ⟨rfl, rfl⟩ | ⟨rfl, rfl⟩ | ⟨rfl, rfl⟩ | ⟨rfl, rfl⟩ | ⟨rfl, rfl⟩ | ⟨rfl, rfl⟩ | ⟨rfl, rfl⟩ | ⟨rfl, rfl⟩ | ⟨rfl, rfl⟩ | ⟨rfl, rfl⟩ | ⟨rfl, rfl⟩ | ⟨rfl, rfl⟩ | ⟨rfl, rfl⟩ | ⟨rfl, rfl⟩ | ⟨rfl, rfl⟩ | ⟨rfl, rfl⟩ | ⟨rfl, rfl⟩ | ⟨rfl, rfl⟩ | ⟨rfl, rfl⟩
  · exact ⟨by decide +kernel, d0 c⟩
  · exact ⟨by decide +kernel, d1 c⟩
  · exact ⟨by decide +kernel, d2 c⟩
  · exact ⟨by decide +kernel, d3 c⟩
  · exact ⟨by decide +kernel, d4 c⟩
  · exact ⟨by decide +kernel, d5 c⟩
  · exact ⟨by decide +kernel, d6 c⟩
  · exact ⟨by decide +kernel, d7 c⟩
  · exact ⟨by decide +kernel, d8 c⟩
  · exact ⟨by decide +kernel, d9 c⟩
  · exact ⟨by decide +kernel, d10 c⟩
  · exact ⟨by decide +kernel, d11 c⟩
  · exact ⟨by decide +kernel, d12 c⟩
  · exact ⟨by decide +kernel, d13 c⟩
  · exact ⟨by decide +kernel, d14 c⟩
  · exact ⟨by decide +kernel, d15 c⟩
  · exact ⟨by decide +kernel, d16 c⟩
  · exact ⟨by decide +kernel, d17 c⟩
  · exact ⟨by decide +kernel, d18 c⟩
  · exact ⟨by decide +kernel, d19 c⟩
  · exact ⟨by decide +kernel, d20 c⟩
theorem okM {K : PySem.W.Frag} (c : hd.obsK K = hd.val) : ∀ k m d, pg.mts k m = some d → pg.pcl m ≠ some k → (k, m) ∈ hd.ms ∧ DefAt K lw.sg lw.ats lw.ex d (He.fAd K (k, some m)) := fun k m d e np => by
  have m := mem_of_lookup (l := irM) (show irM.lookup (k, m) = some d from e)
  simp only [irM, List.mem_cons, List.not_mem_nil, or_false, Prod.mk.injEq] at m
  rcases m with ⟨⟨rfl, rfl⟩, rfl⟩ | ⟨⟨rfl, rfl⟩, rfl⟩ | ⟨⟨rfl, rfl⟩, rfl⟩ | ⟨⟨rfl, rfl⟩, rfl⟩ | ⟨⟨rfl, rfl⟩, rfl⟩ | ⟨⟨rfl, rfl⟩, rfl⟩ | ⟨⟨rfl, rfl⟩, rfl⟩ | ⟨⟨rfl, rfl⟩, rfl⟩ | ⟨⟨rfl, rfl⟩, rfl⟩ | ⟨⟨rfl, rfl⟩, rfl⟩
  · exact ⟨by simp [hd], d21 c⟩
  · exact ⟨by simp [hd], d22 c⟩
  · exact ⟨by simp [hd], d23 c⟩
  · exact absurd rfl np
  · exact absurd rfl np
  · exact ⟨by simp [hd], d26 c⟩
  · exact ⟨by simp [hd], d27 c⟩
  · exact ⟨by simp [hd], d28 c⟩
  · exact ⟨by simp [hd], d29 c⟩
  · exact ⟨by simp [hd], d30 c⟩
theorem okP {K : PySem.W.Frag} (c : hd.obsK K = hd.val) : ∀ k m d, pg.mts k m = some d → pg.pcl m = some k → ∃ a g, PropOf K (He.ga K k) m a g ∧ DefAt K lw.sg lw.ats lw.ex d g := fun k m d e np => by
  have m := mem_of_lookup (l := irM) (show irM.lookup (k, m) = some d from e)
  simp only [irM, List.mem_cons, List.not_mem_nil, or_false, Prod.mk.injEq] at m
  rcases m with ⟨⟨rfl, rfl⟩, rfl⟩ | ⟨⟨rfl, rfl⟩, rfl⟩ | ⟨⟨rfl, rfl⟩, rfl⟩ | ⟨⟨rfl, rfl⟩, rfl⟩ | ⟨⟨rfl, rfl⟩, rfl⟩ | ⟨⟨rfl, rfl⟩, rfl⟩ | ⟨⟨rfl, rfl⟩, rfl⟩ | ⟨⟨rfl, rfl⟩, rfl⟩ | ⟨⟨rfl, rfl⟩, rfl⟩ | ⟨⟨rfl, rfl⟩, rfl⟩
  · exact absurd (show pg.pcl _ = none from rfl) (by rw [np]; exact fun z => (nomatch z))
  · exact absurd (show pg.pcl _ = none from rfl) (by rw [np]; exact fun z => (nomatch z))
  · exact absurd (show pg.pcl _ = none from rfl) (by rw [np]; exact fun z => (nomatch z))
  · obtain ⟨a, z⟩ := d24 c; exact ⟨a, _, z⟩
  · obtain ⟨a, z⟩ := d25 c; exact ⟨a, _, z⟩
  · exact absurd (show pg.pcl _ = none from rfl) (by rw [np]; exact fun z => (nomatch z))
  · exact absurd (show pg.pcl _ = none from rfl) (by rw [np]; exact fun z => (nomatch z))
  · exact absurd (show pg.pcl _ = none from rfl) (by rw [np]; exact fun z => (nomatch z))
  · exact absurd (show pg.pcl _ = none from rfl) (by rw [np]; exact fun z => (nomatch z))
  · exact absurd (show pg.pcl _ = none from rfl) (by rw [np]; exact fun z => (nomatch z))
theorem okSp : ∀ m ∈ (["__init__", "__len__", "__contains__", "__add__", "__getitem__", "__eq__"] : List Str), pg.pcl m = none := by
  intro m hm
  simp only [List.mem_cons, List.not_mem_nil, or_false] at hm
  rcases hm with rfl | rfl | rfl | rfl | rfl | rfl <;> rfl
theorem okX {K : PySem.W.Frag} (c : hd.obsK K = hd.val) : ∀ k f, lw.ex k = some (some f) → ∃ (nm qual : Str) (params : Arguments) (body : List Stmt) (scope : Scope) (dvs : List V) (kws : List (Str × V)) (fd : FuncData), FunD K nm qual params body scope dvs kws (He.fAd K (k, some "__init__")) fd ∧ FnScope ["self", f] ["self", f] scope ∧ xiB f body = true ∧ Binds K fd ["self", f] [] := fun k f e => by
  unfold Lw.ex at e
  split at e
  · rename_i hk
    have hk : k ∈ (["CastError", "BadField", "BadTemplate", "BadRecord", "BadText", "NotComparable", "NothingToUndo", "BadName", "NoName", "Clash", "BadPart", "BadBan", "BadGap", "BadLine"] : List Str) := by simpa [lw] using hk
    simp only [List.mem_cons, List.not_mem_nil, or_false] at hk
    rcases hk with rfl | rfl | rfl | rfl | rfl | rfl | rfl | rfl | rfl | rfl | rfl | rfl | rfl | rfl
    · have e2 : exF "CastError" = some none := rfl
      rw [e2] at e
      cases e
    · have e2 : exF "BadField" = some none := rfl
      rw [e2] at e
      cases e
    · have e2 : exF "BadTemplate" = some none := rfl
      rw [e2] at e
      cases e
    · have e2 : exF "BadRecord" = some none := rfl
      rw [e2] at e
      cases e
    · have e2 : exF "BadText" = some none := rfl
      rw [e2] at e
      cases e
    · have e2 : exF "NotComparable" = some none := rfl
      rw [e2] at e
      cases e
    · have e2 : exF "NothingToUndo" = some none := rfl
      rw [e2] at e
      cases e
    · obtain rfl : f = "name" := by have e2 : exF "BadName" = some (some ("name" : Str)) := rfl; rw [e2] at e; cases e; rfl
      obtain ⟨fd, F⟩ := hd.def_ c (d := x0) (by simp [hd])
      exact ⟨_, _, _, _, _, _, _, fd, F, scB_ok (by decide +kernel), by decide +kernel, FunD.bindsN F fun _ _ _ _ _ _ us hl => match us, hl with | [_, _], _ => rfl⟩
    · obtain rfl : f = "name" := by have e2 : exF "NoName" = some (some ("name" : Str)) := rfl; rw [e2] at e; cases e; rfl
      obtain ⟨fd, F⟩ := hd.def_ c (d := x1) (by simp [hd])
      exact ⟨_, _, _, _, _, _, _, fd, F, scB_ok (by decide +kernel), by decide +kernel, FunD.bindsN F fun _ _ _ _ _ _ us hl => match us, hl with | [_, _], _ => rfl⟩
    · obtain rfl : f = "name" := by have e2 : exF "Clash" = some (some ("name" : Str)) := rfl; rw [e2] at e; cases e; rfl
      obtain ⟨fd, F⟩ := hd.def_ c (d := x2) (by simp [hd])
      exact ⟨_, _, _, _, _, _, _, fd, F, scB_ok (by decide +kernel), by decide +kernel, FunD.bindsN F fun _ _ _ _ _ _ us hl => match us, hl with | [_, _], _ => rfl⟩
    · obtain rfl : f = "index" := by have e2 : exF "BadPart" = some (some ("index" : Str)) := rfl; rw [e2] at e; cases e; rfl
      obtain ⟨fd, F⟩ := hd.def_ c (d := x3) (by simp [hd])
      exact ⟨_, _, _, _, _, _, _, fd, F, scB_ok (by decide +kernel), by decide +kernel, FunD.bindsN F fun _ _ _ _ _ _ us hl => match us, hl with | [_, _], _ => rfl⟩
    · obtain rfl : f = "index" := by have e2 : exF "BadBan" = some (some ("index" : Str)) := rfl; rw [e2] at e; cases e; rfl
      obtain ⟨fd, F⟩ := hd.def_ c (d := x4) (by simp [hd])
      exact ⟨_, _, _, _, _, _, _, fd, F, scB_ok (by decide +kernel), by decide +kernel, FunD.bindsN F fun _ _ _ _ _ _ us hl => match us, hl with | [_, _], _ => rfl⟩
    · obtain rfl : f = "gap" := by have e2 : exF "BadGap" = some (some ("gap" : Str)) := rfl; rw [e2] at e; cases e; rfl
      obtain ⟨fd, F⟩ := hd.def_ c (d := x5) (by simp [hd])
      exact ⟨_, _, _, _, _, _, _, fd, F, scB_ok (by decide +kernel), by decide +kernel, FunD.bindsN F fun _ _ _ _ _ _ us hl => match us, hl with | [_, _], _ => rfl⟩
    · obtain rfl : f = "line" := by have e2 : exF "BadLine" = some (some ("line" : Str)) := rfl; rw [e2] at e; cases e; rfl
      obtain ⟨fd, F⟩ := hd.def_ c (d := x6) (by simp [hd])
      exact ⟨_, _, _, _, _, _, _, fd, F, scB_ok (by decide +kernel), by decide +kernel, FunD.bindsN F fun _ _ _ _ _ _ us hl => match us, hl with | [_, _], _ => rfl⟩
  · cases e
theorem okC : ∀ k d, pg.gc k = some d → ∃ z : Cv, (k, z) ∈ hd.cs ∧ z.le = true ∧ d = z.d := fun k d e => by
  obtain ⟨z, e1, e2⟩ := Option.map_eq_some_iff.mp e
  have m := mem_of_lookup (l := irC) e1
  simp only [irC, List.mem_cons, List.not_mem_nil, or_false, Prod.mk.injEq] at m
  rcases m with ⟨rfl, rfl⟩ | ⟨rfl, rfl⟩ | ⟨rfl, rfl⟩ | ⟨rfl, rfl⟩ <;> exact ⟨_, by simp [hd], by decide +kernel, e2.symm⟩
theorem okT : ∀ y kvs, pg.tc y = some kvs → (y, kvs) ∈ hd.tb ∧ (kvs.all fun p => decide (p.2.length ≤ LIM)) = true := fun y kvs e => by
  have m := mem_of_lookup (l := irT) (show irT.lookup y = some kvs from e)
  simp [irT] at m
theorem okD {K : PySem.W.Frag} (c : hd.obsK K = hd.val) : ∀ k n ds, pg.dv k n = some ds → ∃ d bs, pg.mts k "__init__" = some d ∧ (k, ("__init__" : Str)) ∈ hd.ms ∧ DvR bs ds ∧ DefAtB K lw.sg lw.ats lw.ex d (He.fAd K (k, some "__init__")) bs := fun k n ds e => by
  have m := mem_of_lookup (l := irD) (show irD.lookup (k, n) = some ds from e)
  simp only [irD, List.mem_cons, List.not_mem_nil, or_false, Prod.mk.injEq] at m
  rcases m with ⟨⟨rfl, rfl⟩, rfl⟩
  · exact ⟨ir_Fieldu_initu, [.int 0, .non], rfl, by simp [hd], (.int 0 (.non .nil)), defAtB_of (t := t21) (N := ["self", "signs", "least", "most", "sign"]) (ps := ["self", "signs", "least", "most"]) c (by simp [hd]) (fun fd F => FunD.binds1 (ps := ["self", "signs", "least", "most"]) F 2 0 (by simp [He.DefD.dvs, t21]) (by simp [He.DefD.dvs, t21]) fun T kV doc pm an cdv ct us its h1 h2 => match us, its, h1, h2 with | [_, _], [_, _], _, _ => ⟨_, rfl, rfl⟩) c21⟩
theorem okK {K : PySem.W.Frag} {hp : Heap} {mg : Str → Option Value} {w : World} (c : hd.obsK K = hd.val) (X : K.In hp) (G : hp.Ns mainGlobals mg) : ∀ f ks, pg.kd f = some ks → ∃ fa, mg f = some (.ref fa) ∧ PySem.W.keepIn K (.ref fa) = true ∧ ∀ Pr base, KdOk Pr w K mg base (cnOf hd K) ks fa := fun f ks e => by
  have m := mem_of_lookup (l := irK) (show irK.lookup f = some ks from e)
  simp only [irK, List.mem_cons, List.not_mem_nil, or_false, Prod.mk.injEq] at m
  rcases m with ⟨rfl, rfl⟩
  · exact kd_of (t := k0) (k1 := ["BadField", "BadTemplate", "BadRecord", "BadText"]) (k2 := ["NotComparable", "NothingToUndo", "BadName"]) (k3 := ["NoName", "Clash", "BadPart", "BadBan"]) (k4 := ["BadGap", "BadLine", "ValueError"]) c X G (by simp [hd]) (by simp [hd]) rfl (fun fd F => FunD.bindsN F fun _ _ _ _ _ _ us hl => match us, hl with | [_], _ => rfl) (by decide +kernel)
abbrev orw : PySem.W.OpenRow := PySem.W.OpenLaw.row PySem.Challenge.rw_namecasts_k23_errors_are_apart
def loose : List Str := (("CastError" :: "BadField" :: "BadTemplate" :: "BadRecord" :: "BadText" :: "NotComparable" :: "NothingToUndo" :: "BadName" :: "NoName" :: "Clash" :: "BadPart" :: "BadBan" :: "BadGap" :: "BadLine" :: "is_int" :: "is_of" :: "is_word" :: "is_text" :: "are_signs" :: "rank" :: "Field" :: "is_swap" :: "is_way" :: "put_sign" :: "filling" :: "check_fields" :: "is_part" :: "Template" :: "Row" :: "put_order" :: []) : List Str) ++ (("Plan" :: "weight" :: "separated" :: "forbidden" :: "is_record" :: "put_in" :: "made_name" :: "name_of" :: "Parts" :: "is_let" :: "least_size" :: "exists" :: "Seeker" :: "least_record" :: "common_order" :: "parting" :: "Shelf" :: "number_of" :: "field_of" :: "pair_of" :: "way_of" :: "part_of" :: "read" :: "_law_begin" :: "_law_draw" :: "_law_first" :: "_law_second" :: "_law_kinds" :: "SIGNS" :: "SMALL" :: []) : List Str) ++ (["LOWER", "MOST_FIELDS", "MOST_PARTS", "DEEP", "FIGURES"] : List Str)
theorem run_true (w : World) : HandSHeadRun.RunEq orw (PySem.W.view orw.prog [75]) (hd.hook 6) (hd.ob 6) 12000 loose (setW w true) := by
  intro os
  kernel_rfl
theorem run_false (w : World) : HandSHeadRun.RunEq orw (PySem.W.view orw.prog [75]) (hd.hook 6) (hd.ob 6) 12000 loose (setW w false) := by
  intro os
  kernel_rfl
theorem run (w : World) : HandSHeadRun.RunEq orw (PySem.W.view orw.prog [75]) (hd.hook 6) (hd.ob 6) 12000 loose w := by
  cases e : w.params.followText "special-get-raises" with
  | true => rw [setW_eq w e]; exact run_true w
  | false => rw [setW_eq w e]; exact run_false w
theorem law_facts {K : PySem.W.Frag} {hp : Heap} {mg : Str → Option Value} (X : K.In hp) {w : World} (G : hp.Ns mainGlobals mg) (ct : hd.obsT K = hd.valT w) : LwF w K mg (cnOf hd K) lw :=
  have c : hd.obsK K = hd.val := congrArg (fun z : AlT => z.1) ct
  lwF_of c X G rfl rfl rfl rfl (okF c) (okM c) (okP c) okSp (okX c) okC ct okT (okD c) (okK c X G)


theorem fin_holds (plain : ∀ ns : List Int, ns.length ≤ 63 → pg.bd 61 ir_law [.lst (ns.map .int)] = some (.val (.bl true) [])) : PySem.Challenge.rw_namecasts_k23_errors_are_apart.Holds := by
  w_on; o_law
  refine HandSHeadRun.head_any (r := PySem.W.OpenLaw.row PySem.Challenge.rw_namecasts_k23_errors_are_apart) (q := PySem.W.view (PySem.W.OpenLaw.row PySem.Challenge.rw_namecasts_k23_errors_are_apart).prog [75]) (H := hd.hook 6) (ob := hd.ob 6) (M := 12000) (loose := loose) (d := HandSHeadRun.topDef (PySem.W.OpenLaw.row PySem.Challenge.rw_namecasts_k23_errors_are_apart).prog 75) (kwd := []) (hd.ob_eq 6)
    (by kernel_rfl) (fun s => by kernel_rfl) run (by kernel_rfl) (by kernel_rfl) (by kernel_rfl) (by rfl) (by first | assumption | decide +kernel) (by decide +kernel) ⟨rfl, rfl, rfl, rfl, rfl, by decide +kernel⟩ ?hw ?hc
  case hw => w_witness2
  case hc =>
    refine L2.walk_ofE (l := PySem.Challenge.rw_namecasts_k23_errors_are_apart) (n := 63) (k := 3 * 60 + 3) (x := "_law_script") (CX := CXa) rfl (by decide) (by kernel_rfl) ⟨rfl, by decide, by decide⟩ ?F (fun _ _ _ _ z => cxa_no z)
    intro w mg fa h Y G hmg0
    obtain ⟨K, KX, no, ct⟩ := Y
    have c : hd.obsK K = hd.val := congrArg (fun z : AlT => z.1) ct
    have hmg : mg ("law" : Str) = some (.ref fa) := by
      have e : (HandSHeadRun.topDef (PySem.W.OpenLaw.row PySem.Challenge.rw_namecasts_k23_errors_are_apart).prog 75).name = ("law" : Str) := by kernel_rfl
      rw [← e]
      exact hmg0
    have F := law_facts KX G ct
    obtain ⟨fd, Fn⟩ := hd.def_ c (d := t20) (by simp [hd])
    obtain ⟨a, h1, _⟩ := F.fns "law" ir_law rfl (by decide +kernel)
    have e1 : He.fAd K t20.at_ = fa := by
      have hB := hd.b_ok c
      unfold Hd0.B at hB
      simp only [Bool.and_eq_true, List.all_eq_true] at hB
      have := He.glo_ok KX G (hB.2.1 "law" (by simp [hd]))
      rw [hmg] at this
      cases this
      rfl
    rw [e1] at Fn
    have b := FunD.bindsA (ps := ["_law_script"]) Fn fun _ _ _ _ _ _ us hl => match us, hl with | [_], _ => rfl
    exact ⟨K, fd, _, KX, fun s v => b s [v] rfl, fun H a ns hl _ hS => law_sp no (plain ns hl) hS, fun base _ _ => law_ok F 60 c20 Fn⟩

end Nc

theorem PySem.Challenge.cw_namecasts_k23_errors_are_apart_holds : PySem.Challenge.rw_namecasts_k23_errors_are_apart.Holds :=
  Nc.fin_holds fun ns _ => Nc.plain_law ns
