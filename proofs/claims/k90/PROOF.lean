import PyProof.Rows.All
import Wide.All
import OpenK.AllK
import Wide.FinOn
import Wide.Loose
import HandS.Iter
import KE.GoesEnum
import HandS.SetFor
import PyProof.Rows.SetFrom
import HandS.ForMost
import HandS.SortInts
import HandS.Wide
import HandS.Flow
import HandS.IsInst
import HandS.TupAny
import KE.DataEq
import HandS.ForExc
import HandS.CallSlots
import HandS.Lambda
import HandS.Strs
import HandS.Conv
import HandS.ExcIs
import HandS.ExcInit
import HandS.ExcField
import HandS.WordsExc
import HandS.TupMul
import PyProof.EqKinds
import PyProof.NeKinds
import PyProof.FactsAll.dict
import HandS.TupLe
import KE.KEqDict
import KE.DataMinMax
import KE.SortData
import HandS.SetKeys
import HandS.More
import HandS.SetBool
import HandS.DictComp
import HandS.Small
import PyProof.Rows.RuleN_abs
import PyProof.Conv_int_bool
import KE.SortUse
import HandS.SortKw
import HandS.ExcBuiltin
import HandS.Style
import HandS.RevRange
import HandS.TryMany
import HandS.ExcValue
import HandS.Ends
import HandS.EndTab
import HandS.Text
import PySem.Challenge.RW_wholeon_k90_bounds_in_texts_of_sets
set_option Elab.async false
set_option linter.all false
set_option maxRecDepth 100000
section
set_option maxHeartbeats 8000000
namespace Pi
open PySem PySem.Spec PyProof.Rows L2 PySem.W

set_option maxHeartbeats 1000000 in
theorem enum_new1 {src : Value} {ob : Obj} {hold : Heap → Prop} (bg : Begins src ob hold) :
    Meets (Builtin.«enumerate.__new__» ⟨[.type "enumerate", src], []⟩) (fun _ R s => hold s.heap ∧
      R (.ok (.ret (.ref (s.heap.push ob).objs.size))) { s with heap := (s.heap.push ob).push { cls := .type "enumerate", data := .fields #[.none, .bool false, .ref s.heap.objs.size, rawInt 0, .none, .none] } }) :=
  .of_wp fun pr ww AA R st0 hh => by
    obtain ⟨hp, gs, dr, tk, os⟩ := st0; obtain ⟨hold1, hr⟩ := hh
    have hsub := sub_enumerate
    have it1 : ∀ {A' : Around} {E : Value → Shared → Prop} {Q : Value → Shared → Prop}, Q (.ref hp.objs.size) ⟨hp.push ob, gs, dr, tk, os⟩ → wpAny (model pr ww) A' (pyIter src) Q E ⟨hp, gs, dr, tk, os⟩ :=
      fun q => bg.iter pr ww _ _ ⟨hp, gs, dr, tk, os⟩ _ hold1 q
    wp_walk using it1
    refine wpAny_stack_any fun frame => wpAny_pure ?_
    split
    · rename_i c1 _ _ _ _ _
      cases (c1 == Value.type "enumerate")
      · wp_walk using it1
        exact ⟨_, rfl, hr⟩
      · wp_walk using it1
        exact ⟨_, rfl, hr⟩
    · wp_walk using it1
      exact ⟨_, rfl, hr⟩
section
variable {P : Program} {w : World} {A : Around} {E : Value → Shared → Prop} {s : Shared}
theorem enum_call1 {src : Value} {ob : Obj} {hold : Heap → Prop} {Q : Value → Shared → Prop} (bg : Begins src ob hold) (h1 : hold s.heap)
    (k : ∀ g, IsEnum g (s.heap.objs.size + 1) s.heap.objs.size 0 .none → g.get? s.heap.objs.size = some ob → (∀ b o, s.heap.get? b = some o → g.get? b = some o) → Q (.ref (s.heap.objs.size + 1)) { s with heap := g }) :
    wpAny (model P w) A (call (.type "enumerate") [src]) Q E s := by
  refine callType_new F.called_enumerate (by decide) (F.typeCall_enumerate_1 _) (F.newCall_enumerate_1 _) (fun u => F.args_object_init_2 u _) F.entry_enumerate_new (enum_new1 bg) ⟨h1, ?_⟩
  have sz : (s.heap.push ob).objs.size = s.heap.objs.size + 1 := Heap.size_push ..
  show _ ∧ _
  rw [sz]
  have en : IsEnum ((s.heap.push ob).push { cls := .type "enumerate", data := .fields #[.none, .bool false, .ref s.heap.objs.size, rawInt 0, .none, .none] }) (s.heap.objs.size + 1) s.heap.objs.size 0 .none := by
    have z := Heap.get?_push_size (s.heap.push ob) (o := { cls := .type "enumerate", data := .fields #[.none, .bool false, .ref s.heap.objs.size, rawInt 0, .none, .none] }) rfl
    rw [sz] at z; exact z
  exact ⟨⟨_, en, rfl⟩, k _ en (Heap.get?_push_of_some _ (Heap.get?_push_size _ bg.free)) fun b o x => Heap.get?_push_of_some _ (Heap.get?_push_of_some _ x)⟩
end
def ItT (K : PySem.W.Frag) (a : Addr) : L2.It :=
  ⟨fun i H => ∃ (xs : List V) (x : V), SqT K H a xs ∧ xs[i]? = some x, fun i H v H' => ∃ T x, v = .ref T ∧ H T = none ∧ H' = upd H T (.tup [.int (i : Nat), x]) ∧ ∀ xs, SqT K H a xs → xs[i]? = some x, fun i H => ∃ xs : List V, SqT K H a xs ∧ xs.length ≤ i⟩
theorem turn_enumT {P : Program} {w : World} {K : PySem.W.Frag} {elts : List Expr} {kk : Nat} {tpos : Pos} (a e it : Addr) :
    Turn P w K (.Tuple elts kk tpos) (ItT K a) [e, it] e (fun i h => (∃ old, IsEnum h e it ((i : Nat) : Int) old) ∧ h.IsTupleIter it a i ∧ e ≠ it) where
  mem := by simp
  obj := fun i h st b hb => by
    obtain ⟨⟨old, en⟩, ⟨o, ho, hc, hd⟩, _⟩ := st
    have bb : b = e ∨ b = it := by simpa using hb
    rcases bb with rfl | rfl
    · exact ⟨_, en, fun v q => nomatch q⟩
    · exact ⟨o, ho, fun v q => by rw [hd] at q; cases q⟩
  keep := fun i h g st k => let ⟨⟨old, en⟩, hi, hne⟩ := st; ⟨⟨old, k e (by simp) _ en⟩, hi.at fun o q => k it (by simp) o q, hne⟩
  item := by
    intro X hP hw hK hc i pins s σ H E J hf st hg
    subst hP hw hK
    obtain ⟨⟨old, en⟩, hit, hne⟩ := st
    obtain ⟨xs, x, hq, hx⟩ := hg
    obtain ⟨its, rv, tu, _⟩ := J.tuple hq
    obtain ⟨u, hu, ru⟩ := rv.get hx
    have hel : e < s.heap.objs.size := Heap.lt_size en
    have hil : it < s.heap.objs.size := by obtain ⟨_, q, _⟩ := hit; exact Heap.lt_size q
    have iT : s.heap.IsTuple a its.toArray := tu
    have ne1 : e ≠ a := fun z => by
      obtain ⟨o, q1, q2, _⟩ := iT
      have en' : s.heap.get? e = some _ := en
      rw [z, q1] at en'
      have := Option.some.inj en'
      rw [this] at q2
      have q2 : Value.type "enumerate" = Value.type "tuple" := q2
      injection q2 with q2
      exact absurd q2 (by decide)
    have ne2 : a ≠ it := fun z => by
      obtain ⟨o, q1, q2, _⟩ := iT
      obtain ⟨o', p1, p2, _⟩ := hit
      rw [← z, q1] at p1
      have := Option.some.inj p1
      rw [this] at q2
      rw [p2] at q2
      injection q2 with q2
      exact absurd q2 (by decide)
    have D := Draws.tuple (prog := X.prog) (w := X.w) (A := X.A.in1) (by simp [J.ok.hd hc]) it a ne2 its.toArray
    refine wpAny_pyNext_enum_itemD D en ⟨hit, iT⟩ (by have := (List.getElem?_eq_some_iff.mp hu).1; simpa using this) hne (by simp [ne1, hne]) fun y g tk hy ho hit' hT hsz hk => ?_
    have hy' : y = u := by
      have hy : its.toArray[i]? = some y := hy
      rw [List.getElem?_toArray, hu] at hy
      exact (Option.some.inj hy).symm
    subst hy'
    refine ⟨_, rfl, wpAny_letOwnedTupleGo_enum (s := { s with heap := g, toks := tk + 1 }) ho fun g2 en2 sb => ?_⟩
    have hT2 : g2.get? s.heap.objs.size = some { cls := .type "tuple", data := .seq #[.int i tk, y] } := (sb.2 _ (Nat.ne_of_gt hel)).trans hT
    have fresh1 : ObjOk X.prog X.w (upd H s.heap.objs.size (.tup [.int (i : Nat), x])) g2 s.heap.objs.size (.tup [.int (i : Nat), x]) :=
      ⟨by show 2 ≤ sizeLine; decide, [.int i tk, y], .cons ⟨_, rfl⟩ (.cons ru .nil), ⟨_, hT2, rfl, _, rfl⟩⟩
    have J1 : Inv X pins σ (upd H s.heap.objs.size (.tup [.int (i : Nat), x])) { s with heap := g2, toks := tk + 1 } :=
      J.turnedNew (ch := [e, it]) (fun b ob hb q => (sb.2 b (fun z => hb (by simp [z]))).trans (hk b ob (fun z => hb (by simp [z])) (fun z => hb (by simp [z])) q)) hf (Nat.le_refl _) fresh1
    refine ⟨.ref s.heap.objs.size, _, J1, rfl, ⟨_, x, rfl, J.hok.fresh (Nat.le_refl _), rfl, fun ys hy => ?_⟩, ⟨⟨y, ?_⟩, hit'.1.at fun o q => (sb.2 it (Ne.symm hne)).trans q, hne⟩, fun b hb => ?_⟩
    · rw [J.tuple_inj hy hq]; exact hx
    · have e1 : ((i + 1 : Nat) : Int) = (i : Int) + 1 := by omega
      rw [e1]; exact en2
    · have lt : b < s.heap.objs.size := by
        have bb : b = e ∨ b = it := by simpa using hb
        rcases bb with rfl | rfl
        · exact hel
        · exact hil
      rw [upd_ne (Nat.ne_of_lt lt)]
      exact (hf b hb).1
  done := by
    intro X hP hw hK hc i pins s σ H E J hf st hg
    subst hP hw hK
    obtain ⟨⟨old, en⟩, hit, hne⟩ := st
    obtain ⟨xs, hq, hx⟩ := hg
    obtain ⟨its, rv, tu, _⟩ := J.tuple hq
    have iT : s.heap.IsTuple a its.toArray := tu
    obtain ⟨f0, f1, f2, f3, f4, f5⟩ := hf it (by simp)
    have hl := rv.length
    have ne2 : a ≠ it := fun z => by
      obtain ⟨o, q1, q2, _⟩ := iT
      obtain ⟨o', p1, p2, _⟩ := hit
      rw [← z, q1] at p1
      have := Option.some.inj p1
      rw [this] at q2
      rw [p2] at q2
      injection q2 with q2
      exact absurd q2 (by decide)
    have D : Draws X.prog X.w X.A.in1 it [it, a] 0 (fun _ _ => False) (fun _ h => h.IsTupleIter it a i ∧ h.IsTuple a its.toArray) := {
      live := fun _ _ st => let ⟨o, ho, _⟩ := st.1; ⟨o, ho⟩
      frame := fun _ _ _ st hk => ⟨st.1.at fun o q => hk it (by simp) o q, st.2.at fun o q => hk a (by simp) o q⟩
      item := fun j _ _ _ hj => absurd hj (Nat.not_lt_zero j)
      done := fun s1 Q E1 st hE => wpAny_nextOf_tuple_end (by simp [J.ok.hd hc]) st.1 st.2 (by simp; omega) hE }
    exact wpAny_pyNext_enum_endD D en ⟨hit, iT⟩ fun g eb => ⟨rfl, J.turned (t' := s.toks) (fun b o hb q => eb b o hb q) f0 f1 f3 f4 f5⟩
  self := fun A i s Q E st h => let ⟨⟨_, en⟩, _⟩ := st; wpAny_pyIter_enum en h
def iEnum2 (K : PySem.W.Frag) (ta : TA) : L2.TI := fun σ H R => ta σ H fun vs H1 => ∃ a xs, vs = [.ref a] ∧ ((SqL K H1 a xs ∧ R (Ite K a) H1) ∨ (SqT K H1 a xs ∧ R (ItT K a) H1))
theorem pi_enum2 {X : Cx} {e : Expr} {ta : TA} {p pos tpos : Pos} {elts : List Expr} {kk : Nat} (hg : Gl X "enumerate") (hm : X.mg "enumerate" = none) (ha : PA X [e] ta) (hs : starEach [e] X.env = [(false, eval e X.env)]) :
    PI X (.Tuple elts kk tpos) (.Call (.Name "enumerate" p) [e] [] pos) (iEnum2 X.K ta) := by
  refine ⟨fun pins s τ H R J h => Call_ (ld_blt J hg hm boot_enumerate (PyProof.Rows.callWith_type1 (thn (ha.run pos pins s τ H _ J h) fun us s1 ⟨vs, H1, J1, r1, q1⟩ => ?_) hs rfl))⟩
  obtain ⟨a, xs, rfl, hq⟩ := q1
  have eu : us = [Value.ref a] := by
    cases r1 with
    | cons r rr =>
      cases rr
      cases r
      rfl
  subst eu
  have fps : ∀ b ∈ [s1.heap.objs.size + 1, s1.heap.objs.size], FpOk X pins H1 b := fun b hb => by
    have bb : b = s1.heap.objs.size + 1 ∨ b = s1.heap.objs.size := by simpa using hb
    have le : s1.heap.objs.size ≤ b := by omega
    exact J1.fpOk le (J1.hok.fresh le)
  rcases hq with ⟨hq, q⟩ | ⟨hq, q⟩
  · obtain ⟨its, rv, pl, hz⟩ := J1.list hq
    refine call_enumerate_list pl.isList fun g en hit _ hk => wpAny_pyIter_enum en ?_
    have J2 : Inv X pins τ H1 { s1 with heap := g } := J1.kept (t' := s1.toks) hk
    exact ⟨s1.heap.objs.size + 1, [s1.heap.objs.size + 1, s1.heap.objs.size], _, _, H1, rfl, J2, turn_enum a (s1.heap.objs.size + 1) s1.heap.objs.size, ⟨⟨.none, en⟩, hit, Nat.succ_ne_self _⟩, fps, q⟩
  · obtain ⟨its, rv, tu, _⟩ := J1.tuple hq
    have iT : s1.heap.IsTuple a its.toArray := tu
    refine enum_call1 (begins_tuple a its.toArray) iT fun g en hit hk => wpAny_pyIter_enum en ?_
    have J2 : Inv X pins τ H1 { s1 with heap := g } := J1.kept (t' := s1.toks) hk
    exact ⟨s1.heap.objs.size + 1, [s1.heap.objs.size + 1, s1.heap.objs.size], _, _, H1, rfl, J2, turn_enumT a (s1.heap.objs.size + 1) s1.heap.objs.size, ⟨⟨.none, en⟩, ⟨_, hit, rfl, rfl⟩, Nat.succ_ne_self _⟩, fps, q⟩
end Pi
end

section
set_option maxHeartbeats 8000000
namespace Pi
open PySem PySem.Spec PyProof.Rows L2
abbrev mtSet (w : World) : Obj := { cls := .type "set", dict := none, data := .set #[] 0 (.fresh 0 0 (!w.params.followText "set-order")) }
section
variable {P : Program} {w : World} {A : Around} {E : Value → Shared → Prop} {s : Shared}
set_option maxHeartbeats 3200000 in
theorem set_list_R {src : Addr} {vs : Array Value} (ns : List Int) {Q : Value → Shared → Prop} (calmA : A.handled = none) (isl : s.heap.IsList src vs) (areI : IntsAre vs.toList ns) (few : ns.length + 1 < scanBound)
    (k : ∀ (g : Heap) (tk c : Nat), SetR w g s.heap.objs.size (fun j => decide (j ∈ ns)) c → c ≤ ns.length → (∀ b o, s.heap.get? b = some o → g.get? b = some o) → Q (.ref s.heap.objs.size) { s with heap := g, toks := tk }) :
    wpAny (model P w) A (call (.type "set") [.ref src]) Q E s := by
  have lsz : vs.size = ns.length := by
    have z := IntsAre.length areI
    rwa [Array.length_toList] at z
  obtain ⟨cc, tt, mro1⟩ := F.called_set.mro
  have mk1 := F.called_set.made
  have sb1 := F.called_set.sub
  refine wpAny_call (codeAny_of_tree ?_)
  show wpAny _ _ (callAny (.type "set") _) _ _ _
  refine wpAny_pure ⟨Code.quiet_builtin _ (by decide +kernel), codeAny_builtin F.entry_type_call ?_⟩
  rw [Around.under_plain (weight_type_call_type "set" [.ref src] []) rfl]
  have n1 := F.called_set.notType
  have n2 := F.called_set.canCreate
  have n3 := F.typeCall_set_1 (.ref src)
  repeat (any_goals (first | assumption | wp_step))
  refine codeAny_mono (code_set_led1 (.ref src) (E := E) (Q₁ := fun u st => u = .ref s.heap.objs.size ∧ st = { s with heap := s.heap.push (mtSet w) }) ⟨rfl, rfl⟩) fun res st hres => ?_
  cases res with
  | error e => exact hres
  | ok fl =>
    cases fl with
    | ret u =>
      obtain ⟨rfl, rfl⟩ := hres
      have at0 : (s.heap.push (mtSet w)).get? s.heap.objs.size = some (mtSet w) := Heap.get?_push_size _ rfl
      have ty0 : Shared.TypeIs { s with heap := s.heap.push (mtSet w) } (.ref s.heap.objs.size) "set" := ⟨_, at0, rfl⟩
      have i1 := F.called_set.init.lookup
      have i2 := F.called_set.init.bind (.ref s.heap.objs.size)
      repeat (any_goals (first | assumption | wp_step))
      refine codeAny_mono (codeAny_call_builtin (R := wants (fun r st2 => r = .none ∧ ∃ g tk c, st2 = { s with heap := g, toks := tk } ∧ SetR w g s.heap.objs.size (fun j => decide (j ∈ ns)) c ∧ c ≤ ns.length ∧
          (∀ b o, s.heap.get? b = some o → g.get? b = some o)) E) F.called_set.init.plain F.entry_set_init (check_set_init_1 ty0 ?_)) fun res2 st2 hres2 => ?_
      · obtain ⟨ob, oat, ocl, en, od⟩ := isl
        obtain ⟨oc, odi, oda, osl⟩ := ob
        simp only at ocl od
        subst ocl
        subst od
        have oat2 : (s.heap.push (mtSet w)).get? src = some { cls := .type "list", dict := odi, data := .seq vs en, slots := osl } := Heap.get?_push_of_some _ oat
        have p1 := F.sub_list_set
        have p2 := F.sub_list_frozenset
        have p3 : (Value.type "list" == Value.type "dict") = false := by decide
        have isl1 : (s.heap.push (mtSet w)).IsList src vs := ⟨_, oat2, rfl, en, rfl⟩
        unfold Builtin.«set.__init__» noKeywords Builtin.Frozenset.updateFrom
        generalize hit : pyIter = itf
        wp_walk
        subst hit
        refine wpAny_pyIter_list isl1 (wpAny_bind (wpAny_runValue ?_))
        have lt0 : src < s.heap.objs.size := Heap.lt_size oat
        have calm3 : A.in1.in1.in1.handled = none := by simp [calmA]
        have sz0 : (s.heap.push (mtSet w)).objs.size = s.heap.objs.size + 1 := Heap.size_push ..
        have apart : src ≠ (s.heap.push (mtSet w)).objs.size := by rw [sz0]; exact Nat.ne_of_lt (Nat.lt_succ_of_lt lt0)
        have apart2 : s.heap.objs.size ∉ [(s.heap.push (mtSet w)).objs.size, src] := by
          rw [sz0]
          simp only [List.mem_cons, List.not_mem_nil, or_false, not_or]
          exact ⟨Nat.ne_of_lt (Nat.lt_succ_self _), Nat.ne_of_gt lt0⟩
        have told : ∀ (i : Nat) (v : Value), vs[i]? = some v → ∃ z t, ns[i]? = some z ∧ v = .int z t := fun i v hv => by
          have hi : i < ns.length := by rw [← lsz]; exact (Array.getElem?_eq_some_iff.mp hv).1
          obtain ⟨t, e⟩ := IntsAre.int_at areI i v (by rw [Array.getElem?_toList]; exact hv)
          exact ⟨ns[i], t, List.getElem?_eq_getElem hi, by rw [e, List.getD_eq_getElem?_getD, List.getElem?_eq_getElem hi]; rfl⟩
        refine set_update_ints ((Walks.list calm3 _ src apart vs).toS) s.heap.objs.size apart2 ns lsz few told (vs.size - 0) 0 _ (by omega) (Nat.zero_le _) ⟨⟨_, Heap.get?_push_size _ rfl, rfl, rfl⟩, (isl1.push _)⟩ ?start ?goal
        case start => exact ⟨0, Nat.le_refl 0, setR_new_at (Heap.get?_push_of_some _ at0)⟩
        case goal =>
          intro st3 c3 mv le3 R3
          obtain ⟨g3, gens3, dr3, tk3, os3⟩ := st3
          have q1 : gens3 = s.gens := mv.gens
          have q2 : dr3 = s.drawn := mv.drawn
          have q3 : os3 = s.os := mv.os
          subst q1
          subst q2
          subst q3
          show wpAny _ _ _ _ _ _
          refine wpAny_pure ?_
          show wpAny _ _ (ret Value.none) _ _ _
          rw [lsz] at le3
          refine wpAny_pure ⟨rfl, g3, tk3, c3, rfl, R3, le3, fun b o e => ?_⟩
          have lt3 : b < s.heap.objs.size := Heap.lt_size e
          refine mv.heap b o ?_ (Heap.get?_push_of_some _ (Heap.get?_push_of_some _ e))
          rw [sz0]
          simp only [List.mem_cons, List.not_mem_nil, or_false, not_or]
          exact ⟨Nat.ne_of_lt lt3, Nat.ne_of_lt (Nat.lt_succ_of_lt lt3)⟩
      · cases res2 with
        | error e => exact hres2
        | ok fl2 =>
          cases fl2 with
          | ret r =>
            obtain ⟨rfl, g, tk, c, rfl, R2, le2, keep2⟩ := hres2
            repeat (any_goals (first | assumption | wp_step))
            exact k _ _ _ R2 le2 keep2
          | _ => exact hres2.elim
    | _ => exact hres.elim
end
end Pi
end

section
set_option maxHeartbeats 8000000
namespace Pi
open PySem

inductive IV where
  | non | bl (b : Bool) | int (i : Int) | str (x : Str) | tup (xs : List IV) | lsr (k : Bool) (xs : List IV) | ref (i : Nat) | exc (c : Nat) (v : List IV) | fn (i : Nat)
  deriving Inhabited

inductive IO where
  | lst (xs : List IV)
  | dk (kvs : List (L2.Key × IV)) | dt (kvs : List (List L2.Key × IV))
  | set (xs : List Int)
  deriving Inhabited
abbrev IH := List IO

structure Ex where
  cls : Nat
  val : List IV

inductive Out (α : Type) where
  | stuck | ok (a : α) (h : IH) | ex (e : Ex) (h : IH)

def Out.bind {α β : Type} (x : Out α) (f : α → IH → Out β) : Out β := match x with
  | .ok a h => f a h
  | .stuck => .stuck
  | .ex e h => .ex e h
@[simp] theorem bind_ok {α β : Type} (a : α) (h : IH) (f : α → IH → Out β) : (Out.ok a h).bind f = f a h := rfl
@[simp] theorem bind_stuck {α β : Type} (f : α → IH → Out β) : (Out.stuck : Out α).bind f = .stuck := rfl
@[simp] theorem bind_ex {α β : Type} (e : Ex) (h : IH) (f : α → IH → Out β) : (Out.ex e h : Out α).bind f = .ex e h := rfl
theorem bind_eq_ok {α β : Type} {x : Out α} {f : α → IH → Out β} {b : β} {h' : IH} (e : x.bind f = .ok b h') : ∃ a h, x = .ok a h ∧ f a h = .ok b h' := by
  cases x with
  | stuck => exact nomatch e
  | ok a h => exact ⟨a, h, rfl, e⟩
  | ex _ _ => exact nomatch e

abbrev LIM : Nat := 1000000

def lstOf (h : IH) : IV → Option (List IV)
  | .ref i => match h[i]? with
    | some (.lst xs) => some xs
    | _ => none
  | .lsr _ xs => some xs
  | _ => none
def seqOf (h : IH) : IV → Option (List IV)
  | .tup xs => some xs
  | v => lstOf h v
def newL (xs : List IV) (h : IH) : Out IV := if xs.length ≤ LIM then .ok (.ref h.length) (h ++ [.lst xs]) else .stuck
def newT (xs : List IV) (h : IH) : Out IV := if xs.length ≤ LIM then .ok (.tup xs) h else .stuck

def small (i : Int) : Bool := decide (i.natAbs < 2 ^ 400000)
def tiny (i : Int) : Bool := decide (i.natAbs < 18446744073709551616)
def mid (i : Int) : Bool := decide (i.natAbs < 2 ^ 8000)

def binI (op : Operator) (a b : IV) (h : IH) : Out IV := match op, a, b with
  | .Add, .int i, .int j => .ok (.int (i + j)) h
  | .Add, .str x, .str y => if x.length + y.length ≤ LIM then .ok (.str (x ++ y)) h else .stuck
  | .Add, .tup xs, .tup ys => if xs.length + ys.length ≤ LIM then .ok (.tup (xs ++ ys)) h else .stuck
  | .Add, .ref i, .ref j => match h[i]?, h[j]? with
    | some (.lst xs), some (.lst ys) => newL (xs ++ ys) h
    | _, _ => .stuck
  | .Add, .lsr true xs, .ref j => match h[j]? with
    | some (.lst ys) => newL (xs ++ ys) h
    | _ => .stuck
  | .Add, .ref i, .lsr true ys => match h[i]? with
    | some (.lst xs) => newL (xs ++ ys) h
    | _ => .stuck
  | .Add, .lsr true xs, .lsr true ys => newL (xs ++ ys) h
  | .Sub, .int i, .int j => .ok (.int (i - j)) h
  | .Mult, .int i, .int j => if (tiny i || tiny j) || (small i && small j) then .ok (.int (i * j)) h else .stuck
  | .Mult, .ref i, .int k => match h[i]? with
    | some (.lst xs) => if -1000000 ≤ k ∧ k ≤ 1000000 then newL (List.replicate k.toNat xs).flatten h else .stuck
    | _ => .stuck
  | .Mult, .tup xs, .int k => if k = 1 then .ok (.tup xs) h else if xs ≠ [] ∧ xs.length ≤ 1000 ∧ 2 ≤ k ∧ k ≤ 1000 then .ok (.tup (List.replicate k.toNat xs).flatten) h else .stuck
  | .FloorDiv, .int i, .int j => if 0 < j then (if mid j then .ok (.int (i / j)) h else .stuck) else if j < 0 then (if -1000000 < j then .ok (.int (i.fdiv j)) h else .stuck) else .stuck
  | .Mod, .int i, .int j => if 0 < j then .ok (.int (i % j)) h else if j < 0 then .ok (.int (i.fmod j)) h else .stuck
  | .Pow, .int i, .int j => if 0 ≤ j ∧ j ≤ 1000000 ∧ i.natAbs < 18446744073709551616 then .ok (.int (i ^ j.toNat)) h else .stuck
  | _, _, _ => .stuck

def eqI : IV → IV → Option Bool
  | .non, .non => some true
  | .non, .int _ => some false | .int _, .non => some false
  | .non, .bl _ => some false | .bl _, .non => some false
  | .non, .str _ => some false | .str _, .non => some false
  | .int i, .int j => some (decide (i = j))
  | .bl a, .bl b => some (decide (a = b))
  | .str x, .str y => some (decide (x = y))
  | .int _, .str _ => some false | .str _, .int _ => some false
  | .bl _, .str _ => some false | .str _, .bl _ => some false
  | _, _ => none

def allM {α β : Type} (f : α → Option β) : List α → Option (List β)
  | [] => some []
  | x :: xs => match f x with
    | some y => (allM f xs).map (y :: ·)
    | none => none
def dataOf (h : IH) : Nat → IV → Option PyData
  | _, .non => some .none
  | _, .bl b => some (.bool b)
  | _, .int i => some (.int i)
  | _, .str x => some (.str x)
  | 0, .tup _ => none
  | 0, .lsr _ _ => none
  | _, .exc _ _ => none
  | _, .fn _ => none
  | 0, .ref _ => none
  | n + 1, .tup xs => (allM (dataOf h n) xs).map .tuple
  | n + 1, .lsr _ xs => (allM (dataOf h n) xs).map .list
  | n + 1, .ref i => match h[i]? with
    | some (.lst xs) => (allM (dataOf h n) xs).map .list
    | _ => none
def intsOf : List IV → Option (List Int)
  | [] => some []
  | .int i :: r => (intsOf r).map (i :: ·)
  | _ :: _ => none
def blsOf : List IV → Option (List Bool)
  | [] => some []
  | .bl i :: r => (blsOf r).map (i :: ·)
  | _ :: _ => none
abbrev DEEP : Nat := 32
def dkS (h : IH) : IV → IV → Option Bool
  | .ref p, .str _ => (match h[p]? with | some (.dk _) => some false | _ => none)
  | .ref p, .ref q => if p = q then (match h[p]? with | some (.dk [(_, .int _)]) => some true | _ => none) else none
  | _, _ => none
def eqH (h : IH) (a b : IV) : Option Bool := match eqI a b with
  | some r => some r
  | none => match dataOf h DEEP a, dataOf h DEEP b with
    | some d, some e => some (PyData.eqv d e)
    | _, _ => dkS h a b

def keyOf : IV → Option L2.Key
  | .int i => some (.inl i)
  | .str x => some (.inr x)
  | _ => none
def has {κ : Type} [DecidableEq κ] (k : κ) : List (κ × IV) → Bool
  | [] => false
  | (k', _) :: r => if k' = k then true else has k r
def look {κ : Type} [DecidableEq κ] (k : κ) (kvs : List (κ × IV)) : Option IV := (kvs.find? fun kv => decide (kv.1 = k)).map (·.2)
def put {κ : Type} [DecidableEq κ] (k : κ) (v : IV) (kvs : List (κ × IV)) : List (κ × IV) := if has k kvs = true then kvs.map (fun kv => if kv.1 = k then (kv.1, v) else kv) else kvs ++ [(k, v)]
def keysOf : List IV → Option (List L2.Key)
  | [] => some []
  | v :: r => match keyOf v with
    | some k => (keysOf r).map (k :: ·)
    | none => none
def keyV : L2.Key → IV
  | .inl i => .int i
  | .inr x => .str x
def intKeys : List L2.Key → Option (List Int)
  | [] => some []
  | .inl i :: r => (intKeys r).map (i :: ·)
  | .inr _ :: _ => none

def inI (h : IH) (a b : IV) : Option Bool := match b with
  | .ref p => match h[p]? with
    | some (.dk kvs) => (keyOf a).map fun k => has k kvs
    | some (.lst xs) => match dataOf h DEEP a, allM (dataOf h DEEP) xs with
      | some d, some es => some (es.any fun y => PyData.eqv y d)
      | _, _ => none
    | _ => none
  | .tup xs => match dataOf h DEEP a, allM (dataOf h DEEP) xs with
    | some d, some es => some (es.any fun y => PyData.eqv y d)
    | _, _ => none
  | .lsr _ xs => match dataOf h DEEP a, allM (dataOf h DEEP) xs with
    | some d, some es => some (es.any fun y => PyData.eqv y d)
    | _, _ => none
  | .str z => match a with
    | .str s => match s.cps.toList with
      | [c] => some (decide (c ∈ z.cps.toList))
      | _ => none
    | _ => none
  | _ => none
def strsOf : List IV → Option (List Str)
  | [] => some []
  | .str i :: r => (strsOf r).map (i :: ·)
  | _ :: _ => none

def IV.isNon : IV → Bool
  | .non => true
  | _ => false
def cmpI (op : CmpOp) (a b : IV) (h : IH) : Out IV := match op with
  | .Eq => match eqH h a b with
    | some r => .ok (.bl r) h
    | none => .stuck
  | .NotEq => match eqH h a b with
    | some r => .ok (.bl !r) h
    | none => .stuck
  | .Lt => match a, b with
    | .int i, .int j => .ok (.bl (decide (i < j))) h
    | _, _ => .stuck
  | .LtE => match a, b with
    | .int i, .int j => .ok (.bl (decide (i ≤ j))) h
    | _, _ => .stuck
  | .Gt => match a, b with
    | .int i, .int j => .ok (.bl (decide (j < i))) h
    | _, _ => .stuck
  | .GtE => match a, b with
    | .int i, .int j => .ok (.bl (decide (j ≤ i))) h
    | _, _ => .stuck
  | .Is => match b with
    | .non => .ok (.bl a.isNon) h
    | .bl z => match a with
      | .bl y => .ok (.bl (decide (y = z))) h
      | _ => .stuck
    | _ => .stuck
  | .IsNot => match b with
    | .non => .ok (.bl !a.isNon) h
    | .bl z => match a with
      | .bl y => .ok (.bl !decide (y = z)) h
      | _ => .stuck
    | _ => .stuck
  | .In => match inI h a b with
    | some r => .ok (.bl r) h
    | none => .stuck
  | .NotIn => match inI h a b with
    | some r => .ok (.bl !r) h
    | none => .stuck

def truI (a : IV) (h : IH) : Option Bool := match a with
  | .non => some false
  | .bl b => some b
  | .int i => some (i != 0)
  | .str x => if x.length ≤ LIM then some ((x.length : Int) != 0) else none
  | .tup xs => some !xs.isEmpty
  | .lsr _ xs => some !xs.isEmpty
  | .exc _ _ => none
  | .fn _ => none
  | .ref i => match h[i]? with
    | some (.lst xs) => some !xs.isEmpty
    | some (.dk xs) => some !xs.isEmpty
    | _ => none

def ixI (a b : IV) (h : IH) : Out IV := match b with
  | .int k => match seqOf h a with
    | some xs => match L2.atI xs k with
      | some v => .ok v h
      | none => .stuck
    | none => match a with
      | .str z => if z.length ≤ LIM then (match L2.atI z.cps.toList k with
        | some c => .ok (.str ⟨#[c]⟩) h
        | none => .stuck) else .stuck
      | .ref p => (match h[p]? with
        | some (.dk kvs) => (match look (.inl k) kvs with
          | some v => .ok v h
          | none => .stuck)
        | _ => .stuck)
      | _ => .stuck
  | _ => .stuck
def cutI (xs : List IV) (lo hi : Option Int) : List IV := (xs.drop (HT.sIx xs.length 0 lo)).take (HT.sIx xs.length xs.length hi - HT.sIx xs.length 0 lo)
def slI (a : IV) (lo hi : Option Int) (h : IH) : Out IV := match a with
  | .tup xs => .ok (.tup (cutI xs lo hi)) h
  | a => match lstOf h a with
    | some xs => .ok (.ref h.length) (h ++ [.lst (cutI xs lo hi)])
    | none => match a with
      | .str z => if z.length ≤ LIM then .ok (.str (L2.cutS z lo hi)) h else .stuck
      | _ => .stuck
def setI (a b v : IV) (h : IH) : Out Unit := match a, b with
  | .ref i, .int k => match h[i]? with
    | some (.lst xs) => match L2.ixN xs.length k with
      | some j => .ok () (h.set i (.lst (xs.set j v)))
      | none => .stuck
    | some (.dk kvs) => if kvs.length < LIM then .ok () (h.set i (.dk (put (.inl k) v kvs))) else .stuck
    | _ => .stuck
  | .ref i, .tup ks => match keysOf ks, h[i]? with
    | some key, some (.dt kvs) => if kvs.length < LIM then .ok () (h.set i (.dt (put key v kvs))) else .stuck
    | _, _ => .stuck
  | _, _ => .stuck

inductive Ky where
  | absn | at1
  deriving DecidableEq, Inhabited
def keyI : Ky → IV → Option (Int × Int)
  | .absn, .int i => some (if i < 0 then -i else i, if i < 0 then 1 else 0)
  | .at1, .tup (_ :: .int i :: _) => some (i, 0)
  | _, _ => none
def leP (x y : Int × Int) : Bool := decide (x.1 < y.1 ∨ (x.1 = y.1 ∧ x.2 ≤ y.2))
def skeyI (k : Ky) (xs : List IV) : List IV := xs.mergeSort fun x y => leP ((keyI k x).getD (0, 0)) ((keyI k y).getD (0, 0))
inductive Bt where
  | abs | len | list | tuple | int | max | min | sum | all | any | set | sorted | str
  deriving DecidableEq, Inhabited
def Bt.every : List Bt := [.abs, .len, .list, .tuple, .int, .max, .min, .sum, .all, .any, .set, .sorted, .str]
def Bt.name : Bt → Str
  | .abs => "abs" | .len => "len" | .list => "list" | .tuple => "tuple" | .int => "int" | .max => "max" | .min => "min" | .sum => "sum" | .all => "all" | .any => "any" | .set => "set" | .sorted => "sorted" | .str => "str"
def Bt.value : Bt → Value
  | .abs => .builtin "abs" | .len => .builtin "len" | .list => .type "list" | .tuple => .type "tuple" | .int => .type "int" | .max => .builtin "max" | .min => .builtin "min" | .sum => .builtin "sum" | .all => .builtin "all" | .any => .builtin "any" | .set => .type "set" | .sorted => .builtin "sorted" | .str => .type "str"
inductive Ty where
  | int | bool | list | tuple | str
  deriving DecidableEq, Inhabited
def Ty.every : List Ty := [.int, .bool, .list, .tuple, .str]
def Ty.name : Ty → Str
  | .int => "int" | .bool => "bool" | .list => "list" | .tuple => "tuple" | .str => "str"
def Ty.txt : Ty → String
  | .int => "int" | .bool => "bool" | .list => "list" | .tuple => "tuple" | .str => "str"
inductive Mt where
  | append | pop | insert | clear
  deriving DecidableEq, Inhabited
def Mt.every : List Mt := [.append, .pop, .insert, .clear]
def Mt.name : Mt → Str
  | .append => "append" | .pop => "pop" | .insert => "insert" | .clear => "clear"
inductive Tg where
  | name (i : Nat)
  | pair (a b : Tg)
  | one (a : Tg)
  | three (a b c : Tg)
  | four (a b c d : Tg)
  deriving Inhabited

mutual
inductive E where
  | var (i : Nat)
  | con (v : IV)
  | bin (op : Operator) (a b : E)
  | neg (a : E)
  | not (a : E)
  | and (a b : E)
  | or (a b : E)
  | cmp (op : CmpOp) (a b : E)
  | chain (op op' : CmpOp) (a b c : E)
  | ife (c a b : E)
  | tup (es : Es)
  | lst (es : Es)
  | call (f : Nat) (es : Es)
  | calv (i : Nat) (es : Es)
  | callk (f m : Nat) (perm : List Nat) (es ks : Es)
  | blt (f : Bt) (es : Es)
  | sset (a : E)
  | skey (k : Ky) (a : E)
  | sdef (o k : E)
  | trg (a : E)
  | lrg (a : E)
  | isi (a : E) (T : Ty)
  | isx (a : E) (c : Option Nat)
  | shut (e : E)
  | slr (a : E)
  | dks (ks : List Str) (es : Es)
  | fld (a : E)
  | ix (a b : E)
  | sl (a : E) (lo hi : Oe)
  | lc (el : E) (tg : Tg) (it : It) (c : Oe) (own : List Nat)
  | ssc (el : E) (tg : Tg) (it : It) (c : Oe) (own : List Nat)
  | dcm (kv : Es) (tg : Tg) (it : It) (c : Oe) (own : List Nat)
  | dict (tk : Bool)
  | meth (m : Mt) (o : E) (es : Es)
  | xrg (o : E) (es : Es)
  | join (a b : E)
  | split (a b : E)
inductive Es where
  | nil
  | cons (e : E) (es : Es)
inductive Oe where
  | non
  | som (e : E)
inductive It where
  | val (e : E)
  | ints (xs : List Int)
  | rng (a : E)
  | rng2 (a b : E)
  | enum (a : E)
  | rev (a : E)
  | revr (a : E)
  | rng3 (a b : E) (c : Int)
  | zip (a b : E)
end

inductive Sx where
  | con (i : Nat) (v : IV)
  | err (i : Nat)
  | iss (i : Nat) (cs : List (Option Nat))
  | fld (i : Nat)

mutual
inductive S where
  | pass | brk | cnt
  | asg (tg : Tg) (e : E)
  | par (i j : Nat) (a b : E)
  | set (o i v : E)
  | swp (o i q j v : E)
  | aug (o i v : E)
  | drop (e : E)
  | ret (e : E)
  | retN
  | ite (c : E) (a b : Ss)
  | whl (c : E) (b : Ss)
  | for (tg : Tg) (it : It) (b : Ss)
  | never
  | rais (c : Nat) (es : Es)
  | tri (b : Ss) (hs : List (Nat × Option Nat × Sx))
inductive Ss where
  | nil
  | cons (s : S) (r : Ss)
end

mutual
def nrV (n : Nat) : IV → Bool
  | .ref i => decide (i < n)
  | .tup xs => nrVs n xs
  | .lsr _ xs => nrVs n xs
  | .exc _ xs => nrVs n xs
  | _ => true
def nrVs (n : Nat) : List IV → Bool
  | [] => true
  | x :: xs => nrV n x && nrVs n xs
end
def nrK {κ : Type} (n : Nat) : List (κ × IV) → Bool
  | [] => true
  | (_, x) :: xs => nrV n x && nrK n xs
def nrO (n : Nat) : IO → Bool
  | .lst xs => nrVs n xs
  | .dk xs => nrK n xs
  | .dt xs => nrK n xs
  | .set _ => true
def fzV (h : IH) (n : Nat) : Nat → IV → Option IV
  | 0, v => if nrV n v then some v else none
  | k + 1, v => if nrV n v then some v else match v with
    | .ref i => match h[i]? with
      | some (.lst xs) => (allM (fzV h n k) xs).map (.lsr true)
      | _ => none
    | .tup xs => (allM (fzV h n k) xs).map .tup
    | _ => none
def oldOk (h0 h : IH) : Prop := h0.length ≤ h.length ∧ ∀ i, i < h0.length → h[i]? = h0[i]? ∨ ∃ o, h[i]? = some o ∧ nrO h0.length o = true
open Classical in
noncomputable def sealI (h0 : IH) (v : IV) (h : IH) : Out IV := match fzV h h0.length 6 v with
  | some u => if oldOk h0 h then .ok u (h.take h0.length) else .ok v h
  | none => .ok v h
open Classical in
noncomputable def cutX (h0 : IH) (e : Ex) (h : IH) : Out IV := if oldOk h0 h ∧ nrVs h0.length e.val = true then .ex e (h.take h0.length) else .ex e h
noncomputable def outI (h0 : IH) : Out IV → Out IV
  | .ok v h => sealI h0 v h
  | .ex e h => cutX h0 e h
  | .stuck => .stuck

abbrev Sl := List (Option IV)
abbrev Calls := Nat → List IV → IH → Out IV

def tgI : Tg → IV → Sl → Option Sl
  | .name i, v, σ => some (σ.set i (some v))
  | .one a, .tup [x], σ => tgI a x σ
  | .pair a b, .tup [x, y], σ => (tgI a x σ).bind (tgI b y)
  | .three a b c, .tup [x, y, z], σ => ((tgI a x σ).bind (tgI b y)).bind (tgI c z)
  | .four a b c d, .tup [x, y, z, w], σ => (((tgI a x σ).bind (tgI b y)).bind (tgI c z)).bind (tgI d w)
  | _, _, _ => none
def wipeI (σ : Sl) : List Nat → Sl
  | [] => σ
  | v :: vs => (wipeI σ vs).set v none

inductive Wk where
  | lst (i : Nat)
  | vals (xs : List IV)
  | enum (i : Nat)
  | enumT (xs : List IV)
  | rev (i : Nat) (n : Nat)
  | zip (i j : Nat)

def lsAt (h : IH) (i : Nat) : Option (List IV) := match h[i]? with
  | some (.lst xs) => some xs
  | _ => none
def wkAt (w : Wk) (n : Nat) (h : IH) : Option (Option IV) := match w with
  | .vals xs => some xs[n]?
  | .lst i => (lsAt h i).map fun xs => xs[n]?
  | .enum i => (lsAt h i).map fun xs => xs[n]?.map fun x => .tup [.int n, x]
  | .enumT xs => some (xs[n]?.map fun x => .tup [.int n, x])
  | .rev i m => (lsAt h i).bind fun xs => if n < m then (xs[m - 1 - n]?).map some else some none
  | .zip i j => (lsAt h i).bind fun xs => (lsAt h j).map fun ys => match xs[n]?, ys[n]? with
    | some x, some y => some (.tup [x, y])
    | _, _ => none
def wkLen (w : Wk) (h : IH) : Nat := match w with
  | .vals xs => xs.length
  | .lst i => ((lsAt h i).getD []).length
  | .enum i => ((lsAt h i).getD []).length
  | .enumT xs => xs.length
  | .rev _ m => m
  | .zip i j => min ((lsAt h i).getD []).length ((lsAt h j).getD []).length

def ded (ns : List Int) : List Int := PyProof.Rows.firstMet (fun i => ns.getD i 0) ns.length
def srt (ns : List Int) : List Int := ns.mergeSort fun a b => decide (a ≤ b)
def sst (ns : List Int) : List Int := srt (ded ns)
def mnI : List Int → Option Int
  | [] => none
  | n :: ns => some (ns.foldl (fun a b => if b < a then b else a) n)
def pairOf : IV → Option (Int × Int)
  | .tup [.int a, .int b] => some (a, b)
  | _ => none
def mnP : List (Int × Int) → Option (Int × Int)
  | [] => none
  | p :: ps => some (ps.foldl (fun a b => if leP a b then a else b) p)
def mxI : List Int → Option Int
  | [] => none
  | n :: ns => some (ns.foldl (fun a b => if a < b then b else a) n)
def bltI (f : Bt) (vs : List IV) (h : IH) : Out IV := match f with
  | .abs => (match vs with
    | [.int i] => .ok (.int (if i < 0 then -i else i)) h
    | [.bl b] => .ok (.int (if b then 1 else 0)) h
    | _ => .stuck)
  | .len => (match vs with
    | [.str x] => if x.length ≤ LIM then .ok (.int x.length) h else .stuck
    | [.tup xs] => .ok (.int xs.length) h
    | [.lsr _ xs] => .ok (.int xs.length) h
    | [.ref i] => (match h[i]? with
      | some (.lst xs) => .ok (.int xs.length) h
      | some (.dk xs) => .ok (.int xs.length) h
      | some (.set xs) => if xs.length ≤ LIM then .ok (.int xs.length) h else .stuck
      | _ => .stuck)
    | _ => .stuck)
  | .list => (match vs with
    | [v] => (match seqOf h v with
      | some xs => .ok (.ref h.length) (h ++ [.lst xs])
      | none => match v with
        | .ref i => (match h[i]? with
          | some (.dt kvs) => .ok (.ref h.length) (h ++ [.lst (kvs.map fun kv => .tup (kv.1.map keyV))])
          | _ => .stuck)
        | _ => .stuck)
    | _ => .stuck)
  | .tuple => (match vs with
    | [.tup xs] => .ok (.tup xs) h
    | [.ref i] => (match lstOf h (.ref i) with
      | some xs => .ok (.tup xs) h
      | none => .stuck)
    | [.lsr true xs] => .ok (.tup xs) h
    | _ => .stuck)
  | .int => (match vs with
    | [.int i] => .ok (.int i) h
    | [.bl b] => .ok (.int (if b then 1 else 0)) h
    | [.str a] => (match PySem.intText? a with
      | some n => if a.length ≤ 640 then .ok (.int n) h else .stuck
      | none => .stuck)
    | _ => .stuck)
  | .max => (match vs with
    | [.int i, .int j] => .ok (.int (if j > i then j else i)) h
    | [v] => (match ((lstOf h v).bind intsOf).bind mxI with
      | some m => .ok (.int m) h
      | none => .stuck)
    | _ => .stuck)
  | .min => (match vs with
    | [.int i, .int j] => .ok (.int (if j < i then j else i)) h
    | [v] => (match ((lstOf h v).bind intsOf).bind mnI with
      | some m => .ok (.int m) h
      | none => match ((lstOf h v).bind (allM pairOf)).bind mnP with
        | some p => .ok (.tup [.int p.1, .int p.2]) h
        | none => .stuck)
    | _ => .stuck)
  | .sum => (match vs with
    | [v] => (match (lstOf h v).bind intsOf with
      | some ns => .ok (.int ns.sum) h
      | none => .stuck)
    | _ => .stuck)
  | .all => (match vs with
    | [v] => (match (lstOf h v).bind blsOf with
      | some ns => .ok (.bl (ns.all id)) h
      | none => .stuck)
    | _ => .stuck)
  | .any => (match vs with
    | [v] => (match (lstOf h v).bind blsOf with
      | some ns => .ok (.bl (ns.any id)) h
      | none => .stuck)
    | _ => .stuck)
  | .set => (match vs with
    | [v] => (match (lstOf h v).bind intsOf with
      | some ns => if ns.length + 1 < 4096 then .ok (.ref h.length) (h ++ [.set (ded ns)]) else .stuck
      | none => .stuck)
    | _ => .stuck)
  | .sorted => (match vs with
    | [v] => (match (lstOf h v).bind intsOf with
      | some ns => .ok (.ref h.length) (h ++ [.lst ((srt ns).map .int)])
      | none => match v with
        | .ref i => (match h[i]? with
          | some (.dk kvs) => (match intKeys (kvs.map (·.1)) with
            | some ks => .ok (.ref h.length) (h ++ [.lst ((srt ks).map .int)])
            | none => .stuck)
          | _ => .stuck)
        | _ => .stuck)
    | _ => .stuck)
  | .str => (match vs with
    | [.int i] => if i.natAbs.log2 < 1920 then .ok (.str (toString i)) h else .stuck
    | [.non] => .ok (.str (Str.ofString "None")) h
    | _ => .stuck)

theorem mnI_ok {ns : List Int} {m : Int} (e : mnI ns = some m) : m ∈ ns ∧ ∀ y ∈ ns, m ≤ y := by
  cases ns with
  | nil => cases e
  | cons n ns =>
    cases e
    have H : ∀ (l : List Int) (a : Int), (l.foldl (fun a b => if b < a then b else a) a ∈ a :: l) ∧ ∀ y ∈ a :: l, l.foldl (fun a b => if b < a then b else a) a ≤ y := by
      intro l
      induction l with
      | nil => intro a; simp
      | cons b l ih =>
        intro a
        simp only [List.foldl_cons]
        by_cases c : b < a
        · rw [if_pos c]
          obtain ⟨h1, h2⟩ := ih b
          refine ⟨List.mem_cons_of_mem _ h1, fun y hy => ?_⟩
          rcases List.mem_cons.mp hy with rfl | hy
          · have := h2 b List.mem_cons_self
            omega
          · exact h2 y hy
        · rw [if_neg c]
          obtain ⟨h1, h2⟩ := ih a
          refine ⟨?_, fun y hy => ?_⟩
          · rcases List.mem_cons.mp h1 with z | z
            · rw [z]; exact List.mem_cons_self
            · exact List.mem_cons_of_mem _ (List.mem_cons_of_mem _ z)
          · rcases List.mem_cons.mp hy with rfl | hy
            · exact h2 _ List.mem_cons_self
            · rcases List.mem_cons.mp hy with rfl | hy
              · have := h2 a List.mem_cons_self
                omega
              · exact h2 y (List.mem_cons_of_mem _ hy)
    exact H ns n
theorem mxI_ok {ns : List Int} {m : Int} (e : mxI ns = some m) : m ∈ ns ∧ ∀ y ∈ ns, y ≤ m := by
  cases ns with
  | nil => cases e
  | cons n ns =>
    cases e
    have H : ∀ (l : List Int) (a : Int), (l.foldl (fun a b => if a < b then b else a) a ∈ a :: l) ∧ ∀ y ∈ a :: l, y ≤ l.foldl (fun a b => if a < b then b else a) a := by
      intro l
      induction l with
      | nil => intro a; simp
      | cons b l ih =>
        intro a
        simp only [List.foldl_cons]
        by_cases c : a < b
        · rw [if_pos c]
          obtain ⟨h1, h2⟩ := ih b
          refine ⟨List.mem_cons_of_mem _ h1, fun y hy => ?_⟩
          rcases List.mem_cons.mp hy with rfl | hy
          · have := h2 b List.mem_cons_self
            omega
          · exact h2 y hy
        · rw [if_neg c]
          obtain ⟨h1, h2⟩ := ih a
          refine ⟨?_, fun y hy => ?_⟩
          · rcases List.mem_cons.mp h1 with z | z
            · rw [z]; exact List.mem_cons_self
            · exact List.mem_cons_of_mem _ (List.mem_cons_of_mem _ z)
          · rcases List.mem_cons.mp hy with rfl | hy
            · exact h2 _ List.mem_cons_self
            · rcases List.mem_cons.mp hy with rfl | hy
              · have := h2 a List.mem_cons_self
                omega
              · exact h2 y (List.mem_cons_of_mem _ hy)
    exact H ns n
def isIH (T : Ty) (a : IV) (h : IH) : Option Bool := match a with
  | .ref i => match h[i]? with
    | some (.lst _) => some (decide (T = .list))
    | some (.dk _) => some false
    | _ => none
  | .tup _ => some (decide (T = .tuple))
  | .lsr true _ => some (decide (T = .list))
  | .lsr false _ => none
  | .exc _ _ => none
  | .fn _ => none
  | .int _ => some (decide (T = .int))
  | .bl _ => some (decide (T = .int ∨ T = .bool))
  | .str _ => some (decide (T = .str))
  | .non => some false

def isLst (x : IV) (h : IH) : Bool := match x with
  | .ref i => match h[i]? with
    | some (.lst _) => true
    | _ => false
  | _ => false
def isDct (x : IV) (h : IH) : Bool := match x with
  | .ref i => match h[i]? with
    | some (.dk _) => true
    | _ => false
  | _ => false
def methI (m : Mt) (o : IV) (vs : List IV) (h : IH) : Out IV := match o with
  | .ref i => (match h[i]? with
    | some (.lst xs) => (match m, vs with
      | .append, [v] => if xs.length < LIM then .ok .non (h.set i (.lst (xs ++ [v]))) else .stuck
      | .pop, [] => (match xs[xs.length - 1]? with
        | some v => .ok v (h.set i (.lst xs.dropLast))
        | none => .stuck)
      | .pop, [.int k] => if 0 ≤ k ∧ k < 9223372036854775808 then (match xs[k.toNat]? with
        | some v => .ok v (h.set i (.lst (xs.eraseIdx k.toNat)))
        | none => .stuck) else .stuck
      | .insert, [.int k, v] => if xs.length < LIM ∧ 0 ≤ k ∧ k < 9223372036854775808 then .ok .non (h.set i (.lst (xs.take k.toNat ++ [v] ++ xs.drop k.toNat))) else .stuck
      | .clear, [] => .ok .non (h.set i (.lst []))
      | _, _ => .stuck)
    | _ => .stuck)
  | _ => .stuck
def rgN (i j k : Int) : Nat := if i < j then ((j - i - 1) / k).toNat + 1 else 0
def xrgI (x : IV) (vs : List IV) (h : IH) : Out IV := match x, vs with
  | .ref p, [.int i, .int j, .int k] => if 0 ≤ i ∧ i ≤ 1000000 ∧ 0 ≤ j ∧ j ≤ 1000000 ∧ 1 ≤ k ∧ k ≤ 1000000 then (match h[p]? with
    | some (.lst xs) => if xs.length + rgN i j k ≤ LIM then .ok .non (h.set p (.lst (xs ++ (List.range (rgN i j k)).map fun t : Nat => .int (i + (t : Nat) * k)))) else .stuck
    | _ => .stuck) else .stuck
  | _, _ => .stuck

def lcGo (w : Wk) (body : IV → IH → Out (Option IV)) : Nat → Nat → List IV → IH → Out (List IV)
  | n, 0, acc, h => match wkAt w n h with
    | some none => .ok acc h
    | _ => .stuck
  | n, rem + 1, acc, h => match wkAt w n h with
    | some (some x) => (body x h).bind fun o h1 => match o with
      | some v => if acc.length < LIM then lcGo w body (n + 1) rem (acc ++ [v]) h1 else .stuck
      | none => lcGo w body (n + 1) rem acc h1
    | _ => .stuck

def sscI (vs : List IV) (h : IH) : Out IV := match intsOf vs with
  | some ns => if ns.length + 1 < 4096 then .ok (.ref h.length) (h ++ [.lst ((sst ns).map .int)]) else .stuck
  | none => .stuck
def dkPut (o : Option (List (L2.Key × IV))) (x : IV) : Option (List (L2.Key × IV)) := match o, x with
  | some kvs, .tup [k, v] => (keyOf k).map fun key => put key v kvs
  | _, _ => none
def dkOf (vs : List IV) : Option (List (L2.Key × IV)) := vs.foldl dkPut (some [])
def dcmI (vs : List IV) (h : IH) : Out IV := match dkOf vs with
  | some kvs => .ok (.ref h.length) (h ++ [.dk kvs])
  | none => .stuck

def joinI (s : Str) (y : IV) (h : IH) : Out IV := match (seqOf h y).bind strsOf with
  | some ys => if (ys.map (·.length)).sum + ys.length * s.length ≤ 16777216 then .ok (.str (Txt.join s ys)) h else .stuck
  | none => .stuck
def splitI (s : Str) (y : IV) (h : IH) : Out IV := match y with
  | .str z => if (z.length == 0) = false ∧ s.length ≤ LIM then .ok (.ref h.length) (h ++ [.lst ((Txt.split s z).map .str)]) else .stuck
  | _ => .stuck
def arr {α : Type} (perm : List Nat) (xs : List α) : List α := perm.filterMap (xs[·]?)
def tst (x : Out IV) : Out Bool := x.bind fun v h1 => match truI v h1 with
  | some b => .ok b h1
  | none => .stuck

def noX {α : Type} : Out α → Out α
  | .ex _ _ => .stuck
  | o => o
def isxI (c : Option Nat) : IV → Option Bool
  | .exc d _ => match c with
    | none => some true
    | some k => some (decide (k = 0 ∨ k = d))
  | _ => none
mutual
noncomputable def eE (Φ : Calls) : E → Sl → IH → Out IV
  | .var i, σ, h => match σ[i]? with
    | some (some v) => .ok v h
    | _ => .stuck
  | .con v, _, h => .ok v h
  | .bin op a b, σ, h => (eE Φ a σ h).bind fun x h1 => (eE Φ b σ h1).bind fun y h2 => binI op x y h2
  | .neg a, σ, h => (eE Φ a σ h).bind fun x h1 => match x with
    | .int i => .ok (.int (-i)) h1
    | _ => .stuck
  | .not a, σ, h => (tst (eE Φ a σ h)).bind fun b h1 => .ok (.bl !b) h1
  | .and a b, σ, h => (eE Φ a σ h).bind fun x h1 => match truI x h1 with
    | some true => eE Φ b σ h1
    | some false => .ok x h1
    | none => .stuck
  | .or a b, σ, h => (eE Φ a σ h).bind fun x h1 => match truI x h1 with
    | some true => .ok x h1
    | some false => eE Φ b σ h1
    | none => .stuck
  | .cmp op a b, σ, h => (eE Φ a σ h).bind fun x h1 => (eE Φ b σ h1).bind fun y h2 => cmpI op x y h2
  | .chain op op' a b c, σ, h => (eE Φ a σ h).bind fun x h1 => (eE Φ b σ h1).bind fun y h2 => (cmpI op x y h2).bind fun r h3 => match r with
    | .bl true => (eE Φ c σ h3).bind fun z h4 => cmpI op' y z h4
    | .bl false => .ok (.bl false) h3
    | _ => .stuck
  | .ife c a b, σ, h => (tst (eE Φ c σ h)).bind fun t h1 => if t then eE Φ a σ h1 else eE Φ b σ h1
  | .tup es, σ, h => (eEs Φ es σ h).bind fun vs h1 => newT vs h1
  | .lst es, σ, h => (eEs Φ es σ h).bind fun vs h1 => newL vs h1
  | .call f es, σ, h => (eEs Φ es σ h).bind fun vs h1 => Φ f vs h1
  | .calv i es, σ, h => match σ[i]? with
    | some (some (.fn f)) => (eEs Φ es σ h).bind fun vs h1 => Φ f vs h1
    | _ => .stuck
  | .callk f m perm es ks, σ, h => (eEs Φ es σ h).bind fun vs h1 => (eEs Φ ks σ h1).bind fun zs h2 => if vs.length = m ∧ m + zs.length = perm.length then Φ f (arr perm (vs ++ zs)) h2 else .stuck
  | .blt f es, σ, h => (eEs Φ es σ h).bind fun vs h1 => bltI f vs h1
  | .trg a, σ, h => (eE Φ a σ h).bind fun x h1 => match x with
    | .int n => if 0 ≤ n ∧ n ≤ 1000000 then .ok (.tup ((List.range n.toNat).map fun i : Nat => .int i)) h1 else .stuck
    | _ => .stuck
  | .lrg a, σ, h => (eE Φ a σ h).bind fun x h1 => match x with
    | .int n => if 0 ≤ n ∧ n ≤ 1000000 then .ok (.ref h1.length) (h1 ++ [.lst ((List.range n.toNat).map fun i : Nat => .int i)]) else .stuck
    | _ => .stuck
  | .sset a, σ, h => (eE Φ a σ h).bind fun x h1 => match (lstOf h1 x).bind intsOf with
    | some ns => if ns.length + 1 < 4096 then .ok (.ref h1.length) (h1 ++ [.lst ((sst ns).map .int)]) else .stuck
    | none => .stuck
  | .skey k a, σ, h => (eE Φ a σ h).bind fun x h1 => match lstOf h1 x with
    | some xs => if (xs.all fun x => (keyI k x).isSome) = true then .ok (.ref h1.length) (h1 ++ [.lst (skeyI k xs)]) else .stuck
    | none => .stuck
  | .sdef o k, σ, h => (eE Φ o σ h).bind fun x h1 => if isDct x h1 = true then (eE Φ k σ h1).bind fun y h2 => match x, keyOf y with
      | .ref a, some key => (match h2[a]? with
        | some (.dk kvs) => if kvs.length < LIM then (match look key kvs with
          | some v => .ok v h2
          | none => .ok (.ref h2.length) ((h2 ++ [IO.dt []]).set a (IO.dk (put key (.ref h2.length) kvs)))) else .stuck
        | _ => .stuck)
      | _, _ => .stuck
    else .stuck
  | .isi a T, σ, h => (eE Φ a σ h).bind fun x h1 => match isIH T x h1 with
    | some b => .ok (.bl b) h1
    | none => .stuck
  | .isx a c, σ, h => (eE Φ a σ h).bind fun x h1 => match isxI c x with
    | some b => .ok (.bl b) h1
    | none => .stuck
  | .fld a, σ, h => (eE Φ a σ h).bind fun x h1 => match x with
    | .exc _ [v] => .ok v h1
    | _ => .stuck
  | .shut e, σ, h => (eE Φ e σ h).bind fun x h1 => sealI h x h1
  | .slr a, σ, h => (eE Φ a σ h).bind fun x h1 => match lstOf h1 x with
    | some xs => .ok (.ref h1.length) (h1 ++ [.lst xs.reverse])
    | none => .stuck
  | .dks ks es, σ, h => (eEs Φ es σ h).bind fun vs h1 => if ks.Nodup ∧ ks.length = vs.length then .ok (.ref h1.length) (h1 ++ [.dk ((ks.map Sum.inr).zip vs)]) else .stuck
  | .ix a b, σ, h => (eE Φ a σ h).bind fun x h1 => (eE Φ b σ h1).bind fun y h2 => ixI x y h2
  | .sl a lo hi, σ, h => (eE Φ a σ h).bind fun x h1 => (eO Φ lo σ h1).bind fun l h2 => (eO Φ hi σ h2).bind fun u h3 => slI x l u h3
  | .lc el tg it c own, σ, h => (eI Φ it σ h).bind fun w h1 => (lcGo w (fun x h2 => match tgI tg x (wipeI σ own) with
      | some σ2 => noX ((eC Φ c σ2 h2).bind fun b h3 => if b then (eE Φ el σ2 h3).bind fun v h4 => .ok (some v) h4 else .ok none h3)
      | none => .stuck) 0 (wkLen w h1) [] h1).bind fun vs h5 => newL vs h5
  | .ssc el tg it c own, σ, h => (eI Φ it σ h).bind fun w h1 => (lcGo w (fun x h2 => match tgI tg x (wipeI σ own) with
      | some σ2 => noX ((eC Φ c σ2 h2).bind fun b h3 => if b then (eE Φ el σ2 h3).bind fun v h4 => .ok (some v) h4 else .ok none h3)
      | none => .stuck) 0 (wkLen w h1) [] h1).bind fun vs h5 => sscI vs h5
  | .dcm kv tg it c own, σ, h => (eI Φ it σ h).bind fun w h1 => (lcGo w (fun x h2 => match tgI tg x (wipeI σ own) with
      | some σ2 => noX ((eC Φ c σ2 h2).bind fun b h3 => if b then ((eEs Φ kv σ2 h3).bind fun us h4 => newT us h4).bind fun v h4 => .ok (some v) h4 else .ok none h3)
      | none => .stuck) 0 (wkLen w h1) [] h1).bind fun vs h5 => dcmI vs h5
  | .dict tk, _, h => .ok (.ref h.length) (h ++ [if tk then .dt [] else .dk []])
  | .meth m o es, σ, h => (eE Φ o σ h).bind fun x h1 => if isLst x h1 then (eEs Φ es σ h1).bind fun vs h2 => methI m x vs h2 else .stuck
  | .xrg o es, σ, h => (eE Φ o σ h).bind fun x h1 => if isLst x h1 = true then (eEs Φ es σ h1).bind fun vs h2 => xrgI x vs h2 else .stuck
  | .join a b, σ, h => (eE Φ a σ h).bind fun x h1 => match x with
    | .str s => (eE Φ b σ h1).bind fun y h2 => joinI s y h2
    | _ => .stuck
  | .split a b, σ, h => (eE Φ a σ h).bind fun x h1 => match x with
    | .str s => (eE Φ b σ h1).bind fun y h2 => splitI s y h2
    | _ => .stuck
noncomputable def eEs (Φ : Calls) : Es → Sl → IH → Out (List IV)
  | .nil, _, h => .ok [] h
  | .cons e es, σ, h => (eE Φ e σ h).bind fun v h1 => (eEs Φ es σ h1).bind fun vs h2 => .ok (v :: vs) h2
noncomputable def eO (Φ : Calls) : Oe → Sl → IH → Out (Option Int)
  | .non, _, h => .ok none h
  | .som e, σ, h => (eE Φ e σ h).bind fun x h1 => match x with
    | .int i => .ok (some i) h1
    | _ => .stuck
noncomputable def eC (Φ : Calls) : Oe → Sl → IH → Out Bool
  | .non, _, h => .ok true h
  | .som e, σ, h => tst (eE Φ e σ h)
noncomputable def eI (Φ : Calls) : It → Sl → IH → Out Wk
  | .val e, σ, h => (eE Φ e σ h).bind fun x h1 => match x with
    | .tup xs => .ok (.vals xs) h1
    | .str z => .ok (.vals (z.cps.toList.map fun c => .str ⟨#[c]⟩)) h1
    | .lsr _ xs => .ok (.vals xs) h1
    | .ref i => (match lsAt h1 i with
      | some _ => .ok (.lst i) h1
      | none => .stuck)
    | _ => .stuck
  | .ints xs, _, h => .ok (.vals (xs.map IV.int)) h
  | .rng a, σ, h => (eE Φ a σ h).bind fun x h1 => match x with
    | .int j => if -4611686018427387904 ≤ j ∧ j < 4611686018427387904 then .ok (.vals ((List.range j.toNat).map fun k : Nat => .int k)) h1 else .stuck
    | _ => .stuck
  | .rng2 a b, σ, h => (eE Φ a σ h).bind fun x h1 => (eE Φ b σ h1).bind fun y h2 => match x, y with
    | .int i, .int j => if -4611686018427387904 ≤ i ∧ i < 4611686018427387904 ∧ -4611686018427387904 ≤ j ∧ j < 4611686018427387904 then .ok (.vals ((List.range (j - i).toNat).map fun k : Nat => .int (i + k))) h2 else .stuck
    | _, _ => .stuck
  | .enum e, σ, h => (eE Φ e σ h).bind fun x h1 => match x with
    | .tup xs => .ok (.enumT xs) h1
    | .lsr _ xs => .ok (.enumT xs) h1
    | .ref i => (match lsAt h1 i with
      | some _ => .ok (.enum i) h1
      | none => .stuck)
    | _ => .stuck
  | .rev e, σ, h => (eE Φ e σ h).bind fun x h1 => match x with
    | .ref i => (match lsAt h1 i with
      | some xs => .ok (.rev i xs.length) h1
      | none => .stuck)
    | .lsr _ xs => .ok (.vals xs.reverse) h1
    | _ => .stuck
  | .revr a, σ, h => (eE Φ a σ h).bind fun x h1 => match x with
    | .int j => if -4611686018427387904 ≤ j ∧ j < 4611686018427387904 then .ok (.vals ((List.range j.toNat).map fun k : Nat => .int (j.toNat - 1 - (k : Int)))) h1 else .stuck
    | _ => .stuck
  | .rng3 a b c, σ, h => (eE Φ a σ h).bind fun x h1 => (eE Φ b σ h1).bind fun y h2 => match x, y with
    | .int i, .int j => if -4611686018427387904 ≤ i ∧ i < 4611686018427387904 ∧ -4611686018427387904 ≤ j ∧ j < 4611686018427387904 ∧ (c = -1) then .ok (.vals ((List.range (i - j).toNat).map fun k : Nat => .int (i - (k : Int)))) h2 else .stuck
    | _, _ => .stuck
  | .zip a b, σ, h => (eE Φ a σ h).bind fun x h1 => (eE Φ b σ h1).bind fun y h2 => match x, y with
    | .ref i, .ref j => (match lsAt h2 i, lsAt h2 j with
      | some _, some _ => .ok (.zip i j) h2
      | _, _ => .stuck)
    | .lsr _ xs, .lsr _ ys => .ok (.vals (List.zipWith (fun a b => .tup [a, b]) xs ys)) h2
    | _, _ => .stuck
end


inductive Fl where
  | nx (σ : Sl) | ret (v : IV) | bk (σ : Sl) | ct (σ : Sl) | rs (e : Ex) (σ : Sl)
def bindS {α : Type} (σ : Sl) (x : Out α) (f : α → IH → Out Fl) : Out Fl := match x with
  | .ok v h => f v h
  | .ex e h => .ok (.rs e σ) h
  | .stuck => .stuck
@[simp] theorem bindS_ok {α : Type} (σ : Sl) (v : α) (h : IH) (f : α → IH → Out Fl) : bindS σ (.ok v h) f = f v h := rfl
@[simp] theorem bindS_ex {α : Type} (σ : Sl) (e : Ex) (h : IH) (f : α → IH → Out Fl) : bindS σ (.ex e h) f = .ok (.rs e σ) h := rfl
@[simp] theorem bindS_stuck {α : Type} (σ : Sl) (f : α → IH → Out Fl) : bindS σ .stuck f = .stuck := rfl
def whN (t : Sl → IH → Out Bool) (b : Sl → IH → Out Fl) : Nat → Sl → IH → Out Fl
  | 0, _, _ => .stuck
  | n + 1, σ, h => bindS σ (t σ h) fun c h1 => if c then (b σ h1).bind fun fl h2 => match fl with
      | .nx σ2 => whN t b n σ2 h2
      | .ct σ2 => whN t b n σ2 h2
      | .bk σ2 => .ok (.nx σ2) h2
      | fl => .ok fl h2
    else .ok (.nx σ) h1
open Classical in
noncomputable def whI (t : Sl → IH → Out Bool) (b : Sl → IH → Out Fl) (σ : Sl) (h : IH) : Out Fl :=
  if e : ∃ n, whN t b n σ h ≠ .stuck then whN t b e.choose σ h else .stuck
theorem whN_up {t : Sl → IH → Out Bool} {b : Sl → IH → Out Fl} : ∀ {n : Nat} {σ : Sl} {h : IH}, whN t b n σ h ≠ .stuck → whN t b (n + 1) σ h = whN t b n σ h
  | 0, _, _, q => absurd rfl q
  | n + 1, σ, h, q => by
    rw [whN] at q
    rw [whN, whN]
    cases e : t σ h with
    | stuck => rfl
    | ex _ _ => rfl
    | ok c h1 =>
      rw [e] at q
      simp only [bindS_ok] at q ⊢
      cases c with
      | false => rfl
      | true =>
        simp only [if_true] at q ⊢
        cases e2 : b σ h1 with
        | stuck => rfl
        | ex _ _ => rfl
        | ok fl h2 =>
          rw [e2] at q
          simp only [bind_ok] at q ⊢
          cases fl with
          | nx σ2 => exact whN_up q
          | ct σ2 => exact whN_up q
          | bk σ2 => rfl
          | ret v => rfl
          | rs e σ => rfl
theorem whN_le {t : Sl → IH → Out Bool} {b : Sl → IH → Out Fl} {n : Nat} {σ : Sl} {h : IH} (q : whN t b n σ h ≠ .stuck) : ∀ k, whN t b (n + k) σ h = whN t b n σ h
  | 0 => rfl
  | k + 1 => by
    have ih := whN_le q k
    have e : whN t b (n + k) σ h ≠ .stuck := by rw [ih]; exact q
    exact (whN_up e).trans ih
theorem whI_of {t : Sl → IH → Out Bool} {b : Sl → IH → Out Fl} {σ : Sl} {h : IH} {r : Out Fl} (n : Nat) (e : whN t b n σ h = r) (q : r ≠ .stuck) : whI t b σ h = r := by
  have x : ∃ n, whN t b n σ h ≠ .stuck := ⟨n, by rw [e]; exact q⟩
  unfold whI
  rw [dif_pos x]
  have c := x.choose_spec
  generalize x.choose = m at c ⊢
  have e1 := whN_le (k := m) (show whN t b n σ h ≠ .stuck by rw [e]; exact q)
  have e2 := whN_le (k := n) c
  rw [Nat.add_comm] at e2
  rw [← e2, e1, e]
theorem whI_ex {t : Sl → IH → Out Bool} {b : Sl → IH → Out Fl} {σ : Sl} {h : IH} {r : Out Fl} (e : whI t b σ h = r) (q : r ≠ .stuck) : ∃ n, whN t b n σ h = r := by
  unfold whI at e
  split at e
  · exact ⟨_, e⟩
  · exact absurd e.symm q

def forGo (w : Wk) (tg : Tg) (b : Sl → IH → Out Fl) : Nat → Nat → Sl → IH → Out Fl
  | n, 0, σ, h => match wkAt w n h with
    | some none => .ok (.nx σ) h
    | _ => .stuck
  | n, rem + 1, σ, h => match wkAt w n h with
    | some (some x) => match tgI tg x σ with
      | some σ1 => (b σ1 h).bind fun fl h2 => match fl with
        | .nx σ2 => forGo w tg b (n + 1) rem σ2 h2
        | .ct σ2 => forGo w tg b (n + 1) rem σ2 h2
        | .bk σ2 => .ok (.nx σ2) h2
        | fl => .ok fl h2
      | none => .stuck
    | _ => .stuck

def augI (u v : IV) (h : IH) : Out IV := match u, v with
  | .int i, .int j => .ok (.int (i + j)) h
  | _, _ => .stuck
def sxI (e : Ex) (σ : Sl) : Sx → Option Sl
  | .con i v => some (σ.set i (some v))
  | .err i => some (σ.set i (some (.exc e.cls e.val)))
  | .iss i cs => if cs.length ≤ LIM then some (σ.set i (some (.lsr true (cs.map fun c => .bl (match c with | none => true | some k => decide (k = 0 ∨ k = e.cls)))))) else none
  | .fld i => match e.val with
    | [v] => some (σ.set i (some v))
    | _ => none
def hdI (e : Ex) (σ : Sl) (h : IH) : List (Nat × Option Nat × Sx) → Out Fl
  | [] => .ok (.rs e σ) h
  | (c, n, sx) :: r => if c = 0 ∨ c = e.cls then (if n.all (fun i => decide (i < σ.length)) = true then (match sxI e (match n with | some i => σ.set i none | none => σ) sx with
      | some σ1 => .ok (.nx (match n with | some i => σ1.set i none | none => σ1)) h
      | none => .stuck) else .stuck)
    else hdI e σ h r
mutual
noncomputable def eS (Φ : Calls) : S → Sl → IH → Out Fl
  | .pass, σ, h => .ok (.nx σ) h
  | .brk, σ, h => .ok (.bk σ) h
  | .cnt, σ, h => .ok (.ct σ) h
  | .asg tg e, σ, h => bindS σ (eE Φ e σ h) fun v h1 => match tgI tg v σ with
    | some σ1 => .ok (.nx σ1) h1
    | none => .stuck
  | .par i j a b, σ, h => bindS σ (eE Φ a σ h) fun v h1 => bindS σ (eE Φ b σ h1) fun u h2 => .ok (.nx ((σ.set i (some v)).set j (some u))) h2
  | .set o i e, σ, h => bindS σ (eE Φ e σ h) fun v h1 => bindS σ (eE Φ o σ h1) fun x h2 => bindS σ (eE Φ i σ h2) fun y h3 => bindS σ (setI x y v h3) fun _ h4 => .ok (.nx σ) h4
  | .swp o i q j e, σ, h => bindS σ (eE Φ e σ h) fun v h1 => match v with
    | .tup [x, y] => bindS σ (eE Φ o σ h1) fun a h2 => bindS σ (eE Φ i σ h2) fun b h3 => bindS σ (setI a b x h3) fun _ h4 => bindS σ (eE Φ q σ h4) fun a2 h5 => bindS σ (eE Φ j σ h5) fun b2 h6 => bindS σ (setI a2 b2 y h6) fun _ h7 => .ok (.nx σ) h7
    | _ => .stuck
  | .aug o i e, σ, h => bindS σ (eE Φ o σ h) fun x h1 => bindS σ (eE Φ i σ h1) fun y h2 => if isLst x h2 = true then bindS σ (ixI x y h2) fun u h3 => bindS σ (eE Φ e σ h3) fun v h4 => bindS σ (augI u v h4) fun z h5 => bindS σ (setI x y z h5) fun _ h6 => .ok (.nx σ) h6 else .stuck
  | .drop e, σ, h => bindS σ (eE Φ e σ h) fun _ h1 => .ok (.nx σ) h1
  | .ret e, σ, h => bindS σ (eE Φ e σ h) fun v h1 => .ok (.ret v) h1
  | .retN, _, h => .ok (.ret .non) h
  | .ite c a b, σ, h => bindS σ (tst (eE Φ c σ h)) fun t h1 => if t then eSs Φ a σ h1 else eSs Φ b σ h1
  | .whl c b, σ, h => whI (fun σ h => tst (eE Φ c σ h)) (fun σ h => eSs Φ b σ h) σ h
  | .for tg it b, σ, h => bindS σ (eI Φ it σ h) fun w h1 => forGo w tg (fun σ h => eSs Φ b σ h) 0 (wkLen w h1) σ h1
  | .never, _, _ => .stuck
  | .rais c es, σ, h => bindS σ (eEs Φ es σ h) fun vs h1 => if vs.length ≤ 1 then .ok (.rs ⟨c, vs⟩ σ) h1 else .stuck
  | .tri b hs, σ, h => (eSs Φ b σ h).bind fun fl h1 => match fl with
    | .rs e σ1 => hdI e σ1 h1 hs
    | fl => .ok fl h1
noncomputable def eSs (Φ : Calls) : Ss → Sl → IH → Out Fl
  | .nil, σ, h => .ok (.nx σ) h
  | .cons s r, σ, h => (eS Φ s σ h).bind fun fl h1 => match fl with
    | .nx σ1 => eSs Φ r σ1 h1
    | f => .ok f h1
end

structure Df where
  ar : Nat
  sl : Nat
  body : Ss
noncomputable def runD (Φ : Calls) (d : Df) (vs : List IV) (h : IH) : Out IV :=
  if vs.length = d.ar then (match eSs Φ d.body (vs.map some ++ List.replicate (d.sl - d.ar) none) h with
    | .ok fl h1 => (match fl with
      | .nx _ => .ok .non h1
      | .ret v => .ok v h1
      | .rs e _ => .ex e h1
      | _ => .stuck)
    | _ => .stuck)
  else .stuck
def RAW : Nat := 100000
abbrev Tab := Nat → Option Df
noncomputable def callF (P : Tab) : Nat → Calls
  | 0, _, _, _ => .stuck
  | k + 1, f, vs, h => if f < RAW then (match P f with
      | some d => outI h (runD (callF P k) d vs h)
      | none => .stuck)
    else match P (f - RAW) with
      | some d => runD (callF P k) d vs h
      | none => .stuck
def tabOf (dfs : List (Nat × Df)) : Tab := fun n => dfs.lookup n
theorem look_of {dfs : List (Nat × Df)} : (dfs.map (·.1)).Nodup → ∀ q ∈ dfs, dfs.lookup q.1 = some q.2 := by
  induction dfs with
  | nil => intro _ q h; cases h
  | cons a l ih =>
    intro nd q h
    rw [List.map_cons, List.nodup_cons] at nd
    rw [List.lookup_cons]
    rcases List.mem_cons.mp h with e | h
    · subst e; simp
    · have : (q.1 == a.1) = false := beq_eq_false_iff_ne.mpr fun z => nd.1 (z ▸ List.mem_map.mpr ⟨q, h, rfl⟩)
      rw [this]
      exact ih nd.2 q h
theorem hp_of {dfs : List (Nat × Df)} (h : ((dfs.map (·.1)).Nodup ∧ ∀ x ∈ dfs.map (·.1), x < RAW)) : ∀ q ∈ dfs, tabOf dfs q.1 = some q.2 ∧ q.1 < RAW := fun q m => ⟨look_of h.1 q m, h.2 _ (List.mem_map.mpr ⟨q, m, rfl⟩)⟩

end Pi
end

section
set_option maxHeartbeats 8000000
namespace Pi
open PySem PySem.Spec PyProof.Rows L2

class ClsTab where
  cl : Nat → Option Addr
  fa : Nat → Option Addr := fun _ => none
  tb : List (Addr × Str) := []
variable [ClsTab]
def ExcO (C : Addr) (d : Option Addr) (a : Addr) : HO := .ext fun h => ∃ (oe : Obj) (vs : Array Value), h.get? a = some oe ∧ Zc (.ref C) d oe ∧ oe.data = .fields vs
section
mutual
def VR (K : PySem.W.Frag) (φ : List Addr) (H : Hp) : IV → V → Prop
  | .non, v => v = .non
  | .bl b, v => v = .bl b
  | .int i, v => v = .int i
  | .str x, v => v = .str x
  | .ref i, v => ∃ a, φ[i]? = some a ∧ v = .ref a
  | .tup xs, v => ∃ a vs, v = .ref a ∧ H a = some (.tup vs) ∧ VRs K φ H xs vs ∧ vs.length ≤ sizeLine
  | .lsr k xs, v => ∃ a vs, v = .ref a ∧ ((∃ o, H a = some (.frz o (.lst vs))) ∨ (k = false ∧ ∀ H', SqL K H' a vs)) ∧ VRs K φ H xs vs
  | .exc c xs, v => ∃ a C ws, v = .ref a ∧ ClsTab.cl c = some C ∧ VRs K φ H xs ws ∧ ((ws = [] ∧ H a = some (ExcO C none a)) ∨ ∃ dd w, ws = [w] ∧ H a = some (ExcO C (some dd) a) ∧ H dd = some (.xd [("place", w)]))
  | .fn i, v => ∃ a, ClsTab.fa i = some a ∧ v = .ref a
def VRs (K : PySem.W.Frag) (φ : List Addr) (H : Hp) : List IV → List V → Prop
  | [], vs => vs = []
  | x :: xs, vs => ∃ v r, vs = v :: r ∧ VR K φ H x v ∧ VRs K φ H xs r
end
def KR {κ : Type} (K : PySem.W.Frag) (φ : List Addr) (H : Hp) : List (κ × IV) → List (κ × V) → Prop
  | [], vs => vs = []
  | (k, x) :: xs, vs => ∃ v r, vs = (k, v) :: r ∧ VR K φ H x v ∧ KR K φ H xs r
def OR (K : PySem.W.Frag) (φ : List Addr) (H : Hp) (a : Addr) : IO → Prop
  | .lst xs => ∃ vs, H a = some (.lst vs) ∧ VRs K φ H xs vs
  | .dk kvs => ∃ ws, H a = some (.dK ws) ∧ KR K φ H kvs ws
  | .dt kvs => ∃ ws, H a = some (.dT ws) ∧ KR K φ H kvs ws
  | .set xs => H a = some (.set (fun k => xs.any (· == k)) xs.length)
structure Rel (K : PySem.W.Frag) (φ : List Addr) (h : IH) (H : Hp) : Prop where
  len : φ.length = h.length
  inj : ∀ (i j : Nat) (a : Addr), φ[i]? = some a → φ[j]? = some a → i = j
  obj : ∀ (i : Nat) (a : Addr) (o : IO), φ[i]? = some a → h[i]? = some o → OR K φ H a o
  tab : LamX.Tabs ClsTab.tb H
end

def NoSet (φ : Heap → Prop) : Prop := ∀ (w : World) (a : Addr) (S : Int → Bool) (n : Nat), φ ≠ fun h => L2.SetR w h a S n
theorem noSet_of {φ : Heap → Prop} (c : Addr) (ob : Obj) {vs : Array Value} (e : ob.data = .fields vs) (h : ∀ g : Heap, g.get? c = some ob → φ g) : NoSet φ := fun w a S n eq => by
  let g : Heap := { objs := Array.replicate (c + 1) ob }
  obtain ⟨cl, di, da, sl⟩ := ob
  simp only at e
  subst e
  have arr : ∀ b : Nat, g.objs[b]? = if b < c + 1 then some ⟨cl, di, .fields vs, sl⟩ else none := fun b => Array.getElem?_replicate
  have all : ∀ b o, g.get? b = some o → o = ⟨cl, di, .fields vs, sl⟩ := fun b o h => by
    unfold Heap.get? at h
    rw [arr b] at h
    by_cases l : b < c + 1
    · rw [if_pos l] at h
      exact (Option.some.inj h).symm
    · rw [if_neg l] at h; cases h
  have at_ : g.get? c = some ⟨cl, di, .fields vs, sl⟩ := by
    unfold Heap.get?
    rw [arr c, if_pos (Nat.lt_succ_self c)]
  have yes : L2.SetR w g a S n := (congrFun eq g).mp (h g at_)
  obtain ⟨o, es, ep, t, ho, hx, hd, _⟩ := yes
  rw [all a o ho] at hd
  cases hd
def Fx : HO → Prop
  | .tup _ => True
  | .frz _ _ => True
  | .ext φ => NoSet φ
  | .xd _ => True
  | _ => False
theorem set_nofx {w : World} {a : Addr} {S : Int → Bool} {n : Nat} : ¬ Fx (L2.SetO w a S n) := fun f => f w a S n rfl
theorem code_fx {c : Addr} {q : Str} : Fx (LamX.CodeO c q) := noSet_of c { cls := .none, data := .fields #[.none, .str q 0] } rfl fun g e => ⟨_, #[.none, .str q 0], 0, e, rfl, rfl⟩
theorem exc_fx {C a : Addr} {d : Option Addr} : Fx (ExcO C d a) := noSet_of a { cls := .ref C, dict := d, data := .fields #[] } rfl fun g e => ⟨_, #[], e, ⟨rfl, rfl⟩, rfl⟩
def NoT (o : HO) : Prop := ∀ ps, o ≠ .tbl ps
section
variable [ClsTab]
def Tk (H H' : Hp) : Prop := LamX.Tabs ClsTab.tb H → LamX.Tabs ClsTab.tb H'
theorem Tk.of {H H' : Hp} (st : ∀ a o, Fx o → H a = some o → H' a = some o) (t : ∀ a ps, H a = some (.tbl ps) → H' a = some (.tbl ps)) : Tk H H' := fun T p hp => by
  obtain ⟨ps, h1, h2, h3⟩ := T p hp
  refine ⟨ps, t _ _ h1, h2, fun pos cv hc => ?_⟩
  obtain ⟨c, e1, e2⟩ := h3 pos cv hc
  exact ⟨c, e1, st _ _ code_fx e2⟩
theorem Tk.ext {H H' : Hp} (k : ∀ a o, H a = some o → H' a = some o) : Tk H H' := fun T => T.ext k
theorem Tk.upd {H : Hp} {a : Addr} {u u' : HO} (hu : H a = some u) (nf : ¬ Fx u) (nt : NoT u) : Tk H (upd H a u') :=
  .of (fun b o f e => by rw [upd_ne (ne_of e hu (fun z => nf (z ▸ f)))]; exact e) fun b ps e => by rw [upd_ne (ne_of e hu (fun z => nt ps z.symm))]; exact e
structure Kt (H H' : Hp) : Prop where
  st : ∀ a o, Fx o → H a = some o → H' a = some o
  tb : Tk H H'
theorem Kt.tup {H H' : Hp} (k : Kt H H') (a : Addr) (xs : List V) (e : H a = some (.tup xs)) : H' a = some (.tup xs) := k.st a _ trivial e
theorem Kt.frz {H H' : Hp} (k : Kt H H') (a : Addr) (o : Obj) (u : HO) (e : H a = some (.frz o u)) : H' a = some (.frz o u) := k.st a _ trivial e
theorem Kt.id (H : Hp) : Kt H H := ⟨fun _ _ _ e => e, fun t => t⟩
structure Kp (φ φ' : List Addr) (H H' : Hp) : Prop where
  st : ∀ a o, Fx o → H a = some o → H' a = some o
  oth : ∀ a o, NoT o → H a = some o → a ∉ φ → H' a = some o ∧ a ∉ φ'
  tb : Tk H H'
theorem Kp.kt {φ φ' : List Addr} {H H' : Hp} (k : Kp φ φ' H H') : Kt H H' := ⟨k.st, k.tb⟩
theorem Kp.tup {φ φ' : List Addr} {H H' : Hp} (k : Kp φ φ' H H') (a : Addr) (xs : List V) (e : H a = some (.tup xs)) : H' a = some (.tup xs) := k.st a _ trivial e
theorem Kp.frz {φ φ' : List Addr} {H H' : Hp} (k : Kp φ φ' H H') (a : Addr) (o : Obj) (u : HO) (e : H a = some (.frz o u)) : H' a = some (.frz o u) := k.st a _ trivial e
theorem Kp.refl (φ : List Addr) (H : Hp) : Kp φ φ H H := ⟨fun _ _ _ h => h, fun _ _ _ h n => ⟨h, n⟩, fun t => t⟩
theorem Kp.trans {φ φ1 φ2 : List Addr} {H H1 H2 : Hp} (x : Kp φ φ1 H H1) (y : Kp φ1 φ2 H1 H2) : Kp φ φ2 H H2 :=
  ⟨fun a o f h => y.st _ _ f (x.st _ _ f h), fun a o t h n => y.oth _ _ t (x.oth _ _ t h n).1 (x.oth _ _ t h n).2, fun t => y.tb (x.tb t)⟩
theorem Kp.new {φ : List Addr} {H : Hp} {p : Addr} {o : HO} (h : H p = none) : Kp φ (φ ++ [p]) H (upd H p o) :=
  ⟨fun a o f e => by rw [upd_ne (ne_of_none e h)]; exact e, fun a u _ e n => ⟨by rw [upd_ne (ne_of_none e h)]; exact e, fun m => by
    rcases List.mem_append.mp m with m | m
    · exact n m
    · exact ne_of_none e h (List.mem_singleton.mp m)⟩, .ext fun a u e => by rw [upd_ne (ne_of_none e h)]; exact e⟩
theorem Kp.newU {φ : List Addr} {H : Hp} {p : Addr} {o : HO} (h : H p = none) : Kp φ φ H (upd H p o) :=
  ⟨fun a o f e => by rw [upd_ne (ne_of_none e h)]; exact e, fun a u _ e n => ⟨by rw [upd_ne (ne_of_none e h)]; exact e, n⟩, .ext fun a u e => by rw [upd_ne (ne_of_none e h)]; exact e⟩
theorem Kp.set {φ : List Addr} {H : Hp} {i : Nat} {p : Addr} {o o' : HO} (hi : φ[i]? = some p) (h : H p = some o) (nf : ¬ Fx o) (nt : NoT o := by (intro _ z; cases z)) : Kp φ φ H (upd H p o') :=
  ⟨fun a u f e => by rw [upd_ne (ne_of e h (fun z => nf (z ▸ f)))]; exact e, fun a u _ e n => ⟨by
    have m := List.mem_of_getElem? hi
    rw [upd_ne fun z => n (by rw [z]; exact m)]; exact e, n⟩, .upd h nf nt⟩
end

section
variable {K : PySem.W.Frag} {φ φ' : List Addr} {H H' : Hp} {h h' : IH} [ClsTab]
def Px (φ φ' : List Addr) : Prop := ∀ (i : Nat) (a : Addr), φ[i]? = some a → φ'[i]? = some a
theorem Px.refl (φ : List Addr) : Px φ φ := fun _ _ e => e
theorem Px.trans {φ φ1 φ2 : List Addr} (x : Px φ φ1) (y : Px φ1 φ2) : Px φ φ2 := fun i a e => y i a (x i a e)
theorem Px.app (φ ψ : List Addr) : Px φ (φ ++ ψ) := fun i a e => by
  have hl : i < φ.length := (List.getElem?_eq_some_iff.mp e).1
  rw [List.getElem?_append_left hl]
  exact e
theorem frz_kt {b : Bool} {a : Addr} {vs : List V} (k : Kt H H') (s : (∃ o, H a = some (.frz o (.lst vs))) ∨ (b = false ∧ ∀ H', SqL K H' a vs)) : (∃ o, H' a = some (.frz o (.lst vs))) ∨ (b = false ∧ ∀ H', SqL K H' a vs) := by
  rcases s with ⟨o, s⟩ | s
  · exact .inl ⟨o, k.frz _ _ _ s⟩
  · exact .inr s
theorem frz_kp {b : Bool} {a : Addr} {vs : List V} (k : Kp φ φ' H H') (s : (∃ o, H a = some (.frz o (.lst vs))) ∨ (b = false ∧ ∀ H', SqL K H' a vs)) : (∃ o, H' a = some (.frz o (.lst vs))) ∨ (b = false ∧ ∀ H', SqL K H' a vs) := frz_kt k.kt s
theorem frz_sql {b : Bool} {a : Addr} {vs : List V} (s : (∃ o, H a = some (.frz o (.lst vs))) ∨ (b = false ∧ ∀ H', SqL K H' a vs)) : SqL K H a vs := by
  rcases s with ⟨o, s⟩ | ⟨_, s⟩
  · exact .inl (.inr ⟨o, s⟩)
  · exact s H
theorem sqt_kp {a : Addr} {vs : List V} (k : Kp φ φ' H H') (s : SqT K H a vs) : SqT K H' a vs := by
  rcases s with (s | ⟨o, s⟩) | s
  · exact .inl (.inl (k.tup _ _ s))
  · exact .inl (.inr ⟨o, k.frz _ _ _ s⟩)
  · exact .inr s
mutual
theorem VR.monoT (p : Px φ φ') (k : Kt H H') : ∀ (x : IV) (v : V), VR K φ H x v → VR K φ' H' x v
  | .non, v, r => by rw [VR] at r ⊢; exact r
  | .bl b, v, r => by rw [VR] at r ⊢; exact r
  | .int i, v, r => by rw [VR] at r ⊢; exact r
  | .str x, v, r => by rw [VR] at r ⊢; exact r
  | .ref i, v, r => by
    rw [VR] at r ⊢
    obtain ⟨a, e, rfl⟩ := r
    exact ⟨a, p i a e, rfl⟩
  | .tup xs, v, r => by
    rw [VR] at r ⊢
    obtain ⟨a, vs, rfl, s, q, z⟩ := r
    exact ⟨a, vs, rfl, k.tup _ _ s, VRs.monoT p k xs vs q, z⟩
  | .lsr _ xs, v, r => by
    rw [VR] at r ⊢
    obtain ⟨a, vs, rfl, s, q⟩ := r
    exact ⟨a, vs, rfl, frz_kt k s, VRs.monoT p k xs vs q⟩
  | .exc c xs, v, r => by
    rw [VR] at r ⊢
    obtain ⟨a, C, ws, rfl, e, q, s⟩ := r
    refine ⟨a, C, ws, rfl, e, VRs.monoT p k xs ws q, ?_⟩
    rcases s with ⟨e1, e2⟩ | ⟨dd, w, e1, e2, e3⟩
    · exact .inl ⟨e1, k.st _ _ exc_fx e2⟩
    · exact .inr ⟨dd, w, e1, k.st _ _ exc_fx e2, k.st _ _ trivial e3⟩
  | .fn i, v, r => by rw [VR] at r ⊢; exact r
theorem VRs.monoT (p : Px φ φ') (k : Kt H H') : ∀ (xs : List IV) (vs : List V), VRs K φ H xs vs → VRs K φ' H' xs vs
  | [], vs, r => by rw [VRs] at r ⊢; exact r
  | x :: xs, vs, r => by
    rw [VRs] at r ⊢
    obtain ⟨v, s, rfl, r1, r2⟩ := r
    exact ⟨v, s, rfl, VR.monoT p k x v r1, VRs.monoT p k xs s r2⟩
end
theorem KR.monoT {κ : Type} (p : Px φ φ') (k : Kt H H') : ∀ (xs : List (κ × IV)) (vs : List (κ × V)), KR K φ H xs vs → KR K φ' H' xs vs
  | [], vs, r => by rw [KR] at r ⊢; exact r
  | (c, x) :: xs, vs, r => by
    rw [KR] at r ⊢
    obtain ⟨v, s, rfl, r1, r2⟩ := r
    exact ⟨v, s, rfl, VR.monoT p k x v r1, KR.monoT p k xs s r2⟩
theorem VR.mono (p : Px φ φ') (k : Kp φ φ' H H') (x : IV) (v : V) (r : VR K φ H x v) : VR K φ' H' x v := VR.monoT p k.kt x v r
theorem VRs.mono (p : Px φ φ') (k : Kp φ φ' H H') (xs : List IV) (vs : List V) (r : VRs K φ H xs vs) : VRs K φ' H' xs vs := VRs.monoT p k.kt xs vs r
theorem KR.mono {κ : Type} (p : Px φ φ') (k : Kp φ φ' H H') (xs : List (κ × IV)) (vs : List (κ × V)) (r : KR K φ H xs vs) : KR K φ' H' xs vs := KR.monoT p k.kt xs vs r
theorem VRs.length : ∀ {xs : List IV} {vs : List V}, VRs K φ H xs vs → xs.length = vs.length
  | [], vs, r => by rw [VRs] at r; subst r; rfl
  | x :: xs, vs, r => by
    rw [VRs] at r
    obtain ⟨v, s, rfl, _, r2⟩ := r
    rw [List.length_cons, List.length_cons, VRs.length r2]
theorem KR.length {κ : Type} : ∀ {xs : List (κ × IV)} {vs : List (κ × V)}, KR K φ H xs vs → xs.length = vs.length
  | [], vs, r => by rw [KR] at r; subst r; rfl
  | (c, x) :: xs, vs, r => by
    rw [KR] at r
    obtain ⟨v, s, rfl, _, r2⟩ := r
    rw [List.length_cons, List.length_cons, KR.length r2]
theorem VRs.get : ∀ {xs : List IV} {vs : List V} {i : Nat} {x : IV}, VRs K φ H xs vs → xs[i]? = some x → ∃ v, vs[i]? = some v ∧ VR K φ H x v
  | [], vs, i, x, _, e => by simp at e
  | y :: xs, vs, 0, x, r, e => by
    rw [VRs] at r
    obtain ⟨v, s, rfl, r1, _⟩ := r
    simp at e; subst e
    exact ⟨v, rfl, r1⟩
  | y :: xs, vs, i + 1, x, r, e => by
    rw [VRs] at r
    obtain ⟨v, s, rfl, _, r2⟩ := r
    obtain ⟨w, e1, r1⟩ := VRs.get (i := i) (x := x) r2 (by simpa using e)
    exact ⟨w, by simpa using e1, r1⟩
theorem VRs.append : ∀ {xs ys : List IV} {vs ws : List V}, VRs K φ H xs vs → VRs K φ H ys ws → VRs K φ H (xs ++ ys) (vs ++ ws)
  | [], ys, vs, ws, r, q => by rw [VRs] at r; subst r; exact q
  | x :: xs, ys, vs, ws, r, q => by
    rw [VRs] at r
    obtain ⟨v, s, rfl, r1, r2⟩ := r
    show VRs K φ H (x :: (xs ++ ys)) (v :: (s ++ ws))
    rw [VRs]
    exact ⟨v, _, rfl, r1, VRs.append r2 q⟩
theorem VRs.one {x : IV} {v : V} (r : VR K φ H x v) : VRs K φ H [x] [v] := by
  rw [VRs]; exact ⟨v, [], rfl, r, by rw [VRs]⟩
theorem VRs.take : ∀ {xs : List IV} {vs : List V} (n : Nat), VRs K φ H xs vs → VRs K φ H (xs.take n) (vs.take n)
  | _, _, 0, _ => by rw [List.take_zero, List.take_zero, VRs]
  | [], vs, n + 1, r => by rw [VRs] at r; subst r; simp [VRs]
  | x :: xs, vs, n + 1, r => by
    rw [VRs] at r
    obtain ⟨v, s, rfl, r1, r2⟩ := r
    rw [List.take_succ_cons, List.take_succ_cons, VRs]
    exact ⟨v, _, rfl, r1, VRs.take n r2⟩
theorem VRs.drop : ∀ {xs : List IV} {vs : List V} (n : Nat), VRs K φ H xs vs → VRs K φ H (xs.drop n) (vs.drop n)
  | _, _, 0, r => by rw [List.drop_zero, List.drop_zero]; exact r
  | [], vs, n + 1, r => by rw [VRs] at r; subst r; simp [VRs]
  | x :: xs, vs, n + 1, r => by
    rw [VRs] at r
    obtain ⟨v, s, rfl, r1, r2⟩ := r
    rw [List.drop_succ_cons, List.drop_succ_cons]
    exact VRs.drop n r2
theorem VRs.set {x : IV} {v : V} (q : VR K φ H x v) : ∀ {xs : List IV} {vs : List V} (n : Nat), VRs K φ H xs vs → VRs K φ H (xs.set n x) (vs.set n v)
  | [], vs, n, r => by rw [VRs] at r; subst r; simp [VRs]
  | y :: xs, vs, 0, r => by
    rw [VRs] at r
    obtain ⟨w, s, rfl, r1, r2⟩ := r
    rw [List.set_cons_zero, List.set_cons_zero, VRs]
    exact ⟨v, _, rfl, q, r2⟩
  | y :: xs, vs, n + 1, r => by
    rw [VRs] at r
    obtain ⟨w, s, rfl, r1, r2⟩ := r
    rw [List.set_cons_succ, List.set_cons_succ, VRs]
    exact ⟨w, _, rfl, r1, VRs.set q n r2⟩
theorem VRs.flat : ∀ {xs : List IV} {vs : List V} (r : VRs K φ H xs vs) (n : Nat), VRs K φ H (List.replicate n xs).flatten (List.replicate n vs).flatten
  | _, _, _, 0 => by simp [VRs]
  | _, _, r, n + 1 => by
    rw [List.replicate_succ, List.replicate_succ, List.flatten_cons, List.flatten_cons]
    exact VRs.append r (VRs.flat r n)
theorem VRs.dropLast {xs : List IV} {vs : List V} (r : VRs K φ H xs vs) : VRs K φ H xs.dropLast vs.dropLast := by
  rw [List.dropLast_eq_take, List.dropLast_eq_take, r.length]
  exact r.take _
theorem VRs.reverse : ∀ {xs : List IV} {vs : List V}, VRs K φ H xs vs → VRs K φ H xs.reverse vs.reverse
  | [], vs, r => by rw [VRs] at r; subst r; simp [VRs]
  | x :: xs, vs, r => by
    rw [VRs] at r
    obtain ⟨v, s, rfl, r1, r2⟩ := r
    rw [List.reverse_cons, List.reverse_cons]
    exact VRs.append (VRs.reverse r2) (.one r1)
theorem VRs.ints : ∀ {xs : List IV} {vs : List V} {ns : List Int}, VRs K φ H xs vs → intsOf xs = some ns → vs = ns.map V.int
  | [], vs, ns, r, e => by
    rw [VRs] at r
    have e' : [] = ns := Option.some.inj e
    rw [r, ← e']; rfl
  | .int i :: xs, vs, ns, r, e => by
    rw [VRs] at r
    obtain ⟨v, s, rfl, r1, r2⟩ := r
    rw [VR] at r1
    have e' : (intsOf xs).map (i :: ·) = some ns := e
    cases q : intsOf xs with
    | none => rw [q] at e'; cases e'
    | some ms =>
      rw [q] at e'
      have e2 : i :: ms = ns := Option.some.inj e'
      rw [← e2, r1, VRs.ints r2 q]; rfl
  | .non :: xs, vs, ns, r, e => nomatch e
  | .bl _ :: xs, vs, ns, r, e => nomatch e
  | .str _ :: xs, vs, ns, r, e => nomatch e
  | .tup _ :: xs, vs, ns, r, e => nomatch e
  | .lsr _ _ :: xs, vs, ns, r, e => nomatch e
  | .exc _ _ :: xs, vs, ns, r, e => nomatch e
  | .fn _ :: xs, vs, ns, r, e => nomatch e
  | .ref _ :: xs, vs, ns, r, e => nomatch e
theorem VRs.bls : ∀ {xs : List IV} {vs : List V} {ns : List Bool}, VRs K φ H xs vs → blsOf xs = some ns → vs = ns.map V.bl
  | [], vs, ns, r, e => by
    rw [VRs] at r
    have e' : [] = ns := Option.some.inj e
    rw [r, ← e']; rfl
  | .bl i :: xs, vs, ns, r, e => by
    rw [VRs] at r
    obtain ⟨v, s, rfl, r1, r2⟩ := r
    rw [VR] at r1
    have e' : (blsOf xs).map (i :: ·) = some ns := e
    cases q : blsOf xs with
    | none => rw [q] at e'; cases e'
    | some ms =>
      rw [q] at e'
      have e2 : i :: ms = ns := Option.some.inj e'
      rw [← e2, r1, VRs.bls r2 q]; rfl
  | .non :: xs, vs, ns, r, e => nomatch e
  | .int _ :: xs, vs, ns, r, e => nomatch e
  | .str _ :: xs, vs, ns, r, e => nomatch e
  | .tup _ :: xs, vs, ns, r, e => nomatch e
  | .lsr _ _ :: xs, vs, ns, r, e => nomatch e
  | .exc _ _ :: xs, vs, ns, r, e => nomatch e
  | .fn _ :: xs, vs, ns, r, e => nomatch e
  | .ref _ :: xs, vs, ns, r, e => nomatch e
theorem VRs.ofInts : ∀ (ns : List Int), VRs K φ H (ns.map IV.int) (ns.map V.int)
  | [] => by simp [VRs]
  | n :: ns => by
    rw [List.map_cons, List.map_cons, VRs]
    exact ⟨_, _, rfl, by rw [VR], VRs.ofInts ns⟩

theorem OR.monoT {a : Addr} {o : IO} (p : Px φ φ') (k : Kt H H') (s : H' a = H a) (x : OR K φ H a o) : OR K φ' H' a o := by
  cases o with
  | lst xs => obtain ⟨vs, e, r⟩ := x; exact ⟨vs, s.trans e, VRs.monoT p k xs vs r⟩
  | dk xs => obtain ⟨vs, e, r⟩ := x; exact ⟨vs, s.trans e, KR.monoT p k xs vs r⟩
  | dt xs => obtain ⟨vs, e, r⟩ := x; exact ⟨vs, s.trans e, KR.monoT p k xs vs r⟩
  | set xs => exact s.trans x
theorem OR.mono {a : Addr} {o : IO} (p : Px φ φ') (k : Kp φ φ' H H') (s : H' a = H a) (x : OR K φ H a o) : OR K φ' H' a o := OR.monoT p k.kt s x
theorem OR.there {a : Addr} {o : IO} (x : OR K φ H a o) : H a ≠ none := by
  cases o with
  | lst xs => obtain ⟨vs, e, r⟩ := x; rw [e]; exact fun z => nomatch z
  | dk xs => obtain ⟨vs, e, r⟩ := x; rw [e]; exact fun z => nomatch z
  | dt xs => obtain ⟨vs, e, r⟩ := x; rw [e]; exact fun z => nomatch z
  | set xs => exact fun z => by rw [show H a = _ from x] at z; cases z
theorem Rel.at (x : Rel K φ h H) {i : Nat} {a : Addr} (e : φ[i]? = some a) : ∃ o, h[i]? = some o ∧ OR K φ H a o := by
  have hl : i < h.length := by rw [← x.len]; exact (List.getElem?_eq_some_iff.mp e).1
  exact ⟨h[i], List.getElem?_eq_getElem hl, x.obj i a _ e (List.getElem?_eq_getElem hl)⟩
theorem Rel.fresh (x : Rel K φ h H) {p : Addr} (hp : H p = none) : p ∉ φ := fun m => by
  obtain ⟨i, e⟩ := List.getElem?_of_mem m
  obtain ⟨o, _, q⟩ := x.at e
  exact q.there hp
theorem Rel.keep (x : Rel K φ h H) (k : Kt H H') (s : ∀ a ∈ φ, H' a = H a) : Rel K φ h H' :=
  ⟨x.len, x.inj, fun i a o e1 e2 => (x.obj i a o e1 e2).monoT (.refl φ) k (s a (List.mem_of_getElem? e1)), k.tb x.tab⟩
theorem Rel.newU {p : Addr} {u : HO} (x : Rel K φ h H) (hp : H p = none) : Rel K φ h (upd H p u) :=
  x.keep (Kp.newU (φ := φ) hp).kt fun a ha => upd_ne fun e => x.fresh hp (e ▸ ha)
theorem Rel.new {p : Addr} {u : HO} {o : IO} (x : Rel K φ h H) (hp : H p = none) (n : OR K (φ ++ [p]) (upd H p u) p o) : Rel K (φ ++ [p]) (h ++ [o]) (upd H p u) := by
  have at_ : ∀ {i : Nat} {a : Addr}, (φ ++ [p])[i]? = some a → (i < φ.length ∧ φ[i]? = some a) ∨ (i = φ.length ∧ a = p) := fun {i a} e1 => by
    by_cases hi : i < φ.length
    · rw [List.getElem?_append_left hi] at e1
      exact .inl ⟨hi, e1⟩
    · have hz : i = φ.length := by
        have hl := (List.getElem?_eq_some_iff.mp e1).1
        rw [List.length_append, List.length_singleton] at hl
        omega
      subst hz
      rw [List.getElem?_append_right (Nat.le_refl _), Nat.sub_self] at e1
      exact .inr ⟨rfl, (Option.some.inj e1).symm⟩
  refine ⟨by rw [List.length_append, List.length_append, x.len]; rfl, fun i j a e1 e2 => ?_, fun i a v e1 e2 => ?_, (Kp.new (φ := φ) hp).tb x.tab⟩
  · rcases at_ e1 with ⟨_, f1⟩ | ⟨f0, f1⟩
    · rcases at_ e2 with ⟨_, g1⟩ | ⟨_, g1⟩
      · exact x.inj i j a f1 g1
      · subst g1
        exact (x.fresh hp (List.mem_of_getElem? f1)).elim
    · rcases at_ e2 with ⟨_, g1⟩ | ⟨g0, _⟩
      · subst f1
        exact (x.fresh hp (List.mem_of_getElem? g1)).elim
      · rw [f0, g0]
  · rcases at_ e1 with ⟨hi, f1⟩ | ⟨f0, f1⟩
    · rw [List.getElem?_append_left (by rw [← x.len]; exact hi)] at e2
      have q := x.obj i a v f1 e2
      exact q.mono (.app φ [p]) (.new hp) (upd_ne fun e => by rw [e] at q; exact q.there hp)
    · subst f1 f0
      rw [x.len, List.getElem?_append_right (Nat.le_refl _), Nat.sub_self] at e2
      have e2 : o = v := Option.some.inj e2
      subst e2; exact n
theorem Rel.own {p : Addr} {o : IO} (x : Rel K φ h H) (hp : p ∉ φ) (n : OR K (φ ++ [p]) H p o) : Rel K (φ ++ [p]) (h ++ [o]) H := by
  have at_ : ∀ {i : Nat} {a : Addr}, (φ ++ [p])[i]? = some a → (i < φ.length ∧ φ[i]? = some a) ∨ (i = φ.length ∧ a = p) := fun {i a} e1 => by
    by_cases hi : i < φ.length
    · rw [List.getElem?_append_left hi] at e1
      exact .inl ⟨hi, e1⟩
    · have hz : i = φ.length := by
        have hl := (List.getElem?_eq_some_iff.mp e1).1
        rw [List.length_append, List.length_singleton] at hl
        omega
      subst hz
      rw [List.getElem?_append_right (Nat.le_refl _), Nat.sub_self] at e1
      exact .inr ⟨rfl, (Option.some.inj e1).symm⟩
  refine ⟨by rw [List.length_append, List.length_append, x.len]; rfl, fun i j a e1 e2 => ?_, fun i a v e1 e2 => ?_, x.tab⟩
  · rcases at_ e1 with ⟨_, f1⟩ | ⟨f0, f1⟩
    · rcases at_ e2 with ⟨_, g1⟩ | ⟨_, g1⟩
      · exact x.inj i j a f1 g1
      · subst g1
        exact (hp (List.mem_of_getElem? f1)).elim
    · rcases at_ e2 with ⟨_, g1⟩ | ⟨g0, _⟩
      · subst f1
        exact (hp (List.mem_of_getElem? g1)).elim
      · rw [f0, g0]
  · rcases at_ e1 with ⟨hi, f1⟩ | ⟨f0, f1⟩
    · rw [List.getElem?_append_left (by rw [← x.len]; exact hi)] at e2
      exact (x.obj i a v f1 e2).monoT (.app φ [p]) (.id H) rfl
    · subst f1 f0
      rw [x.len, List.getElem?_append_right (Nat.le_refl _), Nat.sub_self] at e2
      have e2 : o = v := Option.some.inj e2
      subst e2; exact n
theorem Rel.set {i : Nat} {a : Addr} {u u' : HO} {o' : IO} (x : Rel K φ h H) (e1 : φ[i]? = some a) (hu : H a = some u) (nf : ¬ Fx u)
    (n : OR K φ (upd H a u') a o') (nt : NoT u := by (intro _ z; cases z)) : Rel K φ (h.set i o') (upd H a u') := by
  refine ⟨by rw [List.length_set]; exact x.len, x.inj, fun j b v f1 f2 => ?_, Tk.upd hu nf nt x.tab⟩
  by_cases hj : j = i
  · subst hj
    have hi : j < h.length := by rw [← x.len]; exact (List.getElem?_eq_some_iff.mp e1).1
    rw [List.getElem?_set_self hi] at f2
    have f2 : o' = v := Option.some.inj f2
    subst f2
    rw [e1] at f1
    have f1' : a = b := Option.some.inj f1
    rw [← f1']; exact n
  · rw [List.getElem?_set_ne (Ne.symm hj)] at f2
    have q := x.obj j b v f1 f2
    refine q.mono (.refl φ) (.set e1 hu nf nt) (upd_ne fun e => ?_)
    subst e
    exact hj (x.inj j i b f1 e1)
end

def Ct (K : PySem.W.Frag) (φ : List Addr) (h : IH) (H : Hp) (x : IV) (Q : VK) : Prop :=
  ∀ φ' H' w, Px φ φ' → Kp φ φ' H H' → Rel K φ' h H' → VR K φ' H' x w → Q w H'
def SR (K : PySem.W.Frag) (φ : List Addr) (H : Hp) (σ : Sl) (τ : L2.St) : Prop :=
  σ.length = τ.length ∧ ∀ (i : Nat) (x : IV), σ[i]? = some (some x) → ∃ v, τ[i]? = some (some v) ∧ VR K φ H x v
section
variable {K : PySem.W.Frag} {φ φ' : List Addr} {H H' : Hp} {h h' : IH} {σ : Sl} {τ : L2.St} {x : IV} {v : V} {Q : VK}
theorem SR.mono (p : Px φ φ') (k : Kp φ φ' H H') (s : SR K φ H σ τ) : SR K φ' H' σ τ := ⟨s.1, fun i x e => by
  obtain ⟨v, e1, r⟩ := s.2 i x e
  exact ⟨v, e1, r.mono p k⟩⟩
theorem SR.set (s : SR K φ H σ τ) (i : Nat) (r : VR K φ H x v) : SR K φ H (σ.set i (some x)) (τ.set i (some v)) := by
  refine ⟨by rw [List.length_set, List.length_set]; exact s.1, fun j y e => ?_⟩
  by_cases hj : j = i
  · subst hj
    have hl : j < σ.length := by
      have := (List.getElem?_eq_some_iff.mp e).1
      rwa [List.length_set] at this
    rw [List.getElem?_set_self hl] at e
    have e' : x = y := Option.some.inj (Option.some.inj e)
    subst e'
    exact ⟨v, List.getElem?_set_self (by rw [← s.1]; exact hl), r⟩
  · rw [List.getElem?_set_ne (Ne.symm hj)] at e
    rw [List.getElem?_set_ne (Ne.symm hj)]
    exact s.2 j y e
theorem SR.wipe (s : SR K φ H σ τ) : ∀ own : List Nat, SR K φ H (wipeI σ own) (L2.wipe τ own)
  | [] => s
  | i :: own => by
    have ih := SR.wipe s own
    refine ⟨by show ((wipeI σ own).set i none).length = ((L2.wipe τ own).set i none).length; rw [List.length_set, List.length_set]; exact ih.1, fun j y e => ?_⟩
    have e : ((wipeI σ own).set i none)[j]? = some (some y) := e
    show ∃ v, ((L2.wipe τ own).set i none)[j]? = some (some v) ∧ _
    by_cases hj : j = i
    · subst hj
      have hl : j < (wipeI σ own).length := by
        have := (List.getElem?_eq_some_iff.mp e).1
        rwa [List.length_set] at this
      rw [List.getElem?_set_self hl] at e
      cases e
    · rw [List.getElem?_set_ne (Ne.symm hj)] at e
      rw [List.getElem?_set_ne (Ne.symm hj)]
      exact ih.2 j y e
theorem Ct.here (c : Ct K φ h H x Q) (r : Rel K φ h H) (q : VR K φ H x v) : Q v H := c φ H v (.refl φ) (.refl φ H) r q
theorem Ct.later (c : Ct K φ h' H x Q) (p : Px φ φ') (k : Kp φ φ' H H') : Ct K φ' h' H' x Q := fun φ2 H2 w p2 k2 r q => c φ2 H2 w (p.trans p2) (k.trans k2) r q
theorem Ct.list {xs : List IV} {vs : List V} {p : Addr} (c : Ct K φ (h ++ [.lst xs]) H (.ref h.length) Q) (r : Rel K φ h H) (q : VRs K φ H xs vs) (hp : H p = none) : Q (.ref p) (upd H p (.lst vs)) := by
  refine c (φ ++ [p]) _ _ (.app φ [p]) (.new hp) (r.new hp ⟨vs, upd_same, q.mono (.app φ [p]) (.new hp)⟩) ?_
  rw [VR]
  refine ⟨p, ?_, rfl⟩
  rw [← r.len, List.getElem?_append_right (Nat.le_refl _), Nat.sub_self]; rfl
theorem Ct.tup {xs : List IV} {vs : List V} {p : Addr} (c : Ct K φ h H (.tup xs) Q) (r : Rel K φ h H) (q : VRs K φ H xs vs) (z : vs.length ≤ sizeLine) (hp : H p = none) : Q (.ref p) (upd H p (.tup vs)) := by
  refine c φ _ _ (.refl φ) (.newU hp) (r.newU hp) ?_
  rw [VR]
  exact ⟨p, vs, rfl, upd_same, q.mono (.refl φ) (.newU hp), z⟩
end
end Pi
end

section
set_option maxHeartbeats 8000000
namespace Pi
open PySem PySem.Spec PyProof.Rows L2
structure RgU (a b c : Int) (n : Nat) : Prop where
  a0 : 0 ≤ a
  a1 : a ≤ 1000000
  b0 : 0 ≤ b
  b1 : b ≤ 1000000
  c1 : 1 ≤ c
  c2 : c ≤ 1000000
  n : n = if a < b then ((b - a - 1) / c).toNat + 1 else 0
theorem RgU.size {a b c : Int} {n : Nat} (g : RgU a b c n) : Builtin.Range.rangeSize a b c = (n : Int) := by
  obtain ⟨a0, a1, b0, b1, c1, c2, en⟩ := g
  unfold Builtin.Range.rangeSize
  rw [if_pos (show c > 0 by omega), en]
  split
  · have : 0 ≤ (b - a - 1) / c := Int.ediv_nonneg (by omega) (by omega)
    push_cast
    omega
  · rfl
theorem RgU.le {a b c : Int} {n : Nat} (g : RgU a b c n) : n ≤ 1000000 := by
  obtain ⟨a0, a1, b0, b1, c1, c2, en⟩ := g
  rw [en]
  split
  · have h1 : (b - a - 1) / c ≤ b - a - 1 := Int.ediv_le_self _ (by omega)
    omega
  · omega
theorem RgU.ok {a b c : Int} {n : Nat} (g : RgU a b c n) : Builtin.Range.small a b c = true := by
  have gs := g.size
  have gl := g.le
  obtain ⟨a0, a1, b0, b1, c1, c2, en⟩ := g
  unfold Builtin.Range.small
  rw [gs]
  simp only [Builtin.Range.rangeFitsLong, Bool.and_eq_true, Bool.or_eq_true, decide_eq_true_eq, beq_iff_eq]
  refine ⟨⟨⟨⟨by omega, by omega⟩, by omega⟩, by omega⟩, .inr ?_⟩
  rw [if_pos (show c > 0 by omega)]
  simp only [Bool.and_eq_true, decide_eq_true_eq]
  omega
def upV (a c : Int) (n : Nat) : List V := (List.range n).map fun i : Nat => V.int (a + (i : Nat) * c)
section
variable {X : Cx}
def PRu (X : Cx) (e : Expr) (t : L2.St → Hp → (Int → Int → Int → Nat → Hp → Prop) → Prop) : Prop :=
  ∀ (pins : List (Addr × Obj)) (s : Shared) (σ : L2.St) (H : Hp) (Q : Int → Int → Int → Nat → Hp → Prop), Inv X pins σ H s → t σ H Q →
    wpAny (model X.prog X.w) X.A (eval e X.env) (fun x s' => ∃ r a b c n t1 t2 t3 H', x = .ref r ∧ IsRange s'.heap r a b c t1 t2 t3 ∧ RgU a b c n ∧ Inv X pins σ H' s' ∧ Q a b c n H') X.xe s
def tRu (ta : TA) : L2.St → Hp → (Int → Int → Int → Nat → Hp → Prop) → Prop := fun σ H Q => ta σ H fun vs H1 => ∃ i j k n, vs = [.int i, .int j, .int k] ∧ RgU i j k n ∧ Q i j k n H1
theorem pru {a b c : Expr} {ta : TA} {p pos : Pos} (hg : Gl X "range") (hm : X.mg "range" = none) (ha : PA X [a, b, c] ta)
    (hs : starEach [a, b, c] X.env = (false, eval a X.env) :: starEach [b, c] X.env) (hpl : (backTo pos (starEach [b, c] X.env)).any (·.1) = false) : PRu X (.Call (.Name "range" p) [a, b, c] [] pos) (tRu ta) := by
  intro pins s σ H Q I h
  refine Call_ (ld_blt I hg hm boot_range (PyProof.Rows.callWith_type1 (thn (ha.run pos pins s σ H _ I h) fun vs' s' ⟨vs, H1, I1, rv, q1⟩ => ?_) hs hpl))
  obtain ⟨i, j, k, n, rfl, g, q⟩ := q1
  obtain ⟨x1, x2, x3, rfl, ri, rj, rk⟩ : ∃ x1 x2 x3, vs' = [x1, x2, x3] ∧ L2.RelV (V.int i) x1 ∧ L2.RelV (V.int j) x2 ∧ L2.RelV (V.int k) x3 := by
    cases rv with
    | cons r1 rv => cases rv with
      | cons r2 rv => cases rv with
        | cons r3 rv =>
          cases rv
          exact ⟨_, _, _, rfl, r1, r2, r3⟩
  obtain ⟨t1, rfl⟩ := ri
  obtain ⟨t2, rfl⟩ := rj
  obtain ⟨t3, rfl⟩ := rk
  have gc := g.c1
  have gd := g.c2
  exact call_range_3 (by omega) ⟨_, i, j, k, n, _, _, _, H1, rfl, IsRange.new _ _ _ _ _ _ _, g, I1.kept (t' := s'.toks) fun b u e => Heap.get?_push_of_some _ e, q⟩ (.inl (PyProof.noPylong_small (by omega)))
def tLstU (te : L2.St → Hp → (Int → Int → Int → Nat → Hp → Prop) → Prop) : TE := fun σ H Q => te σ H fun a _ c n H1 => ∀ q, H1 q = none → Q (.ref q) (upd H1 q (.lst (upV a c n)))
theorem vals_up {a c : Int} {n : Nat} {acc : Array Value} (h : ItemsOf (fun i v => ∃ t, v = .int (a + i * c) t) acc n) : Vals (upV a c n) acc.toList := by
  have e : acc.toList.length = n := by rw [Array.length_toList]; exact h.1
  unfold upV
  have := vals_of_get acc.toList (fun i => V.int (a + (i : Nat) * c)) fun j u hj => by
    obtain ⟨t, et⟩ := h.2 j u (by rw [← hj, Array.getElem?_toList])
    exact ⟨t, et⟩
  rwa [e] at this
theorem pe_lstU {e : Expr} {te : L2.St → Hp → (Int → Int → Int → Nat → Hp → Prop) → Prop} {p pos : Pos} (hc : X.calm = true) (hg : Gl X "list") (hm : X.mg "list" = none) (he : PRu X e te) (na : starEach [e] X.env = (false, eval e X.env) :: starEach [] X.env) : PE X (.Call (.Name "list" p) [e] [] pos) (tLstU te) := by
  refine ⟨fun pins s σ H Q I h => ?_⟩
  refine Call_ (ld_blt I hg hm boot_list (PyProof.Rows.callWith_type1 (args_cons (thn (he pins s σ H _ I h) fun y s' hy => args_nil ?_) na) na))
  obtain ⟨r, a, b, c, n, t1, t2, t3, H', rfl, hr, g, I', q⟩ := hy
  have gl := g.le
  refine call_list_range (n := n) (I'.ok.hd hc) hr g.ok g.size (by omega) fun g1 tk items cap keep at1 its => ?_
  have len : (upV a c n).length ≤ sizeLine := by unfold upV; rw [List.length_map, List.length_range, sizeLine_eq]; omega
  have hv := vals_up its
  exact ⟨.ref s'.heap.objs.size, upd H' s'.heap.objs.size (.lst (upV a c n)), I'.laid keep (Nat.le_refl _) (show ObjOk X.prog X.w _ _ _ (.lst (upV a c n)) from ⟨len, items.toList, cap, hv, by rw [Array.toArray_toList]; exact at1⟩), rfl, q _ (I'.hok.fresh (Nat.le_refl _))⟩
end
end Pi
end

section
set_option maxHeartbeats 8000000
namespace PySem.W
open PySem PySem.Spec PySem.Calls PyProof.Rows
section
variable {prog : Program} {w : World} {A : Around} {E : Value → Shared → Prop} {s : Shared} {K : Frag} {x D : Addr} {ox : Obj} {od : Option Obj}
theorem findObj_dataD {C : Addr} {name : Str} {a g : Value} (hc : (clsIn K C).isSome = true) (ha : findIn K (.ref C) name = some (some a)) (hg : specialIn K a "__get__" = some (some g)) (ht : takesIn K a = some true) : findObj K C od name = some (.bind g a) := by
  obtain ⟨cd, hc⟩ := Option.isSome_iff_exists.mp hc
  unfold findObj
  rw [hc, Option.bind_some, ha, Option.bind_some]
  simp [hg, ht]
theorem kin_classD {Q : Option Value → Shared → Prop} (hga : findIn K (.ref D) "__getattribute__" = some (some (.builtin "BaseException.__getattribute__"))) (hgt : findIn K (.ref D) "__getattr__" = some none) (hsub : subIn K (.ref D) (.type "BaseException") = some true)
    (hdct : hasDictIn K D = true) (ha : findIn K (.ref D) "__class__" = some (some (.builtin "object.__class__")))
    (hn : specialIn K (.builtin "object.__class__") "__get__" = some (some (.builtin "getset_descriptor.__get__"))) (htk : takesIn K (.builtin "object.__class__") = some true) (hm : mroIn K D (.type "object") = some true)
    (X : K.In s.heap) (I : InstAt s.heap x ox D od) (h : Q (some (.ref D)) { s with toks := s.toks + 1 }) : wpAny (model prog w) A (getAttr? (.ref x) "__class__") Q E s := by
  have hf : findObj K D od "__class__" = some (.bind (.builtin "getset_descriptor.__get__") (.builtin "object.__class__")) := findObj_dataD (by obtain ⟨cd, hc, _⟩ := any_some hdct; rw [hc]; rfl) ha hn htk
  obtain ⟨hp, g, d, t, os⟩ := s
  have L0 := I.type (M := model prog w)
  have L1 := looks_findIn (M := model prog w) X hga
  have L2 := looks_findIn (M := model prog w) X hgt
  have L3 := looks_find (M := model prog w) X I hf
  have sub : Looks (model prog w) hp (isInstance (.ref x) (.type "BaseException")) true := L0.andThen (looks_subIn X hsub)
  have hx0 : (false && onTheHeap (Value.builtin "BaseException.__getattribute__")) = false := rfl
  have hx2 : (Value.builtin "BaseException.__getattribute__" == Value.builtin "object.__getattribute__") = false := by decide +kernel
  have hx1 : (onTheHeap (Value.ref D) && Value.builtin "BaseException.__getattribute__" == Value.builtin "object.__getattribute__") = false := by rw [hx2]; rfl
  unfold getAttr? getAttrBy? getAttrBy
  refine wpAny_bind (wpAny_mkText (wpAny_bind (wpAny_attempt (wpAny_holding (wpAny_bind (L0.at (wpAny_bind (L1.at ?_))))))))
  show wpAny _ _ (if (onTheHeap (Value.ref D) && Value.builtin "BaseException.__getattribute__" == Value.builtin "object.__getattribute__") = true then _ else _) _ _ _
  rw [hx1, if_neg Bool.false_ne_true]
  unfold getAttrByItsOwn hookBefore
  refine wpAny_bind ?_
  rw [if_pos (show onTheHeap (Value.ref D) = true from rfl)]
  refine L2.at ?_
  refine wpAny_bind (wpAny_attempt (wpAny_holding ?_))
  unfold callGetattribute
  rw [hx0, if_neg Bool.false_ne_true]
  unfold boundAndCalled
  rw [PySem.F.excAttr_ValueError.ga.bind (.ref x)]
  refine wpAny_bind (wpAny_pure ?_)
  show wpAny _ _ (call (.builtin "BaseException.__getattribute__") [.ref x, .str "__class__" t]) _ _ _
  refine wpAny_call (codeAny_call_builtin PySem.F.excAttr_ValueError.ga.plain PySem.F.entry_bexc_ga ?_)
  refine @check_slot (model prog w) _ _ ⟨hp, g, d, t + 1, os⟩ "BaseException.__getattribute__" "BaseException" "__getattribute__" (.ref x) [.str "__class__" t] [] _ (by decide +kernel) (by decide +kernel) sub (PySem.F.args_bexc_ga (.ref x) (.str "__class__" t)) ?_
  unfold Builtin.«object.__getattribute__»
  refine wpAny_bind (wpAny_of_eq (a := ((Value.ref x : Value), [Value.str "__class__" t])) (by first | rfl | (simp only [slotArgs]; rfl)) ?_)
  refine wpAny_bind (wpAny_pure (wpAny_bind (L0.at (wpAny_bind (L3.at ?_)))))
  show wpAny _ _ (holding [Value.builtin "object.__class__"] (call (.builtin "getset_descriptor.__get__") [.builtin "object.__class__", .ref x, .ref D]) >>= ret) _ _ _
  refine wpAny_bind (wpAny_holding (wpAny_call (class_get (s := ⟨hp, g, d, t + 1, os⟩) (ox := ox) (od := od) X I hm ?_)))
  refine wpAny_pure ?_
  show wpAny _ _ (handedOut (.ref D)) _ _ _
  rw [handedOut_of (v := .ref D) rfl]
  first
    | exact wpAny_pure (wpAny_pure h)
    | exact wpAny_pure h
    | exact wpAny_pure (wpAny_bind (wpAny_pure (wpAny_pure h)))
theorem kitx_excD (hga : findIn K (.ref D) "__getattribute__" = some (some (.builtin "BaseException.__getattribute__"))) (hgt : findIn K (.ref D) "__getattr__" = some none) (hsub : subIn K (.ref D) (.type "BaseException") = some true) (hdct : hasDictIn K D = true) (ha : findIn K (.ref D) "__class__" = some (some (.builtin "object.__class__")))
    (hn : specialIn K (.builtin "object.__class__") "__get__" = some (some (.builtin "getset_descriptor.__get__"))) (htk : takesIn K (.builtin "object.__class__") = some true) (hm : mroIn K D (.type "object") = some true) :
    KitX K (.ref x) (.ref D) (fun h => InstAt h x ox D od) where
  ty := fun _ _ _ I => I.type
  it := fun _ _ X _ => by
    obtain ⟨cdD, hcD, _⟩ := any_some hdct
    unfold clsIn at hcD
    split at hcD
    · rename_i c' d' cd' sl' ho
      intro A' Q' E' s' k q
      unfold isType loadHead
      exact wpAny_bind (wpAny_loadPart (k _ _ (X _ _ ho)) (wpAny_pure q))
    · cases hcD
  ne := fun h tp dd its n sl X htp => by
    obtain ⟨cdD, hcD, _⟩ := any_some hdct
    refine Bool.eq_false_iff.mpr fun q => ?_
    have e : D = tp := Value.ref.inj (beq_iff_eq.mp q)
    subst e
    unfold clsIn at hcD
    split at hcD
    · rename_i c' d' cd' sl' ho
      have z := (X _ _ ho).symm.trans htp
      cases z
    · cases hcD
  ca := fun X I k => kin_classD hga hgt hsub hdct ha hn htk hm X I k
end
end PySem.W
namespace Pi
open PySem PySem.Spec PyProof.Rows L2
def DK (d : Option Addr) (H : Hp) : Prop := d = none ∨ ∃ dd fs, d = some dd ∧ H dd = some (.xd fs)
theorem inst_of {X : Cx} {pins : List (Addr × Obj)} {σ : L2.St} {H : Hp} {s : Shared} {a D : Addr} {oe : Obj} {d : Option Addr} (I : Inv X pins σ H s) (ha : s.heap.get? a = some oe) (hz : Zc (.ref D) d oe) (hf : ∃ vs, oe.data = .fields vs) (hd : DK d H) :
    ∃ od, PySem.W.InstAt s.heap a oe D od := by
  obtain ⟨vs, hv⟩ := hf
  obtain ⟨h1, h2⟩ := hz
  obtain ⟨oc, oda, odt, osl⟩ := oe
  dsimp only at h1 h2 hv
  subst h1 h2 hv
  rcases hd with rfl | ⟨dd, fs, rfl, e⟩
  · exact ⟨none, ha, rfl, rfl, trivial⟩
  · have hx : ObjOk X.prog X.w H s.heap dd (.xd fs) := I.hok dd _ e
    obtain ⟨mA, hns, hr⟩ := hx
    obtain ⟨od, ho, hl⟩ := lookIn_ns hns
    exact ⟨some od, ha, rfl, rfl, ho⟩
def rIsD (K : PySem.W.Frag) (D a : Addr) (d : Option Addr) : List V → Hp → VK → Prop := fun xs H Q => ∃ (c : V) (cv : Value) (b : Bool), xs = [.ref a, c] ∧ (∀ u, RelV c u → u = cv) ∧ PySem.W.kitOne K (.ref D) cv = some b ∧ DK d H ∧ Q (.bl b) H
theorem call_isD {X : Cx} {a D : Addr} {oe : Obj} {d : Option Addr} {pn : List (Addr × Obj)} (C : ExcC X.K D) (hz : Zc (.ref D) d oe) (hf : ∃ vs, oe.data = .fields vs) : CallR (X.suite a ((a, oe) :: pn)) (.builtin "isinstance") (rIsD X.K D a d) := by
  intro pins s σ H xs us Q I r h
  obtain ⟨c, cv, b, rfl, hcv, e, hd, q⟩ := h
  cases r with
  | cons rx rr =>
    cases rr with
    | cons rt rr =>
      cases rr
      cases rx
      have ec := hcv _ rt
      subst ec
      obtain ⟨hget, _⟩ := I.pin (a, oe) (List.mem_append.mpr (.inl List.mem_cons_self))
      obtain ⟨od, J⟩ := inst_of I hget hz hf hd
      exact PySem.W.kia_one (PySem.W.kitx_excD C.hg C.hk C.hs C.hd C.ha C.hn C.ht C.hm) I.kIn J e (fun z => nomatch z) fun tk => ⟨.bl b, H, I.kept (t' := tk) fun _ _ z => z, rfl, q⟩
def rIsX (K : PySem.W.Frag) : List V → Hp → VK → Prop := fun xs H Q => ∃ (a D : Addr) (d : Option Addr) (t : V) (tv : Value) (b : Bool), xs = [.ref a, t] ∧ H a = some (ExcO D d a) ∧ DK d H ∧ ExcC K D ∧ (∀ u, RelV t u → u = tv) ∧ PySem.W.kitOne K (.ref D) tv = some b ∧ Q (.bl b) H
theorem call_isX {X : Cx} : CallR X (.builtin "isinstance") (rIsX X.K) := by
  intro pins s σ H xs us Q I r h
  obtain ⟨a, D, d, t, tv, b, ex, hH, hd, C, ht, hk, q⟩ := h
  subst ex
  match us, r with
  | [u1, u2], .cons r1 (.cons r2 .nil) =>
    have e1 : u1 = Value.ref a := r1
    have e2 := ht u2 r2
    subst e1 e2
    obtain ⟨⟨oe, vs, g, z, fd⟩, _, _⟩ := I.hok a _ hH
    obtain ⟨od, J⟩ := inst_of I g z ⟨vs, fd⟩ hd
    exact PySem.W.kia_one (PySem.W.kitx_excD (x := a) (ox := oe) C.hg C.hk C.hs C.hd C.ha C.hn C.ht C.hm) I.kIn J hk (fun z => nomatch z) fun tk => ⟨.bl b, H, I.tok tk, rfl, q⟩
def tFld (K : PySem.W.Frag) (f : Str) (te : TE) : TE := fun σ H Q => te σ H fun x H1 => ∃ (a D dd : Addr) (fs : List (Str × V)) (v : V), x = .ref a ∧ H1 a = some (ExcO D (some dd) a) ∧ H1 dd = some (.xd fs) ∧ XfC K D ∧ PySem.W.findIn K (.ref D) f = some none ∧ fs.lookup f = some v ∧ Q v H1
theorem pe_fld {X : Cx} {e : Expr} {n : Str} {te : TE} {pos : Pos} (he : PE X e te) (hb : attributeBase e n X.env (eval e X.env) = eval e X.env) : PE X (.Attribute e n pos) (tFld X.K n te) := by
  refine ⟨fun pins s σ H Q I h => ?_⟩
  refine attr_of hb (thn (he.run pins s σ H _ I h) fun u s1 hh => ?_)
  obtain ⟨x, H1, I1, rx, a, D, dd, fs, v, ex, ea, ed, T, hno, l, q⟩ := hh
  subst ex
  obtain rfl : u = Value.ref a := rx
  obtain ⟨⟨oe, vs, ha, hz, hd⟩, _, _⟩ := I1.hok a _ ea
  have hx : ObjOk X.prog X.w H1 s1.heap dd (.xd fs) := I1.hok dd _ ed
  obtain ⟨mA, hns, hr⟩ := hx
  obtain ⟨od, ho, hl⟩ := lookIn_ns hns
  obtain ⟨u, hu, ru⟩ := RelO.some_of (v := v) (o := mA n) (by rw [← l]; exact hr n)
  have J : PySem.W.InstAt s1.heap a oe D (some od) := ⟨ha, hz.1, by unfold PySem.W.notCls; rw [hd] <;> rfl, by rw [hz.2]; exact ho⟩
  exact HandSPX.exc_get I1.kIn J T.ga T.gg T.exC (PySem.W.findObj_own T.hdC hno rfl (by rw [hl, hu])) (handed_of ru) ⟨v, H1, I1.tok _, ru, q⟩

section
variable {X : Cx} {x : Str} {C0 : Addr} {mc : Value} {e : Expr} {es : List Expr} {ta : TA} {p1 p2 pos : Pos}
theorem wi_eval {env : Env} {a b : Expr} (h : (p2.endLine == pos.line) = true) (ha : starEach [a, b] env = [(false, eval a env), (false, eval b env)]) : eval (.Call (.Attribute (.Name x p1) "__init__" p2) [a, b] [] pos) env = (do
      let ov ← eval (.Name x p1) env
      standAt p2.atName
      let (f, first) ← holding [ov] (getMethod ov "__init__" (do return (← importBound (.Name x p1) env).getD true))
      callWith pos f first (backTo pos (starEach [a, b] env)) (backToKw pos (keywordEach [] env))) := by
  have few : methodCallForm 2 (backTo pos (starEach [a, b] env)) (backToKw pos (keywordEach [] env)) = true := by rw [ha]; rfl
  show (do
    let ov ← eval (.Name x p1) env
    standAt p2.atName
    methodCall (.Name x p1) "__init__" p2 pos env ov 2 (backTo pos (starEach [a, b] env)) (backToKw pos (keywordEach [] env))) = _
  unfold methodCall methodCallPos calleeOf
  rw [few, h]
  rfl
theorem pe_cinit {pl : Sem Bool} (hg : Gl X x) (hm : X.mg x = some (.ref C0)) (hr : PySem.W.readsIn X.K (mc := mc) C0 = true) (vV : PySem.W.findCls X.K (.ref C0) mc "__init__" = some (.val (.builtin "ValueError.__init__")))
    (hga : PySem.W.specialIn X.K (.ref C0) "__getattribute__" = some (some (.builtin "type.__getattribute__"))) (ha : PA X (e :: es) ta)
    (hc : eval (.Call (.Attribute (.Name x p1) "__init__" p2) (e :: es) [] pos) X.env = (do
      let ov ← eval (.Name x p1) X.env
      standAt p2.atName
      let (f, first) ← holding [ov] (getMethod ov "__init__" pl)
      callWith pos f first (backTo pos (starEach (e :: es) X.env)) (backToKw pos (keywordEach [] X.env))))
    (he : starEach (e :: es) X.env = (false, eval e X.env) :: starEach es X.env) (hpl : (backTo pos (starEach es X.env)).any (·.1) = false) (hdb : (x == ("__debug__" : Str)) = false) :
    PE X (.Call (.Attribute (.Name x p1) "__init__" p2) (e :: es) [] pos) (tVeI X.K ta) := by
  refine ⟨fun pins s σ H Q I h => ?_⟩
  refine PySem.W.methodCall_KW (ld_glob I hg hm ?_ hdb) hc
  refine PySem.W.method_cls I.kIn hga (PySem.W.cls_value I.kIn hr vV (by decide +kernel) ?_)
  show wpAny _ _ (callWith pos (Value.builtin "ValueError.__init__") [] (backTo pos (starEach (e :: es) X.env)) []) _ _ _
  refine PyProof.Rows.callWith_method1 (thn (ha.run pos pins _ σ H _ ((I.tok _)) h) fun us s1 ⟨vs, H1, I1, r1, a, C, ws, ev, hl, T, ea, q⟩ => ?_) he hpl
  subst ev
  cases r1 with
  | @cons _ u0 _ ur ra rw' =>
    obtain rfl : u0 = Value.ref a := ra
    have hlen : ur.length ≤ sizeLine := by
      rw [← Paired.length rw', sizeLine_eq]
      omega
    exact oinit_ok T I1 ea hlen fun s' J => ⟨.non, H1, J, rfl, q⟩
end

def spIni (K : PySem.W.Frag) (C : Addr) : Sp := fun vs H Q E => ∃ a p, vs = [.ref a, p] ∧ H a = some (exo a C none) ∧ ∀ dx, H dx = none → dx ≠ a → Q .non (upd (upd H dx (exd dx [("place", p)])) a (exo a C (some dx)))
structure InitOk (X : Cx) (m : Nat) (C : Addr) : Prop where
  T : OexC X.K C
  fn : ∃ fI fd, PySem.W.findIn X.K (.ref C) "__init__" = some (some (.ref fI)) ∧ PySem.W.typeIn X.K (.ref fI) = some (.type "function") ∧ Binds X.K fd ["self", "place"] [] ∧ FnOk X.prog X.w X.K X.mg X.base (L2.CX X.prog X.w) m fI fd ["self", "place"] (spIni X.K C)
structure InitS (st : Stmt) : Prop where
  b : ∃ p1 p2 p3 m kk p4 p5 p6 p7 p8 p9 p10, (p2.endLine == p5.line) = true ∧ defBody st = [.Expr (.Call (.Attribute (.Name "WholeError" p1) "__init__" p2) [.Name "self" p3, .Constant (.str m) kk p4] [] p5) p6, .Assign [.Attribute (.Name "self" p7) "place" p8] (.Name "place" p9) p10]
  s : FnScope ["self", "place"] ["self", "place"] (defScope st)
  n : (defScope st).names.lookup ("WholeError" : Str) = some .globalImplicit ∧ (defScope st).names.lookup ("self" : Str) = some .local ∧ (defScope st).names.lookup ("place" : Str) = some .local
structure InitK (K : PySem.W.Frag) (mg : Str → Option Value) (C : Addr) : Prop where
  T : OexC K C
  pl : PySem.W.findIn K (.ref C) "place" = some none
  base : ∃ C0 mc, mg "WholeError" = some (.ref C0) ∧ PySem.W.readsIn K (mc := mc) C0 = true ∧ PySem.W.findCls K (.ref C0) mc "__init__" = some (.val (.builtin "ValueError.__init__")) ∧ PySem.W.specialIn K (.ref C0) "__getattribute__" = some (some (.builtin "type.__getattribute__"))
  fn : ∃ fI fd st q, PySem.W.findIn K (.ref C) "__init__" = some (some (.ref fI)) ∧ PySem.W.typeIn K (.ref fI) = some (.type "function") ∧ Fun K "__init__" q st fI fd ∧ (∀ us : List Value, us.length = 2 → bindArgs fd ⟨us, []⟩ = pure ((["self", "place"] : List Str).zip us)) ∧ InitS st
section
variable {P : Program} {w : World} {K : PySem.W.Frag} {mg : Str → Option Value} {base : Heap}
theorem init_fn {C : Addr} {q : Str} {st : Stmt} {fI : Addr} {fd : FuncData} {k : Nat} (J : InitK K mg C) (F : Fun K "__init__" q st fI fd) (S : InitS st) : FnOk P w K mg base (L2.CX P w) (k + 1) fI fd ["self", "place"] (spIni K C) := by
  refine F.okX S.s (fun vs H Q E h => ?_) (fun cdv A outer s H vs Q E hr h => ?_)
  · obtain ⟨a, p, rfl, _⟩ := h
    rfl
  · obtain ⟨a, p, rfl, ea, h⟩ := h
    obtain ⟨p1, p2, p3, m, kk, p4, p5, p6, p7, p8, p9, p10, hl, hb⟩ := S.b
    obtain ⟨C0, mc, b1, b2, b3, b4⟩ := J.base
    obtain ⟨n1, n2, n3⟩ := S.n
    rw [hb]
    refine ⟨_, pss_cons (ps_expr (pe_cinit (X := cxOf (L2.CX P w) P w K mg base ["self", "place"] q (defScope st) fI cdv A outer s H E) (x := "WholeError") n1 b1 b2 b3 b4 (pa_cons (pe_var (i := 0) rfl (.inl n2)) (pa_cons pe_str pa_nil)) (wi_eval hl rfl) rfl rfl (by decide))) (pss_one (ps_ost (f := "place") (pe_var (i := 0) rfl (.inl n2)) (pe_var (i := 1) rfl (.inl n3)))), ?_⟩
    refine ⟨.ref a, rfl, a, C, [.str m], rfl, Nat.le_of_ble_eq_true rfl, J.T, ea, p, rfl, .ref a, rfl, a, C, rfl, J.T, J.pl, .inl ⟨ea, fun dx e n => ?_⟩⟩
    exact h dx e n
theorem InitK.ok {C : Addr} {X : Cx} (J : InitK X.K X.mg C) (m : Nat) : InitOk X (m + 1) C := by
  obtain ⟨fI, fd, st, q, f1, f2, f3, f4, f5⟩ := J.fn
  exact ⟨J.T, fI, fd, f1, f2, .all f4, init_fn J f3 f5⟩
end
end Pi
end

section
set_option maxHeartbeats 8000000
namespace Pi
open PySem PySem.Spec PyProof.Rows L2
theorem tup_one (l : Addr) (items : Array Value) (n : Nat) (dd : Option Addr) (sl : Array (Option Value)) (u : Tok) :
    Meets (Builtin.«tuple.__mul__» ⟨[.ref l, .int 1 u], []⟩) (fun _ R s =>
      s.heap.get? l = some { cls := .type "tuple", dict := dd, data := .seq items n, slots := sl } ∧ R (.ok (.ret (Value.ref l))) s) :=
  .of_wp fun prog w A R s h => by
    obtain ⟨hp, g, d, tk, os⟩ := s
    obtain ⟨hl, h⟩ := h
    have ix := AutoSeq1.idx_int
    have c1 : (items.isEmpty || (1 : Int) == 1) = true := by simp
    wp_walk using wpAny_loadPart' hl
    exact ⟨_, rfl, h⟩
def rTup1 (K : PySem.W.Frag) : R2 := fun x y H Q => ∃ l xs, x = .ref l ∧ y = .int 1 ∧ SqT K H l xs ∧ Q (.ref l) H
theorem op_tup1 {X : Cx} : OpR X (binaryOp .Mult) (rTup1 X.K) := by
  intro pins s σ H x y v u Q I rx ry h
  obtain ⟨l, xs, rfl, rfl, hT, q⟩ := h
  cases rx
  obtain ⟨t, rfl⟩ := ry
  obtain ⟨its, r, ⟨⟨cls, dd, data, sl⟩, ho, hc, n, hd⟩, hs⟩ := I.tuple hT
  simp only at hc hd
  subst hc hd
  refine wpAny_binaryOp_repeat_ref (T := "tuple") (U := "int") (by decide) ⟨_, ho, rfl⟩ (fun s' => typeIs_int s' 1 t)
    noFill_tuple_mul F.fills_int_mul F.slot_int_rmul repeat_tuple F.slot_int_index.lookup
    (call_meets F.slot_int_rmul (typeIs_int s 1 t) F.entry_int_rmul (F.args_int_rmul_2 _ _) (int_rmul_tuple 1 t l its.toArray n dd sl)
      ⟨ho, rfl, ⟨_, ho, rfl⟩, call_meets F.slot_tuple_mul ⟨_, ho, rfl⟩ F.entry_tuple_mul (F.args_tuple_mul_2 _ _)
        (tup_one l its.toArray n dd sl t) ⟨ho, ?_⟩⟩)
  exact ⟨.ref l, H, I, rfl, q⟩
end Pi
end

section
set_option maxHeartbeats 8000000
namespace Pi
open PySem
theorem dict_eq_declines_str (l : Addr) (items : Array DictEntry) (n : Nat) (dd : Option Addr) (sl : Array (Option Value)) (b : Str) (u : Tok) :
    Meets (Builtin.«dict.__eq__» ⟨[.ref l, .str b u], []⟩) (fun _ R s => s.heap.get? l = some { cls := .type "dict", dict := dd, data := .dict items n, slots := sl } ∧ R (.ok (.ret .notImplemented)) s) :=
  .of_wp fun prog w A R s h => by obtain ⟨hp, g, d, tk, os⟩ := s; obtain ⟨hl, h⟩ := h; have f1 := F.sub_str_dict; wp_walk using wpAny_loadPart' hl; exact ⟨_, rfl, h⟩
theorem str_eq_declines_dict (b : Str) (u : Tok) (l : Addr) (c : Value) (items : Array DictEntry) (n : Nat) (dd : Option Addr) (sl : Array (Option Value)) :
    Meets (Builtin.«str.__eq__» ⟨[.str b u, .ref l], []⟩) (fun _ R s => s.heap.get? l = some { cls := c, dict := dd, data := .dict items n, slots := sl } ∧ R (.ok (.ret .notImplemented)) s) :=
  .of_wp fun prog w A R s h => by obtain ⟨hp, g, d, tk, os⟩ := s; obtain ⟨hl, h⟩ := h; wp_walk using wpAny_loadPart' hl, wpAny_load hl; exact ⟨_, rfl, h⟩
theorem dict_ne_declines_str (l : Addr) (items : Array DictEntry) (n : Nat) (dd : Option Addr) (sl : Array (Option Value)) (b : Str) (u : Tok) :
    Meets (Builtin.«dict.__ne__» ⟨[.ref l, .str b u], []⟩) (fun _ R s => s.heap.get? l = some { cls := .type "dict", dict := dd, data := .dict items n, slots := sl } ∧ R (.ok (.ret .notImplemented)) s) :=
  .of_wp fun prog w A R s h => by obtain ⟨hp, g, d, tk, os⟩ := s; obtain ⟨hl, h⟩ := h; have f1 := F.sub_str_dict; wp_walk using wpAny_loadPart' hl; exact ⟨_, rfl, h⟩
theorem str_ne_declines_dict (b : Str) (u : Tok) (l : Addr) (c : Value) (items : Array DictEntry) (n : Nat) (dd : Option Addr) (sl : Array (Option Value)) :
    Meets (Builtin.«str.__ne__» ⟨[.str b u, .ref l], []⟩) (fun _ R s => s.heap.get? l = some { cls := c, dict := dd, data := .dict items n, slots := sl } ∧ R (.ok (.ret .notImplemented)) s) :=
  .of_wp fun prog w A R s h => by obtain ⟨hp, g, d, tk, os⟩ := s; obtain ⟨hl, h⟩ := h; wp_walk using wpAny_loadPart' hl, wpAny_load hl; exact ⟨_, rfl, h⟩
open PySem.SeqAt in
theorem rc_dict_str {A : Around} {s : Shared} {l : Addr} {items : Array DictEntry} {n : Nat} {dd : Option Addr} {sl : Array (Option Value)} (b : Str) (u : Tok) (ho : s.heap.get? l = some { cls := .type "dict", dict := dd, data := .dict items n, slots := sl }) (hu : A.units < cLine) : RcAt A s (.ref l) (.str b u) false := fun prog w E Q h => by
  exact rc_eq_decline_or (k := false) ⟨_, ho, rfl⟩ (typeIs_str s b u) (by decide) F.sub_str_dict F.slot_dict_eq F.slot_str_eq_refl
    (fun _ hq => call_meets F.slot_dict_eq ⟨_, ho, rfl⟩ F.entry_dict_eq (F.args_dict_eq_2 _ _) (dict_eq_declines_str l items n dd sl b u) ⟨ho, hq⟩)
    (fun _ hq => call_meets F.slot_str_eq_refl (typeIs_str s b u) F.entry_str_eq (F.args_str_eq_2 _ _) (str_eq_declines_dict b u l (.type "dict") items n dd sl) ⟨ho, hq⟩)
    (fun _ hq => wpAny_of_eq (rfl : isSame (.ref l) (.str b u) = pure false) hq) (.inr hu) h
open PySem.SeqAt in
theorem rcNe_dict_str {A : Around} {s : Shared} {l : Addr} {items : Array DictEntry} {n : Nat} {dd : Option Addr} {sl : Array (Option Value)} (b : Str) (u : Tok) (ho : s.heap.get? l = some { cls := .type "dict", dict := dd, data := .dict items n, slots := sl }) (hu : A.units < cLine) : RcNeAt A s (.ref l) (.str b u) true := fun prog w E Q h => by
  exact rc_ne_decline_or (k := false) ⟨_, ho, rfl⟩ (typeIs_str s b u) (by decide) F.sub_str_dict F.slot_dict_ne F.slot_str_ne_refl
    (fun _ hq => call_meets F.slot_dict_ne ⟨_, ho, rfl⟩ F.entry_dict_ne (F.args_dict_ne_2 _ _) (dict_ne_declines_str l items n dd sl b u) ⟨ho, hq⟩)
    (fun _ hq => call_meets F.slot_str_ne_refl (typeIs_str s b u) F.entry_str_ne (F.args_str_ne_2 _ _) (str_ne_declines_dict b u l (.type "dict") items n dd sl) ⟨ho, hq⟩)
    (fun _ hq => wpAny_of_eq (rfl : isSame (.ref l) (.str b u) = pure false) hq) (.inr hu) h
end Pi
end

section
set_option maxHeartbeats 8000000
namespace Pi
open PySem PySem.Spec PyProof.Rows L2
variable [ClsTab]

theorem lim_le {n : Nat} (h : n ≤ LIM) : n ≤ sizeLine := Nat.le_trans h (by rw [sizeLine_eq]; decide)
theorem lim_lt {n : Nat} (h : n < LIM) : n < sizeLine := Nat.lt_of_lt_of_le h (by rw [sizeLine_eq]; decide)

section
variable {K : PySem.W.Frag} {φ φ' : List Addr} {H H' : Hp} {h h' : IH} {Q : VK}
theorem Rel.sqL {i : Nat} {a : Addr} {xs : List IV} (r : Rel K φ h H) (e1 : φ[i]? = some a) (e2 : h[i]? = some (.lst xs)) : ∃ vs, SqL K H a vs ∧ VRs K φ H xs vs ∧ xs.length = vs.length := by
  obtain ⟨vs, e, q⟩ := r.obj i a _ e1 e2
  exact ⟨vs, .inl (.inl e), q, q.length⟩
theorem Rel.lstV {v : IV} {w : V} {xs : List IV} (r : Rel K φ h H) (q : VR K φ H v w) (e : lstOf h v = some xs) : ∃ a vs, w = .ref a ∧ SqL K H a vs ∧ VRs K φ H xs vs ∧ xs.length = vs.length := by
  cases v with
  | ref i =>
    rw [VR] at q
    obtain ⟨a, e1, rfl⟩ := q
    unfold lstOf at e
    simp only at e
    split at e
    · rename_i ys ey
      cases e
      obtain ⟨vs, s, q, l⟩ := r.sqL e1 ey
      exact ⟨a, vs, rfl, s, q, l⟩
    · cases e
  | lsr _ ys =>
    rw [VR] at q
    obtain ⟨a, vs, rfl, s, q⟩ := q
    have e' : ys = xs := Option.some.inj e
    subst e'
    exact ⟨a, vs, rfl, frz_sql s, q, q.length⟩
  | non => nomatch e
  | bl _ => nomatch e
  | int _ => nomatch e
  | str _ => nomatch e
  | tup _ => nomatch e
  | exc _ _ => nomatch e
  | fn _ => nomatch e
theorem Rel.seqV {v : IV} {w : V} {xs : List IV} (r : Rel K φ h H) (q : VR K φ H v w) (e : seqOf h v = some xs) : ∃ a vs, w = .ref a ∧ (SqL K H a vs ∨ SqT K H a vs) ∧ VRs K φ H xs vs ∧ xs.length = vs.length := by
  cases v with
  | tup ys =>
    rw [VR] at q
    obtain ⟨a, vs, rfl, s, q, z⟩ := q
    have e' : ys = xs := Option.some.inj e
    subst e'
    exact ⟨a, vs, rfl, .inr (.inl (.inl s)), q, q.length⟩
  | ref i =>
    obtain ⟨a, vs, e1, s, q, l⟩ := r.lstV q (show lstOf h (.ref i) = some xs from e)
    exact ⟨a, vs, e1, .inl s, q, l⟩
  | lsr k ys =>
    obtain ⟨a, vs, e1, s, q, l⟩ := r.lstV q (show lstOf h (.lsr k ys) = some xs from e)
    exact ⟨a, vs, e1, .inl s, q, l⟩
  | exc _ _ => nomatch e
  | fn _ => nomatch e
  | non => nomatch e
  | bl _ => nomatch e
  | int _ => nomatch e
  | str _ => nomatch e
end

def rBin (K : PySem.W.Frag) (op : Operator) : R2 := fun x y H Q => ∃ φ h a b v h', Rel K φ h H ∧ VR K φ H a x ∧ VR K φ H b y ∧ binI op a b h = .ok v h' ∧ Ct K φ h' H v Q
def rCmp (K : PySem.W.Frag) (op : CmpOp) : R2 := fun x y H Q => ∃ φ h a b v h', Rel K φ h H ∧ VR K φ H a x ∧ VR K φ H b y ∧ cmpI op a b h = .ok v h' ∧ Ct K φ h' H v Q

theorem out_inj {α : Type} {a b : α} {h h' : IH} (e : Out.ok a h = Out.ok b h') : a = b ∧ h = h' := by
  cases e; exact ⟨rfl, rfl⟩
theorem small_log {i j : Int} (hi : small i = true) (hj : small j = true) : CMulW i j :=
  wide_mul (of_decide_eq_true hi) (of_decide_eq_true hj) (by decide) (by decide) (by decide)
theorem Ct.bl {K : PySem.W.Frag} {φ : List Addr} {H : Hp} {h : IH} {Q : VK} {b : Bool} (c : Ct K φ h H (.bl b) Q) (r : Rel K φ h H) : Q (.bl b) H := c.here r (by rw [VR])
theorem Ct.int {K : PySem.W.Frag} {φ : List Addr} {H : Hp} {h : IH} {Q : VK} {b : Int} (c : Ct K φ h H (.int b) Q) (r : Rel K φ h H) : Q (.int b) H := c.here r (by rw [VR])
theorem Ct.str {K : PySem.W.Frag} {φ : List Addr} {H : Hp} {h : IH} {Q : VK} {b : Str} (c : Ct K φ h H (.str b) Q) (r : Rel K φ h H) : Q (.str b) H := c.here r (by rw [VR])
theorem frz_rd {H : Hp} {a : Addr} {vs : List V} {K : PySem.W.Frag} (s : (∃ o, H a = some (.frz o (.lst vs))) ∨ (true = false ∧ ∀ H', SqL K H' a vs)) : Rd H a (.lst vs) := by
  rcases s with s | ⟨z, _⟩
  · exact .inr s
  · cases z
theorem lstR {X : Cx} {pins : List (Addr × Obj)} {σ : L2.St} {H : Hp} {s : Shared} {l : Addr} {xs : List V} (I : Inv X pins σ H s) (hH : Rd H l (.lst xs)) :
    xs.length ≤ sizeLine ∧ ∃ (its : List Value) (n : Nat), Vals xs its ∧ xs.length = its.length ∧ s.heap.get? l = some { cls := .type "list", data := .seq its.toArray n } := by
  obtain ⟨z, its, n, r, e⟩ := hH.ok I.hok
  exact ⟨z, its, n, r, r.length, e⟩
def rCatR : R2 := fun x y H Q => ∃ l b xs zs, x = .ref l ∧ y = .ref b ∧ Rd H l (.lst xs) ∧ Rd H b (.lst zs) ∧ xs.length + zs.length ≤ sizeLine ∧ ∀ p, H p = none → Q (.ref p) (upd H p (.lst (xs ++ zs)))
theorem op_catR {X : Cx} : OpR X (binaryOp .Add) rCatR := by
  intro pins s σ H x y v u Q I rx ry hh
  obtain ⟨l, b, xs, zs, ex, ey, hL, hB, hz, q⟩ := hh
  subst ex ey
  cases rx
  cases ry
  obtain ⟨_, i1, n1, r1, l1, e1⟩ := lstR I hL
  obtain ⟨_, i2, n2, r2, l2, e2⟩ := lstR I hB
  have es : i1.toArray ++ i2.toArray = (i1 ++ i2).toArray := by simp
  refine PySem.P.add_list e1 e2 ?_ (by simp only [List.size_toArray]; omega)
  rw [es]
  refine ⟨.ref _, _, I.lnew (t' := s.toks) (r1.append r2) (by rw [List.length_append]; omega), rfl, q _ I.fresh⟩
theorem opBin {X : Cx} (op : Operator) : OpR X (binaryOp op) (rBin X.K op) := by
  intro pins s σ H x y v u Q I rx ry hh
  obtain ⟨φ, h, a, b, w, h', r, ra, rb, e, c⟩ := hh
  unfold binI at e
  split at e
  case h_1 i j =>
    obtain ⟨e1, e2⟩ := out_inj e
    subst e1 e2
    rw [VR] at ra rb
    exact op_add pins s σ H x y v u Q I rx ry ⟨i, j, ra, rb, c.int r⟩
  case h_2 p q =>
    split at e
    · rename_i hz
      obtain ⟨e1, e2⟩ := out_inj e
      subst e1 e2
      rw [VR] at ra rb
      exact op_add_str pins s σ H x y v u Q I rx ry ⟨p, q, ra, rb, lim_le hz, c.str r⟩
    · cases e
  case h_3 p q =>
    split at e
    · rename_i hz
      obtain ⟨e1, e2⟩ := out_inj e
      subst e1 e2
      rw [VR] at ra rb
      obtain ⟨a1, vs, rfl, s1, q1, z1⟩ := ra
      obtain ⟨a2, ws, rfl, s2, q2, z2⟩ := rb
      have l1 := q1.length
      have l2 := q2.length
      have hz' : vs.length + ws.length ≤ sizeLine := by rw [← l1, ← l2]; exact lim_le hz
      refine op_catA pins s σ H _ _ v u Q I rx ry ⟨a1, a2, vs, ws, rfl, rfl, .inl (.inl s1), .inl (.inl s2), hz', fun e0 => ?_, fun _ e0 => ?_, fun _ _ p' hp => ?_⟩
      · subst e0
        refine c.here r ?_
        rw [VR]
        exact ⟨a2, ws, rfl, s2, by simpa using q1.append q2, z2⟩
      · subst e0
        refine c.here r ?_
        rw [VR]
        exact ⟨a1, vs, rfl, s1, by simpa using q1.append q2, z1⟩
      · exact c.tup r (q1.append q2) (by rw [List.length_append]; exact hz') hp
    · cases e
  case h_4 i j =>
    split at e
    · rename_i xs ys e1 e2
      unfold newL at e
      split at e
      · rename_i hz
        obtain ⟨f1, f2⟩ := out_inj e
        subst f1 f2
        rw [VR] at ra rb
        obtain ⟨a1, g1, rfl⟩ := ra
        obtain ⟨a2, g2, rfl⟩ := rb
        obtain ⟨vs, k1, q1⟩ := r.obj i a1 _ g1 e1
        obtain ⟨ws, k2, q2⟩ := r.obj j a2 _ g2 e2
        have l1 := q1.length
        have l2 := q2.length
        refine op_cat pins s σ H _ _ v u Q I rx ry ⟨a1, a2, vs, ws, rfl, rfl, k1, k2, ?_, fun p hp => c.list r (q1.append q2) hp⟩
        rw [← l1, ← l2, ← List.length_append]
        exact lim_le hz
      · cases e
    · cases e
  case h_5 xs j =>
    split at e
    · rename_i ys e2
      unfold newL at e
      split at e
      · rename_i hz
        obtain ⟨f1, f2⟩ := out_inj e
        subst f1 f2
        simp only [VR] at ra rb
        obtain ⟨a1, vs, rfl, g1, q1⟩ := ra
        obtain ⟨a2, g2, rfl⟩ := rb
        obtain ⟨ws, k2, q2⟩ := r.obj j a2 _ g2 e2
        refine op_catR pins s σ H _ _ v u Q I rx ry ⟨a1, a2, vs, ws, rfl, rfl, frz_rd g1, .inl k2, ?_, fun p hp => c.list r (q1.append q2) hp⟩
        rw [← q1.length, ← q2.length, ← List.length_append]
        exact lim_le hz
      · cases e
    · cases e
  case h_6 i ys =>
    split at e
    · rename_i xs e1
      unfold newL at e
      split at e
      · rename_i hz
        obtain ⟨f1, f2⟩ := out_inj e
        subst f1 f2
        simp only [VR] at ra rb
        obtain ⟨a1, g1, rfl⟩ := ra
        obtain ⟨a2, ws, rfl, g2, q2⟩ := rb
        obtain ⟨vs, k1, q1⟩ := r.obj i a1 _ g1 e1
        refine op_catR pins s σ H _ _ v u Q I rx ry ⟨a1, a2, vs, ws, rfl, rfl, .inl k1, frz_rd g2, ?_, fun p hp => c.list r (q1.append q2) hp⟩
        rw [← q1.length, ← q2.length, ← List.length_append]
        exact lim_le hz
      · cases e
    · cases e
  case h_7 xs ys =>
    unfold newL at e
    split at e
    · rename_i hz
      obtain ⟨f1, f2⟩ := out_inj e
      subst f1 f2
      rw [VR] at ra rb
      obtain ⟨a1, vs, rfl, g1, q1⟩ := ra
      obtain ⟨a2, ws, rfl, g2, q2⟩ := rb
      refine op_catR pins s σ H _ _ v u Q I rx ry ⟨a1, a2, vs, ws, rfl, rfl, frz_rd g1, frz_rd g2, ?_, fun p hp => c.list r (q1.append q2) hp⟩
      rw [← q1.length, ← q2.length, ← List.length_append]
      exact lim_le hz
    · cases e
  case h_8 i j =>
    obtain ⟨e1, e2⟩ := out_inj e
    subst e1 e2
    rw [VR] at ra rb
    exact op_sub pins s σ H x y v u Q I rx ry ⟨i, j, ra, rb, c.int r⟩
  case h_9 i j =>
    split at e
    · rename_i hz
      rw [Bool.or_eq_true, Bool.or_eq_true, Bool.and_eq_true] at hz
      obtain ⟨e1, e2⟩ := out_inj e
      subst e1 e2
      rw [VR] at ra rb
      rcases hz with (hz | hz) | hz
      · have hz := of_decide_eq_true hz
        exact op_mul pins s σ H x y v u Q I rx ry ⟨i, j, ra, rb, show CMul i j from Or.inl ⟨by omega, by omega⟩, c.int r⟩
      · have hz := of_decide_eq_true hz
        exact op_mul pins s σ H x y v u Q I rx ry ⟨i, j, ra, rb, show CMul i j from Or.inr ⟨by omega, by omega⟩, c.int r⟩
      · exact op_mulW pins s σ H x y v u Q I rx ry ⟨i, j, ra, rb, small_log hz.1 hz.2, c.int r⟩
    · cases e
  case h_10 i k =>
    split at e
    · rename_i xs e1
      split at e
      · rename_i hk
        unfold newL at e
        split at e
        · rename_i hz
          obtain ⟨f1, f2⟩ := out_inj e
          subst f1 f2
          simp only [VR] at ra rb
          obtain ⟨a1, g1, rfl⟩ := ra
          obtain ⟨vs, k1, q1⟩ := r.obj i a1 _ g1 e1
          have l1 := q1.length
          have hl : (List.replicate k.toNat xs).flatten.length = vs.length * k.toNat := by
            rw [List.length_flatten, List.map_replicate, List.sum_replicate_nat, l1, Nat.mul_comm]
          refine op_rep pins s σ H _ _ v u Q I rx ry ⟨a1, k, vs, rfl, rb, k1, by omega, by omega, by rw [← hl]; exact lim_le hz, fun p hp => c.list r (q1.flat _) hp⟩
        · cases e
      · cases e
    · cases e
  case h_11 xs k =>
    split at e
    · rename_i hk
      subst hk
      obtain ⟨f1, f2⟩ := out_inj e
      subst f1 f2
      have ra' := ra
      simp only [VR] at ra rb
      obtain ⟨a1, vs, rfl, s1, q1, z1⟩ := ra
      exact op_tup1 pins s σ H _ _ v u Q I rx ry ⟨a1, vs, rfl, rb, .inl (.inl s1), c.here r ra'⟩
    split at e
    · rename_i hk
      obtain ⟨hk0, hk1, hk2, hk3⟩ := hk
      obtain ⟨f1, f2⟩ := out_inj e
      subst f1 f2
      simp only [VR] at ra rb
      obtain ⟨a1, vs, rfl, s1, q1, z1⟩ := ra
      have l1 := q1.length
      refine op_repT pins s σ H _ _ v u Q I rx ry ⟨a1, k, vs, rfl, rb, .inl (.inl s1), fun z => hk0 (by subst z; exact List.eq_nil_of_length_eq_zero (by rw [l1]; rfl)), by omega, by omega, by rw [← l1]; omega, fun p hp => ?_⟩
      refine c.tup r (q1.flat _) ?_ hp
      rw [List.length_flatten, List.map_replicate, List.sum_replicate_nat]
      have : k.toNat * vs.length ≤ 1000 * 1000 := Nat.mul_le_mul (by omega) (by rw [← l1]; omega)
      exact Nat.le_trans this (by rw [sizeLine_eq]; decide)
    · cases e
  case h_12 i j =>
    split at e
    · rename_i hj
      split at e
      · rename_i hm
        obtain ⟨e1, e2⟩ := out_inj e
        subst e1 e2
        rw [VR] at ra rb
        exact op_fdivW pins s σ H x y v u Q I rx ry ⟨i, j, ra, rb, wide_div hj (of_decide_eq_true hm) (by decide) (by decide), c.int r⟩
      · cases e
    · split at e
      · split at e
        · rename_i hj hm
          obtain ⟨e1, e2⟩ := out_inj e
          subst e1 e2
          simp only [VR] at ra rb
          exact op_fdivN pins s σ H x y v u Q I rx ry ⟨i, j, ra, rb, ⟨by omega, by omega⟩, c.int r⟩
        · cases e
      · cases e
  case h_13 i j =>
    split at e
    · rename_i hj
      obtain ⟨e1, e2⟩ := out_inj e
      subst e1 e2
      rw [VR] at ra rb
      exact op_mod pins s σ H x y v u Q I rx ry ⟨i, j, ra, rb, hj, c.int r⟩
    · split at e
      · rename_i hj
        obtain ⟨e1, e2⟩ := out_inj e
        subst e1 e2
        rw [VR] at ra rb
        exact op_modN pins s σ H x y v u Q I rx ry ⟨i, j, ra, rb, by omega, c.int r⟩
      · cases e
  case h_14 i j =>
    split at e
    · rename_i hj
      obtain ⟨e1, e2⟩ := out_inj e
      subst e1 e2
      rw [VR] at ra rb
      exact op_pow pins s σ H x y v u Q I rx ry ⟨i, j, ra, rb, ⟨hj.1, hj.2.1, by have := hj.2.2; omega⟩, c.int r⟩
    · cases e
  case h_15 => cases e

theorem eqI_scal {K : PySem.W.Frag} {φ : List Addr} {H : Hp} {a b : IV} {x y : V} {t : Bool} (ra : VR K φ H a x) (rb : VR K φ H b y) (e : eqI a b = some t) : scal x y = true ∧ decide (x = y) = t := by
  unfold eqI at e
  split at e <;> first
    | (cases e; simp only [VR] at ra rb; subst ra; subst rb; exact ⟨rfl, by simp⟩)
    | cases e

theorem allM_dp {K : PySem.W.Frag} {φ : List Addr} {H : Hp} {n : Nat} {f : IV → Option PyData} (hf : ∀ v w d, VR K φ H v w → f v = some d → Dp K H w d ∧ d.plain = true ∧ d.depth ≤ n) :
    ∀ (xs : List IV) (vs : List V) (ds : List PyData), VRs K φ H xs vs → allM f xs = some ds → DpAll K H vs ds ∧ PyData.plainAll ds = true ∧ PyData.depthAll ds ≤ n
  | [], vs, ds, r, e => by
    rw [VRs] at r
    have e' : [] = ds := Option.some.inj e
    subst r; subst e'
    exact ⟨.nil, rfl, Nat.zero_le _⟩
  | x :: xs, vs, ds, r, e => by
    rw [VRs] at r
    obtain ⟨v, s, rfl, r1, r2⟩ := r
    unfold allM at e
    split at e
    · rename_i y ey
      cases q : allM f xs with
      | none => rw [q] at e; cases e
      | some es =>
        rw [q] at e
        have e' : y :: es = ds := Option.some.inj e
        subst e'
        obtain ⟨a1, a2, a3⟩ := hf x v y r1 ey
        obtain ⟨b1, b2, b3⟩ := allM_dp hf xs s es r2 q
        refine ⟨.cons a1 b1, ?_, ?_⟩
        · rw [PyData.plainAll, a2, b2]; rfl
        · rw [PyData.depthAll]; exact Nat.max_le.mpr ⟨a3, b3⟩
    · cases e
theorem data_dp {K : PySem.W.Frag} {φ : List Addr} {h : IH} {H : Hp} (R : Rel K φ h H) : ∀ (n : Nat) (v : IV) (w : V) (d : PyData), VR K φ H v w → dataOf h n v = some d → Dp K H w d ∧ d.plain = true ∧ d.depth ≤ n := by
  intro n
  induction n with
  | zero =>
    intro v w d r e
    cases v with
    | non => rw [VR] at r; subst r; cases e; exact ⟨.non, rfl, Nat.zero_le _⟩
    | bl b => rw [VR] at r; subst r; cases e; exact ⟨.bl b, rfl, Nat.zero_le _⟩
    | int b => rw [VR] at r; subst r; cases e; exact ⟨.int b, rfl, Nat.zero_le _⟩
    | str b => rw [VR] at r; subst r; cases e; exact ⟨.str b, rfl, Nat.zero_le _⟩
    | tup xs => cases e
    | lsr _ xs => cases e
    | exc _ _ => cases e
    | fn _ => cases e
    | ref i => cases e
  | succ n ih =>
    intro v w d r e
    cases v with
    | non => rw [VR] at r; subst r; cases e; exact ⟨.non, rfl, Nat.zero_le _⟩
    | bl b => rw [VR] at r; subst r; cases e; exact ⟨.bl b, rfl, Nat.zero_le _⟩
    | int b => rw [VR] at r; subst r; cases e; exact ⟨.int b, rfl, Nat.zero_le _⟩
    | str b => rw [VR] at r; subst r; cases e; exact ⟨.str b, rfl, Nat.zero_le _⟩
    | tup xs =>
      rw [VR] at r
      obtain ⟨a, vs, rfl, s, q, z⟩ := r
      have e : (allM (dataOf h n) xs).map PyData.tuple = some d := e
      cases q' : allM (dataOf h n) xs with
      | none => rw [q'] at e; cases e
      | some ds =>
        rw [q'] at e
        have e' : PyData.tuple ds = d := Option.some.inj e
        subst e'
        obtain ⟨b1, b2, b3⟩ := allM_dp ih xs vs ds q q'
        refine ⟨.tup (.inl (.inl s)) b1, ?_, ?_⟩
        · rw [PyData.plain]; exact b2
        · rw [PyData.depth]; exact Nat.succ_le_succ b3
    | exc _ _ => cases e
    | fn _ => cases e
    | lsr _ xs =>
      rw [VR] at r
      obtain ⟨a, vs, rfl, s, q⟩ := r
      have e : (allM (dataOf h n) xs).map PyData.list = some d := e
      cases q' : allM (dataOf h n) xs with
      | none => rw [q'] at e; cases e
      | some ds =>
        rw [q'] at e
        have e' : PyData.list ds = d := Option.some.inj e
        subst e'
        obtain ⟨b1, b2, b3⟩ := allM_dp ih xs vs ds q q'
        refine ⟨.lst (frz_sql s) b1, ?_, ?_⟩
        · rw [PyData.plain]; exact b2
        · rw [PyData.depth]; exact Nat.succ_le_succ b3
    | ref i =>
      rw [VR] at r
      obtain ⟨a, e1, rfl⟩ := r
      unfold dataOf at e
      split at e
      · rename_i xs e2
        obtain ⟨vs, s, q, _⟩ := R.sqL e1 e2
        cases q' : allM (dataOf h n) xs with
        | none => rw [q'] at e; cases e
        | some ds =>
          rw [q'] at e
          have e' : PyData.list ds = d := Option.some.inj e
          subst e'
          obtain ⟨b1, b2, b3⟩ := allM_dp ih xs vs ds q q'
          refine ⟨.lst s b1, ?_, ?_⟩
          · rw [PyData.plain]; exact b2
          · rw [PyData.depth]; exact Nat.succ_le_succ b3
      · cases e

theorem keyOf_kV {K : PySem.W.Frag} {φ : List Addr} {H : Hp} {a : IV} {x : V} {k : Key} (r : VR K φ H a x) (e : keyOf a = some k) : x = kV k := by
  cases a with
  | int i => rw [VR] at r; cases e; exact r
  | str i => rw [VR] at r; cases e; exact r
  | non => cases e
  | bl _ => cases e
  | tup _ => cases e
  | lsr _ _ => cases e
  | exc _ _ => cases e
  | fn _ => cases e
  | ref _ => cases e
theorem has_valV {κ : Type} [DecidableEq κ] {K : PySem.W.Frag} {φ : List Addr} {H : Hp} (k : κ) : ∀ {kvs : List (κ × IV)} {ws : List (κ × V)}, KR K φ H kvs ws → (valV ws k).isSome = has k kvs
  | [], ws, r => by rw [KR] at r; subst r; rfl
  | (c, x) :: kvs, ws, r => by
    rw [KR] at r
    obtain ⟨v, s, rfl, _, r2⟩ := r
    have ih := has_valV k r2
    unfold valV at ih ⊢
    unfold has
    by_cases hc : c = k
    · simp [hc]
    · simp only [List.find?_cons, hc, decide_false, if_false, Bool.false_eq_true]
      exact ih

theorem opCmp {X : Cx} (op : CmpOp) (hu : X.A.units + 64 < cLine) : OpR X (compareOp op) (rCmp X.K op) := by
  intro pins s σ H x y v u Q I rx ry hh
  obtain ⟨φ, h, a, b, w, h', r, ra, rb, e0, c⟩ := hh
  have eqs : ∀ (t : Bool), eqH h a b = some t → (Q (.bl t) H → wpAny (model X.prog X.w) X.A (compareOp .Eq v u) (EP X pins σ Q) X.xe s) ∧ (Q (.bl !t) H → wpAny (model X.prog X.w) X.A (compareOp .NotEq v u) (EP X pins σ Q) X.xe s) := fun t e => by
    clear e0 c
    unfold eqH at e
    split at e
    · rename_i r0 e0
      cases e
      obtain ⟨h1, h2⟩ := eqI_scal ra rb e0
      exact ⟨fun q => op_eq pins s σ H x y v u Q I rx ry ⟨h1, by rw [h2]; exact q⟩, fun q => op_ne pins s σ H x y v u Q I rx ry ⟨h1, by rw [h2]; exact q⟩⟩
    · split at e
      · rename_i d d' e1 e2
        cases e
        obtain ⟨a1, a2, a3⟩ := data_dp r DEEP a x d ra e1
        obtain ⟨b1, b2, b3⟩ := data_dp r DEEP b y d' rb e2
        obtain ⟨as, r1⟩ := Dp.reads I d x v a1 rx
        obtain ⟨bs, r2⟩ := Dp.reads I d' y u b1 ry
        have hd : X.A.units + min d.depth d'.depth < cLine := by
          have : min d.depth d'.depth ≤ DEEP := Nat.le_trans (Nat.min_le_left _ _) a3
          have : DEEP = 32 := rfl
          omega
        exact ⟨fun q => SeqAt.eq_plain r1 r2 a2 b2 hd ⟨.bl _, H, I, rfl, q⟩, fun q => SeqAt.ne_plain r1 r2 a2 b2 hd ⟨.bl _, H, I, rfl, q⟩⟩
      · unfold dkS at e
        split at e
        · rename_i p z w1 w2
          split at e
          · rename_i kvs ek
            cases e
            simp only [VR] at ra rb
            obtain ⟨a', ea, rfl⟩ := ra
            obtain ⟨ws, ew, _⟩ := r.obj p a' _ ea ek
            have rb' : y = .str z := rb
            subst rb'
            obtain ⟨t2, rfl⟩ := ry
            have rx' : v = .ref a' := rx
            subst rx'
            obtain ⟨_, _, vs, _, dof⟩ := dk_of I.hok ew
            obtain ⟨⟨cls, dd, data, sl⟩, es, ep, ho, ⟨c1, c2, c3⟩, c4, _⟩ := dof
            simp only at c1 c4
            subst c1 c4
            have hu' : X.A.units < cLine := by omega
            exact ⟨fun q => rc_dict_str z t2 ho hu' _ _ _ _ ⟨.bl _, H, I, rfl, q⟩, fun q => rcNe_dict_str z t2 ho hu' _ _ _ _ ⟨.bl _, H, I, rfl, q⟩⟩
          · cases e
        · rename_i p p2 w1 w2
          split at e
          · rename_i hpq
            subst hpq
            split at e
            · rename_i kk ki ek
              cases e
              simp only [VR] at ra rb
              obtain ⟨a', ea, rfl⟩ := ra
              obtain ⟨b', eb, rfl⟩ := rb
              rw [ea] at eb
              obtain rfl := Option.some.inj eb
              obtain ⟨ws, ew, kr⟩ := r.obj p a' _ ea ek
              have rx' : v = .ref a' := rx
              subst rx'
              have ry' : u = .ref a' := ry
              subst ry'
              obtain ⟨v1, r1, rfl, q1, q2⟩ := kr
              have q2' : r1 = [] := q2
              subst q2'
              rw [VR] at q1
              subst q1
              obtain ⟨_, sy, vs, kv, dof⟩ := dk_of I.hok ew
              obtain ⟨⟨k1, x1⟩, vs', rfl, ⟨e1, e2⟩, kv'⟩ : ∃ q vs', vs = q :: vs' ∧ (kk = q.1 ∧ RelV (.int ki) q.2) ∧ KV [] vs' := by
                cases kv with
                | cons a b => exact ⟨_, _, rfl, a, b⟩
              cases kv'
              simp only at e1 e2
              obtain ⟨t, rfl⟩ := e2
              have hu' : X.A.units < cLine := by omega
              have hits : PySem.W.KeqHits X.A.in1 s [(k1, Value.int ki t)] [(k1, Value.int ki t)] (true && true) := by
                refine .hit (y := Value.int ki t) (by simp [valueAt]) ?_ .nil
                have := SeqAt.EqAt.int_int (A := X.A.in1) (s := s) ki t ki t
                simpa using this
              exact ⟨fun q => PySem.W.keq_eq sy sy dof dof hu' (fun _ => hits) ⟨.bl _, H, I, rfl, q⟩, fun q => PySem.W.keq_ne sy sy dof dof hu' (fun _ => hits) ⟨.bl _, H, I, rfl, q⟩⟩
            · cases e
          · cases e
        · cases e
  have ins : ∀ (t : Bool), inI h a b = some t → (Q (.bl t) H → wpAny (model X.prog X.w) X.A (compareOp .In v u) (EP X pins σ Q) X.xe s) ∧ (Q (.bl !t) H → wpAny (model X.prog X.w) X.A (compareOp .NotIn v u) (EP X pins σ Q) X.xe s) := fun t e => by
    clear e0 c eqs
    have lists : ∀ (xs : List IV) (d : PyData) (es : List PyData) (p : Addr) (vs : List V), y = .ref p → (SqL X.K H p vs ∨ SqT X.K H p vs) → VRs X.K φ H xs vs → dataOf h DEEP a = some d → allM (dataOf h DEEP) xs = some es → (es.any fun y => PyData.eqv y d) = t →
        (Q (.bl t) H → wpAny (model X.prog X.w) X.A (compareOp .In v u) (EP X pins σ Q) X.xe s) ∧ (Q (.bl !t) H → wpAny (model X.prog X.w) X.A (compareOp .NotIn v u) (EP X pins σ Q) X.xe s) := fun xs d es p vs ey hp q e1 e2 et => by
      subst ey
      obtain ⟨a1, a2, a3⟩ := data_dp r DEEP a x d ra e1
      obtain ⟨b1, b2, b3⟩ := allM_dp (data_dp r DEEP) xs vs es q e2
      obtain ⟨as, r1⟩ := Dp.reads I d x v a1 rx
      have hd : X.A.units + 1 + min (PyData.depthAll es) d.depth < cLine := by
        have : min (PyData.depthAll es) d.depth ≤ DEEP := Nat.le_trans (Nat.min_le_left _ _) b3
        have : DEEP = 32 := rfl
        omega
      rcases hp with hp | hp
      · obtain ⟨bs, r2⟩ := Dp.reads I (.list es) (.ref p) u (.lst hp b1) ry
        exact ⟨fun q => SeqAt.in_list_data r2 r1 b2 a2 hd ⟨.bl _, H, I, by rw [et]; rfl, q⟩, fun q => SeqAt.notIn_list_data r2 r1 b2 a2 hd ⟨.bl _, H, I, by rw [et]; rfl, q⟩⟩
      · obtain ⟨bs, r2⟩ := Dp.reads I (.tuple es) (.ref p) u (.tup hp b1) ry
        exact ⟨fun q => SeqAt.in_tuple_data r2 r1 b2 a2 hd ⟨.bl _, H, I, by rw [et]; rfl, q⟩, fun q => SeqAt.notIn_tuple_data r2 r1 b2 a2 hd ⟨.bl _, H, I, by rw [et]; rfl, q⟩⟩
    unfold inI at e
    split at e
    · rename_i p
      have rb' := rb
      rw [VR] at rb'
      obtain ⟨ap, e1, rfl⟩ := rb'
      split at e
      · rename_i kvs e2
        cases q : keyOf a with
        | none => rw [q] at e; cases e
        | some k =>
          rw [q] at e
          have e : has k kvs = t := Option.some.inj e
          obtain ⟨ws, k1, k2⟩ := r.obj p ap _ e1 e2
          have hx := keyOf_kV ra q
          have g : DGet H ap x (valV ws k) := hx ▸ DGet.k k1
          have hv := has_valV k k2
          cases (show u = Value.ref ap from ry)
          refine ⟨fun q' => d_in (by omega) I g rx fun s3 I3 => ⟨.bl _, H, I3, rfl, by rw [hv, e]; exact q'⟩, fun q' => d_notIn (by omega) I g rx fun s3 I3 => ⟨.bl _, H, I3, rfl, by rw [hv, e]; exact q'⟩⟩
      · rename_i xs e2
        split at e
        · rename_i d es f1 f2
          obtain ⟨vs, sq, q, _⟩ := r.sqL e1 e2
          exact lists xs d es ap vs rfl (.inl sq) q f1 f2 (Option.some.inj e)
        · cases e
      · cases e
    · rename_i xs
      split at e
      · rename_i d es f1 f2
        have rb' := rb
        rw [VR] at rb'
        obtain ⟨ap, vs, rfl, sq, q, _⟩ := rb'
        exact lists xs d es ap vs rfl (.inr (.inl (.inl sq))) q f1 f2 (Option.some.inj e)
      · cases e
    · rename_i xs
      split at e
      · rename_i d es f1 f2
        have rb' := rb
        rw [VR] at rb'
        obtain ⟨ap, vs, rfl, sq, q⟩ := rb'
        exact lists xs d es ap vs rfl (.inl (frz_sql sq)) q f1 f2 (Option.some.inj e)
      · cases e
    · rename_i z
      split at e
      · rename_i st
        split at e
        · rename_i ch hc
          cases e
          have es : st = ⟨#[ch]⟩ := by
            obtain ⟨⟨l⟩⟩ := st
            have hc : l = [ch] := hc
            rw [hc]
          rw [VR] at ra rb
          subst ra rb es
          exact ⟨fun q => op_in_sign pins s σ H _ _ v u Q I rx ry ⟨ch, z, rfl, rfl, q⟩, fun q => op_notIn_sign pins s σ H _ _ v u Q I rx ry ⟨ch, z, rfl, rfl, q⟩⟩
        · cases e
      · cases e
    · cases e
  have e := e0
  clear e0
  cases op with
  | Eq =>
    have e : (match eqH h a b with | some r => Out.ok (.bl r) h | none => .stuck) = Out.ok w h' := e
    split at e
    · rename_i t et
      obtain ⟨f1, f2⟩ := out_inj e
      subst f1 f2
      exact (eqs t et).1 (c.bl r)
    · cases e
  | NotEq =>
    have e : (match eqH h a b with | some r => Out.ok (.bl !r) h | none => .stuck) = Out.ok w h' := e
    split at e
    · rename_i t et
      obtain ⟨f1, f2⟩ := out_inj e
      subst f1 f2
      exact (eqs t et).2 (c.bl r)
    · cases e
  | Lt =>
    unfold cmpI at e
    simp only at e
    split at e
    · obtain ⟨f1, f2⟩ := out_inj e
      subst f1 f2
      rw [VR] at ra rb
      exact op_lt pins s σ H x y v u Q I rx ry ⟨_, _, ra, rb, c.bl r⟩
    · cases e
  | LtE =>
    unfold cmpI at e
    simp only at e
    split at e
    · obtain ⟨f1, f2⟩ := out_inj e
      subst f1 f2
      rw [VR] at ra rb
      exact op_le pins s σ H x y v u Q I rx ry ⟨_, _, ra, rb, c.bl r⟩
    · cases e
  | Gt =>
    unfold cmpI at e
    simp only at e
    split at e
    · obtain ⟨f1, f2⟩ := out_inj e
      subst f1 f2
      rw [VR] at ra rb
      exact op_gt pins s σ H x y v u Q I rx ry ⟨_, _, ra, rb, c.bl r⟩
    · cases e
  | GtE =>
    unfold cmpI at e
    simp only at e
    split at e
    · obtain ⟨f1, f2⟩ := out_inj e
      subst f1 f2
      rw [VR] at ra rb
      exact op_ge pins s σ H x y v u Q I rx ry ⟨_, _, ra, rb, c.bl r⟩
    · cases e
  | Is =>
    unfold cmpI at e
    simp only at e
    split at e
    · obtain ⟨f1, f2⟩ := out_inj e
      subst f1 f2
      have hx : a.isNon = decide (x = V.non) := by
        clear e c eqs ins
        cases a <;> simp only [VR] at ra
        · subst ra; rfl
        · subst ra; rfl
        · subst ra; rfl
        · subst ra; rfl
        · obtain ⟨_, _, rfl, _⟩ := ra; rfl
        · obtain ⟨_, _, rfl, _⟩ := ra; rfl
        · obtain ⟨_, _, rfl⟩ := ra; rfl
        · obtain ⟨_, _, _, rfl, _⟩ := ra; rfl
        · obtain ⟨_, _, rfl⟩ := ra; rfl
      rw [VR] at rb
      exact op_isN pins s σ H x y v u Q I rx ry ⟨rb, by rw [← hx]; exact c.bl r⟩
    · split at e
      · obtain ⟨f1, f2⟩ := out_inj e
        subst f1 f2
        rw [VR] at ra rb
        subst ra rb
        exact op_is_bl pins s σ H _ _ v u Q I rx ry ⟨_, _, rfl, rfl, c.bl r⟩
      · cases e
    · cases e
  | IsNot =>
    unfold cmpI at e
    simp only at e
    split at e
    · obtain ⟨f1, f2⟩ := out_inj e
      subst f1 f2
      have hx : (!a.isNon) = !decide (x = V.non) := by
        clear e c eqs ins
        cases a <;> simp only [VR] at ra
        · subst ra; rfl
        · subst ra; rfl
        · subst ra; rfl
        · subst ra; rfl
        · obtain ⟨_, _, rfl, _⟩ := ra; rfl
        · obtain ⟨_, _, rfl, _⟩ := ra; rfl
        · obtain ⟨_, _, rfl⟩ := ra; rfl
        · obtain ⟨_, _, _, rfl, _⟩ := ra; rfl
        · obtain ⟨_, _, rfl⟩ := ra; rfl
      rw [VR] at rb
      exact op_notN pins s σ H x y v u Q I rx ry ⟨rb, by rw [← hx]; exact c.bl r⟩
    · split at e
      · obtain ⟨f1, f2⟩ := out_inj e
        subst f1 f2
        rw [VR] at ra rb
        subst ra rb
        exact op_isnot_bl pins s σ H _ _ v u Q I rx ry ⟨_, _, rfl, rfl, c.bl r⟩
      · cases e
    · cases e
  | In =>
    have e : (match inI h a b with | some r => Out.ok (.bl r) h | none => .stuck) = Out.ok w h' := e
    split at e
    · rename_i t et
      obtain ⟨f1, f2⟩ := out_inj e
      subst f1 f2
      exact (ins t et).1 (c.bl r)
    · cases e
  | NotIn =>
    have e : (match inI h a b with | some r => Out.ok (.bl !r) h | none => .stuck) = Out.ok w h' := e
    split at e
    · rename_i t et
      obtain ⟨f1, f2⟩ := out_inj e
      subst f1 f2
      exact (ins t et).2 (c.bl r)
    · cases e
end Pi
end

section
set_option maxHeartbeats 8000000
namespace Pi
open PySem PySem.Spec PyProof.Rows L2
section
variable {prog : Program} {w : World} {A : Around} {E : Value → Shared → Prop} {s : Shared}
theorem min_list_at {l : Addr} {vs : Array Value} {x : PyData} {xs : List PyData} {as : List Addr} {Q : Value → Shared → Prop} (hh : A.handled = none) (hl : s.heap.IsList l vs) (hr : PySem.ReadsAll s.heap vs.toList (x :: xs) as) (ha : PySem.W.AlikeAll (x :: xs)) (hu : A.units + 1 + PyData.depthAll (x :: xs) < cLine)
    (h : ∀ (i : Nat) v h' tk, vs[i]? = some v → i ≤ xs.length → (x :: xs).getD i .none = PySem.W.minD x xs → (∀ b o, s.heap.get? b = some o → h'.get? b = some o) → Q v { s with heap := h', toks := tk }) :
    wpAny (model prog w) A (call (.builtin "min") [.ref l]) Q E s := by
  have hn : vs.size = xs.length + 1 := PySem.W.readsAll_len hr
  refine call_min_walkH (PySem.W.iter_listW (A := A.in1) hh hl fun s₂ e W st hfp hw hk => ?_)
  refine ⟨_, _, _, _, _, _, _, s.heap, _, rfl, W, st, hfp, by omega, hw, hk, PySem.W.cmpIn_lt (A := A.in1) hr ha (by show A.units + 1 + _ < _; exact hu), fun v s' hP m => ?_⟩
  obtain ⟨h', tk, rfl, hk'⟩ := PySem.W.moved_old e rfl m
  have e1 : vs.size - 1 = xs.length := by omega
  have e2 := PySem.W.argBest_fold PySem.W.dataLt PyData.none x xs xs.length (Nat.le_refl _)
  rw [List.take_length] at e2
  rw [e1] at hP
  exact h _ v h' tk hP e2.1 e2.2 hk'
end
section
variable {X : Cx}
theorem cr_minP (hc : X.calm = true) (hu : X.A.units + 64 < cLine) : CallR X (.builtin "min") (fun us H Q => ∃ (a : Addr) (vs : List V) (d : PyData) (ds : List PyData), us = [V.ref a] ∧ SqL X.K H a vs ∧ DpAll X.K H vs (d :: ds) ∧ PySem.W.AlikeAll (d :: ds) ∧ PyData.depthAll (d :: ds) ≤ 32 ∧
    ∀ (j : Nat) (v : V), vs[j]? = some v → j ≤ ds.length → (d :: ds).getD j .none = PySem.W.minD d ds → Q v H) := by
  intro pins s σ H us vs Q I r h
  obtain ⟨a, vs, d, ds, rfl, hs, hd, ha, dp, q⟩ := h
  obtain ⟨its, rv, hl, _⟩ := I.list hs
  rw [Vals.ref1 r]
  obtain ⟨as, rd⟩ := Dp.readsAll I _ _ _ hd rv
  refine min_list_at (I.ok.hd hc) hl.isList (by simpa using rd) ha (by omega) fun i v h' tk e1 e2 e3 kp => ?_
  have e1' : its[i]? = some v := by simpa using e1
  cases eu : vs[i]? with
  | none => rw [Vals.none_of rv eu] at e1'; cases e1'
  | some u =>
    obtain ⟨u', e4, ru⟩ := Vals.get rv eu
    rw [e1'] at e4
    obtain rfl := Option.some.inj e4
    exact ⟨u, H, I.kept kp, ru, q i u eu e2 e3⟩

def pD (p : Int × Int) : PyData := .tuple [.int p.1, .int p.2]
def pV (p : Int × Int) : IV := .tup [.int p.1, .int p.2]
theorem pairOf_ok {x : IV} {p : Int × Int} (e : pairOf x = some p) : x = pV p := by
  unfold pairOf at e
  split at e
  · cases e; rfl
  · cases e
theorem pairs_ok {h : IH} : ∀ {ys : List IV} {ps : List (Int × Int)}, allM pairOf ys = some ps → ys = ps.map pV ∧ allM (dataOf h DEEP) ys = some (ps.map pD)
  | [], ps, e => by
    have e' : [] = ps := Option.some.inj e
    subst e'; exact ⟨rfl, rfl⟩
  | x :: ys, ps, e => by
    unfold allM at e
    split at e
    · rename_i p ep
      cases q : allM pairOf ys with
      | none => rw [q] at e; cases e
      | some qs =>
        rw [q] at e
        have e' : p :: qs = ps := Option.some.inj e
        subst e'
        obtain ⟨a, b⟩ := pairs_ok (h := h) q
        have c := pairOf_ok ep
        subst c
        refine ⟨by rw [a]; rfl, ?_⟩
        unfold allM
        rw [b]
        rfl
    · cases e
theorem minD_pairs (p : Int × Int) : ∀ ps : List (Int × Int), PySem.W.minD (pD p) (ps.map pD) = pD (ps.foldl (fun a b => if leP a b then a else b) p) := by
  intro ps
  unfold PySem.W.minD
  induction ps generalizing p with
  | nil => rfl
  | cons b ps ih =>
    rw [List.map_cons, List.foldl_cons, List.foldl_cons, ← ih]
    congr 1
    unfold pD leP
    rw [PySem.W.dataLt_ii]
    by_cases c : p.1 < b.1 ∨ (p.1 = b.1 ∧ p.2 ≤ b.2)
    · have : ¬ (b.1 < p.1 ∨ (b.1 = p.1 ∧ b.2 < p.2)) := by omega
      simp [c, this]
    · have : b.1 < p.1 ∨ (b.1 = p.1 ∧ b.2 < p.2) := by omega
      simp [c, this]
variable [ClsTab]
theorem minP_ok (hc : X.calm = true) (hu : X.A.units + 64 < cLine) {φ : List Addr} {h : IH} {H : Hp} {pins : List (Addr × Obj)} {σ : L2.St} {s : Shared} {us : List Value} {Q : VK} (r : Rel X.K φ h H) (I : Inv X pins σ H s) {a : Addr} {vs : List V} (rs : Vals [V.ref a] us) (hs : SqL X.K H a vs) {ys : List IV} (q : VRs X.K φ H ys vs)
    {ps : List (Int × Int)} {m : Int × Int} (ei : allM pairOf ys = some ps) (em : mnP ps = some m) (k : ∀ v, VR X.K φ H (pV m) v → Q v H) :
    wpAny (model X.prog X.w) X.A (call (.builtin "min") us) (EP X pins σ Q) X.xe s := by
  obtain ⟨e1, e2⟩ := pairs_ok (h := h) ei
  cases ps with
  | nil => cases em
  | cons p ps =>
    have em : ps.foldl (fun a b => if leP a b then a else b) p = m := Option.some.inj em
    obtain ⟨d1, _, d3⟩ := allM_dp (data_dp r DEEP) ys vs _ q e2
    refine cr_minP hc hu pins s σ H _ us Q I rs ⟨a, vs, pD p, ps.map pD, rfl, hs, d1, ⟨fun x mx y my => ?_, fun x mx => ?_⟩, d3, fun j v ev hj ed => ?_⟩
    · rw [← List.map_cons] at mx my
      obtain ⟨x, _, rfl⟩ := List.mem_map.mp mx
      obtain ⟨y, _, rfl⟩ := List.mem_map.mp my
      simp [pD, PySem.W.alike, PySem.W.alikeAll]
    · rw [← List.map_cons] at mx
      obtain ⟨x, _, rfl⟩ := List.mem_map.mp mx
      simp [pD]
    · rw [minD_pairs, em] at ed
      rw [List.length_map] at hj
      have hl : j < (p :: ps).length := by simp only [List.length_cons]; omega
      have ex : ys[j]? = some (pV m) := by
        rw [e1, List.getElem?_map, List.getElem?_eq_getElem hl]
        have : pD ((p :: ps)[j]) = pD m := by
          rw [← ed, List.getD_eq_getElem?_getD, ← List.map_cons, List.getElem?_map, List.getElem?_eq_getElem hl]; rfl
        have : (p :: ps)[j] = m := by
          unfold pD at this
          injection this with t
          injection t with t1 t2
          injection t2 with t3 _
          injection t1 with t1
          injection t3 with t3
          exact Prod.ext t1 t3
        rw [this]; rfl
      obtain ⟨v', ev', rv⟩ := q.get ex
      rw [ev] at ev'
      obtain rfl := Option.some.inj ev'
      exact k v rv
end
end Pi
end

section
set_option maxHeartbeats 8000000
namespace Pi
open PySem PySem.Spec PyProof.Rows L2
section
variable {X : Cx}
theorem sort_rest {pins : List (Addr × Obj)} {σ : L2.St} {H : Hp} {s : Shared} {us : List Value} {ks : List Int} {Q : VK} (I : Inv X pins σ H s) (hI : IntsAre us ks) (hz : us.length ≤ sizeLine)
    (q : ∀ (ys : List Int) (p : Addr), ys.Perm ks → ys.Pairwise (· ≤ ·) → H p = none → Q (.ref p) (upd H p (.lst (ys.map V.int)))) {A : Around} :
    wpAny (model X.prog X.w) A (do
      let l ← newList us
      let _ ← holding [l] (call (.builtin "list.sort") [l] [])
      ret l) (fun fin s' => ∃ r, fin = .done (.ret r) ∧ EP X pins σ Q r s') (fun _ _ => False) s := by
  refine wpAny_bind (wpAny_newList ?_ hz)
  have hoL : (s.heap.push (seqObj "list" us.toArray 0)).get? s.heap.objs.size = some (seqObj "list" us.toArray 0) := Heap.get?_push_size _ rfl
  refine wpAny_bind (wpAny_holding (wpAny_call_entry PyProof.Rows.slot_list_sort ⟨_, hoL, rfl⟩ PyProof.Rows.entry_list_sort
    (SrtO.list_sort_ord (s := { s with heap := s.heap.push (seqObj "list" us.toArray 0) }) SrtO.swo_int hoL hz (fun h2 => SrtO.ints_sortable hI h2) fun out g1 g2 => ⟨_, rfl, ?_⟩) (PyProof.Rows.args_list_sort _)))
  obtain ⟨k1, k2, k3⟩ := SrtO.ints_out hI g1 g2
  obtain ⟨ep, hep⟩ := PyProof.Rows.sortedHeap_at (vs := us) (out := out.toArray) hoL
  have hl : ((out.map SrtO.iv).map V.int).length ≤ sizeLine := by
    rw [List.length_map, k2.length_eq, ← hI.length]; exact hz
  refine wpAny_pure ⟨_, rfl, .ref s.heap.objs.size, upd H s.heap.objs.size (.lst ((out.map SrtO.iv).map V.int)), I.laid (t' := s.toks) (fun b u e => ?_) (Nat.le_refl _) ⟨hl, out, ep, vals_of_ints k1, hep⟩, rfl, q _ _ k2 k3 (I.hok.fresh (Nat.le_refl _))⟩
  have hb : b < s.heap.objs.size := Heap.lt_size e
  rw [PyProof.Rows.sortedHeap_old (Nat.ne_of_lt hb) (by rw [size_push']; exact Nat.lt_succ_of_lt hb)]
  exact Heap.get?_push_of_some _ e
def rSortedSetN (w : World) : List V → Hp → VK → Prop := fun vs H Q => ∃ (a : Addr) (S : Int → Bool) (n : Nat), vs = [V.ref a] ∧ H a = some (SetO w a S n) ∧
  ∀ (ns : List Int) (p : Addr), ns.Pairwise (· < ·) → (∀ k : Int, k ∈ ns ↔ S k = true) → ns.length = n → H p = none → Q (.ref p) (upd H p (.lst (ns.map V.int)))
theorem cr_sortedSetN (hc : X.calm = true) : CallR X (.builtin "sorted") (rSortedSetN X.w) := by
  intro pins s σ H vs us Q I r h
  obtain ⟨a, S, n, rfl, ha, q⟩ := h
  rw [Vals.ref1 r]
  obtain ⟨o, es, ep, t, ho, hex, hd, g, nd, hm, hb, hf, hn, hr, hl⟩ := setO_get I ha
  refine Calls.call_function_entry PyProof.Rows.kind_sorted PyProof.Rows.plain_sorted PyProof.Rows.entry_sorted (PyProof.Rows.args_sorted1 _) ?_
  unfold Builtin.«sorted»
  refine wpAny_bind (m := checkCount "sorted" 1 1 _) (wpAny_pure ?_)
  refine wpAny_bind (collect_set (A := X.A.in1) (I.ok.hd hc) ⟨o, ho, hex.1, hd⟩ hf hb hr hl fun s1 us k1 hz g1 o1 pm => ?_)
  have ul : us.length = n := by rw [pm.length_eq, List.length_map, Array.length_toList]; exact hn
  have I1 : Inv X pins σ H s1 := I.call' (ch := []) o1 (Un.kept k1) (I.hok.kept k1) (by rw [g1]; exact I.bare) (fun _ z => nomatch z)
  have hI : IntsAre us (us.map Builtin.Re.reRawOf) := ints_of us fun v hv => by
    obtain ⟨e, he, q⟩ := List.mem_map.mp (pm.mem_iff.mp hv)
    obtain ⟨k, tk, h1, _⟩ := g e he
    exact ⟨k, tk, by rw [← q]; exact h1⟩
  have pk : (us.map Builtin.Re.reRawOf).Perm (es.toList.map L2.keyOf) := by
    have q := pm.map Builtin.Re.reRawOf
    rw [List.map_map] at q
    exact q
  have hu2 : us.length ≤ sizeLine := by
    rw [ul, ← hn]
    refine Nat.le_trans (Nat.le_of_lt hb) ?_
    rw [sizeLine_eq]; decide
  refine wpAny_mono (sort_rest (Q := Q) I1 hI hu2 fun ys p pm2 pw hp => ?_) (fun fin s' hq => ?_) fun _ _ e => e.elim
  · have pn : ys.Perm (es.toList.map L2.keyOf) := pm2.trans pk
    refine q ys p (lt_of_le_nodup ys pw (pn.nodup_iff.mpr nd)) (fun k => by rw [pn.mem_iff, ← hm k]) ?_ hp
    rw [pn.length_eq, List.length_map, Array.length_toList]; exact hn
  · exact hq
theorem call_sortedDIN (hc : X.calm = true) : CallR X (.builtin "sorted") (fun xs H Q => ∃ (a : Addr) (kvs : List (Key × V)) (ks : List Int), xs = [.ref a] ∧ Rd H a (.dK kvs) ∧ kvs.map (·.1) = ks.map Sum.inl ∧ ks.length ≤ sizeLine ∧
    ∀ (ys : List Int) (p : Addr), ys.Perm ks → ys.Pairwise (· ≤ ·) → H p = none → Q (.ref p) (upd H p (.lst (ys.map V.int)))) := by
  intro pins s σ H xs us Q I r q
  obtain ⟨a, kvs, ks, rfl, hd, hks, hz, q⟩ := q
  rw [Vals.ref1 r]
  obtain ⟨z, lo, vs, rel, dd⟩ := dk_rd I.hok hd
  obtain ⟨ep, hat⟩ := dd.dictAt
  have hkeys : vs.map (·.1) = ks.map Sum.inl := rel.keys.symm.trans hks
  have hl : vs.length = ks.length := by simpa using congrArg List.length hkeys
  refine Calls.call_function_entry PyProof.Rows.kind_sorted PyProof.Rows.plain_sorted PyProof.Rows.entry_sorted (PyProof.Rows.args_sorted1 _) ?_
  unfold Builtin.«sorted»
  refine wpAny_bind (m := checkCount "sorted" 1 1 _) (wpAny_pure ?_)
  refine wpAny_bind (PySem.W.kdu_collect (A := X.A.in1) (PySem.W.kdl_dict (knd := mixKind X.prog X.w) (kvs := vs) (ep := ep) lo) (I.ok.hd hc) hat (by rw [hl]; exact hz) fun h' tk acc hk hacc => ?_)
  have hal : acc.toList.length = ks.length := by rw [Array.length_toList, hacc.1, hl]
  have hS : IntsAre acc.toList ks := ints_each hal fun j v e => by
    obtain ⟨k, x, e1, e2⟩ := hacc.2 j v (by rw [← Array.getElem?_toList]; exact e)
    have e3 : (ks.map Sum.inl)[j]? = some k := by rw [← hkeys, List.getElem?_map, e1]; rfl
    rw [List.getElem?_map] at e3
    obtain ⟨y, e4, e5⟩ := Option.map_eq_some_iff.mp e3
    subst e5
    rcases keyIs_shape (show keyIs (Sum.inl y) v = true from e2) with ⟨i, t, ek, ev⟩ | ⟨z, t, ek, ev⟩
    · cases ek
      exact ⟨y, t, e4, ev⟩
    · cases ek
  refine wpAny_mono (sort_rest (Q := Q) (s := { s with heap := h', toks := tk }) (I.kept hk) hS (by rw [hal]; exact hz) fun ys p pm pw hp => q ys p pm pw hp) (fun fin s' hq => ?_) fun _ _ e => e.elim
  exact hq
end
end Pi
end

section
set_option maxHeartbeats 8000000
namespace Pi
open PySem PySem.Spec PyProof.Rows L2
section
variable {X : Cx}
abbrev objS (w : World) : Obj := { cls := .type "set", dict := none, data := .set #[] 0 (.fresh 0 0 (!w.params.followText "set-order")) }
abbrev SO0 (w : World) (D : Addr) : HO := SetO w D (fun _ => false) 0
def tSci (w : World) (wi : TI) (g : TG) (tt : TT) (te : TE) (vs : List Nat) : TE := fun σ H Q => wi σ H fun J H1 => ∀ D, H1 D = none →
  ∃ W : Nat → Nat → Hp → Prop, (∃ m, W 0 m (upd H1 D (SO0 w D))) ∧ ∀ i m H, W i m H →
    (J.stop i H ∧ Q (.ref D) H) ∨
    (J.go i H ∧ ∃ Nx : Hp → Prop, (∀ H', Nx H' → ∃ m', m' < m ∧ W (i + 1) m' H') ∧
      ∀ x H', J.yld i H x H' → g x (wipe σ vs) H' fun σ2 H2 => wipe σ2 vs = wipe σ vs ∧ tt σ2 H2 fun b H3 =>
        if b = true then te σ2 H3 fun y H4 =>
          ∃ (c : Int) (S : Int → Bool) (n : Nat), y = .int c ∧ H4 D = some (SetO w D S n) ∧ n + 1 < scanBound ∧
            Nx (upd H4 D (SetO w D (fun j => S j || decide (j = c)) (if S c = true then n else n + 1)))
        else Nx H3)
theorem setI_add {pins : List (Addr × Obj)} {σ : L2.St} {H : Hp} {s : Shared} {Ex : Value → Shared → Prop} {D : Addr} {S : Int → Bool} {n : Nat} {y : Int} {tk : Tok} {Q : Value → Shared → Prop}
    (I : Inv X pins σ H s) (hD : H D = some (SetO X.w D S n)) (room : n + 1 < scanBound)
    (q : ∀ s', Inv X pins σ (upd H D (SetO X.w D (fun j => S j || decide (j = y)) (if S y = true then n else n + 1))) s' → Q .none s') :
    wpAny (model X.prog X.w) X.A (call (.builtin "set.add") [.ref D, .int y tk]) Q Ex s := by
  refine setR_add (setO_get I hD) room fun g same new => q _ ?_
  have there : ∃ u, g.get? D = some u := new.imp fun u z => let ⟨_, _, _, e, _⟩ := z; e
  exact I.write (e := D) (t' := s.toks + 1) (hD ▸ trivial) (.inl rfl) (fun b u ne e => (same.2 b ne).trans e) there (setO_new new)
theorem sci_core {pins : List (Addr × Obj)} {s : Shared} {σ : L2.St} {H : Hp} {Q : VK} {elt tg iter : Expr} {ifs : List Expr} {scope : Scope} {own : List (PySem.Str × Nat)} {pos pos' : Pos} {wi : TI} {g : TG} {tt : TT} {te : TE}
    {use : Option (Value → Sem Unit)} {Qf : Value → Shared → Prop} (hc : X.calm = true) (hN : X.N.Nodup) (I : Inv X pins σ H s) (hi : PI X tg iter wi) (bk : BlkOk X.N X.env.scope scope own)
    (hg : ∀ (s : Shared) (H : Hp) (C : Addr) (cl : List (PySem.Str × Addr)) (fp : List Addr), PG (X.blk s H scope (compEnvC scope cl C X.env) fp) tg g)
    (ht : ∀ (s : Shared) (H : Hp) (C : Addr) (cl : List (PySem.Str × Addr)) (fp : List Addr), PTs (X.blk s H scope (compEnvC scope cl C X.env) fp) ifs tt)
    (he : ∀ (s : Shared) (H : Hp) (C : Addr) (cl : List (PySem.Str × Addr)) (fp : List Addr), PE (X.blk s H scope (compEnvC scope cl C X.env) fp) elt te)
    (hs : ∀ x, foldedSetIterable iter X.env x = pure x) (h : tSci X.w wi g tt te (own.map (·.2)) σ H Q)
    (fin : ∀ D C s' m H', Inv X pins σ H' s' → Q (.ref D) H' → s'.heap.Ns C m → FpOk X pins H' C → compPost (model X.prog X.w) X.A X.xe use Qf (.ref D) C (.ok .next) s') :
    wpAny (model X.prog X.w) X.A (comprehension (.SetComp elt [⟨tg, iter, ifs, 0⟩] scope pos) scope X.env pos' (newSet (.type "set")) false (eval iter X.env) use) Qf X.xe s := by
  have frees : ∀ y ∈ scope.names, y.2 = .free → ∃ c, X.env.cells.lookup y.1 = some c := fun y my e => (bk.free y my e).elim (fun z => I.ok.has _ (.inl z)) (fun z => I.ok.has _ (.inr z))
  refine wpAny_comprehension_free (use := use) rfl hs (closure_ok frees) bk.kind (fun y my e => by rw [bk.uniq y my, e]) (thn (hi.run pins s σ H _ I h) fun xv sa ha => thn ha fun itv sb hb => ?_)
  obtain ⟨it, fp, tn, J, Hb, rfl, Ib, T, stb, fb, q⟩ := hb
  refine PpSet.newSet_ok (newEnv_comp ?_)
  generalize eD : sb.heap.objs.size = D
  obtain ⟨W, ⟨m0, w0⟩, turn⟩ := q D (Ib.hok.fresh (Nat.le_of_eq eD))
  generalize es : ({ sb with heap := sb.heap.push (objS X.w) } : Shared) = sc
  have Ic : Inv X pins σ (upd Hb D (SO0 X.w D)) sc := by
    rw [← es]
    refine Ib.laid (t' := sb.toks) (fun b o e => Heap.get?_push_of_some _ e) (Nat.le_of_eq eD) ?_
    rw [← eD]
    exact setO_new (setR_fresh X.w)
  have hc3 : sc.heap = sb.heap.push (objS X.w) := by rw [← es]
  have lts : ∀ b ∈ fp, b < sb.heap.objs.size := fun b mb => let ⟨_, e, _⟩ := T.obj _ _ stb b mb; Heap.lt_size e
  have fc : ∀ b ∈ fp, FpOk X pins (upd Hb D (SO0 X.w D)) b ∧ b < sc.heap.objs.size := fun b mb => by
    have lt := lts b mb
    have ne : b ≠ D := by rw [← eD]; exact Nat.ne_of_lt lt
    exact ⟨⟨by rw [upd_ne ne]; exact (fb b mb).1, (fb b mb).2⟩, by rw [hc3, Heap.size_push]; exact Nat.lt_succ_of_lt lt⟩
  have stc : tn 0 sc.heap := T.keep _ _ _ stb fun b _ o e => by rw [hc3]; exact Heap.get?_push_of_some _ e
  have Id := block_start Ic bk hN fc
  generalize eCl : cellsFrom (sc.heap.objs.size + 1) scope.names (cloFrom X.env.cells scope.names []) = cl at Id ⊢
  have pg := hg sc (upd Hb D (SO0 X.w D)) sc.heap.objs.size cl fp
  have pt := ht sc (upd Hb D (SO0 X.w D)) sc.heap.objs.size cl fp
  have pe := he sc (upd Hb D (SO0 X.w D)) sc.heap.objs.size cl fp
  show codeAny _ _ (.compStart (.SetComp elt [⟨tg, iter, ifs, 0⟩] scope pos) 0 (.ref it) (.ref D) (compEnvC scope cl sc.heap.objs.size X.env))
    (compPost (model X.prog X.w) X.A X.xe use Qf (.ref D) sc.heap.objs.size) { sc with heap := pushCells (sc.heap.push { cls := .type "dict", data := .dict #[] }) scope.names }
  have none_at : ∀ b ∈ fp, (upd Hb D (SO0 X.w D)) b = none := fun b mb => (fc b mb).1.1
  generalize eC : compEnvC scope cl sc.heap.objs.size X.env = ce at Id pg pt pe ⊢
  have loc : ce.locals = sc.heap.objs.size := by subst eC; rfl
  generalize eH : upd Hb D (SO0 X.w D) = Hc at Ic Id pg pt pe w0 none_at fc
  generalize ed : ({ sc with heap := pushCells (sc.heap.push { cls := .type "dict", data := .dict #[] }) scope.names } : Shared) = sd at Id ⊢
  have std : tn 0 sd.heap := T.keep _ _ _ stc fun b _ o e => by rw [← ed]; exact pushCells_keeps _ _ _ _ (Heap.get?_push_of_some _ e)
  have still : ∀ {σ' : L2.St} {H' : Hp} {s' : Shared}, Inv (X.blk sc Hc scope ce fp) [] σ' H' s' → (∀ b ∈ fp, H' b = none) → ∀ b ∈ fp, FpOk (X.blk sc Hc scope ce fp) [] H' b :=
    fun {σ' H' s'} I' nn b mb => ⟨nn b mb, (I'.ok.exf b mb).1, I'.ok.exfs b mb, .inl mb, fun x c e => (I'.ok.exf b mb).2 x c e, fun p mp => absurd (show p ∈ ([] : List (Addr × Obj)) ++ [] from mp) (by simp)⟩
  suffices loop : codeAny (model X.prog X.w) X.A (.compLoop (.SetComp elt [⟨tg, iter, ifs, 0⟩] scope pos) 0 (.ref it) (.ref D) ce) (compPost (model X.prog X.w) X.A X.xe use Qf (.ref D) sc.heap.objs.size) sd from
    PpSet.codeAny_compStart_set loop (T.self X.A 0 _ _ _ std loop)
  refine PpSet.compLoopS_any (fun n s' => ∃ i H', Inv (X.blk sc Hc scope ce fp) [] (wipe σ (own.map (·.2))) H' s' ∧ tn i s'.heap ∧ (∀ b ∈ fp, H' b = none) ∧ W i n H') ?_ m0 ⟨0, Hc, Id, std, none_at, w0⟩
  rintro n se ⟨i, He, Ie, ste, ne, we⟩
  rcases turn i n He we with ⟨stop, qq⟩ | ⟨go, Nx, less, step⟩
  · refine thnF (T.done (X.blk sc Hc scope ce fp) rfl rfl rfl hc i [] se _ He (fun _ _ => False) Ie (still Ie ne) ste stop) fun r sf hr => ?_
    obtain ⟨rfl, If⟩ := hr
    have Ig : Inv X pins σ He sf := Ic.call' (ch := fp) If.os If.base If.hok If.bare fun b mb => let z := (fc b mb).1.2; ⟨z.2.2.1, z.1, z.2.2.2.1, z.2.2.2.2⟩
    have hC : He sc.heap.objs.size = none := by
      have z : He ce.locals = none := If.free
      rwa [loc] at z
    obtain ⟨m, hm, _⟩ := If.loc
    have hm : sf.heap.Ns ce.locals m := hm
    rw [loc] at hm
    exact fin D sc.heap.objs.size sf m He Ig qq hm (Ic.fpOk (Nat.le_refl _) hC)
  · refine thnF (T.item (X.blk sc Hc scope ce fp) rfl rfl rfl hc i [] se _ He (fun _ _ => False) Ie (still Ie ne) ste go) fun r sf hr => ?_
    obtain ⟨u, rfl, hf⟩ := hr
    refine thnF hf fun _ sg hg7 => ?_
    obtain ⟨x, Hg, Ig, rg, yg, stg, ng⟩ := hg7
    have Ig' := Ig.pinned (still Ig ng) (T.obj _ _ stg)
    refine thnF (pg.run _ sg _ Hg x u _ Ig' rg (step x Hg yg)) fun _ sh hh => ?_
    obtain ⟨σh, Hh, Ih, wh, qh⟩ := hh
    refine thnF (pt.run _ sh σh Hh _ Ih qh) fun b si hi9 => ?_
    obtain ⟨Hi, Ii, qi⟩ := hi9
    have close : ∀ {s' : Shared} {H' : Hp}, Inv (X.blk sc Hc scope ce fp) ([] ++ pinsAt fp sg.heap) σh H' s' → Nx H' →
        ∃ m, m < n ∧ ∃ i H', Inv (X.blk sc Hc scope ce fp) [] (wipe σ (own.map (·.2))) H' s' ∧ tn i s'.heap ∧ (∀ b ∈ fp, H' b = none) ∧ W i m H' := by
      intro s' H' I' nx
      obtain ⟨m', lt, w'⟩ := less H' nx
      have kept : ∀ b ∈ fp, ∀ o, sg.heap.get? b = some o → s'.heap.get? b = some o ∧ H' b = none := fun b mb o e => by
        have z := I'.pin (b, o) (List.mem_append_right _ (List.mem_append_right _ (mem_pinsAt mb e)))
        exact ⟨z.1, z.2.1⟩
      have len : (wipe σ (own.map (·.2))).length = σh.length := by rw [← wh, wipe_length]
      refine ⟨m', lt, i + 1, H', I'.unpinned (pins := []) |>.weak len (fun j v e => (wipe_some (by rw [← wh] at e; exact e)).1), T.keep _ _ _ stg fun b mb o e => (kept b mb o e).1, fun b mb => ?_, w'⟩
      obtain ⟨o, e, _⟩ := T.obj _ _ stg b mb
      exact (kept b mb o e).2
    cases b with
    | false =>
      rw [if_neg Bool.false_ne_true] at qi ⊢
      exact close Ii qi
    | true =>
      rw [if_pos rfl] at qi ⊢
      refine thnF (pe.run _ si σh Hi _ Ii qi) fun z sj hj => ?_
      obtain ⟨yv, Hj, Ij, rj, c, S, k, rfl, hD, hk, nx⟩ := hj
      obtain ⟨tk, rfl⟩ := (show ∃ tk, z = Value.int c tk from rj)
      exact setI_add (X := X.blk sc Hc scope ce fp) Ij hD hk fun sk Ik => close Ik nx
theorem pe_sci {elt tg iter : Expr} {ifs : List Expr} {scope : Scope} {own : List (PySem.Str × Nat)} {pos : Pos} {wi : TI} {g : TG} {tt : TT} {te : TE} (hc : X.calm = true) (hN : X.N.Nodup) (hi : PI X tg iter wi) (bk : BlkOk X.N X.env.scope scope own)
    (hg : ∀ (s : Shared) (H : Hp) (C : Addr) (cl : List (PySem.Str × Addr)) (fp : List Addr), PG (X.blk s H scope (compEnvC scope cl C X.env) fp) tg g)
    (ht : ∀ (s : Shared) (H : Hp) (C : Addr) (cl : List (PySem.Str × Addr)) (fp : List Addr), PTs (X.blk s H scope (compEnvC scope cl C X.env) fp) ifs tt)
    (he : ∀ (s : Shared) (H : Hp) (C : Addr) (cl : List (PySem.Str × Addr)) (fp : List Addr), PE (X.blk s H scope (compEnvC scope cl C X.env) fp) elt te)
    (hs : ∀ x, foldedSetIterable iter X.env x = pure x) : PE X (.SetComp elt [⟨tg, iter, ifs, 0⟩] scope pos) (tSci X.w wi g tt te (own.map (·.2))) := by
  refine ⟨fun pins s σ H Q I q => ?_⟩
  rw [PpSet.eval_SetComp]
  refine sci_core hc hN I hi bk hg ht he hs q fun D C s' m H' I' qD hn f => ⟨m, hn, fun g' same => ?_⟩
  obtain ⟨z0, z1, z2, z3, z4, z5⟩ := f
  exact ⟨.ref D, H', I'.turned (t' := s'.toks) (fun b o ne e => (same.2 b ne).trans e) z0 z1 z3 z4 z5, rfl, qD⟩
end
end Pi
end

section
set_option maxHeartbeats 8000000
namespace Pi
section
open PySem PySem.Calls PyProof.Rows
theorem slot_bool_abs : Slot "bool" "__abs__" "int.__abs__" :=
  .of (owner := "int") (n := "__abs__") (by rw [typeLookup_type, builtinLookup_eq_fast]; kernel_rfl) (by decide +kernel) (by decide +kernel) (by decide +kernel)
    (by first | exact .inl (by decide +kernel) | exact .inr (by decide +kernel)) (by rw [isSubtype_type]; kernel_rfl)
theorem call_abs_bool {prog : Program} {w : World} {A : Around} {E : Value → Shared → Prop} {s : Shared} {b : Bool} {Q : Value → Shared → Prop} (h : ∀ u tk, Q (.int (if b then 1 else 0) u) { s with toks := tk }) :
    wpAny (model prog w) A (call (.builtin "abs") [.bool b]) Q E s := by
  refine call_function_entry kind_abs plain_abs entry_abs (args_abs _) ?_
  unfold Builtin.«abs»
  refine wpAny_bind (m := oneArg "abs" _) (wpAny_pure ?_)
  refine wpAny_bind (m := callSpecial? (.bool b) (Str.ofString "__abs__")) (wpAny_callSpecial?_slot (name := Str.ofString "__abs__") (show s.TypeIs (.bool b) "bool" from rfl) slot_bool_abs
    (wpAny_call_entry slot_bool_abs (show s.TypeIs (.bool b) "bool" from rfl) entry_int_abs ?_ (args_int_abs _)))
  have h' := h s.toks (s.toks + 1)
  cases b with
  | true => exact wpAny_ret_mkInt (wpAny_pure ⟨_, rfl, h'⟩)
  | false => exact wpAny_ret_mkInt (wpAny_pure ⟨_, rfl, h'⟩)
end
open PySem PySem.Spec PyProof.Rows L2
variable [ClsTab]

theorem atI_map {K : PySem.W.Frag} {φ : List Addr} {H : Hp} {xs : List IV} {vs : List V} {i : Int} {x : IV} (q : VRs K φ H xs vs) (e : atI xs i = some x) : ∃ v, atI vs i = some v ∧ VR K φ H x v := by
  unfold atI at e ⊢
  rw [← q.length]
  cases h : ixN xs.length i with
  | none => rw [h] at e; cases e
  | some j =>
    rw [h] at e
    exact q.get e
def rIxI (K : PySem.W.Frag) : R2 := fun x y H Q => ∃ φ h a b v h', Rel K φ h H ∧ VR K φ H a x ∧ VR K φ H b y ∧ ixI a b h = .ok v h' ∧ Ct K φ h' H v Q
theorem KR.look {κ : Type} [DecidableEq κ] {K : PySem.W.Frag} {φ : List Addr} {H : Hp} (k : κ) : ∀ {kvs : List (κ × IV)} {ws : List (κ × V)}, KR K φ H kvs ws → (∀ x, look k kvs = some x → ∃ v, valV ws k = some v ∧ VR K φ H x v) ∧ (look k kvs = none → valV ws k = none)
  | [], ws, r => by
    rw [KR] at r; subst r
    exact ⟨(fun x e => nomatch e), fun _ => rfl⟩
  | (c, x) :: kvs, ws, r => by
    rw [KR] at r
    obtain ⟨v, s, rfl, r1, r2⟩ := r
    have ih := KR.look k r2
    unfold valV Pi.look at ih ⊢
    by_cases hc : c = k
    · simp [hc]
      exact r1
    · simpa [hc] using ih
theorem KR.mapPut {κ : Type} [DecidableEq κ] {K : PySem.W.Frag} {φ : List Addr} {H : Hp} {k : κ} {x : IV} {v : V} (q : VR K φ H x v) : ∀ {kvs : List (κ × IV)} {ws : List (κ × V)}, KR K φ H kvs ws → KR K φ H (kvs.map fun kv => if kv.1 = k then (kv.1, x) else kv) (ws.map fun kv => if kv.1 = k then (kv.1, v) else kv)
  | [], ws, r => by rw [KR] at r; subst r; simp [KR]
  | (c, y) :: kvs, ws, r => by
    rw [KR] at r
    obtain ⟨w, s, rfl, r1, r2⟩ := r
    have ih := KR.mapPut (k := k) q r2
    by_cases hc : c = k
    · simp only [List.map_cons, hc, if_true]
      rw [KR]
      exact ⟨v, _, rfl, q, ih⟩
    · simp only [List.map_cons, hc, if_false]
      rw [KR]
      exact ⟨w, _, rfl, r1, ih⟩
theorem KR.app1 {κ : Type} {K : PySem.W.Frag} {φ : List Addr} {H : Hp} {k : κ} {x : IV} {v : V} (q : VR K φ H x v) : ∀ {kvs : List (κ × IV)} {ws : List (κ × V)}, KR K φ H kvs ws → KR K φ H (kvs ++ [(k, x)]) (ws ++ [(k, v)])
  | [], ws, r => by
    rw [KR] at r; subst r
    show KR K φ H [(k, x)] [(k, v)]
    rw [KR]
    exact ⟨v, [], rfl, q, by rw [KR]⟩
  | (c, y) :: kvs, ws, r => by
    rw [KR] at r
    obtain ⟨w, s, rfl, r1, r2⟩ := r
    show KR K φ H ((c, y) :: (kvs ++ [(k, x)])) ((c, w) :: (s ++ [(k, v)]))
    rw [KR]
    exact ⟨w, _, rfl, r1, KR.app1 q r2⟩
theorem KR.any {κ : Type} [DecidableEq κ] {K : PySem.W.Frag} {φ : List Addr} {H : Hp} (k : κ) : ∀ {kvs : List (κ × IV)} {ws : List (κ × V)}, KR K φ H kvs ws → has k kvs = ws.any fun kv => decide (kv.1 = k)
  | [], ws, r => by rw [KR] at r; subst r; rfl
  | (c, x) :: kvs, ws, r => by
    rw [KR] at r
    obtain ⟨v, s, rfl, _, r2⟩ := r
    unfold has
    rw [List.any_cons, ← KR.any k r2]
    by_cases h : c = k <;> simp [h]
theorem KR.put {κ : Type} [DecidableEq κ] {K : PySem.W.Frag} {φ : List Addr} {H : Hp} {k : κ} {x : IV} {v : V} (q : VR K φ H x v) {kvs : List (κ × IV)} {ws : List (κ × V)} (r : KR K φ H kvs ws) : KR K φ H (put k x kvs) (putK ws k v) := by
  unfold Pi.put putK
  rw [KR.any k r]
  split
  · exact r.mapPut q
  · exact r.app1 q
theorem keysOf_kV {K : PySem.W.Frag} {φ : List Addr} {H : Hp} : ∀ {xs : List IV} {vs : List V} {ks : List Key}, VRs K φ H xs vs → keysOf xs = some ks → vs = ks.map kV
  | [], vs, ks, r, e => by
    rw [VRs] at r
    have : ([] : List Key) = ks := Option.some.inj e
    subst this; exact r
  | x :: xs, vs, ks, r, e => by
    rw [VRs] at r
    obtain ⟨v, s, rfl, r1, r2⟩ := r
    unfold keysOf at e
    split at e
    · rename_i k ek
      obtain ⟨ks', e1, rfl⟩ := Option.map_eq_some_iff.mp e
      rw [List.map_cons, ← keysOf_kV r2 e1, keyOf_kV r1 ek]
    · cases e
theorem opIx {X : Cx} (hu : X.A.units + 64 < cLine) : IxR X (rIxI X.K) := by
  intro value slice pins s σ H x y v u Q I rx ry hh hs
  obtain ⟨φ, h, a, b, w, h', r, ra, rb, e, c⟩ := hh
  unfold ixI at e
  split at e
  · rename_i k
    split at e
    · rename_i xs es
      split at e
      · rename_i z ez
        obtain ⟨f1, f2⟩ := out_inj e
        subst f1 f2
        rw [VR] at rb
        obtain ⟨p, vs, e1, sq, q, _⟩ := r.seqV ra es
        obtain ⟨t, et, rt⟩ := atI_map q ez
        rcases sq with sq | sq
        · exact ix_list value slice pins s σ H x y v u Q I rx ry ⟨p, vs, k, t, e1, rb, sq, et, c.here r rt⟩ hs
        · exact ix_tup value slice pins s σ H x y v u Q I rx ry ⟨p, vs, k, t, e1, rb, sq, et, c.here r rt⟩ hs
      · cases e
    · cases a with
      | str z =>
        simp only at e
        split at e
        · rename_i hz
          split at e
          · rename_i ch hc
            obtain ⟨f1, f2⟩ := out_inj e
            subst f1 f2
            have ra' : x = .str z := ra
            have rb' : y = .int k := rb
            subst ra' rb'
            exact ix_str value slice pins s σ H _ _ v u Q I rx ry ⟨z, k, ch, rfl, rfl, lim_le hz, hc, c.str r⟩ hs
          · cases e
        · cases e
      | ref n =>
        simp only at e
        split at e
        · rename_i kvs ek
          split at e
          · rename_i z ez
            obtain ⟨f1, f2⟩ := out_inj e
            subst f1 f2
            simp only [VR] at ra rb
            obtain ⟨p, e1, rfl⟩ := ra
            subst rb
            obtain ⟨ws, k1, q⟩ := r.obj n p _ e1 ek
            obtain ⟨zv, ev, rz⟩ := (q.look (.inl k)).1 _ ez
            obtain rfl : v = Value.ref p := rx
            have g : DGet H p (.int k) (some zv) := by
              have := DGet.k (k := .inl k) k1
              rw [ev] at this
              exact this
            exact tail_any (dict_typeIs I g) PySem.F.slot_dict_getitem.lookup (d_getItem (by omega) I g ry fun w' s' I' rw' => ⟨zv, H, I', rw', c.here r rz⟩) hs
          · cases e
        · cases e
      | _ => cases e
  · cases e

def rSlI (K : PySem.W.Frag) : V → Option Int → Option Int → Hp → VK → Prop := fun x lo hi H Q => ∃ φ h a v h', Rel K φ h H ∧ VR K φ H a x ∧ slI a lo hi h = .ok v h' ∧ Ct K φ h' H v Q
theorem VRs.cut {K : PySem.W.Frag} {φ : List Addr} {H : Hp} {xs : List IV} {vs : List V} (q : VRs K φ H xs vs) (lo hi : Option Int) : VRs K φ H (cutI xs lo hi) (cutV vs lo hi) := by
  unfold cutI cutV
  rw [q.length]
  exact (q.drop _).take _
theorem opSl {X : Cx} : SlR X (rSlI X.K) := by
  intro pins s σ H x v vl vu lo hi sl Q I rx hs pl pu hh
  obtain ⟨φ, h, a, w, h', r, ra, e, c⟩ := hh
  have lists : ∀ xs, lstOf h a = some xs → Out.ok (IV.ref h.length) (h ++ [.lst (cutI xs lo hi)]) = Out.ok w h' → ∃ T id, typeLookup (.type T) "__getitem__" = pure (some (.builtin id)) ∧ s.TypeIs v T ∧ wpAny (model X.prog X.w) X.A (getItem v (.ref sl)) (EP X pins σ Q) X.xe s := fun xs es e => by
    obtain ⟨f1, f2⟩ := out_inj e
    subst f1 f2
    obtain ⟨p, vs, e1, sq, q, _⟩ := r.lstV ra es
    exact sl_list pins s σ H x v vl vu lo hi sl Q I rx hs pl pu ⟨p, vs, e1, sq, fun p' hp => c.list r (q.cut lo hi) hp⟩
  unfold slI at e
  split at e
  · rename_i xs
    obtain ⟨f1, f2⟩ := out_inj e
    subst f1 f2
    rw [VR] at ra
    obtain ⟨p, vs, e1, sq, q, z⟩ := ra
    have qc := q.cut lo hi
    have lc := cutV_length vs lo hi
    refine sl_tupA pins s σ H x v vl vu lo hi sl Q I rx hs pl pu ⟨p, vs, e1, .inl (.inl sq), fun w => ?_, fun _ p' hp => c.tup r qc (Nat.le_trans lc z) hp⟩
    refine c.here r ?_
    rw [VR]
    refine ⟨p, vs, rfl, sq, ?_, z⟩
    have : cutV vs lo hi = vs := by
      unfold cutV
      rw [w.1, w.2, List.drop_zero, Nat.sub_zero, List.take_length]
    rw [this] at qc
    exact qc
  · split at e
    · rename_i xs es
      exact lists xs es e
    · cases a with
      | str z =>
        simp only at e
        split at e
        · rename_i hz
          obtain ⟨f1, f2⟩ := out_inj e
          subst f1 f2
          rw [VR] at ra
          subst ra
          exact sl_str pins s σ H _ v vl vu lo hi sl Q I rx hs pl pu ⟨z, rfl, lim_le hz, c.str r⟩
        · cases e
      | _ => cases e

def rSetI (K : PySem.W.Frag) : TSet := fun o i v H Q => ∃ φ h a b z h', Rel K φ h H ∧ VR K φ H a o ∧ VR K φ H b i ∧ VR K φ H z v ∧ setI a b z h = .ok () h' ∧ ∀ φ' H', Px φ φ' → Kp φ φ' H H' → Rel K φ' h' H' → Q H'
theorem opSet {X : Cx} (hu : X.A.units + 64 < cLine) : PSet X (rSetI X.K) := by
  intro pins s σ H o i v ov iv u Q I ro ri rv hh
  obtain ⟨φ, h, a, b, z, h', r, ra, rb, rz, e, c⟩ := hh
  unfold setI at e
  split at e
  · rename_i n k
    split at e
    · rename_i xs ex
      split at e
      · rename_i j ej
        obtain ⟨_, f2⟩ := out_inj e
        subst f2
        simp only [VR] at ra rb
        obtain ⟨p, e1, rfl⟩ := ra
        obtain ⟨vs, k1, q⟩ := r.obj n p _ e1 ex
        have nf : ¬ Fx (HO.lst vs) := fun z => z
        have kp : Kp φ φ H (upd H p (.lst (vs.set j v))) := .set e1 k1 nf
        refine set_list pins s σ H _ i v ov iv u Q I ro ri rv ⟨p, vs, k, j, rfl, rb, k1, by rw [← q.length]; exact ej, c φ _ (.refl φ) kp ?_⟩
        exact r.set e1 k1 nf ⟨_, upd_same, (VRs.set rz j q).mono (.refl φ) kp⟩
      · cases e
    · rename_i kvs ek
      split at e
      · rename_i hlen
        obtain ⟨_, f2⟩ := out_inj e
        subst f2
        simp only [VR] at ra rb
        obtain ⟨p, e1, rfl⟩ := ra
        subst rb
        obtain ⟨ws, k1, q⟩ := r.obj n p _ e1 ek
        have nf : ¬ Fx (HO.dK ws) := fun z => z
        have kp : Kp φ φ H (upd H p (.dK (putK ws (.inl k) v))) := .set e1 k1 nf
        refine set_dict (by omega) pins s σ H _ _ v ov iv u Q I ro ri rv ⟨p, _, rfl, DPut.k (k := .inl k) k1 (by rw [← q.length]; exact lim_lt hlen), c φ _ (.refl φ) kp ?_⟩
        exact r.set e1 k1 nf ⟨_, upd_same, (KR.put rz q).mono (.refl φ) kp⟩
      · cases e
    · cases e
  · rename_i n ks
    split at e
    · rename_i key kvs ekey ek
      split at e
      · rename_i hlen
        obtain ⟨_, f2⟩ := out_inj e
        subst f2
        simp only [VR] at ra rb
        obtain ⟨p, e1, rfl⟩ := ra
        obtain ⟨b, vs, rfl, eb, qb, _⟩ := rb
        obtain ⟨ws, k1, q⟩ := r.obj n p _ e1 ek
        have nf : ¬ Fx (HO.dT ws) := fun z => z
        have kp : Kp φ φ H (upd H p (.dT (putK ws key v))) := .set e1 k1 nf
        have ev := keysOf_kV qb ekey
        subst ev
        refine set_dict (by omega) pins s σ H _ _ v ov iv u Q I ro ri rv ⟨p, _, rfl, DPut.t k1 eb (by rw [← q.length]; exact lim_lt hlen), c φ _ (.refl φ) kp ?_⟩
        exact r.set e1 k1 nf ⟨_, upd_same, (KR.put rz q).mono (.refl φ) kp⟩
      · cases e
    · cases e
  · cases e

theorem truV {K : PySem.W.Frag} {φ : List Addr} {H : Hp} {h : IH} {a : IV} {x : V} {t : Bool} (r : Rel K φ h H) (ra : VR K φ H a x) (e : truI a h = some t) : TruV K x H t := by
  have emp : ∀ {xs : List IV} {vs : List V}, xs.length = vs.length → xs.isEmpty = vs.isEmpty := fun {xs vs} l => by
    cases xs <;> cases vs <;> first | rfl | cases l
  cases a with
  | non => rw [VR] at ra; subst ra; cases e; rfl
  | bl b => rw [VR] at ra; subst ra; cases e; rfl
  | int b => rw [VR] at ra; subst ra; cases e; rfl
  | str b =>
    rw [VR] at ra
    subst ra
    unfold truI at e
    simp only at e
    split at e
    · rename_i hz
      cases e
      exact ⟨lim_le hz, rfl⟩
    · cases e
  | tup xs =>
    rw [VR] at ra
    obtain ⟨p, vs, rfl, s, q, _⟩ := ra
    cases e
    exact .inr (.inl ⟨vs, .inl (.inl s), by rw [emp q.length]⟩)
  | exc _ _ => cases e
  | fn _ => cases e
  | lsr _ xs =>
    rw [VR] at ra
    obtain ⟨p, vs, rfl, s, q⟩ := ra
    cases e
    exact .inl ⟨vs, frz_sql s, by rw [emp q.length]⟩
  | ref i =>
    rw [VR] at ra
    obtain ⟨p, e1, rfl⟩ := ra
    unfold truI at e
    simp only at e
    split at e
    · rename_i xs ex
      cases e
      obtain ⟨vs, s, q, l⟩ := r.sqL e1 ex
      exact .inl ⟨vs, s, by rw [emp l]⟩
    · rename_i xs ex
      cases e
      obtain ⟨ws, k1, k2⟩ := r.obj i p _ e1 ex
      have l := k2.length
      refine .inr (.inr ⟨ws, k1, ?_⟩)
      cases xs <;> cases ws <;> first | rfl | cases l
    · cases e

def rBlt (K : PySem.W.Frag) (f : Bt) : List V → Hp → VK → Prop := fun xs H Q => ∃ φ h ivs v h', Rel K φ h H ∧ VRs K φ H ivs xs ∧ bltI f ivs h = .ok v h' ∧ Ct K φ h' H v Q
theorem VRs.one_inv {K : PySem.W.Frag} {φ : List Addr} {H : Hp} {x : IV} {vs : List V} (q : VRs K φ H [x] vs) : ∃ v, vs = [v] ∧ VR K φ H x v := by
  rw [VRs] at q
  obtain ⟨v, r, rfl, q1, q2⟩ := q
  rw [VRs] at q2
  subst q2
  exact ⟨v, rfl, q1⟩
theorem VRs.two_inv {K : PySem.W.Frag} {φ : List Addr} {H : Hp} {x y : IV} {vs : List V} (q : VRs K φ H [x, y] vs) : ∃ v u, vs = [v, u] ∧ VR K φ H x v ∧ VR K φ H y u := by
  rw [VRs] at q
  obtain ⟨v, r, rfl, q1, q2⟩ := q
  obtain ⟨u, rfl, q3⟩ := q2.one_inv
  exact ⟨v, u, rfl, q1, q3⟩
theorem srt_eq {ns ns' : List Int} (pm : ns'.Perm ns) (pw : ns'.Pairwise (· ≤ ·)) : ns' = srt ns := by
  have p2 : (srt ns).Perm ns := List.mergeSort_perm _ _
  have w2 : (srt ns).Pairwise (· ≤ ·) := (List.pairwise_mergeSort (fun a b c h1 h2 => by simp at *; omega) (fun a b => by simp; omega) ns).imp fun h => by simpa using h
  exact List.Perm.eq_of_pairwise (fun a b _ _ h1 h2 => Int.le_antisymm h1 h2) pw w2 (pm.trans p2.symm)
theorem KR.keys {κ : Type} {K : PySem.W.Frag} {φ : List Addr} {H : Hp} : ∀ {kvs : List (κ × IV)} {ws : List (κ × V)}, KR K φ H kvs ws → ws.map (·.1) = kvs.map (·.1)
  | [], ws, r => by rw [KR] at r; subst r; rfl
  | (c, x) :: kvs, ws, r => by
    rw [KR] at r
    obtain ⟨v, s, rfl, _, r2⟩ := r
    rw [List.map_cons, List.map_cons, KR.keys r2]
theorem intKeys_eq : ∀ {ks : List Key} {ns : List Int}, intKeys ks = some ns → ks = ns.map Sum.inl
  | [], ns, e => by
    have : ([] : List Int) = ns := Option.some.inj e
    subst this; rfl
  | .inl i :: r, ns, e => by
    unfold intKeys at e
    obtain ⟨ms, e1, rfl⟩ := Option.map_eq_some_iff.mp e
    rw [List.map_cons, ← intKeys_eq e1]
  | .inr _ :: _, ns, e => nomatch e
theorem VRs.ofKeys {K : PySem.W.Frag} {φ : List Addr} {H : Hp} : ∀ ks : List Key, VRs K φ H (ks.map keyV) (ks.map kV)
  | [] => by simp [VRs]
  | k :: ks => by
    rw [List.map_cons, List.map_cons, VRs]
    refine ⟨_, _, rfl, ?_, VRs.ofKeys ks⟩
    cases k with
    | inl i => show VR K φ H (.int i) (.int i); rw [VR]
    | inr i => show VR K φ H (.str i) (.str i); rw [VR]
theorem keys_refs {X : Cx} {φ : List Addr} {pins : List (Addr × Obj)} {σ : L2.St} {H : Hp} {s : Shared} (I : Inv X pins σ H s) : ∀ {kvs : List (List Key × IV)} {ws : List (List Key × V)} {bs : List Addr}, KR X.K φ H kvs ws → IsKeys H ws bs → VRs X.K φ H (kvs.map fun kv => .tup (kv.1.map keyV)) (bs.map V.ref)
  | [], ws, bs, r, k => by
    rw [KR] at r; subst r
    cases k
    simp [VRs]
  | (c, x) :: kvs, ws, bs, r, k => by
    rw [KR] at r
    obtain ⟨v, s, rfl, _, r2⟩ := r
    cases k with
    | cons h1 h2 =>
      rename_i b bs
      rw [List.map_cons, List.map_cons, VRs]
      refine ⟨_, _, rfl, ?_, keys_refs I r2 h2⟩
      rw [VR]
      obtain ⟨_, _, _, hz⟩ := I.tuple (.inl (.inl h1))
      exact ⟨b, _, rfl, h1, VRs.ofKeys c, hz⟩
theorem call_str_non {X : Cx} : CallR X (.type "str") (fun xs H Q => xs = [.non] ∧ Q (.str (Str.ofString "None")) H) := by
  intro pins s σ H xs us Q I r h
  obtain ⟨rfl, q⟩ := h
  obtain ⟨u, rfl, r1⟩ := vals1 r
  cases r1
  exact PySem.P.str_of_none ⟨.str _, H, I.tok _, ⟨_, rfl⟩, q⟩
theorem opBlt {X : Cx} (hc : X.calm = true) (hu : X.A.units + 64 < cLine) (f : Bt) : CallR X f.value (rBlt X.K f) := by
  intro pins s σ H xs us Q I rs hh
  obtain ⟨φ, h, ivs, w, h', r, qs, e, c⟩ := hh
  cases f with
  | abs =>
    unfold bltI at e
    simp only at e
    split at e
    · obtain ⟨f1, f2⟩ := out_inj e
      subst f1 f2
      obtain ⟨v, rfl, q⟩ := qs.one_inv
      rw [VR] at q
      subst q
      exact call_abs pins s σ H _ us Q I rs ⟨_, rfl, c.int r⟩
    · obtain ⟨f1, f2⟩ := out_inj e
      subst f1 f2
      obtain ⟨v, rfl, q⟩ := qs.one_inv
      rw [VR] at q
      subst q
      have q2 := c.int r
      obtain ⟨u, rfl, e1⟩ := vals1 rs
      cases e1
      exact call_abs_bool fun u tk => ⟨.int _, _, I.tok _, ⟨_, rfl⟩, q2⟩
    · cases e
  | len =>
    unfold bltI at e
    simp only at e
    split at e
    · split at e
      · rename_i hz
        obtain ⟨f1, f2⟩ := out_inj e
        subst f1 f2
        obtain ⟨v, rfl, q⟩ := qs.one_inv
        rw [VR] at q
        subst q
        exact call_len_str pins s σ H _ us Q I rs ⟨_, rfl, lim_le hz, c.int r⟩
      · cases e
    · obtain ⟨f1, f2⟩ := out_inj e
      subst f1 f2
      obtain ⟨v, rfl, q⟩ := qs.one_inv
      rw [VR] at q
      obtain ⟨p, vs, rfl, sq, q, _⟩ := q
      refine call_len_seq pins s σ H _ us Q I rs ⟨p, vs, rfl, .inr (.inl (.inl sq)), ?_⟩
      rw [← q.length]
      exact c.int r
    · obtain ⟨f1, f2⟩ := out_inj e
      subst f1 f2
      obtain ⟨v, rfl, q⟩ := qs.one_inv
      rw [VR] at q
      obtain ⟨p, vs, rfl, sq, q⟩ := q
      refine call_len_seq pins s σ H _ us Q I rs ⟨p, vs, rfl, .inl (frz_sql sq), ?_⟩
      rw [← q.length]
      exact c.int r
    · rename_i i
      obtain ⟨v, rfl, q⟩ := qs.one_inv
      rw [VR] at q
      obtain ⟨p, e1, rfl⟩ := q
      split at e
      · rename_i ys ey
        obtain ⟨f1, f2⟩ := out_inj e
        subst f1 f2
        obtain ⟨vs, sq, q, l⟩ := r.sqL e1 ey
        refine call_len_seq pins s σ H _ us Q I rs ⟨p, vs, rfl, .inl sq, ?_⟩
        rw [← l]
        exact c.int r
      · rename_i ys ey
        obtain ⟨f1, f2⟩ := out_inj e
        subst f1 f2
        obtain ⟨ws, k1, k2⟩ := r.obj i p _ e1 ey
        refine call_lenD pins s σ H _ us Q I rs ⟨p, ws, rfl, k1, ?_⟩
        rw [← k2.length]
        exact c.int r
      · rename_i ys ey
        split at e
        · rename_i hz
          obtain ⟨f1, f2⟩ := out_inj e
          subst f1 f2
          have k1 : H p = some (.set (fun k => ys.any (· == k)) ys.length) := r.obj i p _ e1 ey
          obtain ⟨o, es, ep, t, ho, hex, hd, _, _, _, hf, hn⟩ := (I.hok p _ k1 : s.heap.SetOf _ p _ _)
          rw [Vals.ref1 rs]
          refine PySem.call_len_set ho hex hd hf (by rw [hn]; unfold LIM at hz; omega) ⟨.int ys.length, H, I.tok _, ⟨_, by rw [hn]⟩, c.int r⟩
        · cases e
      · cases e
    · cases e
  | list =>
    unfold bltI at e
    simp only at e
    split at e
    · split at e
      · rename_i ys ey
        obtain ⟨f1, f2⟩ := out_inj e
        subst f1 f2
        obtain ⟨v, rfl, q⟩ := qs.one_inv
        obtain ⟨p, vs, rfl, sq, q, _⟩ := r.seqV q ey
        exact call_list_of pins s σ H _ us Q I rs ⟨p, vs, rfl, sq, fun l hl => c.list r q hl⟩
      · rename_i z _ _
        cases z with
        | ref n =>
          simp only at e
          split at e
          · rename_i kvs ek
            obtain ⟨f1, f2⟩ := out_inj e
            subst f1 f2
            obtain ⟨v, rfl, q⟩ := qs.one_inv
            rw [VR] at q
            obtain ⟨p, e1, rfl⟩ := q
            obtain ⟨ws, k1, q⟩ := r.obj n p _ e1 ek
            exact call_list_dT hc pins s σ H _ us Q I rs ⟨p, ws, rfl, .inl k1, fun l bs hl hk => c.list r (keys_refs I q hk) hl⟩
          · cases e
        | _ => cases e
    · cases e
  | tuple =>
    unfold bltI at e
    simp only at e
    split at e
    · rename_i ys
      obtain ⟨f1, f2⟩ := out_inj e
      subst f1 f2
      obtain ⟨v, rfl, q⟩ := qs.one_inv
      have q0 := q
      rw [VR] at q0
      obtain ⟨p, vs, rfl, sq, q1, z⟩ := q0
      exact call_tuple_of pins s σ H _ us Q I rs ⟨p, vs, rfl, .inr ⟨.inl (.inl sq), c.here r q⟩⟩
    · rename_i i
      split at e
      · rename_i ys ey
        obtain ⟨f1, f2⟩ := out_inj e
        subst f1 f2
        obtain ⟨v, rfl, q⟩ := qs.one_inv
        obtain ⟨p, vs, rfl, sq, q, _⟩ := r.lstV q ey
        obtain ⟨_, _, _, z⟩ := I.list sq
        exact call_tuple_of pins s σ H _ us Q I rs ⟨p, vs, rfl, .inl ⟨sq, fun l hl => c.tup r q z hl⟩⟩
      · cases e
    · rename_i ys
      obtain ⟨f1, f2⟩ := out_inj e
      subst f1 f2
      obtain ⟨v, rfl, q⟩ := qs.one_inv
      rw [VR] at q
      obtain ⟨p, vs, rfl, sq, q⟩ := q
      obtain ⟨_, _, _, z⟩ := I.list (frz_sql sq)
      exact call_tuple_of pins s σ H _ us Q I rs ⟨p, vs, rfl, .inl ⟨frz_sql sq, fun l hl => c.tup r q z hl⟩⟩
    · cases e
  | int =>
    unfold bltI at e
    simp only at e
    split at e
    · obtain ⟨f1, f2⟩ := out_inj e
      subst f1 f2
      obtain ⟨v, rfl, q⟩ := qs.one_inv
      rw [VR] at q
      subst q
      exact call_int1 pins s σ H _ us Q I rs (.inl ⟨_, rfl, c.int r⟩)
    · obtain ⟨f1, f2⟩ := out_inj e
      subst f1 f2
      obtain ⟨v, rfl, q⟩ := qs.one_inv
      rw [VR] at q
      subst q
      exact call_int1 pins s σ H _ us Q I rs (.inr ⟨_, rfl, c.int r⟩)
    · split at e
      · rename_i n hn
        split at e
        · rename_i hz
          obtain ⟨f1, f2⟩ := out_inj e
          subst f1 f2
          obtain ⟨v, rfl, q⟩ := qs.one_inv
          rw [VR] at q
          subst q
          exact call_int_str pins s σ H _ us Q I rs ⟨_, n, rfl, hn, hz, c.int r⟩
        · cases e
      · cases e
    · cases e
  | max =>
    unfold bltI at e
    simp only at e
    split at e
    · obtain ⟨f1, f2⟩ := out_inj e
      subst f1 f2
      obtain ⟨v, u, rfl, q1, q2⟩ := qs.two_inv
      rw [VR] at q1 q2
      subst q1 q2
      exact call_max2 hc pins s σ H _ us Q I rs ⟨_, _, rfl, c.int r⟩
    · rename_i z
      split at e
      · rename_i m em
        obtain ⟨f1, f2⟩ := out_inj e
        subst f1 f2
        obtain ⟨v, rfl, q⟩ := qs.one_inv
        obtain ⟨ns, en, em⟩ := Option.bind_eq_some_iff.mp em
        obtain ⟨ys, ey, ei⟩ := Option.bind_eq_some_iff.mp en
        obtain ⟨p, vs, rfl, sq, q, _⟩ := r.lstV q ey
        have ev := q.ints ei
        subst ev
        have ok := mxI_ok em
        refine cr_max hc pins s σ H _ us Q I rs ⟨p, ns, rfl, sq, List.length_pos_of_mem ok.1, fun m' hm hm2 => ?_⟩
        have : m' = m := Int.le_antisymm (ok.2 _ hm) (hm2 _ ok.1)
        subst this
        exact c.int r
      · cases e
    · cases e
  | min =>
    unfold bltI at e
    simp only at e
    split at e
    · obtain ⟨f1, f2⟩ := out_inj e
      subst f1 f2
      obtain ⟨v, u, rfl, q1, q2⟩ := qs.two_inv
      rw [VR] at q1 q2
      subst q1 q2
      exact call_min2 hc pins s σ H _ us Q I rs ⟨_, _, rfl, c.int r⟩
    · rename_i z
      split at e
      · rename_i m em
        obtain ⟨f1, f2⟩ := out_inj e
        subst f1 f2
        obtain ⟨v, rfl, q⟩ := qs.one_inv
        obtain ⟨ns, en, em⟩ := Option.bind_eq_some_iff.mp em
        obtain ⟨ys, ey, ei⟩ := Option.bind_eq_some_iff.mp en
        obtain ⟨p, vs, rfl, sq, q, _⟩ := r.lstV q ey
        have ev := q.ints ei
        subst ev
        have ok := mnI_ok em
        refine cr_min hc pins s σ H _ us Q I rs ⟨p, ns, rfl, sq, List.length_pos_of_mem ok.1, fun m' hm hm2 => ?_⟩
        have : m' = m := Int.le_antisymm (hm2 _ ok.1) (ok.2 _ hm)
        subst this
        exact c.int r
      · split at e
        · rename_i m em
          obtain ⟨f1, f2⟩ := out_inj e
          subst f1 f2
          obtain ⟨v, rfl, q⟩ := qs.one_inv
          obtain ⟨ns, en, em⟩ := Option.bind_eq_some_iff.mp em
          obtain ⟨ys, ey, ei⟩ := Option.bind_eq_some_iff.mp en
          obtain ⟨p, vs, rfl, sq, q, _⟩ := r.lstV q ey
          exact minP_ok hc hu r I rs sq q ei em fun v q => c.here r q
        · cases e
    · cases e
  | sum =>
    unfold bltI at e
    simp only at e
    split at e
    · rename_i z
      split at e
      · rename_i ns en
        obtain ⟨f1, f2⟩ := out_inj e
        subst f1 f2
        obtain ⟨v, rfl, q⟩ := qs.one_inv
        obtain ⟨ys, ey, ei⟩ := Option.bind_eq_some_iff.mp en
        obtain ⟨p, vs, rfl, sq, q, _⟩ := r.lstV q ey
        have ev := q.ints ei
        subst ev
        exact cr_sum hc pins s σ H _ us Q I rs ⟨p, ns, rfl, sq, c.int r⟩
      · cases e
    · cases e
  | all =>
    unfold bltI at e
    simp only at e
    split at e
    · rename_i z
      split at e
      · rename_i ns en
        obtain ⟨f1, f2⟩ := out_inj e
        subst f1 f2
        obtain ⟨v, rfl, q⟩ := qs.one_inv
        obtain ⟨ys, ey, ei⟩ := Option.bind_eq_some_iff.mp en
        obtain ⟨p, vs, rfl, sq, q, _⟩ := r.lstV q ey
        have ev := q.bls ei
        subst ev
        exact cr_all hc pins s σ H _ us Q I rs ⟨p, ns, rfl, sq, c.bl r⟩
      · cases e
    · cases e
  | any =>
    unfold bltI at e
    simp only at e
    split at e
    · rename_i z
      split at e
      · rename_i ns en
        obtain ⟨f1, f2⟩ := out_inj e
        subst f1 f2
        obtain ⟨v, rfl, q⟩ := qs.one_inv
        obtain ⟨ys, ey, ei⟩ := Option.bind_eq_some_iff.mp en
        obtain ⟨p, vs, rfl, sq, q, _⟩ := r.lstV q ey
        have ev := q.bls ei
        subst ev
        exact cr_any hc pins s σ H _ us Q I rs ⟨p, ns, rfl, sq, c.bl r⟩
      · cases e
    · cases e
  | set =>
    unfold bltI at e
    simp only at e
    split at e
    · rename_i z
      split at e
      · rename_i ns en
        split at e
        · rename_i hz
          obtain ⟨f1, f2⟩ := out_inj e
          subst f1 f2
          obtain ⟨v, rfl, q⟩ := qs.one_inv
          obtain ⟨ys, ey, ei⟩ := Option.bind_eq_some_iff.mp en
          obtain ⟨p, vs, rfl, sq, q, _⟩ := r.lstV q ey
          have ev := q.ints ei
          subst ev
          rw [Vals.ref1 rs]
          obtain ⟨its, rv, pl, hz2⟩ := I.list sq
          have hl : its.toArray.size = ns.length := by rw [List.size_toArray, ← rv.length, List.length_map]
          have hn : H s.heap.objs.size = none := I.hok.fresh (Nat.le_refl _)
          refine PySem.call_set_list (I.ok.hd hc) pl.isList (ns := ns) (by simpa using rv.ints) (by rw [hl]; unfold scanBound; exact hz) fun h' tk hS hk => ?_
          rw [hl] at hS
          refine ⟨.ref s.heap.objs.size, upd H s.heap.objs.size (.set (fun k => (ded ns).any (· == k)) (ded ns).length), I.laid (t' := tk) (fun b o e => hk b o (Heap.lt_size e) e) (Nat.le_refl _) hS, rfl, ?_⟩
          refine c (φ ++ [s.heap.objs.size]) _ _ (.app φ _) (.new hn) (r.new hn upd_same) ?_
          rw [VR]
          refine ⟨_, ?_, rfl⟩
          rw [← r.len, List.getElem?_append_right (Nat.le_refl _), Nat.sub_self]; rfl
        · cases e
      · cases e
    · cases e
  | sorted =>
    unfold bltI at e
    simp only at e
    split at e
    · rename_i z
      split at e
      · rename_i ns en
        obtain ⟨f1, f2⟩ := out_inj e
        subst f1 f2
        obtain ⟨v, rfl, q⟩ := qs.one_inv
        obtain ⟨ys, ey, ei⟩ := Option.bind_eq_some_iff.mp en
        obtain ⟨p, vs, rfl, sq, q, _⟩ := r.lstV q ey
        have ev := q.ints ei
        subst ev
        refine cr_sortedI pins s σ H _ us Q I rs ⟨p, ns, rfl, sq, fun ns' l pm pw hl => ?_⟩
        have en' : ns' = srt ns := srt_eq pm pw
        subst en'
        exact c.list r (VRs.ofInts _) hl
      · rename_i ez
        cases z with
        | ref n =>
          simp only at e
          split at e
          · rename_i kvs ek
            split at e
            · rename_i ks eks
              obtain ⟨f1, f2⟩ := out_inj e
              subst f1 f2
              obtain ⟨v, rfl, q⟩ := qs.one_inv
              rw [VR] at q
              obtain ⟨p, e1, rfl⟩ := q
              obtain ⟨ws, k1, q⟩ := r.obj n p _ e1 ek
              have hk : ws.map (·.1) = ks.map Sum.inl := by rw [q.keys, intKeys_eq eks]
              have hl : ks.length = ws.length := by simpa using (congrArg List.length hk).symm
              refine call_sortedDIN hc pins s σ H _ us Q I rs ⟨p, ws, ks, rfl, .inl k1, hk, ?_, fun ns' l pm pw hl => ?_⟩
              · rw [hl]
                exact (I.hok p _ k1).1
              · have en' : ns' = srt ks := srt_eq pm pw
                subst en'
                exact c.list r (VRs.ofInts _) hl
            · cases e
          · cases e
        | _ => cases e
    · cases e
  | str =>
    unfold bltI at e
    simp only at e
    split at e
    · split at e
      · rename_i hz
        obtain ⟨f1, f2⟩ := out_inj e
        subst f1 f2
        obtain ⟨v, rfl, q⟩ := qs.one_inv
        rw [VR] at q
        subst q
        exact call_str_int pins s σ H _ us Q I rs ⟨_, rfl, hz, c.str r⟩
      · cases e
    · obtain ⟨f1, f2⟩ := out_inj e
      subst f1 f2
      obtain ⟨v, rfl, q⟩ := qs.one_inv
      rw [VR] at q
      subst q
      exact call_str_non pins s σ H _ us Q I rs ⟨rfl, c.str r⟩
    · cases e

def rIsI (K : PySem.W.Frag) (T : Ty) : List V → Hp → VK → Prop := fun xs H Q => ∃ φ h a x b, Rel K φ h H ∧ VR K φ H a x ∧ xs = [x, .ty T.txt] ∧ isIH T a h = some b ∧ Ct K φ h H (.bl b) Q
theorem opIs {X : Cx} (T : Ty) : CallR X (.builtin "isinstance") (rIsI X.K T) := by
  intro pins s σ H xs us Q I rs hh
  obtain ⟨φ, h, a, x, b, r, ra, rfl, e, c⟩ := hh
  have go : ∀ (t : String) (b' : Bool), TyX X.K H x (.type t) → kitB t T.txt = some b' → b' = b → wpAny (model X.prog X.w) X.A (call (.builtin "isinstance") us) (EP X pins σ Q) X.xe s := fun t b' ty hk eb => by
    subst eb
    exact call_isi pins s σ H _ us Q I rs ⟨x, .ty T.txt, .type t, .type T.txt, b', rfl, .ty _, ty, kit_ty hk, c.bl r⟩
  cases a with
  | non =>
    rw [VR] at ra
    subst ra
    cases e
    refine go "NoneType" false (.base .non) ?_ rfl
    cases T <;> decide +kernel
  | bl z =>
    rw [VR] at ra
    subst ra
    cases e
    refine go "bool" _ (.base (.bl z)) ?_ rfl
    cases T <;> decide +kernel
  | int z =>
    rw [VR] at ra
    subst ra
    cases e
    refine go "int" _ (.base (.int z)) ?_ rfl
    cases T <;> decide +kernel
  | str z =>
    rw [VR] at ra
    subst ra
    cases e
    refine go "str" _ (.base (.str z)) ?_ rfl
    cases T <;> decide +kernel
  | tup ys =>
    rw [VR] at ra
    obtain ⟨p, vs, rfl, sq, q, _⟩ := ra
    cases e
    refine go "tuple" _ (.base (.tup sq)) ?_ rfl
    cases T <;> decide +kernel
  | exc _ _ => cases e
  | fn _ => cases e
  | lsr k ys =>
    cases k with
    | false => cases e
    | true =>
      rw [VR] at ra
      obtain ⟨p, vs, rfl, sq, q⟩ := ra
      cases e
      rcases sq with ⟨o, sq⟩ | ⟨z, _⟩
      · refine go "list" _ (.base (.frz sq)) ?_ rfl
        cases T <;> decide +kernel
      · cases z
  | ref i =>
    rw [VR] at ra
    obtain ⟨p, e1, rfl⟩ := ra
    unfold isIH at e
    simp only at e
    split at e
    · rename_i ys ey
      cases e
      obtain ⟨vs, k1, q⟩ := r.obj i p _ e1 ey
      refine go "list" _ (.base (.lst k1)) ?_ rfl
      cases T <;> decide +kernel
    · rename_i ys ey
      cases e
      obtain ⟨vs, k1, q⟩ := r.obj i p _ e1 ey
      refine go "dict" _ (.base (.dK k1)) ?_ rfl
      cases T <;> decide +kernel
    · cases e

def rMth (K : PySem.W.Frag) (m : Mt) : V → List V → Hp → VK → Prop := fun x xs H Q => ∃ φ h a ivs v h', Rel K φ h H ∧ VR K φ H a x ∧ VRs K φ H ivs xs ∧ methI m a ivs h = .ok v h' ∧ Ct K φ h' H v Q
def Mt.id : Mt → String
  | .append => "list.append"
  | .pop => "list.pop"
  | .insert => "list.insert"
  | .clear => "list.clear"
theorem opMth {X : Cx} (m : Mt) : MtR X m.id (rMth X.K m) := by
  intro pins s σ H x xs v us Q I rx rs hh
  obtain ⟨φ, h, a, ivs, w, h', r, ra, qs, e, c⟩ := hh
  unfold methI at e
  split at e
  · rename_i i
    split at e
    · rename_i ys ey
      rw [VR] at ra
      obtain ⟨p, e1, rfl⟩ := ra
      obtain ⟨vs, k1, q⟩ := r.obj i p _ e1 ey
      have nf : ¬ Fx (HO.lst vs) := fun z => z
      split at e
      · rename_i z
        split at e
        · rename_i hz
          obtain ⟨f1, f2⟩ := out_inj e
          subst f1 f2
          obtain ⟨u, rfl, q1⟩ := qs.one_inv
          have kp : Kp φ φ H (upd H p (.lst (vs ++ [u]))) := .set e1 k1 nf
          refine mt_append pins s σ H _ _ v us Q I rx rs ⟨p, vs, u, rfl, rfl, k1, by rw [← q.length]; exact lim_lt hz, ?_⟩
          refine c φ _ _ (.refl φ) kp (r.set e1 k1 nf ⟨_, upd_same, (q.append (.one q1)).mono (.refl φ) kp⟩) ?_
          rw [VR]
        · cases e
      · split at e
        · rename_i z ez
          obtain ⟨f1, f2⟩ := out_inj e
          subst f1 f2
          rw [VRs] at qs
          subst qs
          obtain ⟨u, eu, q1⟩ := q.get ez
          have kp : Kp φ φ H (upd H p (.lst vs.dropLast)) := .set e1 k1 nf
          refine mt_pop pins s σ H _ _ v us Q I rx rs ⟨p, vs, u, rfl, rfl, k1, by rw [← q.length]; exact eu, ?_⟩
          exact c φ _ _ (.refl φ) kp (r.set e1 k1 nf ⟨_, upd_same, q.dropLast.mono (.refl φ) kp⟩) (q1.mono (.refl φ) kp)
        · cases e
      · rename_i kk
        split at e
        · rename_i hz
          split at e
          · rename_i z ez
            obtain ⟨f1, f2⟩ := out_inj e
            subst f1 f2
            rw [VRs] at qs
            obtain ⟨w1, r1, rfl, q0, qs⟩ := qs
            rw [VRs] at qs
            subst qs
            rw [VR] at q0
            subst q0
            obtain ⟨u, eu, q1⟩ := q.get ez
            have h0 : (0 : Int) ≤ kk := hz.1
            have h9 : kk < (9223372036854775808 : Int) := hz.2
            have kl : kk.toNat < vs.length := (List.getElem?_eq_some_iff.mp eu).1
            have kp : Kp φ φ H (upd H p (.lst (vs.eraseIdx kk.toNat))) := .set e1 k1 nf
            have sx : seqIndex? kk vs.length = some kk.toNat := by
              have c0 : ¬ kk < 0 := by omega
              have c1 : kk < (vs.length : Int) := by omega
              simp [seqIndex?, c0, h0, c1]
            refine mt_popAt pins s σ H _ _ v us Q I rx rs ⟨p, vs, kk, kk.toNat, u, rfl, rfl, k1, by omega, by omega, sx, eu, ?_⟩
            have qe : VRs X.K φ H (ys.eraseIdx kk.toNat) (vs.eraseIdx kk.toNat) := by
              rw [List.eraseIdx_eq_take_drop_succ, List.eraseIdx_eq_take_drop_succ]
              exact (q.take kk.toNat).append (q.drop (kk.toNat + 1))
            exact c φ _ _ (.refl φ) kp (r.set e1 k1 nf ⟨_, upd_same, qe.mono (.refl φ) kp⟩) (q1.mono (.refl φ) kp)
          · cases e
        · cases e
      · rename_i kk z
        split at e
        · rename_i hz
          obtain ⟨f1, f2⟩ := out_inj e
          subst f1 f2
          rw [VRs] at qs
          obtain ⟨w1, r1, rfl, q0, qs⟩ := qs
          obtain ⟨u, rfl, q1⟩ := qs.one_inv
          rw [VR] at q0
          subst q0
          have kp : Kp φ φ H (upd H p (.lst (vs.take kk.toNat ++ [u] ++ vs.drop kk.toNat))) := .set e1 k1 nf
          refine mt_insert pins s σ H _ _ v us Q I rx rs ⟨p, vs, kk, u, rfl, rfl, k1, by rw [← q.length]; exact lim_lt hz.1, hz.2.1, by have := hz.2.2; omega, ?_⟩
          refine c φ _ _ (.refl φ) kp (r.set e1 k1 nf ⟨_, upd_same, (((q.take kk.toNat).append (.one q1)).append (q.drop kk.toNat)).mono (.refl φ) kp⟩) ?_
          rw [VR]
        · cases e
      · obtain ⟨f1, f2⟩ := out_inj e
        subst f1 f2
        rw [VRs] at qs
        subst qs
        have kp : Kp φ φ H (upd H p (.lst [])) := .set e1 k1 nf
        refine mt_clear pins s σ H _ _ v us Q I rx rs ⟨p, vs, rfl, rfl, k1, ?_⟩
        refine c φ _ _ (.refl φ) kp (r.set e1 k1 nf ⟨[], upd_same, by rw [VRs]⟩) ?_
        rw [VR]
      · cases e
    · cases e
  · cases e
end Pi
end

section
set_option maxHeartbeats 8000000
namespace Pi
open PySem PySem.Spec PyProof.Rows L2

structure LamP (x : Str) (params : Arguments) (scope : Scope) : Prop where
  kind : scope.kind = .function
  co : scope.isCoroutine = false
  gen : scope.isGenerator = false
  cell : ∀ y ∈ scope.names, y.2 ≠ .cell ∧ y.2 ≠ .free
  loc : scope.names.lookup x = some .local
  dbg : (x == ("__debug__" : Str)) = false
  bind : ∀ (q : Str) (body : Expr) (cl : List (Str × Addr)) (pm cv ctv v : Value), bindArgs (PySem.W.kla_fn "<lambda>" q params body scope cl pm cv ctv) ⟨[v], []⟩ = pure [(x, v)]
  dflt : ∀ env : Env, defaultsOf params env = ([], [])

section
variable {prog : Program} {w : World} {A : Around} {s : Shared} {f c' : Addr} {q x : Str} {params : Arguments} {body : Expr} {scope : Scope} {cl : List (Str × Addr)} {pm ctv v : Value} {Q : Value → Shared → Prop}
theorem lam_call (hr : A.depth < recursionLimit) (L : LamP x params scope) (ho : s.heap.get? f = some (PySem.W.kla_obj "<lambda>" q params body scope cl pm c' ctv))
    (hcd : ∃ (oc : Obj) (vs : Array Value) (t : Tok), s.heap.get? c' = some oc ∧ oc.data = .fields vs ∧ vs[1]? = some (.str q t)) (lim : s.heap.NoLimit)
    (h : ∀ (env : Env) (h₁ : Heap) (tk : Nat), env.scope = scope → env.globals = mainGlobals → env.builtins = builtinsNs → (∀ b o, s.heap.get? b = some o → h₁.get? b = some o) → h₁.Ns env.locals (fun y => [(x, v)].lookup y) →
      wpAny (model prog w) (A.deeper env) (eval body env) Q (fun _ _ => False) { s with heap := h₁, toks := tk }) :
    wpAny (model prog w) A (call (.ref f) [v]) Q (fun _ _ => False) s := by
  refine wpAny_call ?_
  obtain ⟨oc, vs, t, e1, e2, e3⟩ := hcd
  refine PySem.W.kla_callFunE hr ho rfl L.co L.gen rfl ⟨c', oc, vs, t, rfl, e1, e2, e3⟩ ?_
  rw [L.bind]
  refine wpAny_pure (wpAny_newFunctionEnv (fun y hy => (L.cell y hy).1) (fun y hy => ?_) (fun h₁ hns hsb => ⟨?_, ?_⟩) L.kind)
  · rw [List.mem_singleton.mp hy]; exact L.loc
  · exact lim.fresh _ hsb
  · have kp : ∀ b o, s.heap.get? b = some o → h₁.get? b = some o := fun b o e => hsb.extBut b o (Nat.ne_of_lt (Heap.lt_size e)) (Heap.get?_push_of_some _ e)
    exact PySem.W.kla_codeExpr (wpAny_mono (h _ h₁ _ rfl rfl rfl kp hns) (fun u s' hq => hq) fun e s' hq => hq.elim)

def LamB (x : Str) : Ky → Expr → Prop
  | .at1, b => ∃ p1 j p2 p3, b = .Subscript (.Name x p1) (.Constant (.int 1) j p2) p3
  | .absn, b => ∃ p1 p2 p3 p4 j p5 p6 c p7, b = .Tuple [.Call (.Name "abs" p1) [.Name x p2] [] p3, .Compare (.Name x p4) [.Lt] [.Constant (.int 0) j p5] p6] c p7
def KeyOk : Ky → Heap → Value → Int × Int → Prop
  | .absn, _, u, k => ∃ i t, u = .int i t ∧ k = (if i < 0 then -i else i, if i < 0 then 1 else 0)
  | .at1, h, u, k => ∃ a its t, u = .ref a ∧ IsTup h a its ∧ its[1]? = some (.int k.1 t) ∧ k.2 = 0 ∧ its.size ≤ sizeLine
def kyD : Ky → Int × Int → PyData
  | .absn, k => .tuple [.int k.1, .bool (decide (k.2 = 1))]
  | .at1, k => .int k.1
theorem keyOk_keeps {kd : Ky} {h h' : Heap} {u : Value} {k : Int × Int} (kp : ∀ b o, h.get? b = some o → h'.get? b = some o) (o : KeyOk kd h u k) : KeyOk kd h' u k := by
  cases kd with
  | absn => exact o
  | at1 =>
    obtain ⟨a, its, t, e, it, r⟩ := o
    exact ⟨a, its, t, e, it.keeps kp, r⟩

theorem back_one {M : Model} {A : Around} {E Q : Value → Shared → Prop} {s : Shared} {e : Expr} {env : Env} {pos : Pos} (h : wpAny M A (eval e env) Q E s) : wpAny M A (do let v ← eval e env; standAt pos; pure v) Q E s :=
  wpAny_bind (wpAny_mono h (fun _ _ q => wpAny_bind (wpAny_standAt (wpAny_pure q))) fun _ _ e => e)
theorem lam_body {env : Env} {kd : Ky} {k : Int × Int} {h₁ : Heap} {tk : Nat} {mg mb : Str → Option Value} (hb : LamB x kd body) (L : LamP x params scope) (es : env.scope = scope) (eg : env.globals = mainGlobals) (eb : env.builtins = builtinsNs)
    (hns : h₁.Ns env.locals (fun y => [(x, v)].lookup y)) (kp : ∀ b o, s.heap.get? b = some o → h₁.get? b = some o) (ok : KeyOk kd s.heap v k)
    (gm : s.heap.Ns mainGlobals mg) (gb : s.heap.Ns builtinsNs mb) (ga : kd = .absn → scope.names.lookup ("abs" : Str) = some .globalImplicit ∧ mg "abs" = none ∧ mb "abs" = bootBuiltins "abs") :
    wpAny (model prog w) (A.deeper env) (eval body env) (PySem.W.KeyPure (kyD kd k) s) (fun _ _ => False) { s with heap := h₁, toks := tk } := by
  have var : ∀ {p : Pos} {h₂ : Heap} {tk : Nat} {Q : Value → Shared → Prop} {A : Around}, (∀ b o, h₁.get? b = some o → h₂.get? b = some o) → Q v { s with heap := h₂, toks := tk } → wpAny (model prog w) A (eval (.Name x p) env) Q (fun _ _ => False) { s with heap := h₂, toks := tk } := fun {p h₂ tk Q A} k2 q => by
    refine wpAny_Name (wpAny_loadName_local (m := fun y => [(x, v)].lookup y) (by rw [es]; exact L.kind) (by show env.scope.names.lookup x = _; rw [es]; exact L.loc) (hns.keeps k2) (by simp) q) L.dbg
  cases kd with
  | at1 =>
    obtain ⟨p1, j, p2, p3, rfl⟩ := hb
    obtain ⟨a, its, t, rfl, it, e1, e2, hz⟩ := ok
    refine Subscript_ (var (fun _ _ e => e) (wpAny_Constant_int ?_))
    have it1 := it.keeps kp
    have hn := line63
    have hlt : 1 < its.size := (Array.getElem?_eq_some_iff.mp e1).1
    refine subscriptTail_builtinR (x := .int k.1 t) it1.typeIs slot_tuple_getitem.lookup (getItem_tuple (j := 1) (Q := fun r s' => r = .int k.1 t ∧ PySem.W.KeyPure (kyD .at1 k) s r s') it1 (by omega) (by omega) ?_ e1 ⟨rfl, ?_⟩) (by rfl)
    · unfold seqIndex?
      simp
      omega
    · exact ⟨h₁, _, rfl, kp, .int _ _⟩
  | absn =>
    obtain ⟨p1, p2, p3, p4, j, p5, p6, c, p7, rfl⟩ := hb
    obtain ⟨i, t, rfl, rfl⟩ := ok
    obtain ⟨g1, g2, g3⟩ := ga rfl
    refine wpAny_Tuple_spliced (Calls.spliced_cons (show wpAny _ _ (eval _ env) _ _ _ from (wpAny_mono (?_ : wpAny _ _ (eval _ env) (fun u s' => ∃ t' tk', u = .int (if i < 0 then -i else i) t' ∧ s' = { s with heap := h₁, toks := tk' }) (fun _ _ => False) _) (fun u s' hq => ?_) fun _ _ e => e)))
    · refine wpAny_Call_Name_kw (Calls.Name_function_global (by rw [es]; exact L.kind) (by show env.scope.names.lookup ("abs" : Str) = _; rw [es]; exact g1) (Calls.loadGlobal_builtin (mg := mg) (mb := mb) (by rw [eg]; exact gm.keeps kp) g2 (by rw [eb]; exact gb.keeps kp) (g3.trans boot_abs) ?_))
      refine callWith_builtin1 (Calls.spliced_cons (show wpAny _ _ (eval _ env) _ _ _ from var (fun _ _ e => e) (Calls.spliced_nil ?_))) (by rfl) (by rfl)
      exact call_abs_int fun u tk' => ⟨u, tk', rfl, rfl⟩
    · obtain ⟨t', tk', rfl, rfl⟩ := hq
      refine Calls.spliced_cons (show wpAny _ _ (eval _ env) _ _ _ from (wpAny_mono (?_ : wpAny _ _ (eval _ env) (fun u s' => ∃ tk', u = .bool (decide (i < 0)) ∧ s' = { s with heap := h₁, toks := tk' }) (fun _ _ => False) _) (fun u s' hq => ?_) fun _ _ e => e))
      · exact wpAny_Compare1 (var (fun _ _ e => e) (wpAny_Constant_int (PyProof.Rows.lt_int ⟨_, rfl, rfl⟩))) (nobehind _ (by decide) (by decide))
      · obtain ⟨tk2, rfl, rfl⟩ := hq
        refine Calls.spliced_nil ⟨by rw [sizeLine_eq]; simp, ?_⟩
        refine ⟨_, _, rfl, fun b o e => Heap.get?_push_of_some _ (kp b o e), ?_⟩
        have hz : decide ((if i < 0 then (1 : Int) else 0) = 1) = decide (i < 0) := by
          by_cases h : i < 0 <;> simp [h]
        show Reads _ _ (.tuple [.int _, .bool (decide ((if i < 0 then (1 : Int) else 0) = 1))]) _
        rw [hz]
        have := Reads.tuple (h := h₁.push { cls := .type "tuple", data := .seq [Value.int (if i < 0 then -i else i) t', Value.bool (decide (i < 0))].toArray }) (a := h₁.objs.size) (Heap.get?_push_size _ rfl) rfl rfl (ReadsAll.cons (.int _ t') (ReadsAll.cons (.bool _) ReadsAll.nil))
        exact this
end

theorem dataLe_leP {β : Type} (kd : Ky) (g : β → Int × Int) (h : ∀ b, kd = .absn → (g b).2 = 0 ∨ (g b).2 = 1) (h2 : ∀ b, kd = .at1 → (g b).2 = 0) : PySem.W.dataLe false (fun b => kyD kd (g b)) = fun x y => leP (g x) (g y) := by
  cases kd with
  | absn =>
    have e : PySem.W.dataLe false (fun b => kyD .absn (g b)) = PySem.W.dataLe false (fun b => .tuple [.int (g b).1, .int (g b).2]) := by
      unfold PySem.W.dataLe
      congr 1
      funext b
      have : (if decide ((g b).2 = 1) = true then (1 : Int) else 0) = (g b).2 := by
        rcases h b rfl with z | z <;> simp [z]
      simp only [kyD, PySem.W.keyToks, PySem.W.keyToksAll, this]
    rw [e, PySem.W.dataLe_ii (fun b => (g b).1) (fun b => (g b).2)]
    rfl
  | at1 =>
    funext x y
    show (!PySem.W.dataLt (.int (g y).1) (.int (g x).1)) = _
    have e : PySem.W.dataLt (.int (g y).1) (.int (g x).1) = decide ((g y).1 < (g x).1) := by
      simp [PySem.W.dataLt, PySem.W.keyToks]
      rw [PyProof.Rows.lex_cons (O := itemOrd)]
      simp [PyProof.Rows.lexLt, itemLt]
    rw [e]
    unfold leP
    have a := h2 x rfl
    have b := h2 y rfl
    by_cases z : (g y).1 < (g x).1
    · have : ¬ ((g x).1 < (g y).1 ∨ (g x).1 = (g y).1 ∧ (g x).2 ≤ (g y).2) := by omega
      simp [z, this]
    · have : (g x).1 < (g y).1 ∨ (g x).1 = (g y).1 ∧ (g x).2 ≤ (g y).2 := by omega
      simp [z, this]

def KeyV (kd : Ky) (H : Hp) (z : V) (k : Int × Int) : Prop := match kd with
  | .absn => ∃ i, z = .int i ∧ k = (if i < 0 then -i else i, if i < 0 then 1 else 0)
  | .at1 => ∃ t ws, z = .ref t ∧ H t = some (.tup ws) ∧ ws[1]? = some (.int k.1) ∧ k.2 = 0
theorem keyV_ext {kd : Ky} {H H' : Hp} {z : V} {k : Int × Int} (e : LamX.ExtN H H') (o : KeyV kd H z k) : KeyV kd H' z k := by
  cases kd with
  | absn => exact o
  | at1 =>
    obtain ⟨t, ws, e1, e2, r⟩ := o
    exact ⟨t, ws, e1, e _ _ e2 (by intro _ z; cases z), r⟩
theorem sqL_ext {K : PySem.W.Frag} {H H' : Hp} {a : Addr} {vs : List V} (e : LamX.ExtN H H') (s : SqL K H a vs) : SqL K H' a vs := by
  rcases s with (s | ⟨o, s⟩) | s
  · exact .inl (.inl (e _ _ s (by intro _ z; cases z)))
  · exact .inl (.inr ⟨o, e _ _ s (by intro _ z; cases z)⟩)
  · exact .inr s
theorem each_of {β : Type} {R : Value → β → Prop} {g : β → V} : ∀ {bs : List β} {us : List Value}, Vals (bs.map g) us → (∀ b ∈ bs, ∀ u, RelV (g b) u → R u b) → PySem.W.EachIs R us bs
  | [], us, r, k => by
    cases r
    exact PySem.W.EachIs.nil
  | b :: bs, us, r, k => by
    cases r with
    | cons r1 r2 => exact PySem.W.EachIs.cons (k b List.mem_cons_self _ r1) (each_of r2 fun b m => k b (List.mem_cons_of_mem _ m))
theorem vals_of_each {β : Type} {R : Value → β → Prop} {g : β → V} (k : ∀ u b, R u b → RelV (g b) u) : ∀ {us : List Value} {bs : List β}, PySem.W.EachIs R us bs → Vals (bs.map g) us
  | _, _, .nil => .nil
  | _, _, .cons r rs => .cons (k _ _ r) (vals_of_each k rs)
structure LamM (X : Cx) (T : List (Addr × Str)) : Prop where
  ex : ∃ c P, LamX.TabB X.base X.mg c P ∧ X.env.code = .ref c ∧ (P, X.env.qual ++ "<lambda>") ∈ T ∧ ∀ p ∈ T, p.1 = P → p.2 = X.env.qual ++ "<lambda>"
def tSk (K : PySem.W.Frag) (T : List (Addr × Str)) (kd : Ky) (ta : TE) : TE := fun σ H Q => ta σ H fun v H1 => LamX.Tabs T H1 ∧ ∃ (l : Addr) (zs : List (V × (Int × Int))), v = .ref l ∧ SqL K H1 l (zs.map (·.1)) ∧ (∀ z ∈ zs, KeyV kd H1 z.1 z.2) ∧
  ∀ H2 p, LamX.ExtN H1 H2 → LamX.Tabs T H2 → H2 p = none → Q (.ref p) (upd H2 p (.lst ((zs.mergeSort fun x y => leP x.2 y.2).map (·.1))))
theorem mergeSort_congr {α : Type} {r s : α → α → Bool} {l : List α} (h : ∀ a ∈ l, ∀ b ∈ l, r a b = s a b) : l.mergeSort r = l.mergeSort s := by
  have := List.map_mergeSort (f := id) (r := r) (s := s) (l := l) h
  simpa using this
def nrm (kd : Ky) (k : Int × Int) : Int × Int := match kd with
  | .absn => (k.1, if k.2 = 1 then 1 else 0)
  | .at1 => (k.1, 0)
theorem nrm_b (kd : Ky) (k : Int × Int) : (kd = .absn → (nrm kd k).2 = 0 ∨ (nrm kd k).2 = 1) ∧ (kd = .at1 → (nrm kd k).2 = 0) := by
  cases kd with
  | absn => refine ⟨fun _ => ?_, fun z => (by cases z)⟩; unfold nrm; by_cases h : k.2 = 1 <;> simp [h]
  | at1 => exact ⟨fun z => (by cases z), fun _ => rfl⟩
theorem skey_pe {X : Cx} {T : List (Addr × Str)} {kd : Ky} {x : Str} {a : Expr} {ta : TE} {params : Arguments} {body : Expr} {scope : Scope} {p pos lpos kpos : Pos} (hr : Room 2 X.A) (M : LamM X T) (hgx : Gl X "sorted") (hm : X.mg "sorted" = none) (ha : PE X a ta) (L : LamP x params scope) (hb : LamB x kd body)
    (hga : kd = .absn → scope.names.lookup ("abs" : Str) = some .globalImplicit ∧ X.mg "abs" = none) (st : starEach [a] X.env = [(false, eval a X.env)]) :
    PE X (.Call (.Name "sorted" p) [a] [⟨some "key", .Lambda params body scope lpos, kpos⟩] pos) (tSk X.K T kd ta) := by
  refine ⟨fun pins s σ H Q I h => ?_⟩
  obtain ⟨c, P, TB, hcode, hmT, hu⟩ := M.ex
  refine wpAny_Call_Name_kw (ld_blt I hgx hm PyProof.Rows.boot_sorted ?_ (by decide) (by decide))
  have eb : backTo pos (starEach [a] X.env) = [(false, eval a X.env)] := by rw [st]; rfl
  refine PyProof.Rows.callWith_kw (e := a) (rest := []) ?_ (by rw [eb]; rfl) (by rw [eb]; rfl) (by rfl) (by rfl)
  rw [eb]
  refine Calls.spliced_cons (thn (ha.run pins s σ H _ I h) fun u s1 ⟨v, H1, I1, r1, q1⟩ => Calls.spliced_nil ?_)
  obtain ⟨T1, l, zs, rfl, hs, hk, q⟩ := q1
  obtain rfl : u = Value.ref l := r1
  show wpAny _ _ (evalAll [do let v ← eval (.Lambda params body scope lpos) X.env; standAt pos; pure v]) _ _ s1
  refine wpAny_evalAll_cons (back_one (LamX.lam_make2 I1 TB hcode hmT hu T1 (L.dflt _) (fun y hy e => absurd e (L.cell y hy).2) fun f c' pm ctv H2 s2 I2 eN T2 hf hfn hfr hco => wpAny_evalAll_nil ?_))
  show wpAny _ _ (call (.builtin "sorted") [.ref l] [(Str.ofString "key", .ref f)]) _ _ s2
  have hs2 := sqL_ext eN hs
  obtain ⟨its, rv, hl, hz⟩ := I2.list hs2
  obtain ⟨mb, gb1, gb2⟩ := I2.mod.blt
  have hz2 : zs.length ≤ sizeLine := by rw [List.length_map] at hz; exact hz
  obtain ⟨⟨oc, vsc, tc, hc1, hc2, hc3⟩, _, _⟩ := I2.hok c' _ hco
  have keyOk : ∀ z ∈ zs, ∀ u, RelV z.1 u → KeyOk kd s2.heap u z.2 := fun z m u r => by
    have k := keyV_ext eN (hk z m)
    cases kd with
    | absn =>
      obtain ⟨i, e, ek⟩ := k
      rw [e] at r
      obtain ⟨t, rfl⟩ := r
      exact ⟨i, t, rfl, ek⟩
    | at1 =>
      obtain ⟨t, ws, e, et, e1, e2⟩ := k
      rw [e] at r
      obtain rfl : u = Value.ref t := r
      obtain ⟨its2, r2, it, hz3⟩ := I2.tuple (.inl (.inl et))
      obtain ⟨w2, ew, rw'⟩ := r2.get e1
      obtain ⟨tk, rfl⟩ := rw'
      exact ⟨t, its2.toArray, tk, rfl, it, by simpa using ew, e2, by rw [List.size_toArray, ← r2.length]; exact hz3⟩
  have hnrm : ∀ z ∈ zs, nrm kd z.2 = z.2 := fun z m => by
    have k := hk z m
    cases kd with
    | absn =>
      obtain ⟨i, _, ek⟩ := k
      rw [ek]
      by_cases h : i < 0 <;> simp [h, nrm]
    | at1 =>
      obtain ⟨_, _, _, _, _, e2⟩ := k
      show (z.2.1, (0 : Int)) = z.2
      rw [← e2]
  have hdat : PySem.W.dataLe false (fun z : V × (Int × Int) => kyD kd (nrm kd z.2)) = fun x y => leP (nrm kd x.2) (nrm kd y.2) :=
    dataLe_leP kd (fun z : V × (Int × Int) => nrm kd z.2) (fun b => (nrm_b kd b.2).1) (fun b => (nrm_b kd b.2).2)
  have hsort : zs.mergeSort (PySem.W.dataLe false (fun z : V × (Int × Int) => kyD kd (nrm kd z.2))) = zs.mergeSort fun x y => leP x.2 y.2 := by
    rw [hdat]
    exact mergeSort_congr fun a ma b mb => by rw [hnrm a ma, hnrm b mb]
  have dp := hr.dp
  have un := hr.un
  refine PySem.W.sorted_key_data (vs := its) (bs := zs) (b := false) (R := fun u z => RelV z.1 u ∧ KeyOk kd s2.heap u z.2) (fun z => kyD kd (nrm kd z.2)) hl.isList (each_of (g := fun z => z.1) rv fun z m u r => ⟨r, keyOk z m u r⟩) (PySem.W.AllAlike.of fun a b => ?_) ?_ hz2 (fun z m => ?_)
    (PyProof.Rows.ksk_s1 _ _) (fun _ => PyProof.Rows.ksk_l1 _ _) (fun _ => PyProof.Rows.ksk_t1 _ _) (fun u z hR hz h3 tk kp => ?_) fun out cc h3 tk kp hfr2 hD hlen eo => ?_
  · cases kd <;> simp [kyD, PySem.W.alike, PySem.W.alikeAll]
  · cases kd with
    | absn => exact PySem.W.Sortable.tuples fun b => ⟨_, _, rfl⟩
    | at1 => exact PySem.W.Sortable.others fun b => ⟨(fun z => nomatch z), (fun xs z => nomatch z)⟩
  · have : (kyD kd (nrm kd z.2)).depth ≤ 2 := by
      cases kd <;> simp [kyD, PyData.depth, PyData.depthAll]
    omega
  · have ok := hR.2
    rw [← hnrm z hz] at ok
    refine lam_call (A := X.A.in1.in1) (s := { s2 with heap := h3, toks := tk }) ?_ L (kp _ _ hf) ⟨oc, vsc, tc, kp _ _ hc1, hc2, hc3⟩ (I2.nolimit.keeps kp) fun env h₁ tk2 e1 e2 e3 k2 hns => ?_
    · show X.A.depth < _
      omega
    · exact lam_body (s := { s2 with heap := h3, toks := tk }) hb L e1 e2 e3 hns k2 (keyOk_keeps kp ok) ((I2.mod.glob.keeps I2.bk).keeps kp) ((gb1.keeps I2.bk).keeps kp) fun e => ⟨(hga e).1, (hga e).2, gb2 _ (by decide)⟩
  · rw [hsort] at eo
    have rvo : Vals ((zs.mergeSort fun x y => leP x.2 y.2).map (·.1)) out := vals_of_each (g := fun z => z.1) (fun u z r => r.1) eo
    have hn : H2 (s2.heap.objs.size + 1) = none := I2.hok.fresh (Nat.le_succ _)
    refine ⟨.ref _, upd H2 (s2.heap.objs.size + 1) (.lst ((zs.mergeSort fun x y => leP x.2 y.2).map (·.1))), I2.laid (t' := tk) kp (Nat.le_succ _) ⟨?_, out, cc, rvo, hD⟩, rfl, q H2 _ eN T2 hn⟩
    rw [List.length_map, List.length_mergeSort]
    exact hz2
end Pi
end

section
set_option maxHeartbeats 8000000
namespace Pi
open PySem PySem.Spec PyProof.Rows L2
variable [ClsTab]
inductive LockOf : List Addr → Hp → Hp → Prop where
  | nil {H : Hp} : LockOf [] H H
  | skip {a : Addr} {S : List Addr} {H H' : Hp} (n : ∀ vs, H a ≠ some (.lst vs)) (r : LockOf S H H') : LockOf (a :: S) H H'
  | lock {a : Addr} {S : List Addr} {H H' : Hp} {vs : List V} {o : Obj} (e : H a = some (.lst vs)) (r : LockOf S (upd H a (.frz o (.lst vs))) H') : LockOf (a :: S) H H'
theorem LockOf.out {S : List Addr} {H H' : Hp} (l : LockOf S H H') : ∀ a, a ∉ S → H' a = H a := by
  induction l with
  | nil => exact fun _ _ => rfl
  | skip n r ih => exact fun a m => ih a fun z => m (List.mem_cons_of_mem _ z)
  | lock e r ih => exact fun a m => (ih a fun z => m (List.mem_cons_of_mem _ z)).trans (upd_ne fun z => m (z ▸ List.mem_cons_self))
theorem LockOf.fx {S : List Addr} {H H' : Hp} (l : LockOf S H H') : ∀ a o, Fx o → H a = some o → H' a = some o := by
  induction l with
  | nil => exact fun _ _ _ e => e
  | skip n r ih => exact ih
  | lock e r ih => exact fun a o f q => ih a o f ((upd_ne fun z => by subst z; rw [e] at q; cases q; exact f).trans q)
theorem LockOf.tk {S : List Addr} {H H' : Hp} (l : LockOf S H H') : Tk H H' := by
  induction l with
  | nil => exact fun t => t
  | skip n r ih => exact ih
  | lock e r ih => exact fun t => ih (Tk.upd e (fun z => z) (by intro _ z; cases z) t)
theorem LockOf.kt {S : List Addr} {H H' : Hp} (l : LockOf S H H') : Kt H H' := ⟨l.fx, l.tk⟩
theorem LockOf.at {S : List Addr} {H H' : Hp} (l : LockOf S H H') : ∀ a vs, a ∈ S → H a = some (.lst vs) → ∃ o, H' a = some (.frz o (.lst vs)) := by
  induction l with
  | nil => exact fun a vs m => absurd m List.not_mem_nil
  | @skip b S H H' n r ih =>
    intro a vs m e
    rcases List.mem_cons.mp m with z | z
    · subst z; exact absurd e (n vs)
    · exact ih a vs z e
  | @lock b S H H' us o e r ih =>
    intro a vs m q
    by_cases h : a = b
    · subst h
      rw [e] at q
      cases q
      exact ⟨o, r.fx a _ trivial upd_same⟩
    · rcases List.mem_cons.mp m with z | z
      · exact absurd z h
      · exact ih a vs z ((upd_ne h).trans q)
theorem inv_lock {X : Cx} {pins : List (Addr × Obj)} {σ : L2.St} {s : Shared} : ∀ (S : List Addr) {H : Hp}, Inv X pins σ H s → ∃ H', LockOf S H H' ∧ Inv X pins σ H' s
  | [], H, I => ⟨H, .nil, I⟩
  | a :: S, H, I => by
    by_cases h : ∃ vs, H a = some (.lst vs)
    · obtain ⟨vs, e⟩ := h
      obtain ⟨o, J⟩ := Inv.lock I e trivial
      obtain ⟨H', l, J'⟩ := inv_lock S J
      exact ⟨H', .lock e l, J'⟩
    · obtain ⟨H', l, J'⟩ := inv_lock S I
      exact ⟨H', .skip (fun vs e => h ⟨vs, e⟩) l, J'⟩
def Lk (Q : VK) : VK := fun v H => ∃ S, ∀ H', LockOf S H H' → Q v H'
theorem PE.lock {X : Cx} {e : Expr} {t : TE} (p : PE X e t) : PE X e (fun τ H Q => t τ H (Lk Q)) := by
  refine ⟨fun pins s σ H Q I h => ?_⟩
  refine thn (p.run pins s σ H _ I h) fun v s1 ⟨x, H1, I1, r1, S, q1⟩ => ?_
  obtain ⟨H', l, I'⟩ := inv_lock S I1
  exact ⟨x, H', I', r1, q1 H' l⟩
section
variable {K : PySem.W.Frag} {φ φ' : List Addr} {H H' : Hp} {h h' : IH}
mutual
theorem VR.nr : ∀ (x : IV) (v : V), VR K φ H x v → nrV φ.length x = true
  | .non, _, _ => rfl
  | .bl _, _, _ => rfl
  | .int _, _, _ => rfl
  | .str _, _, _ => rfl
  | .ref i, v, r => by
    rw [VR] at r
    obtain ⟨a, e, _⟩ := r
    rw [nrV]
    exact decide_eq_true (List.getElem?_eq_some_iff.mp e).1
  | .tup xs, v, r => by
    rw [VR] at r
    obtain ⟨a, vs, _, _, q, _⟩ := r
    rw [nrV]
    exact VRs.nr xs vs q
  | .lsr _ xs, v, r => by
    rw [VR] at r
    obtain ⟨a, vs, _, _, q⟩ := r
    rw [nrV]
    exact VRs.nr xs vs q
  | .exc _ xs, v, r => by
    rw [VR] at r
    obtain ⟨a, C, vs, _, _, q, _⟩ := r
    rw [nrV]
    exact VRs.nr xs vs q
  | .fn _, v, r => rfl
theorem VRs.nr : ∀ (xs : List IV) (vs : List V), VRs K φ H xs vs → nrVs φ.length xs = true
  | [], _, _ => rfl
  | x :: xs, vs, r => by
    rw [VRs] at r
    obtain ⟨v, s, _, r1, r2⟩ := r
    rw [nrVs, VR.nr x v r1, VRs.nr xs s r2]; rfl
end
theorem KR.nr {κ : Type} : ∀ (xs : List (κ × IV)) (vs : List (κ × V)), KR K φ H xs vs → nrK φ.length xs = true
  | [], _, _ => rfl
  | (c, x) :: xs, vs, r => by
    rw [KR] at r
    obtain ⟨v, s, _, r1, r2⟩ := r
    rw [nrK, VR.nr x v r1, KR.nr xs s r2]; rfl
theorem OR.nr {a : Addr} {o : IO} (r : OR K φ H a o) : nrO φ.length o = true := by
  cases o with
  | lst xs => obtain ⟨vs, _, q⟩ := r; exact VRs.nr xs vs q
  | dk xs => obtain ⟨vs, _, q⟩ := r; exact KR.nr xs vs q
  | dt xs => obtain ⟨vs, _, q⟩ := r; exact KR.nr xs vs q
  | set xs => rfl
theorem take_at {n i : Nat} {a : Addr} (hi : i < n) (e : φ[i]? = some a) : (φ.take n)[i]? = some a := by
  rw [List.getElem?_take, if_pos hi]; exact e
theorem px_take (n : Nat) : Px (φ.take n) φ := fun i a e => by
  rw [List.getElem?_take] at e
  split at e
  · exact e
  · cases e
mutual
theorem VR.tk {n : Nat} : ∀ (x : IV) (v : V), VR K φ H x v → nrV n x = true → VR K (φ.take n) H x v
  | .non, v, r, _ => by rw [VR] at r ⊢; exact r
  | .bl _, v, r, _ => by rw [VR] at r ⊢; exact r
  | .int _, v, r, _ => by rw [VR] at r ⊢; exact r
  | .str _, v, r, _ => by rw [VR] at r ⊢; exact r
  | .ref i, v, r, m => by
    rw [VR] at r ⊢
    rw [nrV] at m
    obtain ⟨a, e, e2⟩ := r
    exact ⟨a, take_at (of_decide_eq_true m) e, e2⟩
  | .tup xs, v, r, m => by
    rw [VR] at r ⊢
    rw [nrV] at m
    obtain ⟨a, vs, e, s, q, z⟩ := r
    exact ⟨a, vs, e, s, VRs.tk xs vs q m, z⟩
  | .lsr _ xs, v, r, m => by
    rw [VR] at r ⊢
    rw [nrV] at m
    obtain ⟨a, vs, e, s, q⟩ := r
    exact ⟨a, vs, e, s, VRs.tk xs vs q m⟩
  | .exc _ xs, v, r, m => by
    rw [VR] at r ⊢
    rw [nrV] at m
    obtain ⟨a, C, vs, e, s, q, z⟩ := r
    exact ⟨a, C, vs, e, s, VRs.tk xs vs q m, z⟩
  | .fn _, v, r, m => by rw [VR] at r ⊢; exact r
theorem VRs.tk {n : Nat} : ∀ (xs : List IV) (vs : List V), VRs K φ H xs vs → nrVs n xs = true → VRs K (φ.take n) H xs vs
  | [], v, r, _ => by rw [VRs] at r ⊢; exact r
  | x :: xs, vs, r, m => by
    rw [VRs] at r ⊢
    rw [nrVs, Bool.and_eq_true] at m
    obtain ⟨v, s, e, r1, r2⟩ := r
    exact ⟨v, s, e, VR.tk x v r1 m.1, VRs.tk xs s r2 m.2⟩
end
theorem KR.tk {κ : Type} {n : Nat} : ∀ (xs : List (κ × IV)) (vs : List (κ × V)), KR K φ H xs vs → nrK n xs = true → KR K (φ.take n) H xs vs
  | [], v, r, _ => by rw [KR] at r ⊢; exact r
  | (c, x) :: xs, vs, r, m => by
    rw [KR] at r ⊢
    rw [nrK, Bool.and_eq_true] at m
    obtain ⟨v, s, e, r1, r2⟩ := r
    exact ⟨v, s, e, VR.tk x v r1 m.1, KR.tk xs s r2 m.2⟩
theorem OR.cut {n : Nat} {a : Addr} {o : IO} (r : OR K φ H a o) (m : nrO n o = true) : OR K (φ.take n) H a o := by
  cases o with
  | lst xs => obtain ⟨vs, e, q⟩ := r; exact ⟨vs, e, VRs.tk xs vs q m⟩
  | dk xs => obtain ⟨vs, e, q⟩ := r; exact ⟨vs, e, KR.tk xs vs q m⟩
  | dt xs => obtain ⟨vs, e, q⟩ := r; exact ⟨vs, e, KR.tk xs vs q m⟩
  | set xs => exact r
theorem Rel.cut {n : Nat} (x : Rel K φ h H) (hn : n ≤ h.length) (old : ∀ i o, i < n → h[i]? = some o → nrO n o = true) (l : LockOf (φ.drop n) H H') : Rel K (φ.take n) (h.take n) H' := by
  refine ⟨by rw [List.length_take, List.length_take, x.len], fun i j a e1 e2 => x.inj i j a (px_take n i a e1) (px_take n j a e2), fun i a o e1 e2 => ?_, l.tk x.tab⟩
  have hi : i < n := by
    have := (List.getElem?_eq_some_iff.mp e1).1
    rw [List.length_take] at this
    omega
  have f1 := px_take n i a e1
  rw [List.getElem?_take, if_pos hi] at e2
  have r := x.obj i a o f1 e2
  have na : a ∉ φ.drop n := fun m => by
    obtain ⟨j, e⟩ := List.getElem?_of_mem m
    rw [List.getElem?_drop] at e
    have := x.inj i (n + j) a f1 e
    omega
  exact (r.cut (old i o hi e2)).monoT (.refl _) l.kt (l.out a na)
theorem fz_ok {n : Nat} (x : Rel K φ h H) (l : LockOf (φ.drop n) H H') : ∀ (k : Nat) (v y : IV) (w : V), VR K φ H v w → fzV h n k v = some y → VR K (φ.take n) H' y w := by
  have plain : ∀ (v : IV) (w : V), VR K φ H v w → nrV n v = true → VR K (φ.take n) H' v w := fun v w r m => (VR.tk v w r m).monoT (.refl _) l.kt
  intro k
  induction k with
  | zero =>
    intro v y w r e
    unfold fzV at e
    split at e
    · rename_i m
      cases e
      exact plain v w r m
    · cases e
  | succ k ih =>
    have all : ∀ (xs ys : List IV) (vs : List V), VRs K φ H xs vs → allM (fzV h n k) xs = some ys → VRs K (φ.take n) H' ys vs := by
      intro xs
      induction xs with
      | nil =>
        intro ys vs r e
        rw [VRs] at r
        cases e
        subst r
        rw [VRs]
      | cons x xs ih2 =>
        intro ys vs r e
        rw [VRs] at r
        obtain ⟨v, s, rfl, r1, r2⟩ := r
        unfold allM at e
        split at e
        · rename_i y ey
          obtain ⟨zs, ez, rfl⟩ := Option.map_eq_some_iff.mp e
          rw [VRs]
          exact ⟨v, s, rfl, ih x y v r1 ey, ih2 zs s r2 ez⟩
        · cases e
    intro v y w r e
    unfold fzV at e
    split at e
    · rename_i m
      cases e
      exact plain v w r m
    · rename_i m
      split at e
      · rename_i i
        rw [VR] at r
        obtain ⟨a, e1, rfl⟩ := r
        split at e
        · rename_i xs ex
          obtain ⟨ys, ey, rfl⟩ := Option.map_eq_some_iff.mp e
          obtain ⟨vs, k1, q⟩ := x.obj i a _ e1 ex
          have hi : n ≤ i := by
            rw [nrV] at m
            exact Nat.le_of_not_lt fun z => m (decide_eq_true z)
          have ma : a ∈ φ.drop n := by
            refine List.mem_of_getElem? (i := i - n) ?_
            rw [List.getElem?_drop, show n + (i - n) = i by omega]
            exact e1
          obtain ⟨o, k2⟩ := l.at a vs ma k1
          rw [VR]
          exact ⟨a, vs, rfl, .inl ⟨o, k2⟩, all xs ys vs q ey⟩
        · cases e
      · rename_i xs
        rw [VR] at r
        obtain ⟨a, vs, rfl, s, q, z⟩ := r
        obtain ⟨ys, ey, rfl⟩ := Option.map_eq_some_iff.mp e
        rw [VR]
        exact ⟨a, vs, rfl, l.fx a _ trivial s, all xs ys vs q ey, z⟩
      · cases e
theorem old_nr {φ0 : List Addr} {h0 : IH} {H0 : Hp} (x0 : Rel K φ0 h0 H0) (old : oldOk h0 h) : ∀ i o, i < h0.length → h[i]? = some o → nrO h0.length o = true := by
  intro i o hi e
  rcases old.2 i hi with q | ⟨o', q, m⟩
  · rw [e] at q
    have hl : i < φ0.length := by rw [x0.len]; exact hi
    have r := x0.obj i φ0[i] o (List.getElem?_eq_getElem hl) q.symm
    have := r.nr
    rw [x0.len] at this
    exact this
  · rw [e] at q
    rw [Option.some.inj q]
    exact m
theorem seal_ok {φ0 : List Addr} {h0 : IH} {H0 : Hp} {v y : IV} {w : V} (x0 : Rel K φ0 h0 H0) (p : Px φ0 φ) (k : Kp φ0 φ H0 H) (x : Rel K φ h H) (r : VR K φ H v w) (e : sealI h0 v h = .ok y h') :
    ∃ S, ∀ H', LockOf S H H' → ∃ φ', Px φ0 φ' ∧ Kp φ0 φ' H0 H' ∧ Rel K φ' h' H' ∧ VR K φ' H' y w := by
  have no : Out.ok v h = Out.ok y h' → ∃ S, ∀ H', LockOf S H H' → ∃ φ', Px φ0 φ' ∧ Kp φ0 φ' H0 H' ∧ Rel K φ' h' H' ∧ VR K φ' H' y w := fun e => by
    cases e
    refine ⟨[], fun H' l => ?_⟩
    cases l
    exact ⟨φ, p, k, x, r⟩
  unfold sealI at e
  split at e
  · rename_i u eu
    split at e
    · rename_i old
      cases e
      refine ⟨φ.drop h0.length, fun H' l => ⟨φ.take h0.length, fun i a q => ?_, ⟨fun a o f q => l.fx a o f (k.st a o f q), fun a o t q m => ?_, fun t => l.tk (k.tb t)⟩, x.cut old.1 (old_nr x0 old) l, fz_ok x l 6 v _ w r eu⟩⟩
      · exact take_at (by rw [← x0.len]; exact (List.getElem?_eq_some_iff.mp q).1) (p i a q)
      · obtain ⟨q1, q2⟩ := k.oth a o t q m
        exact ⟨(l.out a fun z => q2 (List.mem_of_mem_drop z)).trans q1, fun z => q2 (List.mem_of_mem_take z)⟩
    · exact no e
  · exact no e
theorem cut_ok {φ0 : List Addr} {h0 : IH} {H0 : Hp} {ex ey : Ex} {ws : List V} (x0 : Rel K φ0 h0 H0) (p : Px φ0 φ) (k : Kp φ0 φ H0 H) (x : Rel K φ h H) (r : VRs K φ H ex.val ws) (e : cutX h0 ex h = .ex ey h') :
    ey = ex ∧ ∃ φ', Px φ0 φ' ∧ Kp φ0 φ' H0 H ∧ Rel K φ' h' H ∧ VRs K φ' H ex.val ws := by
  unfold cutX at e
  split at e
  · rename_i old
    cases e
    refine ⟨rfl, φ.take h0.length, fun i a q => ?_, ⟨fun a o f q => k.st a o f q, fun a o t q m => ?_, k.tb⟩, ?_, VRs.tk _ _ r old.2⟩
    · exact take_at (by rw [← x0.len]; exact (List.getElem?_eq_some_iff.mp q).1) (p i a q)
    · obtain ⟨q1, q2⟩ := k.oth a o t q m
      exact ⟨q1, fun z => q2 (List.mem_of_mem_take z)⟩
    · have nr := old_nr x0 old.1
      refine ⟨by rw [List.length_take, List.length_take, x.len], fun i j a e1 e2 => x.inj i j a (px_take _ i a e1) (px_take _ j a e2), fun i a o e1 e2 => ?_, x.tab⟩
      have hi : i < h0.length := by
        have := (List.getElem?_eq_some_iff.mp e1).1
        rw [List.length_take] at this
        omega
      rw [List.getElem?_take, if_pos hi] at e2
      exact (x.obj i a o (px_take _ i a e1) e2).cut (nr i o hi e2)
  · cases e
    exact ⟨rfl, φ, p, k, x, r⟩
end
end Pi
end

section
set_option maxHeartbeats 8000000
namespace Pi
open PySem PySem.Spec PyProof.Rows L2
variable [ClsTab]

structure Cs where
  sc : List (Str × NameKind)
  st : List Str
  N : List Str
  G : List (Str × Int)
  T : List (Str × List Int)
  fns : List Str
  Z : List (Str × Str) := []
  kw : List (Nat × Nat × List Str × List Nat) := []
  ids : List Nat := []
  cls : List (Str × Nat) := []
  raw : List Str := []
  clsI : List Nat := []
  lam : Bool := false
def findIx (x : Str) : List Str → Option Nat
  | [] => none
  | y :: r => if y = x then some 0 else (findIx x r).map (· + 1)
theorem findIx_get {x : Str} : ∀ {l : List Str} {i : Nat}, findIx x l = some i → l[i]? = some x
  | y :: r, i, e => by
    unfold findIx at e
    split at e
    · rename_i h
      cases e
      simp [h]
    · cases q : findIx x r with
      | none => rw [q] at e; cases e
      | some j =>
        rw [q] at e
        have e' : j + 1 = i := Option.some.inj e
        subst e'
        simpa using findIx_get q
def Cs.loc (c : Cs) (x : Str) : Bool := match c.sc.lookup x with
  | some .local => true
  | some .cell => true
  | some .free => true
  | _ => false
def Cs.glo (c : Cs) (x : Str) : Bool := match c.sc.lookup x with
  | some .globalImplicit => true
  | _ => false
def plainName (x : Str) : Bool := !(x == ("__debug__" : Str)) && !(x == ("__classdict__" : Str)) && !(x == ("__name__" : Str))
def idIx (ids : List Nat) (id : Nat) : Option Nat := ids.findIdx? fun j => decide (j = id)
def Cs.nam (c : Cs) (x : Str) : Option E :=
  if plainName x = true then
    if c.loc x = true then (findIx x c.N).map .var
    else if c.glo x = true then (match c.G.lookup x with | some i => some (.con (.int i)) | none => match c.Z.lookup x with
      | some z => some (.con (.str z))
      | none => (findIx x c.fns).bind fun i => (c.ids[i]?).bind fun id => if idIx c.ids id = some i then some (.con (.fn id)) else none)
    else none
  else none
def cK : Const → Option IV
  | .int i => some (.int i)
  | .bool b => some (.bl b)
  | .none => some .non
  | .str x => some (.str x)
  | _ => none
def cB (f : Expr → Option E) (op : BoolOp) : List Expr → Option E
  | [] => none
  | [a] => f a
  | a :: b :: r => (f a).bind fun a' => (cB f op (b :: r)).map fun b' => match op with
    | .And => .and a' b'
    | .Or => .or a' b'
def cEs (f : Expr → Option E) : List Expr → Option Es
  | [] => some .nil
  | a :: r => (f a).bind fun a' => (cEs f r).map fun r' => .cons a' r'
def ixOk : Expr → Bool
  | .Name .. => true
  | .Constant .. => true
  | .BinOp .. => true
  | .UnaryOp .. => true
  | .Call .. => true
  | .Subscript .. => true
  | _ => false
def tOk : Expr → Bool
  | .IfExp .. => false
  | _ => true
def rcOk : Expr → Bool
  | .Name .. => true
  | .Subscript .. => true
  | _ => false
def tcOk : Expr → Bool
  | .Name .. => true
  | .Constant .. => true
  | _ => false
def findBt (x : Str) : Option Bt := Bt.every.find? fun b => decide (b.name = x)
def findTy (x : Str) : Option Ty := Ty.every.find? fun b => decide (b.name = x)
def findMt (x : Str) : Option Mt := Mt.every.find? fun b => decide (b.name = x)
def cOe (f : Expr → Option E) : Option Expr → Option Oe
  | none => some .non
  | some e => (f e).map .som
def ssArg (c : Cs) (x : Str) : List Expr → Option Expr
  | [.Call (.Name y _) [a] [] _] => if (decide (x = ("sorted" : Str)) && decide (y = ("set" : Str)) && c.glo y && decide (findIx y c.fns = none)) = true then some a else none
  | _ => none
def scArg (c : Cs) (x : Str) : List Expr → Option (Expr × Expr × Expr × List Expr × Scope)
  | [.SetComp el [⟨tg, iter, ifs, 0⟩] scope _] => if (decide (x = ("sorted" : Str)) && plainName x && c.glo x && decide (findIx x c.fns = none)) = true then some (el, tg, iter, ifs, scope) else none
  | _ => none
def rgArg (c : Cs) (x : Str) : List Expr → Option (Bool × Expr)
  | [.Call (.Name y _) [a] [] _] => if (decide (y = ("range" : Str)) && c.glo y && decide (findIx y c.fns = none)) = true then (if x = ("tuple" : Str) then some (true, a) else if x = ("list" : Str) then some (false, a) else none) else none
  | _ => none
def lamX : Arguments → Option Str
  | ⟨[], [⟨x, none, _⟩], none, [], [], none, []⟩ => if x = ("number" : Str) ∨ x = ("row" : Str) then some x else none
  | _ => none
def lamK (x : Str) : Expr → Option Ky
  | .Subscript (.Name y _) (.Constant (.int 1) _ _) _ => if y = x then some .at1 else none
  | .Tuple [.Call (.Name ab _) [.Name y _] [] _, .Compare (.Name z _) [.Lt] [.Constant (.int 0) _ _] _] _ _ => if ab = ("abs" : Str) ∧ y = x ∧ z = x then some .absn else none
  | _ => none
def lamS (x : Str) (scope : Scope) (kd : Ky) : Bool :=
  decide (scope.kind = .function) && !scope.isCoroutine && !scope.isGenerator && scope.names.all (fun y => !decide (y.2 = .cell) && !decide (y.2 = .free)) && decide (scope.names.lookup x = some .local) && plainName x && (decide (kd = .at1) || decide (scope.names.lookup ("abs" : Str) = some .globalImplicit))
def skArg (c : Cs) (x : Str) (args : List Expr) (kws : List Keyword) : Option (Ky × Expr) := match args, kws with
  | [a], [⟨some k, .Lambda params body scope _, _⟩] => if (decide (x = ("sorted" : Str)) && decide (k = ("key" : Str)) && c.lam && c.glo x && decide (findIx x c.fns = none)) = true then (lamX params).bind fun y => (lamK y body).bind fun kd => if lamS y scope kd = true then some (kd, a) else none else none
  | _, _ => none
def revArg : Expr → Bool
  | .Slice none none (some (.UnaryOp .USub (.Constant (.int 1) _ _) _)) _ => true
  | _ => false
def sdArg (m : Str) : List Expr → Option Expr
  | [k, .Dict [] [] _] => if m = ("setdefault" : Str) then some k else none
  | _ => none
def xrArg (c : Cs) (m : Str) : List Expr → Option (List Expr)
  | [.Call (.Name l _) [.Call (.Name y _) [a, b, e] [] _] [] _] => if (decide (m = ("extend" : Str)) && decide (l = ("list" : Str)) && decide (y = ("range" : Str)) && c.glo l && c.glo y && decide (findIx l c.fns = none) && decide (findIx y c.fns = none)) = true then some [a, b, e] else none
  | _ => none
def listish : Expr → Bool
  | .List .. => true
  | .ListComp .. => true
  | .Subscript _ (.Slice ..) _ => true
  | .BinOp a .Add b _ => listish a || listish b
  | .BinOp a .Mult _ _ => listish a
  | .Call (.Name x _) _ [] _ => decide (x = ("list" : Str)) || decide (x = ("sorted" : Str))
  | .Call (.Attribute _ m _) _ [] _ => decide (m = ("split" : Str))
  | _ => false
def slE (e : Expr) (e' : E) : E := if listish e then .shut e' else e'
def cCall (c : Cs) (f : Expr → Option E) (x : Str) (args : List Expr) : Option E :=
  if plainName x && c.glo x then
    match findIx x c.fns with
    | some i => (c.ids[i]?).bind fun id => (match args with | [] => none | _ :: _ => cEs f args).map fun es => .call id es
    | none => if x = ("isinstance" : Str) then (match args with
        | [a, .Name t _] => if plainName t && c.glo t then (f a).bind fun a' => (match findTy t with
          | some ty => some (.isi a' ty)
          | none => if t = ("ValueError" : Str) then some (.isx a' none) else (c.cls.lookup t).map fun k => .isx a' (some k)) else none
        | _ => none)
      else match ssArg c x args with
        | some a => (f a).map .sset
        | none => match rgArg c x args with
        | some (t, a) => (f a).map fun a' => if t then .trg a' else .lrg a'
        | none => match args with
        | [] => none
        | _ :: _ => (findBt x).bind fun b => (cEs f args).map fun es => .blt b es
  else if plainName x && c.loc x then (match args with
    | [] => none
    | _ :: _ => (findIx x c.N).bind fun i => (cEs f args).map fun es => .calv i es)
  else none
def rawE : E → E
  | .call i es => if i < RAW then .call (i + RAW) es else .call i es
  | e => e
def nmsOf : List Keyword → Option (List Str)
  | [] => some []
  | ⟨some n, _, _⟩ :: r => (nmsOf r).map (n :: ·)
  | _ => none
def findKw (i m : Nat) (ks : List Str) : List (Nat × Nat × List Str × List Nat) → Option (List Nat)
  | [] => none
  | (j, l, us, perm) :: r => if j = i ∧ l = m ∧ us = ks then some perm else findKw i m ks r
theorem findKw_mem {i m : Nat} {ks : List Str} {perm : List Nat} : ∀ {l : List (Nat × Nat × List Str × List Nat)}, findKw i m ks l = some perm → (i, m, ks, perm) ∈ l
  | (j, l, us, pm) :: r, e => by
    unfold findKw at e
    split at e
    · rename_i hq
      obtain ⟨rfl, rfl, rfl⟩ := hq
      rw [← Option.some.inj e]
      exact List.mem_cons_self
    · exact List.mem_cons_of_mem _ (findKw_mem e)
def cCallK (c : Cs) (f : Expr → Option E) (x : Str) (args : List Expr) (kws : List Keyword) : Option E :=
  if plainName x && c.glo x then
    (findIx x c.fns).bind fun i => (c.ids[i]?).bind fun id => (nmsOf kws).bind fun ks => (findKw i args.length ks c.kw).bind fun perm => (cEs f args).bind fun es => (cEs f (kws.map (·.value))).map fun zs => .callk id args.length perm es zs
  else none
def Cs.sto (c : Cs) (x : Str) : Bool := decide (c.sc.lookup x = some .local) || (decide (c.sc.lookup x = some .cell) && decide (x ∈ c.st))
def cTg (c : Cs) : Nat → Expr → Option Tg
  | 0, _ => none
  | n + 1, e => match e with
    | .Name x _ => if c.sto x = true then (findIx x c.N).map .name else none
    | .Tuple [a] _ _ => (cTg c n a).map .one
    | .Tuple [a, b] _ _ => (cTg c n a).bind fun a' => (cTg c n b).map fun b' => .pair a' b'
    | .Tuple [a, b, d] _ _ => (cTg c n a).bind fun a' => (cTg c n b).bind fun b' => (cTg c n d).map fun d' => .three a' b' d'
    | .Tuple [a, b, d, e] _ _ => (cTg c n a).bind fun a' => (cTg c n b).bind fun b' => (cTg c n d).bind fun d' => (cTg c n e).map fun e' => .four a' b' d' e'
    | _ => none
def isSetE : Expr → Bool
  | .Set .. => true
  | _ => false
def isTupE : Expr → Bool
  | .Tuple .. => true
  | _ => false
def rvArg (c : Cs) : Expr → Option Expr
  | .Call (.Name y _) [b] [] _ => if (decide (y = ("range" : Str)) && c.glo y && decide (findIx y c.fns = none)) = true then some b else none
  | _ => none
def cI (c : Cs) (f : Expr → Option E) (tg : Expr) (e : Expr) : Option It :=
  let dflt := if isSetE e = true then none else (f e).map It.val
  match e with
  | .Name x _ => if plainName x && c.glo x then (c.T.lookup x).map It.ints else dflt
  | .Call (.Name x _) [a] [] _ => if plainName x && c.glo x && decide (findIx x c.fns = none) then
      (if x = ("range" : Str) then (f a).map It.rng
      else if x = ("enumerate" : Str) then (if isTupE tg = true then (f a).map It.enum else none)
      else if x = ("reversed" : Str) then (match rvArg c a with
        | some b => (f b).map It.revr
        | none => (f a).map It.rev)
      else dflt) else dflt
  | .Call (.Name x _) [a, b] [] _ => if plainName x && c.glo x && decide (findIx x c.fns = none) then
      (if x = ("range" : Str) then (f a).bind fun a' => (f b).map fun b' => It.rng2 a' b'
      else if x = ("zip" : Str) then (if isTupE tg = true then (f a).bind fun a' => (f b).map fun b' => It.zip a' b' else none)
      else dflt) else dflt
  | _ => dflt
def tgIx : Tg → List Nat
  | .name i => [i]
  | .one a => tgIx a
  | .pair a b => tgIx a ++ tgIx b
  | .three a b c => tgIx a ++ (tgIx b ++ tgIx c)
  | .four a b c d => tgIx a ++ (tgIx b ++ (tgIx c ++ tgIx d))
def blkNames (sc names : List (Str × NameKind)) : List (Str × NameKind) :=
  names.map fun (n, k) => if (k == .free && (ScopeKind.function == .function) && sc.lookup n == some .cell) then (n, .cell) else (n, k)
def Cs.blk (c : Cs) (scope : Scope) : Cs := { c with lam := false, sc := blkNames c.sc scope.names, st := (scope.names.filter fun y => decide (scope.names.lookup y.1 = some .cell)).map (·.1) }
def dummy (names : List (Str × NameKind)) : Scope := { kind := .function, names := names, isGenerator := false, isCoroutine := false }
def isRev : Option Expr → Option Expr → Option Expr → Bool
  | none, none, some (.UnaryOp .USub (.Constant (.int 1) _ _) _) => true
  | _, _, _ => false
def cKeys : List (Option Expr) → Option (List Str)
  | [] => some []
  | some (.Constant (.str x) _ _) :: r => (cKeys r).map (x :: ·)
  | _ => none
def frC (c : Cs) (f : Expr → Option E) : Expr → Option E
  | .Call (.Name y _) as [] _ => (cCall c f y as).map rawE
  | e => f e
def cE2 (r : Cs → Expr → Option E) (c : Cs) (e : Expr) : Option E :=
  let f : Expr → Option E := fun e => (r c e).map (slE e)
  match e with
  | .Call (.Name x _) args [] _ => match scArg c x args with
    | some (el, tg, iter, ifs, scope) =>
      if isSetE iter = true then none else
      (cTg (c.blk scope) 4 tg).bind fun tg' => (cI c f tg iter).bind fun it' =>
      if blkC c.N (dummy c.sc) scope ((tgIx tg').map fun i => (c.N.getD i Str.empty, i)) = true then
        (match ifs with
          | [] => some Oe.non
          | [t] => if tOk t = true then (r (c.blk scope) t).map fun e' => .som (slE t e') else none
          | _ => none).bind fun o => (r (c.blk scope) el).map fun el' => .ssc (slE el el') tg' it' o (tgIx tg')
      else none
    | none => cCall c (if x ∈ c.raw then frC c f else f) x args
  | .Call (.Attribute o m apos) args [] cpos => if m = ("join" : Str) then (match args with
      | [a] => if tcOk o && (apos.endLine == cpos.line) then (f o).bind fun o' => (f a).map fun a' => .join o' a' else none
      | _ => none)
    else if m = ("split" : Str) then (match args with
      | [a] => if tcOk o && (apos.endLine == cpos.line) then (f o).bind fun o' => (f a).map fun a' => .split o' a' else none
      | _ => none)
    else match sdArg m args with
    | some k => if rcOk o && (apos.endLine == cpos.line) then (r c o).bind fun o' => (f k).map fun k' => .sdef o' k' else none
    | none => match xrArg c m args with
    | some es => if rcOk o && (apos.endLine == cpos.line) then (r c o).bind fun o' => (cEs f es).map fun es' => .xrg o' es' else none
    | none => if rcOk o && (apos.endLine == cpos.line) && decide (args.length < 20) then (findMt m).bind fun mt => (r c o).bind fun o' => (cEs f args).map fun es => .meth mt o' es else none
  | .Subscript a (.Slice lo hi none _) _ => (f a).bind fun a' => (cOe f lo).bind fun l => (cOe f hi).map fun h => .sl a' l h
  | .Subscript a b _ => if revArg b = true then (f a).map .slr else if ixOk b = true then (f a).bind fun a' => (f b).map fun b' => .ix a' b' else none
  | .ListComp el [⟨tg, iter, ifs, 0⟩] scope _ =>
    if isSetE iter = true then none else
    (cTg (c.blk scope) 4 tg).bind fun tg' => (cI c f tg iter).bind fun it' =>
    if blkC c.N (dummy c.sc) scope ((tgIx tg').map fun i => (c.N.getD i Str.empty, i)) = true then
      (match ifs with
        | [] => some Oe.non
        | [t] => if tOk t = true then (r (c.blk scope) t).map fun e' => .som (slE t e') else none
        | _ => none).bind fun o => (r (c.blk scope) el).map fun el' => .lc (slE el el') tg' it' o (tgIx tg')
    else none
  | .Call (.Name x _) args (k0 :: kr) _ => match skArg c x args (k0 :: kr) with
    | some (kd, a) => (f a).map fun a' => .skey kd a'
    | none => cCallK c f x args (k0 :: kr)
  | .Dict [] [] _ => some (.dict false)
  | .Dict [some (.Constant (.str x) _ _)] [.Constant k _ _] _ => (cK k).map fun v => .dks [x] (.cons (.con v) .nil)
  | .Attribute (.Name y yp) fd _ => if fd = ("place" : Str) then (f (.Name y yp)).map .fld else none
  | .DictComp kx vx [⟨tg, iter, ifs, 0⟩] scope _ =>
    if isSetE iter = true then none else
    (cTg (c.blk scope) 4 tg).bind fun tg' => (cI c f tg iter).bind fun it' =>
    if blkC c.N (dummy c.sc) scope ((tgIx tg').map fun i => (c.N.getD i Str.empty, i)) = true then
      (match ifs with
        | [] => some Oe.non
        | [t] => if tOk t = true then (r (c.blk scope) t).map fun e' => .som (slE t e') else none
        | _ => none).bind fun o => (r (c.blk scope) kx).bind fun k' => (r (c.blk scope) vx).map fun v' => .dcm (.cons (slE kx k') (.cons (slE vx v') .nil)) tg' it' o (tgIx tg')
    else none
  | _ => none
def cE : Nat → Cs → Expr → Option E
  | 0, _, _ => none
  | n + 1, c, e =>
    let f : Expr → Option E := fun e => (cE n c e).map (slE e)
    match e with
    | .Name x _ => c.nam x
    | .Constant k _ _ => (cK k).map .con
    | .BinOp a .Mult b _ => (cE n c a).bind fun a' => (cE n c b).map fun b' => .bin .Mult a' b'
    | .BinOp a op b _ => (f a).bind fun a' => (f b).map fun b' => .bin op a' b'
    | .UnaryOp .USub a _ => (f a).map .neg
    | .UnaryOp .Not a _ => if tOk a = true then (f a).map .not else none
    | .BoolOp op vs _ => if vs.all tOk = true then cB f op vs else none
    | .Compare a [op] [b] _ => if behindInMarks op b = true then none else (f a).bind fun a' => (f b).map fun b' => .cmp op a' b'
    | .Compare a [op, op'] [b, d] _ => if lastMarks [op, op'] [b, d] = true then none else (f a).bind fun a' => (f b).bind fun b' => (f d).map fun d' => .chain op op' a' b' d'
    | .IfExp t a b _ => if tOk t = true then (f t).bind fun t' => (f a).bind fun a' => (f b).map fun b' => .ife t' a' b' else none
    | .Tuple es _ _ => (cEs f es).map .tup
    | .List es _ => (cEs f es).map .lst
    | e => cE2 (cE n) c e

section
variable (K : PySem.W.Frag)
def XOk (E : XK) (e : Ex) (φ : List Addr) (H : Hp) : Prop := ∀ C ws, ClsTab.cl e.cls = some C → VRs K φ H e.val ws → (ws = [] → E (.ref C) none H) ∧ ∀ dd w, ws = [w] → H dd = some (.xd [("place", w)]) → E (.ref C) (some dd) H
def OutG (E : XK) (φ : List Addr) (H : Hp) {α : Type} (o : Out α) (C : List Addr → Hp → IH → α → Prop) : Prop := match o with
  | .ok v h' => ∀ φ' H', Px φ φ' → Kp φ φ' H H' → Rel K φ' h' H' → C φ' H' h' v
  | .ex e h' => ∀ φ' H', Px φ φ' → Kp φ φ' H H' → Rel K φ' h' H' → XOk K E e φ' H'
  | .stuck => False
def CV (Q : VK) : List Addr → Hp → IH → IV → Prop := fun φ H _ v => ∀ w, VR K φ H v w → Q w H
variable (W : WX)
def TI (d : Sl → IH → Out IV) : TE := fun τ H Q => ∃ φ σ h, Rel K φ h H ∧ SR K φ H σ τ ∧ OutG K (L2.WE W τ) φ H (d σ h) (CV K Q)
def TT' (d : Sl → IH → Out Bool) : TT := fun τ H Q => ∃ φ σ h, Rel K φ h H ∧ SR K φ H σ τ ∧ OutG K (L2.WE W τ) φ H (d σ h) fun _ H' _ b => Q b H'
def TL (d : Sl → IH → Out (List IV)) : TA := fun τ H Q => ∃ φ σ h, Rel K φ h H ∧ SR K φ H σ τ ∧ OutG K (L2.WE W τ) φ H (d σ h) fun φ' H' _ xs => ∀ ws, VRs K φ' H' xs ws → Q ws H'
def TOp (d : Sl → IH → Out (Option Int)) : TO := fun τ H Q => ∃ φ σ h, Rel K φ h H ∧ SR K φ H σ τ ∧ OutG K (L2.WE W τ) φ H (d σ h) fun _ H' _ o => Q o H'
def spI (F : List IV → IH → Out IV) : Sp := fun vs H Q E => ∃ φ h ivs, Rel K φ h H ∧ VRs K φ H ivs vs ∧ OutG K E φ H (F ivs h) (CV K Q)
end

theorem PE.mono {X : Cx} {e : Expr} {t t' : TE} (p : PE X e t) (h : ∀ τ H Q, t' τ H Q → t τ H Q) : PE X e t' := ⟨fun pins s σ H Q I q => p.run pins s σ H Q I (h σ H Q q)⟩
theorem PT.mono {X : Cx} {e : Expr} {t t' : TT} (p : PT X e t) (h : ∀ τ H Q, t' τ H Q → t τ H Q) : PT X e t' := ⟨fun pins s σ H Q I q => p.run pins s σ H Q I (h σ H Q q)⟩
theorem PW.mono {X : Cx} {e : Expr} {t t' : TT} (p : PW X e t) (h : ∀ τ H Q, t' τ H Q → t τ H Q) : PW X e t' := ⟨fun w pins s σ H Q I q => p.run w pins s σ H Q I (h σ H Q q)⟩
theorem PA.mono {X : Cx} {e : List Expr} {t t' : TA} (p : PA X e t) (h : ∀ τ H Q, t' τ H Q → t τ H Q) : PA X e t' := ⟨fun w pins s σ H Q I q => p.run w pins s σ H Q I (h σ H Q q)⟩

section
variable {K : PySem.W.Frag} {W : WX} {φ φ' : List Addr} {H H' : Hp} {h h' : IH} {σ : Sl} {τ : L2.St} {E : XK} {α β : Type}
theorem OutG.imp {o : Out α} {C C' : List Addr → Hp → IH → α → Prop} (ok : OutG K E φ H o C) (k : ∀ φ' H' h' v, Px φ φ' → Kp φ φ' H H' → Rel K φ' h' H' → C φ' H' h' v → C' φ' H' h' v) : OutG K E φ H o C' := by
  cases o with
  | stuck => exact ok
  | ok v h' => exact fun φ' H' p q r => k φ' H' h' v p q r (ok φ' H' p q r)
  | ex e h' => exact ok
theorem OutG.later {o : Out α} {C : List Addr → Hp → IH → α → Prop} (ok : OutG K E φ H o C) (p : Px φ φ') (k : Kp φ φ' H H') : OutG K E φ' H' o C := by
  cases o with
  | stuck => exact ok
  | ok v h' => exact fun φ2 H2 p2 k2 r => ok φ2 H2 (p.trans p2) (k.trans k2) r
  | ex e h' => exact fun φ2 H2 p2 k2 r => ok φ2 H2 (p.trans p2) (k.trans k2) r
theorem OutG.bind {x : Out α} {f : α → IH → Out β} {C : List Addr → Hp → IH → β → Prop} (ok : OutG K E φ H (x.bind f) C) : OutG K E φ H x fun φ' H' h1 v => OutG K E φ' H' (f v h1) C := by
  cases x with
  | stuck => exact ok
  | ok v h' =>
    have ok : OutG K E φ H (f v h') C := ok
    exact fun φ' H' p q r => ok.later p q
  | ex e h' => exact ok
theorem OutG.here {v : α} {C : List Addr → Hp → IH → α → Prop} (ok : OutG K E φ H (.ok v h') C) (r : Rel K φ h' H) : C φ H h' v := ok φ H (.refl φ) (.refl φ H) r
def NoEx (o : Out α) : Prop := ∀ e h, o ≠ .ex e h
theorem OutG.pure {o : Out α} {C : List Addr → Hp → IH → α → Prop} (n : NoEx o) (ok : OutG K E φ H o C) : ∃ v h', o = .ok v h' ∧ ∀ φ' H', Px φ φ' → Kp φ φ' H H' → Rel K φ' h' H' → C φ' H' h' v := by
  cases o with
  | stuck => exact ok.elim
  | ok v h' => exact ⟨v, h', rfl, ok⟩
  | ex e h' => exact absurd rfl (n e h')
theorem OutG.ct {o : Out IV} {Q : VK} (n : NoEx o) (ok : OutG K E φ H o (CV K Q)) : ∃ v h', o = .ok v h' ∧ Ct K φ h' H v Q := by
  obtain ⟨v, h', e, c⟩ := ok.pure n
  exact ⟨v, h', e, fun φ' H' w p k r q => c φ' H' p k r w q⟩
theorem Ct.cv {v : IV} {Q : VK} (ok : OutG K E φ H (.ok v h') (CV K Q)) : Ct K φ h' H v Q := fun φ' H' w p k r q => ok φ' H' p k r w q
theorem TI.seq {a : Sl → IH → Out IV} {Q : VK} {C : List Addr → Hp → IH → IV → Prop} (r : Rel K φ h H) (s : SR K φ H σ τ) (ok : OutG K (L2.WE W τ) φ H (a σ h) C)
    (k : ∀ φ' H' h1 v w, Px φ φ' → Kp φ φ' H H' → Rel K φ' h1 H' → SR K φ' H' σ τ → VR K φ' H' v w → C φ' H' h1 v → Q w H') : TI K W a τ H Q :=
  ⟨φ, σ, h, r, s, ok.imp fun φ' H' h1 v p kp r' c w q => k φ' H' h1 v w p kp r' (s.mono p kp) q c⟩
theorem TT'.seq {a : Sl → IH → Out Bool} {Q : Bool → Hp → Prop} {C : List Addr → Hp → IH → Bool → Prop} (r : Rel K φ h H) (s : SR K φ H σ τ) (ok : OutG K (L2.WE W τ) φ H (a σ h) C)
    (k : ∀ φ' H' h1 v, Px φ φ' → Kp φ φ' H H' → Rel K φ' h1 H' → SR K φ' H' σ τ → C φ' H' h1 v → Q v H') : TT' K W a τ H Q :=
  ⟨φ, σ, h, r, s, ok.imp fun φ' H' h1 v p kp r' c => k φ' H' h1 v p kp r' (s.mono p kp) c⟩
theorem TL.seq {a : Sl → IH → Out (List IV)} {Q : List V → Hp → Prop} {C : List Addr → Hp → IH → List IV → Prop} (r : Rel K φ h H) (s : SR K φ H σ τ) (ok : OutG K (L2.WE W τ) φ H (a σ h) C)
    (k : ∀ φ' H' h1 v w, Px φ φ' → Kp φ φ' H H' → Rel K φ' h1 H' → SR K φ' H' σ τ → VRs K φ' H' v w → C φ' H' h1 v → Q w H') : TL K W a τ H Q :=
  ⟨φ, σ, h, r, s, ok.imp fun φ' H' h1 v p kp r' c w q => k φ' H' h1 v w p kp r' (s.mono p kp) q c⟩
theorem TOp.seq {a : Sl → IH → Out (Option Int)} {Q : Option Int → Hp → Prop} {C : List Addr → Hp → IH → Option Int → Prop} (r : Rel K φ h H) (s : SR K φ H σ τ) (ok : OutG K (L2.WE W τ) φ H (a σ h) C)
    (k : ∀ φ' H' h1 v, Px φ φ' → Kp φ φ' H H' → Rel K φ' h1 H' → SR K φ' H' σ τ → C φ' H' h1 v → Q v H') : TOp K W a τ H Q :=
  ⟨φ, σ, h, r, s, ok.imp fun φ' H' h1 v p kp r' c => k φ' H' h1 v p kp r' (s.mono p kp) c⟩
theorem TI.seqE {a : Sl → IH → Out IV} {v : IV} {h1 : IH} {Q : VK} (r : Rel K φ h H) (s : SR K φ H σ τ) (e : a σ h = .ok v h1)
    (k : ∀ φ' H' w, Px φ φ' → Kp φ φ' H H' → Rel K φ' h1 H' → SR K φ' H' σ τ → VR K φ' H' v w → Q w H') : TI K W a τ H Q :=
  ⟨φ, σ, h, r, s, by rw [e]; exact fun φ' H' p kp r' w q => k φ' H' w p kp r' (s.mono p kp) q⟩
theorem TT'.seqE {a : Sl → IH → Out Bool} {v : Bool} {h1 : IH} {Q : Bool → Hp → Prop} (r : Rel K φ h H) (s : SR K φ H σ τ) (e : a σ h = .ok v h1)
    (k : ∀ φ' H', Px φ φ' → Kp φ φ' H H' → Rel K φ' h1 H' → SR K φ' H' σ τ → Q v H') : TT' K W a τ H Q :=
  ⟨φ, σ, h, r, s, by rw [e]; exact fun φ' H' p kp r' => k φ' H' p kp r' (s.mono p kp)⟩
theorem nx_newL {xs : List IV} : NoEx (newL xs h) := by unfold newL; split <;> (intro _ _ z; cases z)
theorem nx_bin {op : Operator} {a b : IV} : NoEx (binI op a b h) := by
  unfold binI
  split <;> repeat' first
    | (intro _ _ z; cases z; done)
    | exact nx_newL
    | split
theorem nx_cmp {op : CmpOp} {a b : IV} : NoEx (cmpI op a b h) := by
  unfold cmpI
  split <;> repeat' first
    | (intro _ _ z; cases z; done)
    | split
theorem nx_ix {a b : IV} : NoEx (ixI a b h) := by
  unfold ixI
  split <;> repeat' first
    | (intro _ _ z; cases z; done)
    | split
theorem nx_sl {a : IV} {l u : Option Int} : NoEx (slI a l u h) := by
  unfold slI
  split <;> repeat' first
    | (intro _ _ z; cases z; done)
    | split
theorem nx_set {a b v : IV} : NoEx (setI a b v h) := by
  unfold setI
  split <;> repeat' first
    | (intro _ _ z; cases z; done)
    | split
theorem nx_blt {f : Bt} {vs : List IV} : NoEx (bltI f vs h) := by
  unfold bltI
  cases f <;> simp only <;> repeat' first
    | (intro _ _ z; cases z; done)
    | split
theorem nx_meth {m : Mt} {o : IV} {vs : List IV} : NoEx (methI m o vs h) := by
  unfold methI
  split <;> repeat' first
    | (intro _ _ z; cases z; done)
    | split
theorem nx_join {s : Str} {y : IV} : NoEx (joinI s y h) := by
  unfold joinI
  repeat' first
    | (intro _ _ z; cases z; done)
    | split
theorem nx_split {s : Str} {y : IV} : NoEx (splitI s y h) := by
  unfold splitI
  repeat' first
    | (intro _ _ z; cases z; done)
    | split
theorem nx_seal {h0 : IH} {v : IV} : NoEx (sealI h0 v h) := by
  unfold sealI
  repeat' first
    | (intro _ _ z; cases z; done)
    | split
end

def others : List Str := ["isinstance", "ValueError", "int", "bool", "list", "tuple", "str", "range", "enumerate", "zip", "reversed"]
def gK {α : Type} (m : Nat) (perm : List Nat) (us ws : List α) : List α := if us.length = m ∧ m + ws.length = perm.length then arr perm (us ++ ws) else []
structure GX (X : Cx) (W : WX) (c : Cs) (Φ : Calls) (d : Nat) : Prop where
  sc : X.env.scope.names = c.sc
  kd : X.env.scope.kind = .function
  N : X.N = c.N
  nd : c.N.Nodup
  calm : X.calm = true
  room : Room d X.A
  G : ∀ x i, c.G.lookup x = some i → ∃ t, X.mg x = some (.int i t)
  T : ∀ x xs, c.T.lookup x = some xs → ∃ a, X.mg x = some (.ref a) ∧ ∀ H, SqT X.K H a (xs.map V.int)
  Z : ∀ x z, c.Z.lookup x = some z → ∃ t, X.mg x = some (.str z t)
  fc : ∀ x ∈ c.st, X.fn x = true
  tk : Takes X W
  bt : ∀ b : Bt, X.mg b.name = none
  bn : ∀ x ∈ others, X.mg x = none
  fn : ∀ (i id : Nat) (x : Str), c.fns[i]? = some x → c.ids[i]? = some id → ∃ (a : Addr) (fd : FuncData) (ps : List Str), X.mg x = some (.ref a) ∧ PySem.W.keepIn X.K (.ref a) = true ∧ Binds X.K fd ps [] ∧ FnOk X.prog X.w X.K X.mg X.base (L2.CX X.prog X.w) d a fd ps (spI X.K (Φ id)) ∧
    FnOk X.prog X.w X.K X.mg X.base (L2.CX X.prog X.w) d a fd ps (spI X.K (Φ (id + RAW))) ∧ id < RAW ∧ ∀ m ks perm, (i, m, ks, perm) ∈ c.kw → KBinds X.K fd ps ks (gK m perm) (gK m perm)
  ec : ∀ (k : Nat) (x : Str), c.cls.lookup x = some k → ∃ C, ClsTab.cl k = some C ∧ X.mg x = some (.ref C)
  ei : ∀ (d : Nat) (D : Addr), ClsTab.cl d = some D → ExcC X.K D ∧ PySem.W.kitOne X.K (.ref D) (.type "ValueError") = some true ∧ ∀ k C, ClsTab.cl k = some C → PySem.W.kitOne X.K (.ref D) (.ref C) = some (decide (k = 0 ∨ k = d)) ∧ PySem.W.exmOne X.K (.ref D) (.ref C) = some (decide (k = 0 ∨ k = d))
  ep : ∀ (d : Nat) (D : Addr), ClsTab.cl d = some D → PySem.W.findIn X.K (.ref D) "place" = some none
  er : ∀ (k : Nat) (C : Addr), k ∉ c.clsI → ClsTab.cl k = some C → PySem.W.excIn X.K C [.type "ValueError", .type "Exception", .type "BaseException", .type "object"] "ValueError.__new__" = true ∧ PySem.W.keepIn X.K (.ref C) = true ∧ PySem.W.subIn X.K (.ref C) (.type "BaseException") = some true ∧ PySem.W.typeIn X.K (.ref C) = some (.type "type")
  fa : ∀ (i id : Nat) (x : Str), c.fns[i]? = some x → c.ids[i]? = some id → idIx c.ids id = some i → ∃ a, ClsTab.fa id = some a ∧ X.mg x = some (.ref a)
  fv : ∀ (id : Nat) (a : Addr), ClsTab.fa id = some a → PySem.W.keepIn X.K (.ref a) = true ∧ ∃ (fd : FuncData) (ps : List Str), Binds X.K fd ps [] ∧ FnOk X.prog X.w X.K X.mg X.base (L2.CX X.prog X.w) d a fd ps (spI X.K (Φ id))
  eb : ∀ (k : Nat) (C : Addr), k ∈ c.clsI → ClsTab.cl k = some C → ∃ m, d = m + 1 ∧ InitOk X m C
  lam : c.lam = true → LamM X ClsTab.tb ∧ 2 ≤ d

section
variable {X : Cx} {W : WX} {c : Cs} {Φ : Calls} {d : Nat}
theorem GX.hu (g : GX X W c Φ d) : X.A.units + 64 < cLine := g.room.units
theorem GX.vis (g : GX X W c Φ d) {x : Str} (h : c.loc x = true) : Vis X.env.scope x := by
  unfold Cs.loc at h
  unfold Vis
  rw [g.sc]
  split at h
  · rename_i e; exact .inl e
  · rename_i e; exact .inr (.inl e)
  · rename_i e; exact .inr (.inr e)
  · cases h
theorem GX.gl (g : GX X W c Φ d) {x : Str} (h : c.glo x = true) : Gl X x := by
  unfold Cs.glo at h
  show X.env.scope.names.lookup x = some .globalImplicit
  rw [g.sc]
  split at h
  · rename_i e; exact e
  · cases h
theorem plain1 {x : Str} (h : plainName x = true) : (x == ("__debug__" : Str)) = false := by
  unfold plainName at h
  simp only [Bool.and_eq_true, Bool.not_eq_true'] at h
  exact h.1.1
theorem plain2 {x : Str} (h : plainName x = true) : (x == ("__classdict__" : Str)) = false := by
  unfold plainName at h
  simp only [Bool.and_eq_true, Bool.not_eq_true'] at h
  exact h.1.2
abbrev OkE (X : Cx) (W : WX) (Φ : Calls) (e : Expr) (e' : E) : Prop := PE X e (TI X.K W (eE Φ e')) ∧ (tOk e = true → PT X e (TT' X.K W fun σ h => tst (eE Φ e' σ h)))
theorem ok_plain {e : Expr} {e' : E} (p : PE X e (TI X.K W (eE Φ e'))) (hp : ∀ whole, isTrue e X.env whole = (do let v ← whole; standAt e.pos; holding [v] (truthy v))) : OkE X W Φ e e' := by
  refine ⟨p, fun _ => PT.mono (pt_truth p hp) fun τ H Q q => ?_⟩
  obtain ⟨φ, σ, h, r, s, ok⟩ := q
  refine TI.seq r s (OutG.bind (x := eE Φ e' σ h) (show OutG X.K _ φ H ((eE Φ e' σ h).bind _) _ from ok)) fun φ1 H1 h1 v w p k r1 s1 q1 ok => ?_
  split at ok
  · rename_i b eb
    exact ⟨b, truV r1 q1 eb, ok.here r1⟩
  · exact ok.elim
theorem seal_read {K : PySem.W.Frag} {W : WX} {Φ : Calls} {e' : E} {τ : L2.St} {H : Hp} {Q : VK} (q : TI K W (eE Φ (.shut e')) τ H Q) : TI K W (eE Φ e') τ H (Lk Q) := by
  obtain ⟨φ, σ, h, r, s, ok⟩ := q
  refine ⟨φ, σ, h, r, s, ?_⟩
  have ok : OutG K (L2.WE W τ) φ H ((eE Φ e' σ h).bind fun x h1 => sealI h x h1) (CV K Q) := ok
  cases e1 : eE Φ e' σ h with
  | stuck => rw [e1] at ok; exact ok.elim
  | ex ee h1 => rw [e1] at ok; exact ok
  | ok v h1 =>
    rw [e1] at ok
    obtain ⟨y, h2, e2, c⟩ := OutG.ct (nx_seal (h0 := h) (v := v) (h := h1)) ok
    intro φ1 H1 p1 k1 r1 w q1
    obtain ⟨S, hS⟩ := seal_ok r p1 k1 r1 q1 e2
    refine ⟨S, fun H' l => ?_⟩
    obtain ⟨φ', p2, k2, r2, q2⟩ := hS H' l
    exact c φ' H' w p2 k2 r2 q2
theorem ok_seal {e : Expr} {e' : E} (p : PE X e (TI X.K W (eE Φ e'))) : PE X e (TI X.K W (eE Φ (.shut e'))) := PE.mono (Pi.PE.lock p) fun τ H Q q => seal_read q
theorem ok_sl {e : Expr} {e' : E} (o : OkE X W Φ e e') : OkE X W Φ e (slE e e') := by
  unfold slE
  split
  · rename_i hl
    refine ok_plain (ok_seal o.1) fun whole => ?_
    cases e <;> first
      | rfl
      | cases hl
  · exact o
end
end Pi
end

section
set_option maxHeartbeats 8000000
namespace Pi
open PySem PySem.Spec PyProof.Rows L2
variable [ClsTab]

section
variable {X : Cx} {W : WX} {c : Cs} {Φ : Calls} {d : Nat} {f : Expr → Option E}

theorem star_plain {e : Expr} {es : List Expr} {env : Env} (h : ∀ x p, e ≠ .Starred x p) : starEach (e :: es) env = (false, eval e env) :: starEach es env := by
  cases e <;> first | rfl | exact absurd rfl (h _ _)
theorem star_none {env : Env} : ∀ {es : List Expr}, (∀ e ∈ es, ∀ x p, e ≠ .Starred x p) → (starEach es env).any (·.1) = false
  | [], _ => rfl
  | e :: es, h => by
    rw [star_plain (h e List.mem_cons_self)]
    exact star_none fun e' m => h e' (List.mem_cons_of_mem _ m)
theorem any_backTo (pos : Pos) : ∀ l : List (Bool × Sem Value), (backTo pos l).any (·.1) = l.any (·.1)
  | [] => rfl
  | (a, b) :: l => by
    have ih := any_backTo pos l
    unfold backTo at ih ⊢
    rw [List.map_cons, List.any_cons, List.any_cons, ih]
theorem back_none {pos : Pos} {env : Env} {es : List Expr} (h : ∀ e ∈ es, ∀ x p, e ≠ .Starred x p) : (backTo pos (starEach es env)).any (·.1) = false := by
  rw [any_backTo]; exact star_none h
theorem noStar {n : Nat} {e : Expr} {e' : E} (h : cE n c e = some e') : ∀ x p, e ≠ .Starred x p := by
  intro x p q
  subst q
  cases n <;> cases h
structure Fok (X : Cx) (W : WX) (Φ : Calls) (f : Expr → Option E) : Prop where
  ok : ∀ e e', f e = some e' → OkE X W Φ e e'
  ns : ∀ e e', f e = some e' → ∀ x p, e ≠ .Starred x p
theorem fok_sl {n : Nat} (ih : ∀ e e', cE n c e = some e' → OkE X W Φ e e') : Fok X W Φ fun e => (cE n c e).map (slE e) :=
  ⟨fun e e' h => by
    obtain ⟨e1, h1, h2⟩ := Option.map_eq_some_iff.mp h
    subst h2
    exact ok_sl (ih e e1 h1), fun e e' h => by
    obtain ⟨e1, h1, h2⟩ := Option.map_eq_some_iff.mp h
    exact noStar h1⟩
theorem fok_cE {n : Nat} (ih : ∀ e e', cE n c e = some e' → OkE X W Φ e e') : Fok X W Φ (cE n c) := ⟨ih, fun e e' h => noStar h⟩
theorem cEs_noStar (F : Fok X W Φ f) : ∀ {es : List Expr} {es' : Es}, cEs f es = some es' → ∀ e ∈ es, ∀ x p, e ≠ .Starred x p
  | [], _, _, e, m => absurd m List.not_mem_nil
  | a :: r, es', h, e, m => by
    unfold cEs at h
    obtain ⟨a', e1, h⟩ := Option.bind_eq_some_iff.mp h
    obtain ⟨r', e2, h⟩ := Option.map_eq_some_iff.mp h
    rcases List.mem_cons.mp m with q | q
    · subst q; exact F.ns _ _ e1
    · exact cEs_noStar F e2 e q

theorem es_ok (F : Fok X W Φ f) : ∀ (es : List Expr) (es' : Es), cEs f es = some es' → PA X es (TL X.K W (eEs Φ es'))
  | [], es', h => by
    cases h
    refine PA.mono pa_nil fun τ H Q q => ?_
    obtain ⟨φ, σ, h, r, s, ok⟩ := q
    exact OutG.here (v := ([] : List IV)) ok r [] (by rw [VRs])
  | a :: r, es', h => by
    unfold cEs at h
    obtain ⟨a', e1, h⟩ := Option.bind_eq_some_iff.mp h
    obtain ⟨r', e2, h⟩ := Option.map_eq_some_iff.mp h
    subst h
    refine PA.mono (pa_cons (F.ok a a' e1).1 (es_ok F r r' e2) (star_plain (F.ns _ _ e1))) fun τ H Q q => ?_
    obtain ⟨φ, σ, h, rl, s, ok⟩ := q
    refine TI.seq rl s (OutG.bind (x := eE Φ a' σ h) (show OutG X.K _ φ H ((eE Φ a' σ h).bind _) _ from ok)) fun φ1 H1 h1 v w p1 k1 r1 s1 q1 ok => ?_
    refine TL.seq r1 s1 (OutG.bind (x := eEs Φ r' σ h1) ok) fun φ2 H2 h2 vs ws p2 k2 r2 s2 q2 ok => ?_
    refine ok.here r2 _ ?_
    rw [VRs]
    exact ⟨w, ws, rfl, q1.mono p2 k2, q2⟩

theorem tst_out {K : PySem.W.Frag} {E : XK} {φ : List Addr} {H : Hp} {x : Out IV} {C : List Addr → Hp → IH → Bool → Prop} (ok : OutG K E φ H (tst x) C) : OutG K E φ H x fun φ' H' h1 v => ∃ b, truI v h1 = some b ∧ ∀ φ2 H2, Px φ' φ2 → Kp φ' φ2 H' H2 → Rel K φ2 h1 H2 → C φ2 H2 h1 b := by
  refine (OutG.bind (x := x) ok).imp fun φ' H' h1 v p k r ok => ?_
  split at ok
  · rename_i b eb
    exact ⟨b, eb, ok⟩
  · exact ok.elim
theorem tst_bind {α : Type} {x : Out α} {f : α → IH → Out IV} : tst (x.bind f) = x.bind fun a h => tst (f a h) := by
  cases x <;> rfl
theorem tst_in {K : PySem.W.Frag} {E : XK} {φ : List Addr} {H : Hp} {α : Type} {x : Out α} {f : α → IH → Out IV} {C : List Addr → Hp → IH → Bool → Prop} (ok : OutG K E φ H (tst (x.bind f)) C) : OutG K E φ H (x.bind fun a h => tst (f a h)) C := by
  rw [tst_bind] at ok; exact ok
theorem b_ok (F : Fok X W Φ f) (op : BoolOp) (pos : Pos) : ∀ (es : List Expr) (e' : E), cB f op es = some e' → es.all tOk = true →
    PE X (.BoolOp op es pos) (TI X.K W (eE Φ e')) ∧ PW X (.BoolOp op es pos) (TT' X.K W fun σ h => tst (eE Φ e' σ h))
  | [], e', h, _ => by cases h
  | [a], e', h, ht => by
    have o := F.ok a e' h
    rw [List.all_cons, Bool.and_eq_true] at ht
    refine ⟨pe_one o.1, ?_⟩
    cases op with
    | And => exact pw_and1 (o.2 ht.1)
    | Or => exact pw_or1 (o.2 ht.1)
  | a :: b :: r, e', h, ht => by
    unfold cB at h
    obtain ⟨a', e1, h⟩ := Option.bind_eq_some_iff.mp h
    obtain ⟨b', e2, h⟩ := Option.map_eq_some_iff.mp h
    rw [List.all_cons, Bool.and_eq_true] at ht
    have oa := F.ok a a' e1
    obtain ⟨ob1, ob2⟩ := b_ok F op pos (b :: r) b' e2 ht.2
    cases op with
    | And =>
      have h : E.and a' b' = e' := h
      subst h
      refine ⟨PE.mono (pe_andT oa.1 ob1) fun τ H Q q => ?_, PW.mono (pw_and (oa.2 ht.1) ob2) fun τ H Q q => ?_⟩
      · obtain ⟨φ, σ, h, rl, s, ok⟩ := q
        refine TI.seq rl s (OutG.bind (x := eE Φ a' σ h) (show OutG X.K _ φ H ((eE Φ a' σ h).bind _) _ from ok)) fun φ1 H1 h1 v w p1 k1 r1 s1 q1 ok => ?_
        split at ok
        · rename_i et
          refine ⟨true, truV r1 q1 et, ?_⟩
          rw [if_pos rfl]
          exact ⟨φ1, σ, h1, r1, s1, ok⟩
        · rename_i et
          refine ⟨false, truV r1 q1 et, ?_⟩
          rw [if_neg Bool.false_ne_true]
          exact ok.here r1 w q1
        · exact ok.elim
      · obtain ⟨φ, σ, h, rl, s, ok⟩ := q
        have ok : OutG X.K (L2.WE W τ) φ H (tst ((eE Φ a' σ h).bind fun x h1 => match truI x h1 with | some true => eE Φ b' σ h1 | some false => .ok x h1 | none => .stuck)) _ := ok
        refine ⟨φ, σ, h, rl, s, ?_⟩
        show OutG X.K (L2.WE W τ) φ H (tst (eE Φ a' σ h)) _
        unfold tst at ok ⊢
        cases ea : eE Φ a' σ h with
        | stuck => rw [ea] at ok; exact ok.elim
        | ex ee h1 => rw [ea] at ok; exact ok
        | ok v h1 =>
          rw [ea] at ok
          simp only [bind_ok] at ok ⊢
          split at ok
          · rename_i et
            rw [et]
            intro φ1 H1 p1 k1 r1
            rw [if_pos rfl]
            exact ⟨φ1, σ, h1, r1, s.mono p1 k1, ok.later p1 k1⟩
          · rename_i et
            simp only [bind_ok, et] at ok ⊢
            intro φ1 H1 p1 k1 r1
            rw [if_neg Bool.false_ne_true]
            exact ok φ1 H1 p1 k1 r1
          · exact ok.elim
    | Or =>
      have h : E.or a' b' = e' := h
      subst h
      refine ⟨PE.mono (pe_orT oa.1 ob1) fun τ H Q q => ?_, PW.mono (pw_or (oa.2 ht.1) ob2) fun τ H Q q => ?_⟩
      · obtain ⟨φ, σ, h, rl, s, ok⟩ := q
        refine TI.seq rl s (OutG.bind (x := eE Φ a' σ h) (show OutG X.K _ φ H ((eE Φ a' σ h).bind _) _ from ok)) fun φ1 H1 h1 v w p1 k1 r1 s1 q1 ok => ?_
        split at ok
        · rename_i et
          refine ⟨true, truV r1 q1 et, ?_⟩
          rw [if_pos rfl]
          exact ok.here r1 w q1
        · rename_i et
          refine ⟨false, truV r1 q1 et, ?_⟩
          rw [if_neg Bool.false_ne_true]
          exact ⟨φ1, σ, h1, r1, s1, ok⟩
        · exact ok.elim
      · obtain ⟨φ, σ, h, rl, s, ok⟩ := q
        have ok : OutG X.K (L2.WE W τ) φ H (tst ((eE Φ a' σ h).bind fun x h1 => match truI x h1 with | some true => .ok x h1 | some false => eE Φ b' σ h1 | none => .stuck)) _ := ok
        refine ⟨φ, σ, h, rl, s, ?_⟩
        show OutG X.K (L2.WE W τ) φ H (tst (eE Φ a' σ h)) _
        unfold tst at ok ⊢
        cases ea : eE Φ a' σ h with
        | stuck => rw [ea] at ok; exact ok.elim
        | ex ee h1 => rw [ea] at ok; exact ok
        | ok v h1 =>
          rw [ea] at ok
          simp only [bind_ok] at ok ⊢
          split at ok
          · rename_i et
            simp only [bind_ok, et] at ok ⊢
            intro φ1 H1 p1 k1 r1
            rw [if_pos rfl]
            exact ok φ1 H1 p1 k1 r1
          · rename_i et
            rw [et]
            intro φ1 H1 p1 k1 r1
            rw [if_neg Bool.false_ne_true]
            exact ⟨φ1, σ, h1, r1, s.mono p1 k1, ok.later p1 k1⟩
          · exact ok.elim

theorem PlainIx.of {b : Expr} (h : ixOk b = true) : PlainIx b := by
  cases b <;> first | exact fun _ _ => rfl | cases h
theorem findBt_ok {x : Str} {b : Bt} (h : findBt x = some b) : b.name = x := by
  unfold findBt at h
  have h2 := List.find?_some h
  exact of_decide_eq_true h2
theorem findTy_ok {x : Str} {b : Ty} (h : findTy x = some b) : b.name = x := by
  unfold findTy at h
  have h2 := List.find?_some h
  exact of_decide_eq_true h2
theorem findMt_ok {x : Str} {b : Mt} (h : findMt x = some b) : b.name = x := by
  unfold findMt at h
  have h2 := List.find?_some h
  exact of_decide_eq_true h2
theorem boot_bt (b : Bt) : bootBuiltins b.name = some b.value := by
  cases b
  · exact PyProof.Rows.boot_abs
  · exact PySem.boot_len
  · exact PyProof.Rows.boot_list
  · exact PyProof.Rows.boot_tuple
  · exact PyProof.Rows.boot_int
  · exact PyProof.Rows.boot_max
  · exact PyProof.Rows.boot_min
  · exact PyProof.Rows.boot_sum
  · exact PyProof.Rows.boot_all
  · exact PyProof.Rows.boot_any
  · exact PyProof.Rows.boot_set
  · exact PyProof.Rows.boot_sorted
  · exact PyProof.Rows.boot_str
theorem boot_ty (b : Ty) : bootBuiltins b.name = some (.type b.txt) := by
  cases b
  · exact PyProof.Rows.boot_int
  · exact PyProof.Rows.boot_bool
  · exact PyProof.Rows.boot_list
  · exact PyProof.Rows.boot_tuple
  · exact PyProof.Rows.boot_str

theorem pe_blt (g : GX X W c Φ d) {b : Bt} {e : Expr} {es : List Expr} {t : TA} {p pos : Pos} (hg : Gl X b.name) (ha : PA X (e :: es) t) (hns : ∀ e' ∈ e :: es, ∀ x p, e' ≠ .Starred x p) :
    PE X (.Call (.Name b.name p) (e :: es) [] pos) (tCB (rBlt X.K b) t) := by
  have hv := boot_bt b
  have hb := opBlt (X := X) g.calm g.hu b
  have s1 := star_plain (es := es) (env := X.env) (hns e List.mem_cons_self)
  have s2 := back_none (pos := pos) (env := X.env) (es := es) fun e' m => hns e' (List.mem_cons_of_mem _ m)
  cases b
  · exact pe_callB hb hg (g.bt .abs) hv ha (by decide) (by decide) s1 s2
  · exact pe_callB hb hg (g.bt .len) hv ha (by decide) (by decide) s1 s2
  · exact pe_callTy hb hg (g.bt .list) hv ha (by decide) (by decide) s1 s2
  · exact pe_callTy hb hg (g.bt .tuple) hv ha (by decide) (by decide) s1 s2
  · exact pe_callTy hb hg (g.bt .int) hv ha (by decide) (by decide) s1 s2
  · exact pe_callB hb hg (g.bt .max) hv ha (by decide) (by decide) s1 s2
  · exact pe_callB hb hg (g.bt .min) hv ha (by decide) (by decide) s1 s2
  · exact pe_callB hb hg (g.bt .sum) hv ha (by decide) (by decide) s1 s2
  · exact pe_callB hb hg (g.bt .all) hv ha (by decide) (by decide) s1 s2
  · exact pe_callB hb hg (g.bt .any) hv ha (by decide) (by decide) s1 s2
  · exact pe_callTy hb hg (g.bt .set) hv ha (by decide) (by decide) s1 s2
  · exact pe_callB hb hg (g.bt .sorted) hv ha (by decide) (by decide) s1 s2
  · exact pe_callTy hb hg (g.bt .str) hv ha (by decide) (by decide) s1 s2

def rSetR (K : PySem.W.Frag) (w : World) : List V → Hp → VK → Prop := fun xs H Q => ∃ (l : Addr) (ns : List Int), xs = [V.ref l] ∧ SqL K H l (ns.map V.int) ∧ ns.length + 1 < 4096 ∧
  ∀ p c, H p = none → c ≤ ns.length → Q (.ref p) (upd H p (SetO w p (fun j => decide (j ∈ ns)) c))
theorem cr_setR (hc : X.calm = true) : CallR X (.type "set") (rSetR X.K X.w) := by
  intro pins s σ H xs us Q J r h
  obtain ⟨l, ns, rfl, sq, few, q⟩ := h
  rw [Vals.ref1 r]
  obtain ⟨its, rv, pl, hz⟩ := J.list sq
  have hn : H s.heap.objs.size = none := J.hok.fresh (Nat.le_refl _)
  refine set_list_R ns (J.ok.hd hc) pl.isList (by simpa using rv.ints) (by unfold scanBound; omega) fun g tk c R le keep => ?_
  exact ⟨.ref s.heap.objs.size, upd H s.heap.objs.size (SetO X.w s.heap.objs.size (fun j => decide (j ∈ ns)) c), J.laid (t' := tk) keep (Nat.le_refl _) (setO_new R), rfl, q _ c hn le⟩
theorem ded_mem (ns : List Int) : (ded ns).Nodup ∧ ∀ k, k ∈ ded ns ↔ k ∈ ns := by
  have e : ded ns = ns.foldl PyProof.Rows.step_dedup [] := by
    unfold ded PyProof.Rows.firstMet
    congr 1
    refine List.ext_getElem (by simp) fun i h1 h2 => ?_
    simp [List.getElem?_eq_getElem h2]
  rw [e]
  have go : ∀ (xs acc : List Int), acc.Nodup → (xs.foldl PyProof.Rows.step_dedup acc).Nodup ∧ ∀ k, k ∈ xs.foldl PyProof.Rows.step_dedup acc ↔ k ∈ acc ∨ k ∈ xs := by
    intro xs
    induction xs with
    | nil => intro acc n; exact ⟨n, fun k => by simp⟩
    | cons x xs ih =>
      intro acc n
      rw [List.foldl_cons]
      by_cases m : x ∈ acc
      · have e1 : PyProof.Rows.step_dedup acc x = acc := by unfold PyProof.Rows.step_dedup; rw [if_pos (by simpa using m)]
        rw [e1]
        refine ⟨(ih acc n).1, fun k => ?_⟩
        rw [(ih acc n).2 k, List.mem_cons]
        constructor
        · rintro (h | h)
          · exact .inl h
          · exact .inr (.inr h)
        · rintro (h | rfl | h)
          · exact .inl h
          · exact .inl m
          · exact .inr h
      · have e1 : PyProof.Rows.step_dedup acc x = acc ++ [x] := by unfold PyProof.Rows.step_dedup; rw [if_neg (by simpa using m)]
        have n2 : (acc ++ [x]).Nodup := by
          rw [List.nodup_append]
          refine ⟨n, by simp, fun a ha b hb => ?_⟩
          rw [List.mem_singleton] at hb
          intro z; rw [z, hb] at ha; exact m ha
        rw [e1]
        refine ⟨(ih _ n2).1, fun k => ?_⟩
        rw [(ih _ n2).2 k]
        simp only [List.mem_append, List.mem_cons, List.not_mem_nil, or_false, or_assoc]
  have g := go ns [] List.nodup_nil
  exact ⟨g.1, fun k => by rw [g.2 k]; simp⟩
theorem sst_eq {ns ns' : List Int} (pw : ns'.Pairwise (· < ·)) (hm : ∀ k, k ∈ ns' ↔ k ∈ ns) : ns' = sst ns := by
  obtain ⟨d1, d2⟩ := ded_mem ns
  have nd : ns'.Nodup := pw.imp fun h => Int.ne_of_lt h
  have pm : ns'.Perm (ded ns) := (List.perm_ext_iff_of_nodup nd d1).mpr fun k => by rw [hm, d2]
  exact srt_eq pm (pw.imp fun h => Int.le_of_lt h)
theorem sset_ok (g : GX X W c Φ d) {x : Str} {args : List Expr} {a : Expr} {a' : E} {p pos : Pos} (h : ssArg c x args = some a) (ha : PE X a (TI X.K W (eE Φ a'))) (na : ∀ x p, a ≠ .Starred x p) (hgx : Gl X x) :
    PE X (.Call (.Name x p) args [] pos) (TI X.K W (eE Φ (.sset a'))) := by
  unfold ssArg at h
  split at h
  · rename_i y yp a0 ypos
    split at h
    · rename_i hb
      simp only [Bool.and_eq_true, decide_eq_true_eq] at hb
      obtain ⟨⟨⟨rfl, rfl⟩, hgl⟩, _⟩ := hb
      have ea : a0 = a := Option.some.inj h
      subst ea
      have pset := pe_callTy (p := yp) (pos := ypos) (cr_setR (X := X) g.calm) (g.gl hgl) (g.bt .set) PyProof.Rows.boot_set (pa_cons ha pa_nil (star_plain na)) (by decide) (by decide) (star_plain na) (by rfl)
      refine PE.mono (pe_callB (cr_sortedSetN (X := X) g.calm) hgx (g.bt .sorted) PyProof.Rows.boot_sorted (pa_cons pset pa_nil (by rfl)) (by decide) (by decide) (by rfl) (by rfl)) fun τ H Q q => ?_
      obtain ⟨φ, σ, h, rl, s, ok⟩ := q
      refine TI.seq rl s (OutG.bind (x := eE Φ a' σ h) (show OutG X.K _ φ H ((eE Φ a' σ h).bind _) _ from ok)) fun φ1 H1 h1 v w1 p1 k1 r1 s1 q1 ok => ?_
      split at ok
      · rename_i ns en
        split at ok
        · rename_i few
          have k := Ct.cv ok
          obtain ⟨ys, ey, ei⟩ := Option.bind_eq_some_iff.mp en
          obtain ⟨pl, vs, rfl, sq, qv, _⟩ := r1.lstV q1 ey
          have ev := qv.ints ei
          subst ev
          refine ⟨pl, ns, rfl, sq, few, fun ps cs hp le => ?_⟩
          refine ⟨ps, _, cs, rfl, upd_same, fun ns' pz hs hmem hlen hpz => ?_⟩
          have en' : ns' = sst ns := sst_eq hs fun k => by rw [hmem k]; simp
          subst en'
          have r2 : Rel X.K φ1 h1 (upd H1 ps (SetO X.w ps (fun j => decide (j ∈ ns)) cs)) := r1.newU hp
          have c2 : Ct X.K φ1 (h1 ++ [.lst ((sst ns).map .int)]) (upd H1 ps (SetO X.w ps (fun j => decide (j ∈ ns)) cs)) (.ref h1.length) Q := k.later (.refl φ1) (.newU hp)
          exact c2.list r2 (VRs.ofInts _) hpz
        · exact ok.elim
      · exact ok.elim
    · cases h
  · cases h
theorem VRs.ofRange {K : PySem.W.Frag} {φ : List Addr} {H : Hp} (n : Int) : VRs K φ H ((List.range n.toNat).map fun i : Nat => IV.int i) (rgV 0 n) := by
  have e : rgV 0 n = ((List.range n.toNat).map fun i : Nat => ((i : Nat) : Int)).map V.int := by
    unfold rgV
    rw [List.map_map, Int.sub_zero]
    congr 1
    funext i
    simp
  have e2 : ((List.range n.toNat).map fun i : Nat => IV.int i) = ((List.range n.toNat).map fun i : Nat => ((i : Nat) : Int)).map IV.int := by rw [List.map_map]; rfl
  rw [e, e2]
  exact VRs.ofInts _
theorem rgt_ok (g : GX X W c Φ d) {x : Str} {args : List Expr} {t : Bool} {a : Expr} {a' : E} {p pos : Pos} (h : rgArg c x args = some (t, a)) (ha : PE X a (TI X.K W (eE Φ a'))) (na : ∀ x p, a ≠ .Starred x p) (hgx : Gl X x) :
    PE X (.Call (.Name x p) args [] pos) (TI X.K W (eE Φ (if t then .trg a' else .lrg a'))) := by
  unfold rgArg at h
  split at h
  · rename_i y yp a0 ypos
    split at h
    · rename_i hb
      simp only [Bool.and_eq_true, decide_eq_true_eq] at hb
      obtain ⟨⟨rfl, hgl⟩, _⟩ := hb
      split at h
      · rename_i ex
        cases h
        subst ex
        refine PE.mono (pe_tupRg g.calm hgx (g.bt .tuple) (prg_1 (X := X) (p := yp) (pos := ypos) (g.gl hgl) (g.bn _ (by decide)) ha (star_plain na)) (by rfl)) fun τ H Q q => ?_
        obtain ⟨φ, σ, h, rl, s, ok⟩ := q
        refine TI.seq rl s (OutG.bind (x := eE Φ a' σ h) (show OutG X.K _ φ H ((eE Φ a' σ h).bind _) _ from ok)) fun φ1 H1 h1 z w1 p1 k1 r1 s1 q1 ok => ?_
        split at ok
        · rename_i n
          split at ok
          · rename_i hz
            rw [VR] at q1
            refine ⟨n, q1, .of_le (by omega) (by omega) (by omega) (by omega), fun q hq => ?_⟩
            exact (Ct.cv ok).tup r1 (VRs.ofRange n) (by rw [rgV_length, sizeLine_eq]; omega) hq
          · exact ok.elim
        · exact ok.elim
      · split at h
        · rename_i ex
          cases h
          subst ex
          refine PE.mono (pe_listRg g.calm hgx (g.bt .list) (prg_1 (X := X) (p := yp) (pos := ypos) (g.gl hgl) (g.bn _ (by decide)) ha (star_plain na)) (by rfl)) fun τ H Q q => ?_
          obtain ⟨φ, σ, h, rl, s, ok⟩ := q
          refine TI.seq rl s (OutG.bind (x := eE Φ a' σ h) (show OutG X.K _ φ H ((eE Φ a' σ h).bind _) _ from ok)) fun φ1 H1 h1 z w1 p1 k1 r1 s1 q1 ok => ?_
          split at ok
          · rename_i n
            split at ok
            · rename_i hz
              rw [VR] at q1
              refine ⟨n, q1, .of_le (by omega) (by omega) (by omega) (by omega), fun q hq => ?_⟩
              exact (Ct.cv ok).list r1 (VRs.ofRange n) hq
            · exact ok.elim
          · exact ok.elim
        · cases h
    · cases h
  · cases h
theorem isx_ok (g : GX X W c Φ d) {t : Str} {tp p pos : Pos} {a : Expr} {a' e' : E} (hg : Gl X "isinstance") (hm : X.mg ("isinstance" : Str) = none) (ht : c.glo t = true) (hp : plainName t = true) (ha : PE X a (TI X.K W (eE Φ a'))) (na : ∀ x p, a ≠ .Starred x p)
    (h : (if t = ("ValueError" : Str) then some (E.isx a' none) else (c.cls.lookup t).map fun k => .isx a' (some k)) = some e') : PE X (.Call (.Name "isinstance" p) [a, .Name t tp] [] pos) (TI X.K W (eE Φ e')) := by
  have fin : ∀ (co : Option Nat) (tV : V) (tv : Value), (∀ u, RelV tV u → u = tv) → PE X (.Name t tp) (tC tV) → (∀ d D, ClsTab.cl d = some D → PySem.W.kitOne X.K (.ref D) tv = isxI co (.exc d [])) → PE X (.Call (.Name "isinstance" p) [a, .Name t tp] [] pos) (TI X.K W (eE Φ (.isx a' co))) := fun co tV tv hv pt hk => by
    refine PE.mono (pe_callB (call_isX (X := X)) hg hm PyProof.Rows.boot_isinstance (pa_cons ha (pa_cons pt pa_nil (by rfl)) (star_plain na)) (by decide) (by decide) (star_plain na) rfl) fun τ H Q q => ?_
    obtain ⟨φ, σ, h, rl, s, ok⟩ := q
    refine TI.seq rl s (OutG.bind (x := eE Φ a' σ h) (show OutG X.K _ φ H ((eE Φ a' σ h).bind _) _ from ok)) fun φ1 H1 h1 z w p1 k1 r1 s1 q1 ok => ?_
    split at ok
    case h_2 => exact ok.elim
    rename_i b eb
    unfold isxI at eb
    split at eb
    case h_2 => cases eb
    rename_i dd vv
    rw [VR] at q1
    obtain ⟨a1, D, ws, rfl, hD, qs, hx⟩ := q1
    have hx : ∃ d, H1 a1 = some (ExcO D d a1) ∧ DK d H1 := by
      rcases hx with ⟨_, hx⟩ | ⟨dd, w, _, hx, hd⟩
      · exact ⟨none, hx, .inl rfl⟩
      · exact ⟨some dd, hx, .inr ⟨dd, _, rfl, hd⟩⟩
    obtain ⟨dd1, hx, hdk⟩ := hx
    exact ⟨a1, D, dd1, tV, tv, b, rfl, hx, hdk, (g.ei dd D hD).1, hv, (hk dd D hD).trans eb, (Ct.cv ok).bl r1⟩
  split at h
  · rename_i et
    subst et
    cases h
    exact fin none (.ty "ValueError") (.type "ValueError") (fun u r => r) (pe_bltn (g.gl ht) (g.bn _ (by decide)) boot_ValueError rfl (by decide) (by decide)) fun d D hD => (g.ei d D hD).2.1
  · obtain ⟨k, ek, h⟩ := Option.map_eq_some_iff.mp h
    subst h
    obtain ⟨C, hC, hm2⟩ := g.ec k t ek
    exact fin (some k) (.ref C) (.ref C) (fun u r => r) (pe_glob (g.gl ht) hm2 rfl (plain1 hp)) fun d D hD => ((g.ei d D hD).2.2 k C hC).1

theorem pe_callV (g : GX X W c Φ d) {i : Nat} {x : Str} {e : Expr} {es : List Expr} {t : TA} {p pos : Pos} (hN : X.N[i]? = some x) (hv : Vis X.env.scope x) (hdb : (x == ("__debug__" : Str)) = false) (hcd : (x == ("__classdict__" : Str)) = false)
    (ha : PA X (e :: es) t) (he : starEach (e :: es) X.env = (false, eval e X.env) :: starEach es X.env) (hpl : (backTo pos (starEach es X.env)).any (·.1) = false) :
    PE X (.Call (.Name x p) (e :: es) [] pos) (fun τ H Q => ∃ id a, τ[i]? = some (some (.ref a)) ∧ ClsTab.fa id = some a ∧ tCallS (spI X.K (Φ id)) (L2.WE W) t τ H Q) := by
  refine ⟨fun pins s σ H Q I h => ?_⟩
  obtain ⟨id, a, hs, hf, h⟩ := h
  obtain ⟨hk, fd, ps, hb, F⟩ := g.fv id a hf
  refine wpAny_Call_Name_kw (thn ((pe_var (X := X) (pos := p) hN hv hdb hcd).run pins s σ H (fun v H1 => v = .ref a ∧ H1 = H) I ⟨_, hs, rfl, rfl⟩) fun u s0 ⟨v0, H0, I0, r0, ev, eh⟩ => ?_)
  subst ev eh
  obtain rfl : u = Value.ref a := r0
  refine PySem.W.callWith_K (h₀ := X.base) I0.ok.mod.kin hk (thn (ha.run pos pins s0 σ H0 _ I0 h) fun us s1 ⟨vs, H1, I1, r, q⟩ => ⟨I1.kIn, ?_⟩) he hpl
  exact run_fnS F g.room hb (passAt g.tk σ) I1 r q
theorem call_ok (g : GX X W c Φ d) (G : Fok X W Φ f) {x : Str} {args : List Expr} {p pos : Pos} {e' : E} (h : cCall c f x args = some e') :
    PE X (.Call (.Name x p) args [] pos) (TI X.K W (eE Φ e')) ∧ PE X (.Call (.Name x p) args [] pos) (TI X.K W (eE Φ (rawE e'))) := by
  unfold cCall at h
  split at h
  · rename_i hx
    rw [Bool.and_eq_true] at hx
    have hg := g.gl hx.2
    split at h
    · -- an own def
      rename_i i ei
      obtain ⟨id, eid, h⟩ := Option.bind_eq_some_iff.mp h
      obtain ⟨es, e1, h⟩ := Option.map_eq_some_iff.mp h
      subst h
      obtain ⟨a, fd, ps, hm, hk, hb, F, F2, hid, _⟩ := g.fn i id x (findIx_get ei) eid
      cases args with
      | nil => cases e1
      | cons a0 rest =>
        have e1 : cEs f (a0 :: rest) = some es := e1
        have ha := es_ok G _ es e1
        have hns := cEs_noStar G e1
        have go : ∀ j τ H Q, TI X.K W (eE Φ (.call j es)) τ H Q → tCallS (spI X.K (Φ j)) (L2.WE W) (TL X.K W (eEs Φ es)) τ H Q := fun j τ H Q q => by
          obtain ⟨φ, σ, h, rl, s, ok⟩ := q
          refine TL.seq rl s (OutG.bind (x := eEs Φ es σ h) (show OutG X.K _ φ H ((eEs Φ es σ h).bind _) _ from ok)) fun φ1 H1 h1 vs ws p1 k1 r1 s1 q1 ok => ?_
          exact ⟨φ1, h1, vs, r1, q1, ok⟩
        have er : rawE (.call id es) = .call (id + RAW) es := if_pos hid
        rw [er]
        exact ⟨PE.mono (pe_callS F g.room hg hm hk hb (fun σ => passAt g.tk σ) ha (plain1 hx.1) (star_plain (hns a0 List.mem_cons_self)) (back_none fun e m => hns e (List.mem_cons_of_mem _ m))) (go id),
          PE.mono (pe_callS F2 g.room hg hm hk hb (fun σ => passAt g.tk σ) ha (plain1 hx.1) (star_plain (hns a0 List.mem_cons_self)) (back_none fun e m => hns e (List.mem_cons_of_mem _ m))) (go (id + RAW))⟩
    · split at h
      · -- isinstance
        rename_i hx2
        split at h
        · rename_i a t tp
          split at h
          · rename_i ht
            rw [Bool.and_eq_true] at ht
            obtain ⟨a', e1, h⟩ := Option.bind_eq_some_iff.mp h
            subst hx2
            have hm : X.mg ("isinstance" : Str) = none := g.bn _ (by decide)
            split at h
            · rename_i ty e2
              cases h
              have en := findTy_ok e2
              subst en
              have hmt : X.mg ty.name = none := g.bn _ (by cases ty <;> decide)
              have pt : PE X (.Name ty.name tp) (tC (.ty ty.txt)) := pe_bltn (g.gl ht.2) hmt (boot_ty ty) rfl (by cases ty <;> decide) (by cases ty <;> decide)
              have R : PE X (.Call (.Name "isinstance" p) [a, .Name ty.name tp] [] pos) (TI X.K W (eE Φ (.isi a' ty))) := by
                refine PE.mono (pe_callB (opIs ty) hg hm PyProof.Rows.boot_isinstance (pa_cons (G.ok a a' e1).1 (pa_cons pt pa_nil (by rfl)) (star_plain (G.ns _ _ e1))) (by decide) (by decide) (star_plain (G.ns _ _ e1)) rfl) fun τ H Q q => ?_
                obtain ⟨φ, σ, h, rl, s, ok⟩ := q
                refine TI.seq rl s (OutG.bind (x := eE Φ a' σ h) (show OutG X.K _ φ H ((eE Φ a' σ h).bind _) _ from ok)) fun φ1 H1 h1 z w p1 k1 r1 s1 q1 ok => ?_
                split at ok
                · rename_i b eb
                  exact ⟨φ1, h1, z, w, b, r1, q1, rfl, eb, Ct.cv ok⟩
                · exact ok.elim
              exact ⟨R, R⟩
            · have R : PE X (.Call (.Name "isinstance" p) [a, .Name t tp] [] pos) (TI X.K W (eE Φ e')) := isx_ok g hg hm ht.2 (by simpa using ht.1) (G.ok a a' e1).1 (G.ns _ _ e1) h
              have er : rawE e' = e' := by
                split at h
                · cases h; rfl
                · obtain ⟨k, _, rfl⟩ := Option.map_eq_some_iff.mp h; rfl
              rw [er]
              exact ⟨R, R⟩
          · cases h
        · cases h
      · split at h
        · rename_i a es0
          obtain ⟨a', e1, h⟩ := Option.map_eq_some_iff.mp h
          subst h
          exact ⟨sset_ok g es0 (G.ok a a' e1).1 (G.ns _ _ e1) hg, sset_ok g es0 (G.ok a a' e1).1 (G.ns _ _ e1) hg⟩
        split at h
        · rename_i t a es1
          obtain ⟨a', e1, h⟩ := Option.map_eq_some_iff.mp h
          subst h
          have R := rgt_ok (p := p) (pos := pos) g es1 (G.ok a a' e1).1 (G.ns _ _ e1) hg
          refine ⟨R, ?_⟩
          have er : rawE (if t then E.trg a' else .lrg a') = (if t then E.trg a' else .lrg a') := by cases t <;> rfl
          rw [er]
          exact R
        split at h
        · cases h
        · rename_i a0 rest _ _
          obtain ⟨b, e1, h⟩ := Option.bind_eq_some_iff.mp h
          obtain ⟨es, e2, h⟩ := Option.map_eq_some_iff.mp h
          subst h
          have en := findBt_ok e1
          subst en
          have R : PE X (.Call (.Name b.name p) (a0 :: rest) [] pos) (TI X.K W (eE Φ (.blt b es))) := by
            refine PE.mono (pe_blt g hg (es_ok G _ es e2) (cEs_noStar G e2)) fun τ H Q q => ?_
            obtain ⟨φ, σ, h, rl, s, ok⟩ := q
            refine TL.seq rl s (OutG.bind (x := eEs Φ es σ h) (show OutG X.K _ φ H ((eEs Φ es σ h).bind _) _ from ok)) fun φ1 H1 h1 vs ws p1 k1 r1 s1 q1 ok => ?_
            obtain ⟨v, h', e, c⟩ := ok.ct nx_blt
            exact ⟨φ1, h1, vs, v, h', r1, q1, e, c⟩
          exact ⟨R, R⟩
  · split at h
    · rename_i hx
      rw [Bool.and_eq_true] at hx
      cases args with
      | nil => cases h
      | cons a0 rest =>
        obtain ⟨i, ei, h⟩ := Option.bind_eq_some_iff.mp h
        obtain ⟨es, e1, h⟩ := Option.map_eq_some_iff.mp h
        subst h
        have hN : X.N[i]? = some x := by rw [g.N]; exact findIx_get ei
        have hns := cEs_noStar G e1
        have R : PE X (.Call (.Name x p) (a0 :: rest) [] pos) (TI X.K W (eE Φ (.calv i es))) := by
          refine PE.mono (pe_callV g hN (g.vis hx.2) (plain1 hx.1) (plain2 hx.1) (es_ok G _ es e1) (star_plain (hns a0 List.mem_cons_self)) (back_none fun e m => hns e (List.mem_cons_of_mem _ m))) fun τ H Q q => ?_
          obtain ⟨φ, σ, h, rl, s, ok⟩ := q
          have ok : OutG X.K (L2.WE W τ) φ H (match σ[i]? with | some (some (.fn f)) => (eEs Φ es σ h).bind fun vs h1 => Φ f vs h1 | _ => .stuck) (CV X.K Q) := ok
          split at ok
          · rename_i id ez
            obtain ⟨w, ew, q1⟩ := s.2 i _ ez
            rw [VR] at q1
            obtain ⟨a, fa, rfl⟩ := q1
            refine ⟨id, a, ew, fa, ?_⟩
            refine TL.seq rl s (OutG.bind (x := eEs Φ es σ h) (show OutG X.K _ φ H ((eEs Φ es σ h).bind _) _ from ok)) fun φ1 H1 h1 vs ws p1 k1 r1 s1 q1 ok => ?_
            exact ⟨φ1, h1, vs, r1, q1, ok⟩
          · exact ok.elim
        exact ⟨R, R⟩
    · cases h

theorem kw_names {pos : Pos} {env : Env} : ∀ {kws : List Keyword} {ks : List Str}, nmsOf kws = some ks →
    (backToKw pos (keywordEach kws env)).all (·.1.isSome) = true ∧ (backToKw pos (keywordEach kws env)).filterMap (·.1) = ks ∧ (backToKw pos (keywordEach kws env)).any (·.1.isNone) = false
  | [], ks, h => by cases h; exact ⟨rfl, rfl, rfl⟩
  | ⟨none, _, _⟩ :: r, ks, h => by cases h
  | ⟨some nm, v, p⟩ :: r, ks, h => by
    obtain ⟨ks', e, rfl⟩ := Option.map_eq_some_iff.mp (show (nmsOf r).map (nm :: ·) = some ks from h)
    obtain ⟨h1, h2, h3⟩ := kw_names (pos := pos) (env := env) e
    have eq : backToKw pos (keywordEach (⟨some nm, v, p⟩ :: r) env) = (some nm, (do let u ← eval v env; standAt pos; pure u)) :: backToKw pos (keywordEach r env) := rfl
    rw [eq]
    refine ⟨?_, ?_, ?_⟩
    · rw [List.all_cons, h1]; rfl
    · rw [List.filterMap_cons, h2]
    · rw [List.any_cons, h3]; rfl
theorem ks_ok (F : Fok X W Φ f) : ∀ (kws : List Keyword) (zs : Es), cEs f (kws.map (·.value)) = some zs → PK X kws (TL X.K W (eEs Φ zs))
  | [], zs, h => by
    cases h
    have p0 : PK X [] tNil := pk_nil
    refine ⟨fun pos pins s σ H Q I q => p0.run pos pins s σ H Q I ?_⟩
    obtain ⟨φ, σ, h, r, sr, ok⟩ := q
    exact OutG.here (v := ([] : List IV)) ok r [] (by rw [VRs])
  | ⟨nm, a, ap⟩ :: r, es', h => by
    unfold cEs at h
    obtain ⟨a', e1, h⟩ := Option.bind_eq_some_iff.mp h
    obtain ⟨r', e2, h⟩ := Option.map_eq_some_iff.mp h
    subst h
    have p1 : PK X (⟨nm, a, ap⟩ :: r) _ := pk_cons (nm := nm) (kpos := ap) (F.ok a a' e1).1 (ks_ok F r r' e2)
    refine ⟨fun pos pins s τ H Q I q => p1.run pos pins s τ H Q I ?_⟩
    obtain ⟨φ, σ, h, rl, s, ok⟩ := q
    refine TI.seq rl s (OutG.bind (x := eE Φ a' σ h) (show OutG X.K _ φ H ((eE Φ a' σ h).bind _) _ from ok)) fun φ1 H1 h1 v w p1 k1 r1 s1 q1 ok => ?_
    refine TL.seq r1 s1 (OutG.bind (x := eEs Φ r' σ h1) ok) fun φ2 H2 h2 vs ws p2 k2 r2 s2 q2 ok => ?_
    refine ok.here r2 _ ?_
    rw [VRs]
    exact ⟨w, ws, rfl, q1.mono p2 k2, q2⟩
theorem VRs.arr {K : PySem.W.Frag} {φ : List Addr} {H : Hp} {xs : List IV} {vs : List V} (q : VRs K φ H xs vs) : ∀ perm : List Nat, VRs K φ H (Pi.arr perm xs) (Pi.arr perm vs)
  | [] => by unfold Pi.arr; rw [List.filterMap_nil, List.filterMap_nil, VRs]
  | i :: perm => by
    have ih := VRs.arr q perm
    unfold Pi.arr at ih ⊢
    cases e : xs[i]? with
    | none =>
      have e2 : vs[i]? = none := by
        rw [List.getElem?_eq_none_iff] at e ⊢
        rw [← q.length]; exact e
      rw [List.filterMap_cons_none e, List.filterMap_cons_none e2]
      exact ih
    | some x =>
      obtain ⟨v, e2, r⟩ := q.get e
      rw [List.filterMap_cons_some e, List.filterMap_cons_some e2, VRs]
      exact ⟨v, _, rfl, r, ih⟩
def tKw (sp : Sp) (gV : List V → List V → List V) (E : L2.St → XK) (t tk : TA) : TE := fun τ H Q => t τ H fun vs H1 => tk τ H1 fun zs H2 => sp (gV vs zs) H2 Q (E τ)
theorem kw_run {CX : CXT} {A : Addr} {fd : FuncData} {ps ks : List Str} {sp : Sp} {m : Nat} {gg : List Value → List Value → List Value} {gV : List V → List V → List V} {E : XK} {pins : List (Addr × Obj)} {τ : L2.St} {H : Hp} {s : Shared} {Q : VK} {us ws : List Value} {vs zs : List V}
    (F : FnOk X.prog X.w X.K X.mg X.base CX m A fd ps sp) (hr : Room m X.A) (hb : KBinds X.K fd ps ks gg gV) (hx : PassesAt CX X τ E) (J : Inv X pins τ H s) (r : Vals vs us) (rz : Vals zs ws) (hh : sp (gV vs zs) H Q E) :
    wpAny (model X.prog X.w) X.A (call (.ref A) us (ks.zip ws)) (EP X pins τ Q) X.xe s := by
  have rr := hb.rel r rz
  have len : (gg us ws).length = ps.length := rr.length.symm.trans (F.len _ _ _ _ hh)
  have body := F.run X.A X.stack s H ⟨us, ks.zip ws⟩ (gg us ws) (gV vs zs) Q E hr J.env0 (hb.to s us ws J.kIn len) rr hh
  refine wpAny_call (codeAny_mono body fun o s2 ho => ?_)
  match o, ho with
  | .error e, ho => exact hx pins H s e s2 J ho
  | .ok (.ret u), ho => exact J.after ho
theorem kcall0 {CX : CXT} {A : Addr} {fd : FuncData} {ps ks : List Str} {sp : Sp} {E : L2.St → XK} {x : Str} {p pos : Pos} {kws : List Keyword} {tk : TA} {gg : List Value → List Value → List Value} {gV : List V → List V → List V} {m : Nat}
    (F : FnOk X.prog X.w X.K X.mg X.base CX m A fd ps sp) (hr : Room m X.A) (hg : Gl X x) (hm : X.mg x = some (.ref A)) (hk : PySem.W.keepIn X.K (.ref A) = true) (hb : KBinds X.K fd ps ks gg gV) (hx : ∀ τ, PassesAt CX X τ (E τ))
    (hkw : PK X kws tk) (hall : (backToKw pos (keywordEach kws X.env)).all (·.1.isSome) = true) (hks : (backToKw pos (keywordEach kws X.env)).filterMap (·.1) = ks) (hno : (backToKw pos (keywordEach kws X.env)).any (·.1.isNone) = false)
    (hdb : (x == ("__debug__" : Str)) = false) : PE X (.Call (.Name x p) [] kws pos) (tKw sp gV E tNil tk) := by
  refine ⟨fun pins s τ H Q J h => wpAny_Call_Name_kw (ld_glob J hg hm ?_ hdb)⟩
  refine PySem.W.callWith_KW0 (h₀ := X.base) J.ok.mod.kin hk hall (thn (hkw.run pos pins s τ H _ J h) fun ws s2 ⟨zs, H2, J2, rz, q2⟩ => ⟨J2.kIn, ?_⟩) (by rw [hno]; rfl)
  rw [hks]
  exact kw_run F hr hb (hx τ) J2 .nil rz q2
theorem kcall1 {CX : CXT} {A : Addr} {fd : FuncData} {ps ks : List Str} {sp : Sp} {E : L2.St → XK} {x : Str} {p pos : Pos} {e : Expr} {es : List Expr} {kws : List Keyword} {t tk : TA} {gg : List Value → List Value → List Value} {gV : List V → List V → List V} {m : Nat}
    (F : FnOk X.prog X.w X.K X.mg X.base CX m A fd ps sp) (hr : Room m X.A) (hg : Gl X x) (hm : X.mg x = some (.ref A)) (hk : PySem.W.keepIn X.K (.ref A) = true) (hb : KBinds X.K fd ps ks gg gV) (hx : ∀ τ, PassesAt CX X τ (E τ))
    (ha : PA X (e :: es) t) (hkw : PK X kws tk) (hall : (backToKw pos (keywordEach kws X.env)).all (·.1.isSome) = true) (hks : (backToKw pos (keywordEach kws X.env)).filterMap (·.1) = ks)
    (hdb : (x == ("__debug__" : Str)) = false) (hs : starEach (e :: es) X.env = (false, eval e X.env) :: starEach es X.env) (hno : ((backTo pos (starEach (e :: es) X.env)).any (·.1) || (backToKw pos (keywordEach kws X.env)).any (·.1.isNone)) = false) :
    PE X (.Call (.Name x p) (e :: es) kws pos) (tKw sp gV E t tk) := by
  refine ⟨fun pins s τ H Q J h => wpAny_Call_Name_kw (ld_glob J hg hm ?_ hdb)⟩
  have two : ∀ us s1, (∃ vs H1, Inv X pins τ H1 s1 ∧ Vals vs us ∧ tk τ H1 fun zs H2 => sp (gV vs zs) H2 Q (E τ)) → wpAny (model X.prog X.w) X.A (evalAll ((backToKw pos (keywordEach kws X.env)).map (·.2))) (fun ws s2 => X.K.In s2.heap ∧ wpAny (model X.prog X.w) X.A (call (.ref A) us (ks.zip ws)) (EP X pins τ Q) X.xe s2) X.xe s1 := fun us s1 ⟨vs, H1, J1, r, q⟩ =>
    thn (hkw.run pos pins s1 τ H1 _ J1 q) fun ws s2 ⟨zs, H2, J2, rz, q2⟩ => ⟨J2.kIn, kw_run F hr hb (hx τ) J2 r rz q2⟩
  refine PySem.W.callWith_KW (h₀ := X.base) J.ok.mod.kin hk hall ?_ hno hs
  refine thn (ha.run pos pins s τ H _ J h) fun us s1 ⟨vs, H1, J1, r, q⟩ => ?_
  rw [hks]
  exact two us s1 ⟨vs, H1, J1, r, q⟩
theorem callk_ok (g : GX X W c Φ d) (G : Fok X W Φ f) {x : Str} {args : List Expr} {kws : List Keyword} {p pos : Pos} {e' : E} (h : cCallK c f x args kws = some e') :
    PE X (.Call (.Name x p) args kws pos) (TI X.K W (eE Φ e')) := by
  unfold cCallK at h
  split at h
  · rename_i hx
    rw [Bool.and_eq_true] at hx
    have hg := g.gl hx.2
    obtain ⟨i, ei, h⟩ := Option.bind_eq_some_iff.mp h
    obtain ⟨id, eid, h⟩ := Option.bind_eq_some_iff.mp h
    obtain ⟨ks, e0, h⟩ := Option.bind_eq_some_iff.mp h
    obtain ⟨perm, e3, h⟩ := Option.bind_eq_some_iff.mp h
    obtain ⟨es, e1, h⟩ := Option.bind_eq_some_iff.mp h
    obtain ⟨zs, e2, h⟩ := Option.map_eq_some_iff.mp h
    subst h
    obtain ⟨a, fd, ps, hm, hk, hb, F, _, _, kb⟩ := g.fn i id x (findIx_get ei) eid
    have kb := kb _ _ _ (findKw_mem e3)
    have ha := es_ok G args es e1
    have hns := cEs_noStar G e1
    have hkw := ks_ok G kws zs e2
    obtain ⟨n1, n2, n3⟩ := kw_names (pos := pos) (env := X.env) e0
    have go : ∀ τ H Q, TI X.K W (eE Φ (.callk id args.length perm es zs)) τ H Q → tKw (spI X.K (Φ id)) (gK args.length perm) (L2.WE W) (TL X.K W (eEs Φ es)) (TL X.K W (eEs Φ zs)) τ H Q := fun τ H Q q => by
      obtain ⟨φ, σ, h, rl, s, ok⟩ := q
      refine TL.seq rl s (OutG.bind (x := eEs Φ es σ h) (show OutG X.K _ φ H ((eEs Φ es σ h).bind _) _ from ok)) fun φ1 H1 h1 vs ws p1 k1 r1 s1 q1 ok => ?_
      refine TL.seq r1 s1 (OutG.bind (x := eEs Φ zs σ h1) ok) fun φ2 H2 h2 us ws2 p2 k2 r2 s2 q2 ok => ?_
      split at ok
      · rename_i hc
        have q3 := (q1.mono p2 k2).append q2
        have hc' : ws.length = args.length ∧ args.length + ws2.length = perm.length := by rw [← q1.length, ← q2.length]; exact hc
        refine ⟨φ2, h2, _, r2, ?_, ok⟩
        unfold gK
        rw [if_pos hc']
        exact q3.arr perm
      · exact ok.elim
    cases args with
    | nil =>
      cases e1
      refine PE.mono (kcall0 F g.room hg hm hk kb (fun σ => passAt g.tk σ) hkw n1 n2 n3 (plain1 hx.1)) fun τ H Q q => ?_
      have q2 := go τ H Q q
      obtain ⟨φ, σ, h, rl, s, ok⟩ := q2
      exact OutG.here (v := ([] : List IV)) ok rl [] (by rw [VRs])
    | cons a0 rest =>
      exact PE.mono (kcall1 F g.room hg hm hk kb (fun σ => passAt g.tk σ) ha hkw n1 n2 (plain1 hx.1) (star_plain (hns a0 List.mem_cons_self)) (by rw [back_none hns, n3]; rfl)) go
  · cases h
theorem oe_ok (F : Fok X W Φ f) (o : Option Expr) (o' : Oe) (h : cOe f o = some o') : PO X o (TOp X.K W (eO Φ o')) := by
  cases o with
  | none =>
    cases h
    refine ⟨fun pins s τ H Q I q => po_none.run pins s τ H Q I ?_⟩
    obtain ⟨φ, σ, h, rl, sr, ok⟩ := q
    exact OutG.here (v := (none : Option Int)) ok rl
  | some x =>
    obtain ⟨x', e1, h⟩ := Option.map_eq_some_iff.mp h
    subst h
    refine ⟨fun pins s τ H Q I q => (po_some (F.ok x x' e1).1).run pins s τ H Q I ?_⟩
    obtain ⟨φ, σ, h, rl, s, ok⟩ := q
    refine TI.seq rl s (OutG.bind (x := eE Φ x' σ h) (show OutG X.K _ φ H ((eE Φ x' σ h).bind _) _ from ok)) fun φ1 H1 h1 v w p1 k1 r1 s1 q1 ok => ?_
    split at ok
    · rename_i i
      rw [VR] at q1
      exact ⟨i, q1, ok.here r1⟩
    · exact ok.elim

theorem meth_ok (g : GX X W c Φ d) {mt : Mt} {o : Expr} {o' : E} {es' : Es} {args : List Expr} {apos cpos : Pos} (ho : PE X o (TI X.K W (eE Φ o'))) (hr : rcOk o = true) (hl : (apos.endLine == cpos.line) = true) (ha : PA X args (TL X.K W (eEs Φ es')))
    (hns : ∀ e' ∈ args, ∀ x p, e' ≠ .Starred x p) (hk : args.length < 20) (h0 : args = [] → es' = .nil) : PE X (.Call (.Attribute o mt.name apos) args [] cpos) (TI X.K W (eE Φ (.meth mt o' es'))) := by
  have hb : attributeBase o mt.name X.env (eval o X.env) = eval o X.env := by
    cases o <;> first | rfl | cases hr
  have all0 : ∀ (l : List Expr), (∀ e' ∈ l, ∀ x p, e' ≠ .Starred x p) → (backTo cpos (starEach l X.env)).all (fun x => !x.1) = true := fun l hl => by
    have h1 := back_none (pos := cpos) (env := X.env) hl
    rw [List.all_eq_not_any_not]
    simp only [Bool.not_not]
    rw [h1]; rfl
  have ty : ∀ {φ H h x w}, Rel X.K φ h H → VR X.K φ H x w → isLst x h = true → tyV X.K "list" w H := fun {φ H h x w} r q e => by
    unfold isLst at e
    split at e
    · rename_i i
      split at e
      · rename_i ys ey
        rw [VR] at q
        obtain ⟨p, e1, rfl⟩ := q
        obtain ⟨ws, k1, _⟩ := r.obj i p _ e1 ey
        exact .inl ⟨rfl, ws, .inl (.inl k1)⟩
      · cases e
    · cases e
  cases args with
  | nil =>
    have e0 := h0 rfl
    subst e0
    have go : ∀ τ H Q, TI X.K W (eE Φ (.meth mt o' .nil)) τ H Q → tBM0 X.K "list" (rMth X.K mt) (TI X.K W (eE Φ o')) τ H Q := fun τ H Q q => by
      obtain ⟨φ, σ, h, rl, s, ok⟩ := q
      refine TI.seq rl s (OutG.bind (x := eE Φ o' σ h) (show OutG X.K _ φ H ((eE Φ o' σ h).bind _) _ from ok)) fun φ1 H1 h1 x w p1 k1 r1 s1 q1 ok => ?_
      split at ok
      · rename_i hi
        obtain ⟨v, h', e, c⟩ := OutG.ct nx_meth (show OutG X.K _ φ1 H1 (methI mt x [] h1) _ from ok)
        exact ⟨ty r1 q1 hi, φ1, h1, x, [], v, h', r1, q1, by rw [VRs], e, c⟩
      · exact ok.elim
    cases mt
    · exact PE.mono (pe_bm0 PySem.F.plainAttrs_list PySem.F.slot_list_append PySem.F.type_list_append (opMth .append) ho hb hl) go
    · exact PE.mono (pe_bm0 PySem.F.plainAttrs_list PySem.F.slot_list_pop PySem.F.type_list_pop (opMth .pop) ho hb hl) go
    · exact PE.mono (pe_bm0 PySem.F.plainAttrs_list PySem.F.slot_list_insert PySem.F.type_list_insert (opMth .insert) ho hb hl) go
    · exact PE.mono (pe_bm0 PySem.F.plainAttrs_list PySem.F.slot_list_clear PySem.F.type_list_clear (opMth .clear) ho hb hl) go
  | cons a0 rest =>
    have hfew : ((backTo cpos (starEach (a0 :: rest) X.env)).all (fun x => !x.1) && (backToKw cpos (keywordEach [] X.env)).all (fun x => x.1.isSome)
      && decide ((a0 :: rest).length + ([] : List Keyword).length + (if ([] : List Keyword).isEmpty then 0 else 1) < 30)) = true := by
      rw [all0 _ hns]
      have : (a0 :: rest).length + ([] : List Keyword).length + (if ([] : List Keyword).isEmpty then 0 else 1) < 30 := by
        show (a0 :: rest).length + 0 + 0 < 30
        omega
      rw [decide_eq_true this]; rfl
    have s1 := star_plain (es := rest) (env := X.env) (hns a0 List.mem_cons_self)
    have s2 := back_none (pos := cpos) (env := X.env) (es := rest) fun e' m => hns e' (List.mem_cons_of_mem _ m)
    have go : ∀ τ H Q, TI X.K W (eE Φ (.meth mt o' es')) τ H Q → tBM X.K "list" (rMth X.K mt) (TI X.K W (eE Φ o')) (TL X.K W (eEs Φ es')) τ H Q := fun τ H Q q => by
      obtain ⟨φ, σ, h, rl, s, ok⟩ := q
      refine TI.seq rl s (OutG.bind (x := eE Φ o' σ h) (show OutG X.K _ φ H ((eE Φ o' σ h).bind _) _ from ok)) fun φ1 H1 h1 x w p1 k1 r1 s1 q1 ok => ?_
      split at ok
      · rename_i hi
        refine ⟨ty r1 q1 hi, ?_⟩
        refine TL.seq r1 s1 (OutG.bind (x := eEs Φ es' σ h1) ok) fun φ2 H2 h2 vs ws p2 k2 r2 s2 q2 ok => ?_
        obtain ⟨v, h', e, c⟩ := ok.ct nx_meth
        exact ⟨φ2, h2, x, vs, v, h', r2, q1.mono p2 k2, q2, e, c⟩
      · exact ok.elim
    cases mt
    · exact PE.mono (pe_bm PySem.F.plainAttrs_list PySem.F.slot_list_append PySem.F.type_list_append (opMth .append) ho ha hb hfew hl s1 s2) go
    · exact PE.mono (pe_bm PySem.F.plainAttrs_list PySem.F.slot_list_pop PySem.F.type_list_pop (opMth .pop) ho ha hb hfew hl s1 s2) go
    · exact PE.mono (pe_bm PySem.F.plainAttrs_list PySem.F.slot_list_insert PySem.F.type_list_insert (opMth .insert) ho ha hb hfew hl s1 s2) go
    · exact PE.mono (pe_bm PySem.F.plainAttrs_list PySem.F.slot_list_clear PySem.F.type_list_clear (opMth .clear) ho ha hb hfew hl s1 s2) go
theorem xrg_ok (g : GX X W c Φ d) {m : Str} {o : Expr} {o' : E} {es : List Expr} {es' : Es} {args : List Expr} {apos cpos : Pos} (hx : xrArg c m args = some es) (ho : PE X o (TI X.K W (eE Φ o'))) (hr : rcOk o = true) (hl : (apos.endLine == cpos.line) = true) (ha : PA X es (TL X.K W (eEs Φ es')))
    (hns : ∀ e' ∈ es, ∀ x p, e' ≠ .Starred x p) : PE X (.Call (.Attribute o m apos) args [] cpos) (TI X.K W (eE Φ (.xrg o' es'))) := by
  unfold xrArg at hx
  split at hx
  · rename_i l lp y yp a b e ypos lpos
    split at hx
    · rename_i hb
      simp only [Bool.and_eq_true, decide_eq_true_eq] at hb
      obtain ⟨⟨⟨⟨⟨⟨rfl, rfl⟩, rfl⟩, gl⟩, gy⟩, _⟩, _⟩ := hb
      cases hx
      have hab : attributeBase o "extend" X.env (eval o X.env) = eval o X.env := by
        cases o <;> first | rfl | cases hr
      have pr := pru (X := X) (p := yp) (pos := ypos) (g.gl gy) (g.bn _ (by decide)) ha (star_plain (es := [b, e]) (hns a (by simp))) (back_none (pos := ypos) (env := X.env) (es := [b, e]) fun e' m => hns e' (List.mem_cons_of_mem _ m))
      have pl := pe_lstU (X := X) (p := lp) (pos := lpos) g.calm (g.gl gl) (g.bt .list) pr (by rfl)
      refine PE.mono (pe_bm PySem.F.plainAttrs_list PySem.F.slot_list_extend PySem.F.type_list_extend (r := rExtend) (fun pins s σ H x xs v us Q I rx rs hh => mt_extend pins s σ H x xs v us Q I rx rs hh) ho (pa_cons pl pa_nil (by rfl)) hab (by rfl) hl (by rfl) (by rfl)) fun τ H Q q => ?_
      obtain ⟨φ, σ, h, rl, s, ok⟩ := q
      refine TI.seq rl s (OutG.bind (x := eE Φ o' σ h) (show OutG X.K _ φ H ((eE Φ o' σ h).bind _) _ from ok)) fun φ1 H1 h1 x w p1 k1 r1 s1 q1 ok => ?_
      split at ok
      · rename_i hi
        have ty : tyV X.K "list" w H1 := by
          unfold isLst at hi
          split at hi
          · rename_i i
            split at hi
            · rename_i ys ey
              have q1 := q1
              rw [VR] at q1
              obtain ⟨p, e1, rfl⟩ := q1
              obtain ⟨ws, k1, _⟩ := r1.obj i p _ e1 ey
              exact .inl ⟨rfl, ws, .inl (.inl k1)⟩
            · cases hi
          · cases hi
        refine ⟨ty, ?_⟩
        refine TL.seq r1 s1 (OutG.bind (x := eEs Φ es' σ h1) ok) fun φ2 H2 h2 vs ws p2 k2 r2 s2 q2 ok => ?_
        have q1 := q1.mono p2 k2
        unfold xrgI at ok
        split at ok
        · rename_i pp i j k q1 q2
          split at ok
          · rename_i hz
            split at ok
            · rename_i ys ey
              split at ok
              · rename_i hn
                rw [VR] at q1
                obtain ⟨a0, e1, rfl⟩ := q1
                obtain ⟨us, ka, qa⟩ := r2.obj pp a0 _ e1 ey
                have ew : ws = [V.int i, V.int j, V.int k] := by
                  rw [VRs] at q2
                  obtain ⟨v1, r1', rfl, t1, q2⟩ := q2
                  rw [VRs] at q2
                  obtain ⟨v2, r2', rfl, t2, q2⟩ := q2
                  rw [VRs] at q2
                  obtain ⟨v3, r3', rfl, t3, q2⟩ := q2
                  rw [VRs] at q2
                  subst q2
                  rw [VR] at t1 t2 t3
                  rw [t1, t2, t3]
                have gu : RgU i j k (rgN i j k) := ⟨hz.1, hz.2.1, hz.2.2.1, hz.2.2.2.1, hz.2.2.2.2.1, hz.2.2.2.2.2, rfl⟩
                refine ⟨i, j, k, rgN i j k, ew, gu, fun q hq => ?_⟩
                have hne : a0 ≠ q := fun z => by rw [z, hq] at ka; cases ka
                have nf : ¬ Fx (HO.lst us) := fun z => z
                have ku : upd H2 q (.lst (upV i k (rgN i j k))) a0 = some (.lst us) := by rw [upd_ne hne]; exact ka
                have r3 : Rel X.K φ2 h2 (upd H2 q (.lst (upV i k (rgN i j k)))) := r2.newU hq
                have kpU : Kp φ2 φ2 H2 (upd H2 q (.lst (upV i k (rgN i j k)))) := .newU hq
                have kpS : Kp φ2 φ2 (upd H2 q (.lst (upV i k (rgN i j k)))) (upd (upd H2 q (.lst (upV i k (rgN i j k)))) a0 (.lst (us ++ upV i k (rgN i j k)))) := .set e1 ku nf
                refine ⟨a0, q, us, upV i k (rgN i j k), rfl, rfl, ku, upd_same, ?_, ?_⟩
                · rw [← qa.length]
                  unfold upV
                  rw [List.length_map, List.length_range]
                  exact lim_le hn
                · have qi : VRs X.K φ2 H2 ((List.range (rgN i j k)).map fun t : Nat => IV.int (i + (t : Nat) * k)) (upV i k (rgN i j k)) := by
                    have e1 : ((List.range (rgN i j k)).map fun t : Nat => IV.int (i + (t : Nat) * k)) = ((List.range (rgN i j k)).map fun t : Nat => i + (t : Nat) * k).map IV.int := by rw [List.map_map]; rfl
                    have e2 : upV i k (rgN i j k) = ((List.range (rgN i j k)).map fun t : Nat => i + (t : Nat) * k).map V.int := by unfold upV; rw [List.map_map]; rfl
                    rw [e1, e2]
                    exact VRs.ofInts _
                  exact (Ct.cv ok) φ2 _ _ (.refl φ2) (kpU.trans kpS) (r3.set e1 ku nf ⟨_, upd_same, (qa.append qi).mono (.refl φ2) (kpU.trans kpS)⟩) (by rw [VR])
              · exact ok.elim
            · exact ok.elim
          · exact ok.elim
        · exact ok.elim
      · exact ok.elim
    · cases hx
  · cases hx

theorem cmp_bl {op : CmpOp} {a b v : IV} {h h' : IH} (e : cmpI op a b h = .ok v h') : ∃ t, v = .bl t := by
  have fin : ∀ {x : Option Bool} {f : Bool → Bool}, (match x with | some r => Out.ok (IV.bl (f r)) h | none => .stuck) = Out.ok v h' → ∃ t, v = .bl t := fun {x f} e => by
    split at e
    · exact ⟨_, (out_inj e).1.symm⟩
    · cases e
  unfold cmpI at e
  split at e
  · exact fin (f := id) e
  · exact fin (f := not) e
  all_goals first
    | exact fin (f := id) e
    | exact fin (f := not) e
    | (split at e
       · exact ⟨_, (out_inj e).1.symm⟩
       · cases e)
    | (split at e
       · exact ⟨_, (out_inj e).1.symm⟩
       · split at e
         · exact ⟨_, (out_inj e).1.symm⟩
         · cases e
       · cases e)
theorem tst_cmp {K : PySem.W.Frag} {E : XK} {φ : List Addr} {H : Hp} {op : CmpOp} {a b : IV} {h : IH} {C : List Addr → Hp → IH → Bool → Prop} (ok : OutG K E φ H (tst (cmpI op a b h)) C) :
    ∃ v h', cmpI op a b h = .ok v h' ∧ ∃ t, v = .bl t ∧ ∀ φ' H', Px φ φ' → Kp φ φ' H H' → Rel K φ' h' H' → C φ' H' h' t := by
  cases e : cmpI op a b h with
  | stuck => rw [e] at ok; exact ok.elim
  | ex ee h1 => exact absurd e (nx_cmp ee h1)
  | ok v h' =>
    obtain ⟨t, rfl⟩ := cmp_bl e
    rw [e] at ok
    exact ⟨_, h', rfl, t, rfl, ok⟩

theorem lamX_bind {params : Arguments} {x : Str} (h : lamX params = some x) : (∀ (q : Str) (body : Expr) (cl : List (Str × Addr)) (pm cv ctv v : Value), bindArgs (PySem.W.kla_fn "<lambda>" q params body scope cl pm cv ctv) ⟨[v], []⟩ = pure [(x, v)]) ∧ ∀ env : Env, defaultsOf params env = ([], []) := by
  unfold lamX at h
  split at h
  · split at h
    · rename_i hx
      cases h
      rcases hx with rfl | rfl
      · exact ⟨fun _ _ _ _ _ _ _ => rfl, fun _ => rfl⟩
      · exact ⟨fun _ _ _ _ _ _ _ => rfl, fun _ => rfl⟩
    · cases h
  · cases h
theorem lamK_body {x : Str} {e : Expr} {kd : Ky} (h : lamK x e = some kd) : LamB x kd e := by
  unfold lamK at h
  split at h
  · split at h
    · rename_i hy
      subst hy
      cases h
      exact ⟨_, _, _, _, rfl⟩
    · cases h
  · split at h
    · rename_i hy
      obtain ⟨rfl, rfl, rfl⟩ := hy
      cases h
      exact ⟨_, _, _, _, _, _, _, _, _, rfl⟩
    · cases h
  · cases h
theorem keyed {K : PySem.W.Frag} {φ : List Addr} {H : Hp} {kd : Ky} : ∀ {xs : List IV} {vs : List V}, VRs K φ H xs vs → (xs.all fun x => (keyI kd x).isSome) = true → ∃ zs : List (IV × V × (Int × Int)), zs.map (·.1) = xs ∧ zs.map (fun z => z.2.1) = vs ∧ ∀ z ∈ zs, keyI kd z.1 = some z.2.2 ∧ VR K φ H z.1 z.2.1
  | [], vs, r, _ => by rw [VRs] at r; subst r; exact ⟨[], rfl, rfl, fun _ m => nomatch m⟩
  | x :: xs, vs, r, a => by
    rw [VRs] at r
    obtain ⟨v, s, rfl, r1, r2⟩ := r
    rw [List.all_cons, Bool.and_eq_true] at a
    obtain ⟨zs, e1, e2, e3⟩ := keyed r2 a.2
    obtain ⟨k, ek⟩ := Option.isSome_iff_exists.mp a.1
    exact ⟨(x, v, k) :: zs, by rw [List.map_cons, e1], by rw [List.map_cons, e2], fun z m => by
      rcases List.mem_cons.mp m with rfl | m
      · exact ⟨ek, r1⟩
      · exact e3 z m⟩
theorem keyI_V {K : PySem.W.Frag} {φ : List Addr} {H : Hp} {kd : Ky} {x : IV} {v : V} {k : Int × Int} (e : keyI kd x = some k) (r : VR K φ H x v) : KeyV kd H v k := by
  unfold keyI at e
  split at e
  · cases e
    rw [VR] at r
    exact ⟨_, r, rfl⟩
  · cases e
    rw [VR] at r
    obtain ⟨a, vs, rfl, ha, q, _⟩ := r
    rw [VRs] at q
    obtain ⟨v0, s, rfl, _, q⟩ := q
    rw [VRs] at q
    obtain ⟨v1, s, rfl, q1, _⟩ := q
    rw [VR] at q1
    subst q1
    exact ⟨a, _, rfl, ha, rfl, rfl⟩
  · cases e
theorem VRs.ofPairs {K : PySem.W.Frag} {φ : List Addr} {H : Hp} {β : Type} {f : β → IV} {g : β → V} : ∀ {zs : List β}, (∀ z ∈ zs, VR K φ H (f z) (g z)) → VRs K φ H (zs.map f) (zs.map g)
  | [], _ => by simp [VRs]
  | z :: zs, h => by
    rw [List.map_cons, List.map_cons, VRs]
    exact ⟨_, _, rfl, h z List.mem_cons_self, VRs.ofPairs fun y m => h y (List.mem_cons_of_mem _ m)⟩
theorem extN_kp {φ : List Addr} {H H' : Hp} (e : LamX.ExtN H H') (t : Tk H H') (n : ∀ a ∈ φ, ∀ ps, H a ≠ some (.tbl ps)) : Kp φ φ H H' :=
  ⟨fun a o f h => e a o h (fun ps z => by rw [z] at f; exact f), fun a o nt h m => ⟨e a o h nt, m⟩, t⟩
theorem skey_ok (g : GX X W c Φ d) {x : Str} {args : List Expr} {kws : List Keyword} {kd : Ky} {a : Expr} {a' : E} {p pos : Pos} (hx : skArg c x args kws = some (kd, a)) (ha : PE X a (TI X.K W (eE Φ a'))) (na : ∀ x p, a ≠ .Starred x p) :
    PE X (.Call (.Name x p) args kws pos) (TI X.K W (eE Φ (.skey kd a'))) := by
  unfold skArg at hx
  split at hx
  · rename_i a0 k params body scope lp kp0
    split at hx
    · rename_i hb
      simp only [Bool.and_eq_true, decide_eq_true_eq] at hb
      obtain ⟨⟨⟨⟨rfl, rfl⟩, hlam⟩, hgl⟩, _⟩ := hb
      obtain ⟨y, ey, hx⟩ := Option.bind_eq_some_iff.mp hx
      obtain ⟨kd0, ek, hx⟩ := Option.bind_eq_some_iff.mp hx
      split at hx
      · rename_i hs
        cases hx
        unfold lamS at hs
        simp only [Bool.and_eq_true, Bool.or_eq_true, decide_eq_true_eq, Bool.not_eq_true', List.all_eq_true, decide_eq_false_iff_not] at hs
        obtain ⟨⟨⟨⟨⟨⟨h1, h2⟩, h3⟩, h4⟩, h5⟩, h6⟩, h7⟩ := hs
        obtain ⟨hbind, hdflt⟩ := lamX_bind (scope := scope) ey
        have L : LamP y params scope := ⟨h1, h2, h3, fun z m => h4 z m, h5, plain1 h6, hbind, hdflt⟩
        refine PE.mono (skey_pe (T := ClsTab.tb) (g.room.mono (g.lam hlam).2) (g.lam hlam).1 (g.gl hgl) (g.bt .sorted) ha L (lamK_body ek) (fun e => ⟨?_, g.bt .abs⟩) (star_plain na)) fun τ H Q q => ?_
        · rcases h7 with z | z
          · rw [e] at z; cases z
          · exact z
        obtain ⟨φ, σ, h, rl, s, ok⟩ := q
        refine TI.seq rl s (OutG.bind (x := eE Φ a' σ h) (show OutG X.K _ φ H ((eE Φ a' σ h).bind _) _ from ok)) fun φ1 H1 h1 v w1 p1 k1 r1 s1 q1 ok => ?_
        split at ok
        · rename_i xs exs
          split at ok
          · rename_i hall
            obtain ⟨pl, vs, rfl, sq, qv, _⟩ := r1.lstV q1 exs
            obtain ⟨zs, e1, e2, e3⟩ := keyed qv hall
            refine ⟨r1.tab, pl, zs.map (·.2), rfl, ?_, fun z m => ?_, fun H2 p eN T2 hp => ?_⟩
            · rw [List.map_map, show ((fun z : V × Int × Int => z.1) ∘ fun z : IV × V × Int × Int => z.2) = fun z => z.2.1 from rfl, e2]; exact sq
            · obtain ⟨z0, m0, rfl⟩ := List.mem_map.mp m
              exact keyI_V (e3 z0 m0).1 (e3 z0 m0).2
            · have nt : ∀ a ∈ φ1, ∀ ps, H1 a ≠ some (.tbl ps) := fun a m ps z => by
                obtain ⟨i, ei⟩ := List.getElem?_of_mem m
                obtain ⟨o, eo, ho⟩ := r1.at ei
                cases o with
                | lst xs => obtain ⟨_, e, _⟩ := ho; rw [z] at e; cases e
                | dk xs => obtain ⟨_, e, _⟩ := ho; rw [z] at e; cases e
                | dt xs => obtain ⟨_, e, _⟩ := ho; rw [z] at e; cases e
                | set xs => rw [show H1 a = _ from ho] at z; cases z
              have kp2 : Kp φ1 φ1 H1 H2 := extN_kp eN (fun _ => T2) nt
              have st2 : ∀ a ∈ φ1, H2 a = H1 a := fun a m => by
                obtain ⟨i, ei⟩ := List.getElem?_of_mem m
                obtain ⟨o, eo, ho⟩ := r1.at ei
                have := ho.there
                cases e : H1 a with
                | none => exact absurd e this
                | some u => exact eN a u e fun ps z => nt a m ps (by rw [e, z])
              have r2 : Rel X.K φ1 h1 H2 := r1.keep kp2.kt st2
              have srt1 : (zs.mergeSort fun x y => leP x.2.2 y.2.2).map (·.2) = (zs.map (·.2)).mergeSort fun x y => leP x.2 y.2 := List.map_mergeSort fun _ _ _ _ => rfl
              have srt2 : (zs.mergeSort fun x y => leP x.2.2 y.2.2).map (·.1) = skeyI kd xs := by
                unfold skeyI
                rw [← e1]
                refine List.map_mergeSort fun a ma b mb => ?_
                rw [(e3 a ma).1, (e3 b mb).1]; rfl
              have q2 : VRs X.K φ1 H2 (skeyI kd xs) (((zs.map (·.2)).mergeSort fun x y => leP x.2 y.2).map (·.1)) := by
                rw [← srt2, ← srt1, List.map_map]
                refine VRs.ofPairs fun z m => ?_
                exact ((e3 z (List.mem_mergeSort.mp m)).2).mono (.refl φ1) kp2
              exact ((Ct.cv ok).later (.refl φ1) kp2).list r2 q2 hp
          · exact ok.elim
        · exact ok.elim
      · cases hx
    · cases hx
  · cases hx
theorem sdef_ok (g : GX X W c Φ d) {o k : Expr} {o' k' : E} {dp apos cpos : Pos} (ho : PE X o (TI X.K W (eE Φ o'))) (hr : rcOk o = true) (hl : (apos.endLine == cpos.line) = true) (hk : PE X k (TI X.K W (eE Φ k'))) (nk : ∀ x p, k ≠ .Starred x p) :
    PE X (.Call (.Attribute o "setdefault" apos) [k, .Dict [] [] dp] [] cpos) (TI X.K W (eE Φ (.sdef o' k'))) := by
  have hb : attributeBase o "setdefault" X.env (eval o X.env) = eval o X.env := by
    cases o <;> first | rfl | cases hr
  have st : starEach [k, .Dict [] [] dp] X.env = [(false, eval k X.env), (false, eval (.Dict [] [] dp) X.env)] := star_plain nk
  have bt : backTo cpos (starEach [k, .Dict [] [] dp] X.env) = [(false, eval k X.env), (false, eval (.Dict [] [] dp) X.env)] := by rw [st]; rfl
  have M : M2 X o "setdefault" apos k (.Dict [] [] dp) cpos := ⟨hb, by rw [bt]; rfl, hl, bt⟩
  refine PE.mono (pe_dsetd ho hk pe_dnewT M) fun τ H Q q => ?_
  obtain ⟨φ, σ, h, rl, s, ok⟩ := q
  refine TI.seq rl s (OutG.bind (x := eE Φ o' σ h) (show OutG X.K _ φ H ((eE Φ o' σ h).bind _) _ from ok)) fun φ1 H1 h1 x w1 p1 k1 r1 s1 q1 ok => ?_
  split at ok
  · rename_i hd
    unfold isDct at hd
    split at hd
    · rename_i i
      split at hd
      · rename_i kvs0 ek0
        rw [VR] at q1
        obtain ⟨a, ea, rfl⟩ := q1
        obtain ⟨ws0, h0, _⟩ := r1.obj i a _ ea ek0
        refine ⟨a, rfl, .inl ⟨_, .inl h0⟩, ?_⟩
        refine TI.seq r1 s1 (OutG.bind (x := eE Φ k' σ h1) ok) fun φ2 H2 h2 y w2 p2 k2 r2 s2 q2 ok => ?_
        split at ok
        · rename_i i' key ei ekey
          cases ei
          split at ok
          · rename_i kvs ek
            split at ok
            · rename_i hlen
              intro p hp
              have ea2 := p2 _ _ ea
              obtain ⟨ws, hw, qw⟩ := r2.obj i a _ ea2 ek
              have hne : a ≠ p := fun z => by rw [z, hp] at hw; cases hw
              have hw2 : upd H2 p (.dT []) a = some (.dK ws) := by rw [upd_ne hne]; exact hw
              have qw2 : KR X.K φ2 (upd H2 p (.dT [])) kvs ws := qw.mono (.refl φ2) (.newU hp)
              refine ⟨ws, key, hw2, keyOf_kV q2 ekey, by rw [← qw.length]; exact lim_lt hlen, fun v ev => ?_, fun en => ?_⟩
              · cases el : look key kvs with
                | none => rw [(qw2.look key).2 el] at ev; cases ev
                | some z =>
                  rw [el] at ok
                  obtain ⟨v2, ev2, rv⟩ := (qw2.look key).1 z el
                  rw [ev] at ev2
                  cases ev2
                  exact ((Ct.cv ok).later (.refl φ2) (.newU hp)).here (r2.newU hp) rv
              · cases el : look key kvs with
                | some z =>
                  obtain ⟨v2, ev2, rv⟩ := (qw2.look key).1 z el
                  rw [en] at ev2; cases ev2
                | none =>
                  rw [el] at ok
                  have rn : Rel X.K (φ2 ++ [p]) (h2 ++ [.dt []]) (upd H2 p (.dT [])) := r2.new hp ⟨[], upd_same, by rw [KR]⟩
                  have kn : Kp φ2 (φ2 ++ [p]) H2 (upd H2 p (.dT [])) := .new hp
                  have ea3 : (φ2 ++ [p])[i]? = some a := Px.app φ2 [p] _ _ ea2
                  have hz : VR X.K (φ2 ++ [p]) (upd H2 p (.dT [])) (.ref h2.length) (.ref p) := by
                    rw [VR]
                    refine ⟨p, ?_, rfl⟩
                    rw [← r2.len, List.getElem?_append_right (Nat.le_refl _), Nat.sub_self]; rfl
                  have nf : ¬ Fx (HO.dK ws) := fun z => z
                  have ks : Kp (φ2 ++ [p]) (φ2 ++ [p]) (upd H2 p (.dT [])) (upd (upd H2 p (.dT [])) a (.dK (putK ws key (.ref p)))) := .set ea3 hw2 nf
                  have qp : KR X.K (φ2 ++ [p]) (upd H2 p (.dT [])) (put key (.ref h2.length) kvs) (putK ws key (.ref p)) := KR.put hz (qw.mono (.app φ2 [p]) kn)
                  refine (Ct.cv ok) (φ2 ++ [p]) _ _ (.app φ2 [p]) (kn.trans ks) (rn.set ea3 hw2 nf ⟨_, upd_same, qp.mono (.refl _) ks⟩) (hz.mono (.refl _) ks)
            · exact ok.elim
          · exact ok.elim
        · exact ok.elim
      · cases hd
    · cases hd
  · exact ok.elim
theorem slr_ok (g : GX X W c Φ d) {a b : Expr} {a' : E} {pos : Pos} (hb : revArg b = true) (ha : PE X a (TI X.K W (eE Φ a'))) : PE X (.Subscript a b pos) (TI X.K W (eE Φ (.slr a'))) := by
  unfold revArg at hb
  split at hb
  · refine PE.mono (pe_revL ha) fun τ H Q q => ?_
    obtain ⟨φ, σ, h, rl, s, ok⟩ := q
    refine TI.seq rl s (OutG.bind (x := eE Φ a' σ h) (show OutG X.K _ φ H ((eE Φ a' σ h).bind _) _ from ok)) fun φ1 H1 h1 x w1 p1 k1 r1 s1 q1 ok => ?_
    split at ok
    · rename_i xs ex
      obtain ⟨pl, vs, rfl, sq, qv, _⟩ := r1.lstV q1 ex
      exact ⟨pl, vs, rfl, sq, fun p hp => (Ct.cv ok).list r1 qv.reverse hp⟩
    · exact ok.elim
  · cases hb

end
end Pi
end

section
set_option maxHeartbeats 8000000
namespace Pi
open PySem PySem.Spec PyProof.Rows L2
variable [ClsTab]

section
variable {X : Cx} {W : WX} {c : Cs} {Φ : Calls} {d : Nat}
def TG' (K : PySem.W.Frag) (tg : Tg) : TG := fun v τ H Q => ∃ φ h σ x σ1, Rel K φ h H ∧ SR K φ H σ τ ∧ VR K φ H x v ∧ tgI tg x σ = some σ1 ∧
  ∀ τ1, SR K φ H σ1 τ1 → (∀ vs, (∀ i ∈ tgIx tg, i ∈ vs) → L2.wipe τ1 vs = L2.wipe τ vs) → Q τ1 H
theorem wipe_set (v : Option V) : ∀ (vs : List Nat) (τ : L2.St) (i : Nat), i ∈ vs → L2.wipe (τ.set i v) vs = L2.wipe τ vs
  | [], _, _, h => absurd h List.not_mem_nil
  | j :: vs, τ, i, h => by
    show (L2.wipe (τ.set i v) vs).set j none = (L2.wipe τ vs).set j none
    have key : ∀ (vs : List Nat), (L2.wipe (τ.set i v) vs) = (L2.wipe τ vs) ∨ (L2.wipe (τ.set i v) vs) = (L2.wipe τ vs).set i v := fun vs => by
      induction vs with
      | nil => exact .inr rfl
      | cons k vs ih =>
        show (L2.wipe (τ.set i v) vs).set k none = (L2.wipe τ vs).set k none ∨ (L2.wipe (τ.set i v) vs).set k none = ((L2.wipe τ vs).set k none).set i v
        rcases ih with ih | ih
        · exact .inl (by rw [ih])
        · rw [ih]
          by_cases hk : k = i
          · subst hk; exact .inl (by rw [List.set_set])
          · exact .inr (List.set_comm _ _ (Ne.symm hk))
    rcases List.mem_cons.mp h with e | m
    · subst e
      rcases key vs with k | k
      · rw [k]
      · rw [k, List.set_set]
    · rw [wipe_set v vs τ i m]
theorem tg_shape {n : Nat} {e : Expr} {t : Tg} (h : cTg c n e = some t) : (∃ x p, e = .Name x p) ∨ ∃ es k p, e = .Tuple es k p := by
  cases n with
  | zero => cases h
  | succ n =>
    unfold cTg at h
    split at h
    · exact .inl ⟨_, _, rfl⟩
    · exact .inr ⟨_, _, _, rfl⟩
    · exact .inr ⟨_, _, _, rfl⟩
    · exact .inr ⟨_, _, _, rfl⟩
    · exact .inr ⟨_, _, _, rfl⟩
    · cases h
theorem assignEach_tg {n : Nat} {e : Expr} {t : Tg} {es : List Expr} {env : Env} (h : cTg c n e = some t) : assignEach (e :: es) env = (false, assign e env) :: assignEach es env := by
  rcases tg_shape h with ⟨x, p, rfl⟩ | ⟨es, k, p, rfl⟩ <;> rfl
theorem pgs_tg {n : Nat} {e : Expr} {t : Tg} {es : List Expr} {g : TG} {u : TGs} (h : cTg c n e = some t) (h1 : PG X e g) (h2 : PGs X es u) : PGs X (e :: es) (gCons g u) :=
  pgs_cons h1 h2 (by rw [assignEach_tg h]; rfl)
theorem GX.sto (g : GX X W c Φ d) {x : Str} (h : c.sto x = true) : L2.Loc X.env.scope x ∧ (X.fn x = true ∨ X.env.scope.names.lookup x = some .local) := by
  unfold Cs.sto at h
  unfold L2.Loc
  rw [g.sc]
  rcases Bool.or_eq_true_iff.mp h with h | h
  · exact ⟨.inl (of_decide_eq_true h), .inr (of_decide_eq_true h)⟩
  · rw [Bool.and_eq_true] at h
    exact ⟨.inr (of_decide_eq_true h.1), .inl (g.fc x (of_decide_eq_true h.2))⟩
theorem tgI_one {a : Tg} {x : IV} {σ σ1 : Sl} (e : tgI (.one a) x σ = some σ1) : ∃ y, x = .tup [y] ∧ tgI a y σ = some σ1 := by
  cases x with
  | tup ys => match ys, e with
    | [y], e => exact ⟨y, rfl, e⟩
  | _ => cases e
theorem tgI_pair {a b : Tg} {x : IV} {σ σ1 : Sl} (e : tgI (.pair a b) x σ = some σ1) : ∃ y z σ0, x = .tup [y, z] ∧ tgI a y σ = some σ0 ∧ tgI b z σ0 = some σ1 := by
  cases x with
  | tup ys => match ys, e with
    | [y, z], e =>
      have e : (tgI a y σ).bind (tgI b z) = some σ1 := e
      obtain ⟨σ0, e1, e2⟩ := Option.bind_eq_some_iff.mp e
      exact ⟨y, z, σ0, rfl, e1, e2⟩
  | _ => cases e
theorem tgI_three {a b d : Tg} {x : IV} {σ σ1 : Sl} (e : tgI (.three a b d) x σ = some σ1) : ∃ y z w σ0 σ2, x = .tup [y, z, w] ∧ tgI a y σ = some σ0 ∧ tgI b z σ0 = some σ2 ∧ tgI d w σ2 = some σ1 := by
  cases x with
  | tup ys => match ys, e with
    | [y, z, w], e =>
      have e : ((tgI a y σ).bind (tgI b z)).bind (tgI d w) = some σ1 := e
      obtain ⟨σ2, e1, e3⟩ := Option.bind_eq_some_iff.mp e
      obtain ⟨σ0, e1, e2⟩ := Option.bind_eq_some_iff.mp e1
      exact ⟨y, z, w, σ0, σ2, rfl, e1, e2, e3⟩
  | _ => cases e
theorem tgI_four {a b d e : Tg} {x : IV} {σ σ1 : Sl} (h : tgI (.four a b d e) x σ = some σ1) : ∃ y z w v σ0 σ2 σ3, x = .tup [y, z, w, v] ∧ tgI a y σ = some σ0 ∧ tgI b z σ0 = some σ2 ∧ tgI d w σ2 = some σ3 ∧ tgI e v σ3 = some σ1 := by
  cases x with
  | tup ys => match ys, h with
    | [y, z, w, v], h =>
      have h : (((tgI a y σ).bind (tgI b z)).bind (tgI d w)).bind (tgI e v) = some σ1 := h
      obtain ⟨σ3, h, e4⟩ := Option.bind_eq_some_iff.mp h
      obtain ⟨σ2, h, e3⟩ := Option.bind_eq_some_iff.mp h
      obtain ⟨σ0, e1, e2⟩ := Option.bind_eq_some_iff.mp h
      exact ⟨y, z, w, v, σ0, σ2, σ3, rfl, e1, e2, e3, e4⟩
  | _ => cases h
theorem VR.tup_inv {K : PySem.W.Frag} {φ : List Addr} {H : Hp} {xs : List IV} {v : V} (r : VR K φ H (.tup xs) v) : ∃ p vs, v = .ref p ∧ SqT K H p vs ∧ VRs K φ H xs vs := by
  rw [VR] at r
  obtain ⟨p, vs, e, s, q, _⟩ := r
  exact ⟨p, vs, e, .inl (.inl s), q⟩
theorem tg_ok (g : GX X W c Φ d) : ∀ (n : Nat) (e : Expr) (t : Tg), cTg c n e = some t → PG X e (TG' X.K t) := by
  intro n
  induction n with
  | zero => intro e t h; cases h
  | succ n ih =>
    intro e t h
    unfold cTg at h
    split at h
    · rename_i x p
      split at h
      · rename_i hk
        obtain ⟨i, e1, h⟩ := Option.map_eq_some_iff.mp h
        subst h
        have hN : X.N[i]? = some x := by rw [g.N]; exact findIx_get e1
        obtain ⟨hx, hf⟩ := g.sto hk
        refine ⟨fun pins s τ H v u Q I r q => (pg_name (pos := p) (by rw [g.N]; exact g.nd) hN hx hf).run pins s τ H v u Q I r ?_⟩
        obtain ⟨φ, h, σ, y, σ1, rl, sr, vr, e2, k⟩ := q
        have e2 : some (σ.set i (some y)) = some σ1 := e2
        cases e2
        exact k _ (sr.set i vr) fun vs hvs => wipe_set _ vs τ i (hvs i (List.mem_singleton.mpr rfl))
      · cases h
    · rename_i a k p
      obtain ⟨a', e1, h⟩ := Option.map_eq_some_iff.mp h
      subst h
      refine ⟨fun pins s τ H v u Q I r q => (pg_tup (n := 1) g.calm (pgs_tg e1 (ih a a' e1) pgs_nil) (by rw [assignEach_tg e1]; rfl) (by rw [assignEach_tg e1]; rfl)).run pins s τ H v u Q I r ?_⟩
      obtain ⟨φ, h, σ, y, σ1, rl, sr, vr, e2, k⟩ := q
      obtain ⟨y1, rfl, e2⟩ := tgI_one e2
      obtain ⟨p', vs, rfl, sq, q⟩ := vr.tup_inv
      obtain ⟨v1, rfl, q1⟩ := q.one_inv
      exact ⟨p', [v1], rfl, sq, rfl, v1, [], rfl, φ, h, σ, y1, σ1, rl, sr, q1, e2, fun τ1 s1 w1 => ⟨rfl, k τ1 s1 w1⟩⟩
    · rename_i a b k p
      obtain ⟨a', e1, h⟩ := Option.bind_eq_some_iff.mp h
      obtain ⟨b', e2, h⟩ := Option.map_eq_some_iff.mp h
      subst h
      refine ⟨fun pins s τ H v u Q I r q => (pg_tup (n := 2) g.calm (pgs_tg e1 (ih a a' e1) (pgs_tg e2 (ih b b' e2) pgs_nil)) (by rw [assignEach_tg e1, List.length_cons, assignEach_tg e2]; rfl) (by rw [assignEach_tg e1, assignEach_tg e2]; rfl)).run pins s τ H v u Q I r ?_⟩
      obtain ⟨φ, h, σ, y, σ1, rl, sr, vr, e3, k⟩ := q
      obtain ⟨y1, y2, σ0, rfl, e3, e4⟩ := tgI_pair e3
      obtain ⟨p', vs, rfl, sq, q⟩ := vr.tup_inv
      obtain ⟨v1, v2, rfl, q1, q2⟩ := q.two_inv
      refine ⟨p', [v1, v2], rfl, sq, rfl, v1, [v2], rfl, φ, h, σ, y1, σ0, rl, sr, q1, e3, fun τ1 s1 w1 => ⟨v2, [], rfl, φ, h, σ0, y2, σ1, rl, s1, q2, e4, fun τ2 s2 w2 => ⟨rfl, k τ2 s2 fun vs hvs => ?_⟩⟩⟩
      rw [w2 vs fun i m => hvs i (List.mem_append_right _ m), w1 vs fun i m => hvs i (List.mem_append_left _ m)]
    · rename_i a b d0 k p
      obtain ⟨a', e1, h⟩ := Option.bind_eq_some_iff.mp h
      obtain ⟨b', e2, h⟩ := Option.bind_eq_some_iff.mp h
      obtain ⟨d', e3, h⟩ := Option.map_eq_some_iff.mp h
      subst h
      refine ⟨fun pins s τ H v u Q I r q => (pg_tup (n := 3) g.calm (pgs_tg e1 (ih a a' e1) (pgs_tg e2 (ih b b' e2) (pgs_tg e3 (ih d0 d' e3) pgs_nil))) (by rw [assignEach_tg e1, List.length_cons, assignEach_tg e2, List.length_cons, assignEach_tg e3]; rfl)
        (by rw [assignEach_tg e1, assignEach_tg e2, assignEach_tg e3]; rfl)).run pins s τ H v u Q I r ?_⟩
      obtain ⟨φ, h, σ, y, σ1, rl, sr, vr, e4, k⟩ := q
      obtain ⟨y1, y2, y3, σ0, σ2, rfl, e4, e5, e6⟩ := tgI_three e4
      obtain ⟨p', vs, rfl, sq, q⟩ := vr.tup_inv
      rw [VRs] at q
      obtain ⟨v1, vs2, rfl, q1, q⟩ := q
      obtain ⟨v2, v3, rfl, q2, q3⟩ := q.two_inv
      refine ⟨p', [v1, v2, v3], rfl, sq, rfl, v1, [v2, v3], rfl, φ, h, σ, y1, σ0, rl, sr, q1, e4, fun τ1 s1 w1 => ⟨v2, [v3], rfl, φ, h, σ0, y2, σ2, rl, s1, q2, e5, fun τ2 s2 w2 => ⟨v3, [], rfl, φ, h, σ2, y3, σ1, rl, s2, q3, e6, fun τ3 s3 w3 => ⟨rfl, k τ3 s3 fun vs hvs => ?_⟩⟩⟩⟩
      rw [w3 vs fun i m => hvs i (List.mem_append_right _ (List.mem_append_right _ m)), w2 vs fun i m => hvs i (List.mem_append_right _ (List.mem_append_left _ m)), w1 vs fun i m => hvs i (List.mem_append_left _ m)]
    · rename_i a b d0 d9 k p
      obtain ⟨a', e1, h⟩ := Option.bind_eq_some_iff.mp h
      obtain ⟨b', e2, h⟩ := Option.bind_eq_some_iff.mp h
      obtain ⟨d', e3, h⟩ := Option.bind_eq_some_iff.mp h
      obtain ⟨d9', e9, h⟩ := Option.map_eq_some_iff.mp h
      subst h
      refine ⟨fun pins s τ H v u Q I r q => (pg_tup (n := 4) g.calm (pgs_tg e1 (ih a a' e1) (pgs_tg e2 (ih b b' e2) (pgs_tg e3 (ih d0 d' e3) (pgs_tg e9 (ih d9 d9' e9) pgs_nil)))) (by rw [assignEach_tg e1, List.length_cons, assignEach_tg e2, List.length_cons, assignEach_tg e3, List.length_cons, assignEach_tg e9]; rfl)
        (by rw [assignEach_tg e1, assignEach_tg e2, assignEach_tg e3, assignEach_tg e9]; rfl)).run pins s τ H v u Q I r ?_⟩
      obtain ⟨φ, h, σ, y, σ1, rl, sr, vr, e4, k⟩ := q
      obtain ⟨y1, y2, y3, y4, σ0, σ2, σ3, rfl, e4, e5, e6, e7⟩ := tgI_four e4
      obtain ⟨p', vs, rfl, sq, q⟩ := vr.tup_inv
      rw [VRs] at q
      obtain ⟨v1, vs2, rfl, q1, q⟩ := q
      rw [VRs] at q
      obtain ⟨v2, vs3, rfl, q2, q⟩ := q
      obtain ⟨v3, v4, rfl, q3, q4⟩ := q.two_inv
      refine ⟨p', [v1, v2, v3, v4], rfl, sq, rfl, v1, [v2, v3, v4], rfl, φ, h, σ, y1, σ0, rl, sr, q1, e4, fun τ1 s1 w1 => ⟨v2, [v3, v4], rfl, φ, h, σ0, y2, σ2, rl, s1, q2, e5, fun τ2 s2 w2 => ⟨v3, [v4], rfl, φ, h, σ2, y3, σ3, rl, s2, q3, e6, fun τ3 s3 w3 => ⟨v4, [], rfl, φ, h, σ3, y4, σ1, rl, s3, q4, e7, fun τ4 s4 w4 => ⟨rfl, k τ4 s4 fun vs hvs => ?_⟩⟩⟩⟩⟩
      rw [w4 vs fun i m => hvs i (List.mem_append_right _ (List.mem_append_right _ (List.mem_append_right _ m))), w3 vs fun i m => hvs i (List.mem_append_right _ (List.mem_append_right _ (List.mem_append_left _ m))), w2 vs fun i m => hvs i (List.mem_append_right _ (List.mem_append_left _ m)), w1 vs fun i m => hvs i (List.mem_append_left _ m)]
    · cases h
end

structure WkOk (K : PySem.W.Frag) (w : Wk) (J : L2.It) (φ0 : List Addr) (H0 : Hp) : Prop where
  item : ∀ (n : Nat) (φ : List Addr) (h : IH) (H : Hp) (x : IV), Px φ0 φ → Kp φ0 φ H0 H → Rel K φ h H → wkAt w n h = some (some x) → J.go n H ∧ ∀ v H', J.yld n H v H' → Kp φ φ H H' ∧ Rel K φ h H' ∧ VR K φ H' x v
  stop : ∀ (n : Nat) (φ : List Addr) (h : IH) (H : Hp), Px φ0 φ → Kp φ0 φ H0 H → Rel K φ h H → wkAt w n h = some none → J.stop n H
def TW (K : PySem.W.Frag) (W : WX) (d : Sl → IH → Out Wk) : L2.TI := fun τ H R => ∃ φ σ h, Rel K φ h H ∧ SR K φ H σ τ ∧ OutG K (L2.WE W τ) φ H (d σ h) fun φ' H' _ w => ∀ J, WkOk K w J φ' H' → R J H'

section
variable {K : PySem.W.Frag} {φ : List Addr} {H : Hp} {h : IH}
theorem Rel.lsAt {i : Nat} {a : Addr} {xs : List IV} (r : Rel K φ h H) (e1 : φ[i]? = some a) (e2 : Pi.lsAt h i = some xs) : ∃ vs, SqL K H a vs ∧ VRs K φ H xs vs ∧ xs.length = vs.length := by
  unfold Pi.lsAt at e2
  split at e2
  · rename_i ys ey
    cases e2
    exact r.sqL e1 ey
  · cases e2
end

theorem wk_list {K : PySem.W.Frag} {φ : List Addr} {H : Hp} {i : Nat} {a : Addr} (e1 : φ[i]? = some a) : WkOk K (.lst i) (Itl K a) φ H where
  item := fun n φ' h H' x p k r e => by
    have e : (lsAt h i).map (fun xs => xs[n]?) = some (some x) := e
    obtain ⟨xs, e2, e⟩ := Option.map_eq_some_iff.mp e
    obtain ⟨vs, s, q, _⟩ := r.lsAt (p i a e1) e2
    obtain ⟨v, ev, qv⟩ := q.get e
    refine ⟨⟨vs, v, s, ev⟩, fun w H'' y => ?_⟩
    obtain ⟨y1, y2⟩ := y
    subst y1
    have : v = w := Option.some.inj (ev.symm.trans (y2 vs s))
    subst this
    exact ⟨.refl φ' _, r, qv⟩
  stop := fun n φ' h H' p k r e => by
    have e : (lsAt h i).map (fun xs => xs[n]?) = some none := e
    obtain ⟨xs, e2, e⟩ := Option.map_eq_some_iff.mp e
    obtain ⟨vs, s, q, l⟩ := r.lsAt (p i a e1) e2
    exact ⟨vs, s, by rw [← l]; exact List.getElem?_eq_none_iff.mp e⟩
theorem wk_tup {K : PySem.W.Frag} {φ : List Addr} {H : Hp} {xs : List IV} {vs : List V} {a : Addr} (s : SqT K H a vs) (q : VRs K φ H xs vs) : WkOk K (.vals xs) (Itt K a) φ H where
  item := fun n φ' h H' x p k r e => by
    have e : some xs[n]? = some (some x) := e
    have q' := q.mono p k
    obtain ⟨v, ev, qv⟩ := q'.get (Option.some.inj e)
    refine ⟨⟨vs, v, sqt_kp k s, ev⟩, fun w H'' y => ?_⟩
    obtain ⟨y1, y2⟩ := y
    subst y1
    have : v = w := Option.some.inj (ev.symm.trans (y2 vs (sqt_kp k s)))
    subst this
    exact ⟨.refl φ' _, r, qv⟩
  stop := fun n φ' h H' p k r e => by
    have e : some xs[n]? = some none := e
    exact ⟨vs, sqt_kp k s, by rw [← q.length]; exact List.getElem?_eq_none_iff.mp (Option.some.inj e)⟩
theorem wk_lsr {b : Bool} {K : PySem.W.Frag} {φ : List Addr} {H : Hp} {xs : List IV} {vs : List V} {a : Addr} (s : (∃ o, H a = some (.frz o (.lst vs))) ∨ (b = false ∧ ∀ H', SqL K H' a vs)) (q : VRs K φ H xs vs) : WkOk K (.vals xs) (Itl K a) φ H where
  item := fun n φ' h H' x p k r e => by
    have e : some xs[n]? = some (some x) := e
    have q' := q.mono p k
    obtain ⟨v, ev, qv⟩ := q'.get (Option.some.inj e)
    have s' := frz_sql (frz_kp k s)
    refine ⟨⟨vs, v, s', ev⟩, fun w H'' y => ?_⟩
    obtain ⟨y1, y2⟩ := y
    subst y1
    have : v = w := Option.some.inj (ev.symm.trans (y2 vs s'))
    subst this
    exact ⟨.refl φ' _, r, qv⟩
  stop := fun n φ' h H' p k r e => by
    have e : some xs[n]? = some none := e
    exact ⟨vs, frz_sql (frz_kp k s), by rw [← q.length]; exact List.getElem?_eq_none_iff.mp (Option.some.inj e)⟩
theorem wk_str {K : PySem.W.Frag} {φ : List Addr} {H : Hp} (z : Str) : WkOk K (.vals (z.cps.toList.map fun c => .str ⟨#[c]⟩)) (Its z) φ H where
  item := fun n φ' h H' x p k r e => by
    have e : some (z.cps.toList.map fun c => IV.str ⟨#[c]⟩)[n]? = some (some x) := e
    have e := Option.some.inj e
    rw [List.getElem?_map] at e
    obtain ⟨c, ec, ex⟩ := Option.map_eq_some_iff.mp e
    subst ex
    have ec' : z.cps[n]? = some c := by rw [← Array.getElem?_toList]; exact ec
    refine ⟨?_, fun w H'' y => ?_⟩
    · exact (Array.getElem?_eq_some_iff.mp ec').1
    · obtain ⟨y1, c2, y2, y3⟩ := y
      subst y1
      rw [ec'] at y2
      cases y2
      subst y3
      exact ⟨.refl φ' _, r, by rw [VR]⟩
  stop := fun n φ' h H' p k r e => by
    have e : some (z.cps.toList.map fun c => IV.str ⟨#[c]⟩)[n]? = some none := e
    have e := Option.some.inj e
    rw [List.getElem?_eq_none_iff, List.length_map] at e
    exact e
theorem wk_range {K : PySem.W.Frag} {φ : List Addr} {H : Hp} (lo : Int) (m : Nat) : WkOk K (.vals ((List.range m).map fun k : Nat => .int (lo + k))) (Itr lo m) φ H where
  item := fun n φ' h H' x p k r e => by
    have e : some ((List.range m).map fun k : Nat => IV.int (lo + k))[n]? = some (some x) := e
    have e := Option.some.inj e
    rw [List.getElem?_map] at e
    obtain ⟨j, e1, e2⟩ := Option.map_eq_some_iff.mp e
    obtain ⟨hj, e3⟩ := List.getElem?_eq_some_iff.mp e1
    rw [List.length_range] at hj
    rw [List.getElem_range] at e3
    subst e3 e2
    refine ⟨hj, fun w H'' y => ?_⟩
    obtain ⟨y1, y2⟩ := y
    subst y1 y2
    exact ⟨.refl φ' _, r, by rw [VR]⟩
  stop := fun n φ' h H' p k r e => by
    have e : some ((List.range m).map fun k : Nat => IV.int (lo + k))[n]? = some none := e
    have e := List.getElem?_eq_none_iff.mp (Option.some.inj e)
    rw [List.length_map, List.length_range] at e
    exact e
theorem wk_rangeD {K : PySem.W.Frag} {φ : List Addr} {H : Hp} (lo : Int) (m : Nat) : WkOk K (.vals ((List.range m).map fun k : Nat => .int (lo - k))) (Itc lo (-1) m) φ H where
  item := fun n φ' h H' x p k r e => by
    have e : some ((List.range m).map fun k : Nat => IV.int (lo - k))[n]? = some (some x) := e
    have e := Option.some.inj e
    rw [List.getElem?_map] at e
    obtain ⟨j, e1, e2⟩ := Option.map_eq_some_iff.mp e
    obtain ⟨hj, e3⟩ := List.getElem?_eq_some_iff.mp e1
    rw [List.length_range] at hj
    rw [List.getElem_range] at e3
    subst e3 e2
    refine ⟨hj, fun w H'' y => ?_⟩
    obtain ⟨y1, y2⟩ := y
    subst y1 y2
    refine ⟨.refl φ' _, r, ?_⟩
    rw [VR]
    congr 1
    omega
  stop := fun n φ' h H' p k r e => by
    have e : some ((List.range m).map fun k : Nat => IV.int (lo - k))[n]? = some none := e
    have e := List.getElem?_eq_none_iff.mp (Option.some.inj e)
    rw [List.length_map, List.length_range] at e
    exact e
theorem wk_enum {K : PySem.W.Frag} {φ : List Addr} {H : Hp} {i : Nat} {a : Addr} (e1 : φ[i]? = some a) : WkOk K (.enum i) (Ite K a) φ H where
  item := fun n φ' h H' x p k r e => by
    have e : (lsAt h i).map (fun xs => xs[n]?.map fun x => IV.tup [.int n, x]) = some (some x) := e
    obtain ⟨xs, e2, e⟩ := Option.map_eq_some_iff.mp e
    obtain ⟨y, e3, e⟩ := Option.map_eq_some_iff.mp e
    subst e
    obtain ⟨vs, s, q, _⟩ := r.lsAt (p i a e1) e2
    obtain ⟨v, ev, qv⟩ := q.get e3
    refine ⟨⟨vs, v, s, ev⟩, fun w H'' z => ?_⟩
    obtain ⟨T, v', rfl, hT, rfl, z2⟩ := z
    have : v = v' := Option.some.inj (ev.symm.trans (z2 vs s))
    subst this
    refine ⟨.newU hT, r.newU hT, ?_⟩
    rw [VR]
    refine ⟨T, [.int n, v], rfl, upd_same, ?_, by show 2 ≤ sizeLine; decide⟩
    rw [VRs]
    exact ⟨_, _, rfl, by rw [VR], .one (qv.mono (.refl φ') (.newU hT))⟩
  stop := fun n φ' h H' p k r e => by
    have e : (lsAt h i).map (fun xs => xs[n]?.map fun x => IV.tup [.int n, x]) = some none := e
    obtain ⟨xs, e2, e⟩ := Option.map_eq_some_iff.mp e
    obtain ⟨vs, s, q, l⟩ := r.lsAt (p i a e1) e2
    exact ⟨vs, s, by rw [← l]; exact List.getElem?_eq_none_iff.mp (Option.map_eq_none_iff.mp e)⟩
theorem wk_enumT {K : PySem.W.Frag} {φ : List Addr} {H : Hp} {xs : List IV} {vs : List V} {a : Addr} (s : SqT K H a vs) (q : VRs K φ H xs vs) : WkOk K (.enumT xs) (ItT K a) φ H where
  item := fun n φ' h H' x p k r e => by
    have e : some (xs[n]?.map fun x => IV.tup [.int n, x]) = some (some x) := e
    obtain ⟨y, e3, e⟩ := Option.map_eq_some_iff.mp (Option.some.inj e)
    subst e
    have q' := q.mono p k
    have s' := sqt_kp k s
    obtain ⟨v, ev, qv⟩ := q'.get e3
    refine ⟨⟨vs, v, s', ev⟩, fun w H'' z => ?_⟩
    obtain ⟨T, v', rfl, hT, rfl, z2⟩ := z
    have : v = v' := Option.some.inj (ev.symm.trans (z2 vs s'))
    subst this
    refine ⟨.newU hT, r.newU hT, ?_⟩
    rw [VR]
    refine ⟨T, [.int n, v], rfl, upd_same, ?_, by show 2 ≤ sizeLine; decide⟩
    rw [VRs]
    exact ⟨_, _, rfl, by rw [VR], .one (qv.mono (.refl φ') (.newU hT))⟩
  stop := fun n φ' h H' p k r e => by
    have e : some (xs[n]?.map fun x => IV.tup [.int n, x]) = some none := e
    exact ⟨vs, sqt_kp k s, by rw [← q.length]; exact List.getElem?_eq_none_iff.mp (Option.map_eq_none_iff.mp (Option.some.inj e))⟩
theorem wk_rev {K : PySem.W.Frag} {φ : List Addr} {H : Hp} {i m : Nat} {a : Addr} (e1 : φ[i]? = some a) : WkOk K (.rev i m) (Itv K a m) φ H where
  item := fun n φ' h H' x p k r e => by
    have e : (lsAt h i).bind (fun xs => if n < m then (xs[m - 1 - n]?).map some else some none) = some (some x) := e
    obtain ⟨xs, e2, e⟩ := Option.bind_eq_some_iff.mp e
    split at e
    · rename_i hn
      obtain ⟨y, e3, e⟩ := Option.map_eq_some_iff.mp e
      cases e
      obtain ⟨vs, s, q, _⟩ := r.lsAt (p i a e1) e2
      obtain ⟨v, ev, qv⟩ := q.get e3
      refine ⟨⟨hn, vs, v, s, ev⟩, fun w H'' z => ?_⟩
      obtain ⟨z1, z2⟩ := z
      subst z1
      have : v = w := Option.some.inj (ev.symm.trans (z2 vs s))
      subst this
      exact ⟨.refl φ' _, r, qv⟩
    · cases e
  stop := fun n φ' h H' p k r e => by
    have e : (lsAt h i).bind (fun xs => if n < m then (xs[m - 1 - n]?).map some else some none) = some none := e
    obtain ⟨xs, e2, e⟩ := Option.bind_eq_some_iff.mp e
    split at e
    · obtain ⟨y, e3, e⟩ := Option.map_eq_some_iff.mp e
      cases e
    · rename_i hn
      exact Nat.le_of_not_lt hn
theorem wk_zip {K : PySem.W.Frag} {φ : List Addr} {H : Hp} {i j : Nat} {a b : Addr} (e1 : φ[i]? = some a) (f1 : φ[j]? = some b) : WkOk K (.zip i j) (Itz K a b) φ H where
  item := fun n φ' h H' x p k r e => by
    have e : (lsAt h i).bind (fun xs => (lsAt h j).map fun ys => match xs[n]?, ys[n]? with | some x, some y => some (IV.tup [x, y]) | _, _ => none) = some (some x) := e
    obtain ⟨xs, e2, e⟩ := Option.bind_eq_some_iff.mp e
    obtain ⟨ys, f2, e⟩ := Option.map_eq_some_iff.mp e
    split at e
    · rename_i x1 y1 e3 f3
      cases e
      obtain ⟨vs, s, q, _⟩ := r.lsAt (p i a e1) e2
      obtain ⟨us, t, o, _⟩ := r.lsAt (p j b f1) f2
      obtain ⟨v, ev, qv⟩ := q.get e3
      obtain ⟨u, eu, qu⟩ := o.get f3
      refine ⟨⟨vs, us, v, u, s, t, ev, eu⟩, fun w H'' z => ?_⟩
      obtain ⟨T, v', u', rfl, hT, rfl, z2, z3⟩ := z
      have : v = v' := Option.some.inj (ev.symm.trans (z2 vs s))
      subst this
      have : u = u' := Option.some.inj (eu.symm.trans (z3 us t))
      subst this
      refine ⟨.newU hT, r.newU hT, ?_⟩
      rw [VR]
      refine ⟨T, [v, u], rfl, upd_same, ?_, by show 2 ≤ sizeLine; decide⟩
      rw [VRs]
      exact ⟨_, _, rfl, qv.mono (.refl φ') (.newU hT), .one (qu.mono (.refl φ') (.newU hT))⟩
    · cases e
  stop := fun n φ' h H' p k r e => by
    have e : (lsAt h i).bind (fun xs => (lsAt h j).map fun ys => match xs[n]?, ys[n]? with | some x, some y => some (IV.tup [x, y]) | _, _ => none) = some none := e
    obtain ⟨xs, e2, e⟩ := Option.bind_eq_some_iff.mp e
    obtain ⟨ys, f2, e⟩ := Option.map_eq_some_iff.mp e
    obtain ⟨vs, s, q, l⟩ := r.lsAt (p i a e1) e2
    obtain ⟨us, t, o, l2⟩ := r.lsAt (p j b f1) f2
    refine ⟨vs, us, s, t, ?_⟩
    cases e3 : xs[n]? with
    | none => exact .inl (by rw [← l]; exact List.getElem?_eq_none_iff.mp e3)
    | some x1 =>
      cases f3 : ys[n]? with
      | none => exact .inr (by rw [← l2]; exact List.getElem?_eq_none_iff.mp f3)
      | some y1 => rw [e3, f3] at e; cases e
theorem wk_lsrRev {b : Bool} {K : PySem.W.Frag} {φ : List Addr} {H : Hp} {xs : List IV} {vs : List V} {a : Addr} (s : (∃ o, H a = some (.frz o (.lst vs))) ∨ (b = false ∧ ∀ H', SqL K H' a vs)) (q : VRs K φ H xs vs) : WkOk K (.vals xs.reverse) (Itv K a vs.length) φ H where
  item := fun n φ' h H' x p k r e => by
    have e : some xs.reverse[n]? = some (some x) := e
    have e := Option.some.inj e
    have hn : n < xs.length := by
      have := (List.getElem?_eq_some_iff.mp e).1
      rwa [List.length_reverse] at this
    have hn2 : n < vs.length := by rw [← q.length]; exact hn
    rw [List.getElem?_reverse hn, q.length] at e
    obtain ⟨v, ev, qv⟩ := (q.mono p k).get e
    have s' := frz_sql (frz_kp k s)
    refine ⟨⟨hn2, vs, v, s', ev⟩, fun w H'' z => ?_⟩
    obtain ⟨z1, z2⟩ := z
    subst z1
    have : v = w := Option.some.inj (ev.symm.trans (z2 vs s'))
    subst this
    exact ⟨.refl φ' _, r, qv⟩
  stop := fun n φ' h H' p k r e => by
    have e : some xs.reverse[n]? = some none := e
    have e := List.getElem?_eq_none_iff.mp (Option.some.inj e)
    rw [List.length_reverse, q.length] at e
    exact e
theorem wk_lsrEnum {b : Bool} {K : PySem.W.Frag} {φ : List Addr} {H : Hp} {xs : List IV} {vs : List V} {a : Addr} (s : (∃ o, H a = some (.frz o (.lst vs))) ∨ (b = false ∧ ∀ H', SqL K H' a vs)) (q : VRs K φ H xs vs) : WkOk K (.enumT xs) (Ite K a) φ H where
  item := fun n φ' h H' x p k r e => by
    have e : some (xs[n]?.map fun x => IV.tup [.int n, x]) = some (some x) := e
    obtain ⟨y, e3, e⟩ := Option.map_eq_some_iff.mp (Option.some.inj e)
    subst e
    have s' := frz_sql (frz_kp k s)
    obtain ⟨v, ev, qv⟩ := (q.mono p k).get e3
    refine ⟨⟨vs, v, s', ev⟩, fun w H'' z => ?_⟩
    obtain ⟨T, v', rfl, hT, rfl, z2⟩ := z
    have : v = v' := Option.some.inj (ev.symm.trans (z2 vs s'))
    subst this
    refine ⟨.newU hT, r.newU hT, ?_⟩
    rw [VR]
    refine ⟨T, [.int n, v], rfl, upd_same, ?_, by show 2 ≤ sizeLine; decide⟩
    rw [VRs]
    exact ⟨_, _, rfl, by rw [VR], .one (qv.mono (.refl φ') (.newU hT))⟩
  stop := fun n φ' h H' p k r e => by
    have e : some (xs[n]?.map fun x => IV.tup [.int n, x]) = some none := e
    exact ⟨vs, frz_sql (frz_kp k s), by rw [← q.length]; exact List.getElem?_eq_none_iff.mp (Option.map_eq_none_iff.mp (Option.some.inj e))⟩
theorem zipW_at {xs ys : List IV} {n : Nat} {x : IV} (e : (List.zipWith (fun a b => IV.tup [a, b]) xs ys)[n]? = some x) : ∃ a b, xs[n]? = some a ∧ ys[n]? = some b ∧ x = .tup [a, b] := by
  rw [List.getElem?_zipWith] at e
  split at e
  · rename_i a b ea eb
    exact ⟨a, b, ea, eb, (Option.some.inj e).symm⟩
  · cases e
theorem wk_lsrZip {b1 b2 : Bool} {K : PySem.W.Frag} {φ : List Addr} {H : Hp} {xs ys : List IV} {vs us : List V} {a b : Addr} (s : (∃ o, H a = some (.frz o (.lst vs))) ∨ (b1 = false ∧ ∀ H', SqL K H' a vs)) (q : VRs K φ H xs vs)
    (t : (∃ o, H b = some (.frz o (.lst us))) ∨ (b2 = false ∧ ∀ H', SqL K H' b us)) (o : VRs K φ H ys us) : WkOk K (.vals (List.zipWith (fun a b => IV.tup [a, b]) xs ys)) (Itz K a b) φ H where
  item := fun n φ' h H' x p k r e => by
    have e : some (List.zipWith (fun a b => IV.tup [a, b]) xs ys)[n]? = some (some x) := e
    obtain ⟨x1, y1, e3, f3, rfl⟩ := zipW_at (Option.some.inj e)
    have s' := frz_sql (frz_kp k s)
    have t' := frz_sql (frz_kp k t)
    obtain ⟨v, ev, qv⟩ := (q.mono p k).get e3
    obtain ⟨u, eu, qu⟩ := (o.mono p k).get f3
    refine ⟨⟨vs, us, v, u, s', t', ev, eu⟩, fun w H'' z => ?_⟩
    obtain ⟨T, v', u', rfl, hT, rfl, z2, z3⟩ := z
    have : v = v' := Option.some.inj (ev.symm.trans (z2 vs s'))
    subst this
    have : u = u' := Option.some.inj (eu.symm.trans (z3 us t'))
    subst this
    refine ⟨.newU hT, r.newU hT, ?_⟩
    rw [VR]
    refine ⟨T, [v, u], rfl, upd_same, ?_, by show 2 ≤ sizeLine; decide⟩
    rw [VRs]
    exact ⟨_, _, rfl, qv.mono (.refl φ') (.newU hT), .one (qu.mono (.refl φ') (.newU hT))⟩
  stop := fun n φ' h H' p k r e => by
    have e : some (List.zipWith (fun a b => IV.tup [a, b]) xs ys)[n]? = some none := e
    have e := List.getElem?_eq_none_iff.mp (Option.some.inj e)
    rw [List.length_zipWith] at e
    refine ⟨vs, us, frz_sql (frz_kp k s), frz_sql (frz_kp k t), ?_⟩
    rw [← q.length, ← o.length]
    rcases Nat.le_total xs.length ys.length with h1 | h1
    · exact .inl (by omega)
    · exact .inr (by omega)
end Pi
end

section
set_option maxHeartbeats 8000000
namespace Pi
open PySem PySem.Spec PyProof.Rows L2
variable [ClsTab]

section
variable {X : Cx} {W : WX} {c : Cs} {Φ : Calls} {d : Nat} {tg : Expr} {f : Expr → Option E}
def iSeq (K : PySem.W.Frag) (tl : TE) : L2.TI := fun σ H R => tl σ H fun x H1 => ∃ a, x = .ref a ∧ (((∃ xs, SqL K H1 a xs) ∧ R (Itl K a) H1) ∨ ((∃ xs, SqT K H1 a xs) ∧ R (Itt K a) H1))
def iSeqS (K : PySem.W.Frag) (tl : TE) : L2.TI := fun σ H R => tl σ H fun x H1 => (∃ a, x = .ref a ∧ (((∃ xs, SqL K H1 a xs) ∧ R (Itl K a) H1) ∨ ((∃ xs, SqT K H1 a xs) ∧ R (Itt K a) H1))) ∨ ∃ z, x = .str z ∧ R (Its z) H1
theorem pi_seqS {l : Expr} {tl : TE} (hl : PE X l tl) : PI X tg l (iSeqS X.K tl) := by
  refine ⟨fun pins s σ H R I h => ?_⟩
  refine thn (hl.run pins s σ H _ I h) fun v s1 ⟨x, H1, I1, r1, q1⟩ => ?_
  rcases q1 with ⟨a, e, q⟩ | ⟨z, e, q⟩
  · subst e
    cases r1
    rcases q with ⟨⟨xs, hq⟩, q⟩ | ⟨⟨xs, hq⟩, q⟩
    · obtain ⟨its, rv, p, hz⟩ := I1.list hq
      refine wpAny_pyIter_list p.isList ?_
      refine ⟨s1.heap.objs.size, [s1.heap.objs.size], _, _, H1, rfl, I1.kept (t' := s1.toks) fun b o e => Heap.get?_push_of_some _ e, turn_list a _, ⟨_, Heap.get?_push_size _ rfl, rfl, rfl⟩, fun b hb => ?_, q⟩
      have e : b = s1.heap.objs.size := by simpa using hb
      subst e
      exact I1.fpOk (Nat.le_refl _) (I1.hok.fresh (Nat.le_refl _))
    · obtain ⟨its, rv, p, hz⟩ := I1.tuple hq
      refine wpAny_pyIter_tuple (show s1.heap.IsTuple a its.toArray from p) ?_
      refine ⟨s1.heap.objs.size, [s1.heap.objs.size], _, _, H1, rfl, I1.kept (t' := s1.toks) fun b o e => Heap.get?_push_of_some _ e, turn_tuple a _, ⟨_, Heap.get?_push_size _ rfl, rfl, rfl⟩, fun b hb => ?_, q⟩
      have e : b = s1.heap.objs.size := by simpa using hb
      subst e
      exact I1.fpOk (Nat.le_refl _) (I1.hok.fresh (Nat.le_refl _))
  · subst e
    obtain ⟨t, rfl⟩ := r1
    cases ha : z.cps.all (· < 128)
    · exact wpAny_pyIter_wide ha (pi_one (tk := s1.toks) I1 _ (turn_str _ z t "str_iterator" (.inr rfl)) ⟨_, Heap.get?_push_size _ rfl, rfl, rfl⟩ q)
    · exact wpAny_pyIter_ascii ha (pi_one (tk := s1.toks) I1 _ (turn_str _ z t "str_ascii_iterator" (.inl rfl)) ⟨_, Heap.get?_push_size _ rfl, rfl, rfl⟩ q)
theorem PI.mono {e : Expr} {t t' : L2.TI} (p : PI X tg e t) (h : ∀ τ H R, t' τ H R → t τ H R) : PI X tg e t' := ⟨fun pins s σ H R I q => p.run pins s σ H R I (h σ H R q)⟩

theorem it_val {e : Expr} {e' : E} (o : OkE X W Φ e e') : PI X tg e (TW X.K W (eI Φ (.val e'))) := by
  refine PI.mono (pi_seqS o.1) fun τ H R q => ?_
  obtain ⟨φ, σ, h, rl, s, ok⟩ := q
  refine TI.seq rl s (OutG.bind (x := eE Φ e' σ h) (show OutG X.K _ φ H ((eE Φ e' σ h).bind _) _ from ok)) fun φ1 H1 h1 x v p1 k1 r1 s1 q1 ok => ?_
  split at ok
  · rename_i xs
    obtain ⟨p, vs, rfl, sq, q⟩ := q1.tup_inv
    exact .inl ⟨p, rfl, .inr ⟨⟨vs, sq⟩, ok.here r1 _ (wk_tup sq q)⟩⟩
  · rename_i z
    rw [VR] at q1
    exact .inr ⟨z, q1, ok.here r1 _ (wk_str z)⟩
  · rename_i xs
    rw [VR] at q1
    obtain ⟨p, vs, rfl, sq, q⟩ := q1
    exact .inl ⟨p, rfl, .inl ⟨⟨vs, frz_sql sq⟩, ok.here r1 _ (wk_lsr sq q)⟩⟩
  · rename_i i
    split at ok
    · rename_i xs ex
      rw [VR] at q1
      obtain ⟨p, ep, rfl⟩ := q1
      obtain ⟨vs, sq, q, _⟩ := r1.lsAt ep ex
      exact .inl ⟨p, rfl, .inl ⟨⟨vs, sq⟩, ok.here r1 _ (wk_list ep)⟩⟩
    · exact ok.elim
  · exact ok.elim
theorem args1 (F : Fok X W Φ f) {a : Expr} {a' : E} (h : f a = some a') : PA X [a] (TL X.K W (eEs Φ (.cons a' .nil))) :=
  es_ok F [a] _ (by unfold cEs; rw [h]; rfl)
theorem args2 (F : Fok X W Φ f) {a b : Expr} {a' b' : E} (h : f a = some a') (h2 : f b = some b') : PA X [a, b] (TL X.K W (eEs Φ (.cons a' (.cons b' .nil)))) :=
  es_ok F [a, b] _ (by unfold cEs cEs; rw [h, h2]; rfl)
theorem TL.one {K : PySem.W.Frag} {φ : List Addr} {H : Hp} {h : IH} {σ : Sl} {τ : L2.St} {a' : E} {Q : List V → Hp → Prop} {C : List Addr → Hp → IH → IV → Prop} (r : Rel K φ h H) (s : SR K φ H σ τ) (ok : OutG K (L2.WE W τ) φ H (eE Φ a' σ h) C)
    (k : ∀ φ' H' h1 x w, Px φ φ' → Kp φ φ' H H' → Rel K φ' h1 H' → SR K φ' H' σ τ → VR K φ' H' x w → C φ' H' h1 x → Q [w] H') : TL K W (eEs Φ (.cons a' .nil)) τ H Q := by
  refine ⟨φ, σ, h, r, s, ?_⟩
  show OutG K (L2.WE W τ) φ H ((eE Φ a' σ h).bind _) _
  cases e : eE Φ a' σ h with
  | stuck => rw [e] at ok; exact ok
  | ex ee h1 => rw [e] at ok; exact ok
  | ok x h1 =>
    rw [e] at ok
    intro φ' H' p kp r' ws q
    obtain ⟨w, rfl, q1⟩ := q.one_inv
    exact k φ' H' h1 x w p kp r' (s.mono p kp) q1 (ok φ' H' p kp r')
theorem TL.two {α : Type} {K : PySem.W.Frag} {φ : List Addr} {H : Hp} {h : IH} {σ : Sl} {τ : L2.St} {a' b' : E} {g : IV → IV → IH → Out α} {Q : List V → Hp → Prop} {C : List Addr → Hp → IH → α → Prop} (r : Rel K φ h H) (s : SR K φ H σ τ)
    (ok : OutG K (L2.WE W τ) φ H ((eE Φ a' σ h).bind fun x h1 => (eE Φ b' σ h1).bind fun y h2 => g x y h2) C)
    (k : ∀ φ' H' h2 x y w u, Px φ φ' → Kp φ φ' H H' → Rel K φ' h2 H' → SR K φ' H' σ τ → VR K φ' H' x w → VR K φ' H' y u → OutG K (L2.WE W τ) φ' H' (g x y h2) C → Q [w, u] H') : TL K W (eEs Φ (.cons a' (.cons b' .nil))) τ H Q := by
  refine ⟨φ, σ, h, r, s, ?_⟩
  show OutG K (L2.WE W τ) φ H ((eE Φ a' σ h).bind fun v h1 => ((eE Φ b' σ h1).bind fun v2 h2 => (Out.ok [] h2).bind fun vs h3 => .ok (v2 :: vs) h3).bind fun vs h3 => .ok (v :: vs) h3) _
  cases e : eE Φ a' σ h with
  | stuck => rw [e] at ok; exact ok
  | ex ee h1 => rw [e] at ok; exact ok
  | ok x h1 =>
    rw [e] at ok
    simp only [bind_ok] at ok ⊢
    cases e2 : eE Φ b' σ h1 with
    | stuck => rw [e2] at ok; exact ok
    | ex ee h2 => rw [e2] at ok; exact ok
    | ok y h2 =>
      rw [e2] at ok
      simp only [bind_ok] at ok ⊢
      intro φ' H' p kp r' ws q
      obtain ⟨w, u, rfl, q1, q2⟩ := q.two_inv
      exact k φ' H' h2 x y w u p kp r' (s.mono p kp) q1 q2 (ok.later p kp)

theorem ints_get {K : PySem.W.Frag} {φ : List Addr} {H : Hp} (xs : List Int) : VRs K φ H (xs.map IV.int) (xs.map V.int) := VRs.ofInts xs
theorem it_ok (g : GX X W c Φ d) (G : Fok X W Φ f) {e : Expr} {it : It} (h : cI c f tg e = some it) : PI X tg e (TW X.K W (eI Φ it)) := by
  have dflt : ∀ {it : It}, (if isSetE e = true then none else (f e).map It.val) = some it → PI X tg e (TW X.K W (eI Φ it)) := fun {it} h => by
    split at h
    · cases h
    · obtain ⟨e', e1, h⟩ := Option.map_eq_some_iff.mp h
      subst h
      exact it_val (G.ok e e' e1)
  unfold cI at h
  simp only at h
  split at h
  · rename_i x p
    split at h
    · rename_i hx
      rw [Bool.and_eq_true] at hx
      obtain ⟨xs, e1, h⟩ := Option.map_eq_some_iff.mp h
      subst h
      obtain ⟨a, hm, hs⟩ := g.T x xs e1
      refine PI.mono (pi_tup (pe_glob (v := .ref a) (g.gl hx.2) hm rfl (plain1 hx.1))) fun τ H R q => ?_
      obtain ⟨φ, σ, h, rl, s, ok⟩ := q
      exact ⟨a, rfl, ⟨_, hs H⟩, OutG.here (v := Wk.vals (xs.map IV.int)) ok rl _ (wk_tup (hs H) (ints_get xs))⟩
    · exact dflt h
  · rename_i x xp a pos
    split at h
    · rename_i hx
      simp only [Bool.and_eq_true, decide_eq_true_eq] at hx
      have hg := g.gl hx.1.2
      split at h
      · rename_i en
        subst en
        obtain ⟨a', e1, h⟩ := Option.map_eq_some_iff.mp h
        subst h
        refine PI.mono (pi_range1 hg (g.bn _ (by decide)) (args1 G e1) (star_plain (G.ns _ _ e1))) fun τ H R q => ?_
        obtain ⟨φ, σ, h, rl, s, ok⟩ := q
        refine TL.one rl s (OutG.bind (x := eE Φ a' σ h) (show OutG X.K _ φ H ((eE Φ a' σ h).bind _) _ from ok)) fun φ1 H1 h1 x v p1 k1 r1 s1 q1 ok => ?_
        split at ok
        · rename_i j
          split at ok
          · rename_i hj
            rw [VR] at q1
            subst q1
            refine ⟨j, rfl, by omega, by omega, ok.here r1 _ ?_⟩
            have := wk_range (K := X.K) (φ := φ1) (H := H1) 0 j.toNat
            simpa using this
          · exact ok.elim
        · exact ok.elim
      · split at h
        · rename_i en
          subst en
          split at h
          · rename_i ht
            obtain ⟨a', e1, h⟩ := Option.map_eq_some_iff.mp h
            subst h
            cases tg <;> first
              | cases ht
              | skip
            refine PI.mono (pi_enum2 hg (g.bn _ (by decide)) (args1 G e1) (star_plain (G.ns _ _ e1))) fun τ H R q => ?_
            obtain ⟨φ, σ, h, rl, s, ok⟩ := q
            refine TL.one rl s (OutG.bind (x := eE Φ a' σ h) (show OutG X.K _ φ H ((eE Φ a' σ h).bind _) _ from ok)) fun φ1 H1 h1 x v p1 k1 r1 s1 q1 ok => ?_
            split at ok
            · rw [VR] at q1
              obtain ⟨p, vs, rfl, sq, q, _⟩ := q1
              have sq' : SqT X.K H1 p vs := .inl (.inl sq)
              exact ⟨p, vs, rfl, .inr ⟨sq', ok.here r1 _ (wk_enumT sq' q)⟩⟩
            · rw [VR] at q1
              obtain ⟨p, vs, rfl, sq, q⟩ := q1
              exact ⟨p, vs, rfl, .inl ⟨frz_sql sq, ok.here r1 _ (wk_lsrEnum sq q)⟩⟩
            · rename_i i
              split at ok
              · rename_i xs ex
                rw [VR] at q1
                obtain ⟨p, ep, rfl⟩ := q1
                obtain ⟨vs, sq, q, _⟩ := r1.lsAt ep ex
                exact ⟨p, vs, rfl, .inl ⟨sq, ok.here r1 _ (wk_enum ep)⟩⟩
              · exact ok.elim
            · exact ok.elim
          · cases h
        · split at h
          · rename_i en
            subst en
            split at h
            · rename_i b0 hb0
              obtain ⟨a', e1, h⟩ := Option.map_eq_some_iff.mp h
              subst h
              unfold rvArg at hb0
              split at hb0
              · rename_i y yp b1 ypos
                split at hb0
                · rename_i hy
                  simp only [Bool.and_eq_true, decide_eq_true_eq] at hy
                  obtain ⟨⟨rfl, hgl⟩, _⟩ := hy
                  cases hb0
                  refine PI.mono (pi_revR hg (g.bn _ (by decide)) (prg_1 (X := X) (p := yp) (pos := ypos) (g.gl hgl) (g.bn _ (by decide)) (G.ok _ _ e1).1 (star_plain (G.ns _ _ e1)))) fun τ H R q => ?_
                  obtain ⟨φ, σ, h, rl, s, ok⟩ := q
                  refine TI.seq rl s (OutG.bind (x := eE Φ a' σ h) (show OutG X.K _ φ H ((eE Φ a' σ h).bind _) _ from ok)) fun φ1 H1 h1 x v p1 k1 r1 s1 q1 ok => ?_
                  split at ok
                  · rename_i j
                    split at ok
                    · rename_i hj
                      rw [VR] at q1
                      refine ⟨j, q1, by omega, by omega, by omega, by omega, ok.here r1 _ ?_⟩
                      have := wk_rangeD (K := X.K) (φ := φ1) (H := H1) (0 + (((j - 0).toNat : Nat) : Int) - 1) (j - 0).toNat
                      simpa using this
                    · exact ok.elim
                  · exact ok.elim
                · cases hb0
              · cases hb0
            obtain ⟨a', e1, h⟩ := Option.map_eq_some_iff.mp h
            subst h
            refine PI.mono (pi_reversed hg (g.bn _ (by decide)) (args1 G e1) (star_plain (G.ns _ _ e1))) fun τ H R q => ?_
            obtain ⟨φ, σ, h, rl, s, ok⟩ := q
            refine TL.one rl s (OutG.bind (x := eE Φ a' σ h) (show OutG X.K _ φ H ((eE Φ a' σ h).bind _) _ from ok)) fun φ1 H1 h1 x v p1 k1 r1 s1 q1 ok => ?_
            split at ok
            · rename_i i
              split at ok
              · rename_i xs ex
                rw [VR] at q1
                obtain ⟨p, ep, rfl⟩ := q1
                obtain ⟨vs, sq, q, l⟩ := r1.lsAt ep ex
                refine ⟨p, vs, rfl, sq, ?_⟩
                rw [← l]
                exact ok.here r1 _ (wk_rev ep)
              · exact ok.elim
            · rw [VR] at q1
              obtain ⟨p, vs, rfl, sq, q⟩ := q1
              exact ⟨p, vs, rfl, frz_sql sq, ok.here r1 _ (wk_lsrRev sq q)⟩
            · exact ok.elim
          · exact dflt h
    · exact dflt h
  · rename_i x xp a b pos
    split at h
    · rename_i hx
      simp only [Bool.and_eq_true, decide_eq_true_eq] at hx
      have hg := g.gl hx.1.2
      split at h
      · rename_i en
        subst en
        obtain ⟨a', e1, h⟩ := Option.bind_eq_some_iff.mp h
        obtain ⟨b', e2, h⟩ := Option.map_eq_some_iff.mp h
        subst h
        refine PI.mono (pi_range2 hg (g.bn _ (by decide)) (args2 G e1 e2) (by rw [star_plain (G.ns _ _ e1), star_plain (G.ns _ _ e2)]; rfl) (star_plain (G.ns _ _ e2))) fun τ H R q => ?_
        obtain ⟨φ, σ, h, rl, s, ok⟩ := q
        rw [eI] at ok
        refine TL.two rl s ok fun φ1 H1 h2 x y v u p1 k1 r1 s1 q1 q2 ok => ?_
        split at ok
        · rename_i i j
          split at ok
          · rename_i hj
            rw [VR] at q1 q2
            subst q1 q2
            exact ⟨_, _, rfl, ⟨by omega, by omega, by omega, by omega⟩, ok.here r1 _ (wk_range _ _)⟩
          · exact ok.elim
        · exact ok.elim
      · split at h
        · rename_i en
          subst en
          split at h
          · rename_i ht
            obtain ⟨a', e1, h⟩ := Option.bind_eq_some_iff.mp h
            obtain ⟨b', e2, h⟩ := Option.map_eq_some_iff.mp h
            subst h
            cases tg <;> first
              | cases ht
              | skip
            refine PI.mono (pi_zip hg (g.bn _ (by decide)) (args2 G e1 e2) (star_plain (G.ns _ _ e1)) (back_none fun e m => by rw [List.mem_singleton.mp m]; exact G.ns _ _ e2)) fun τ H R q => ?_
            obtain ⟨φ, σ, h, rl, s, ok⟩ := q
            rw [eI] at ok
            refine TL.two rl s ok fun φ1 H1 h2 x y v u p1 k1 r1 s1 q1 q2 ok => ?_
            split at ok
            · rename_i i j
              split at ok
              · rename_i xs ys ex ey
                rw [VR] at q1 q2
                obtain ⟨p, ep, rfl⟩ := q1
                obtain ⟨p', ep', rfl⟩ := q2
                obtain ⟨vs, sq, q, _⟩ := r1.lsAt ep ex
                obtain ⟨us, sq', q', _⟩ := r1.lsAt ep' ey
                exact ⟨p, p', vs, us, rfl, sq, sq', ok.here r1 _ (wk_zip ep ep')⟩
              · exact ok.elim
            · rw [VR] at q1 q2
              obtain ⟨p, vs, rfl, sq, q⟩ := q1
              obtain ⟨p', us, rfl, sq', q'⟩ := q2
              exact ⟨p, p', vs, us, rfl, frz_sql sq, frz_sql sq', ok.here r1 _ (wk_lsrZip sq q sq' q')⟩
            · exact ok.elim
          · cases h
        · exact dflt h
    · exact dflt h
  · exact dflt h

theorem wipe_wipe (τ : L2.St) (vs : List Nat) : L2.wipe (L2.wipe τ vs) vs = L2.wipe τ vs := by
  have key : ∀ (us : List Nat) (ws : List Nat), (∀ i ∈ us, i ∈ ws) → L2.wipe (L2.wipe τ us) ws = L2.wipe τ ws := fun us ws => by
    induction us with
    | nil => intro _; rfl
    | cons i us ih =>
      intro h
      show L2.wipe ((L2.wipe τ us).set i none) ws = L2.wipe τ ws
      rw [wipe_set none ws _ i (h i List.mem_cons_self)]
      exact ih fun j m => h j (List.mem_cons_of_mem _ m)
  exact key vs vs fun _ m => m
theorem dummy_ok {N : List Str} {sc : List (Str × NameKind)} {S scope : Scope} {own : List (Str × Nat)} (e : S.names = sc) (h : BlkOk N (dummy sc) scope own) : BlkOk N S scope own :=
  ⟨h.kind, h.uniq, h.ix, fun y m q => by rw [e]; exact h.free y m q, h.own⟩
theorem GX.blk (g : GX X W c Φ d) (scope : Scope) (hk : scope.kind = .function) (hu : ∀ y ∈ scope.names, scope.names.lookup y.1 = some y.2) (s : Shared) (H : Hp) (C : Addr) (cl : List (Str × Addr)) (fp : List Addr) : GX (X.blk s H scope (compEnvC scope cl C X.env) fp) (fun _ _ _ _ => False) (c.blk scope) Φ d where
  lam := fun z => by cases (show false = true from z)
  sc := by
    show (PySem.relabel scope X.env).names = blkNames c.sc scope.names
    unfold PySem.relabel blkNames
    have e1 : X.env.scope.kind = .function := g.kd
    have e2 : ∀ n, X.env.kindOf n = c.sc.lookup n := fun n => by rw [← g.sc]; rfl
    simp only [e1, e2]
  kd := hk
  N := g.N
  nd := g.nd
  calm := g.calm
  tk := takes0
  room := g.room
  G := g.G
  T := g.T
  Z := g.Z
  fc := fun x hx => by
    obtain ⟨y, hy, e⟩ := List.mem_map.mp hx
    rw [List.mem_filter] at hy
    have h2 := of_decide_eq_true hy.2
    show (scope.names.lookup x == some .cell) = true
    rw [← e, h2]; rfl
  bt := g.bt
  bn := g.bn
  fn := g.fn
  ec := g.ec
  ei := g.ei
  er := g.er
  ep := g.ep
  fa := g.fa
  fv := g.fv
  eb := fun k C hk hC => (g.eb k C hk hC).imp fun m h => ⟨h.1, ⟨h.2.T, h.2.fn⟩⟩
theorem isSet_folded {e : Expr} {env : Env} (h : isSetE e = false) : ∀ x, foldedSetIterable e env x = pure x := by
  cases e <;> first | exact fun _ => rfl | cases h
def LcW (K : PySem.W.Frag) (D : Addr) (w : Wk) (body : IV → IH → Out (Option IV)) (φ0 : List Addr) (H0 : Hp) (res : List IV) (hF : IH) (i m : Nat) (H : Hp) : Prop :=
  ∃ φ h acc ws, Rel K φ h H ∧ Px φ0 φ ∧ Kp φ0 φ H0 H ∧ H D = some (.lst ws) ∧ D ∉ φ ∧ VRs K φ H acc ws ∧ lcGo w body i m acc h = .ok res hF
theorem nx_noX {α : Type} {o : Out α} : NoEx (noX o) := by
  cases o <;> intro _ _ z <;> cases z
theorem noX_ok {α : Type} {o : Out α} {v : α} {h : IH} (e : noX o = .ok v h) : o = .ok v h := by
  cases o with
  | ok a g => exact e
  | ex _ _ => cases e
  | stuck => cases e
theorem nx_lc {w : Wk} {body : IV → IH → Out (Option IV)} (nb : ∀ x h, NoEx (body x h)) : ∀ (m n : Nat) (acc : List IV) (h : IH), NoEx (lcGo w body n m acc h)
  | 0, n, acc, h => by
    unfold lcGo
    split <;> intro _ _ z <;> cases z
  | m + 1, n, acc, h => by
    unfold lcGo
    split
    · rename_i x ex
      cases e : body x h with
      | stuck => intro _ _ z; cases z
      | ex e1 h1 => exact absurd e (nb x h e1 h1)
      | ok o h1 =>
        simp only [bind_ok]
        split
        · split
          · exact nx_lc nb m (n + 1) _ h1
          · intro _ _ z; cases z
        · exact nx_lc nb m (n + 1) acc h1
    · intro _ _ z; cases z
abbrev W0 : WX := fun _ _ _ _ => False
theorem lc_read {K : PySem.W.Frag} {tg' : Tg} {it' : It} {o : Oe} {el' : E} : ∀ τ H Q, TI K W (eE Φ (.lc el' tg' it' o (tgIx tg'))) τ H Q → tLc (TW K W (eI Φ it')) (TG' K tg') (TT' K W0 (eC Φ o)) (TI K W0 (eE Φ el')) (tgIx tg') τ H Q := by
  intro τ H Q q
  obtain ⟨φ, σ, h, rl, sr, ok⟩ := q
  refine ⟨φ, σ, h, rl, sr, (OutG.bind (x := eI Φ it' σ h) (show OutG K _ φ H ((eI Φ it' σ h).bind _) _ from ok)).imp fun φ1 H1 h1 w p1 k1 r1 ok J wk D hD => ?_⟩
  have sr1 := sr.mono p1 k1
  generalize hb : (fun (x : IV) (h2 : IH) => match tgI tg' x (wipeI σ (tgIx tg')) with
      | some σ2 => noX ((eC Φ o σ2 h2).bind fun b h3 => if b then (eE Φ el' σ2 h3).bind fun v h4 => Out.ok (some v) h4 else .ok none h3)
      | none => .stuck) = body at ok
  have nb : ∀ x h, NoEx (body x h) := fun x h => by
    rw [← hb]
    simp only
    split
    · exact nx_noX
    · intro _ _ z; cases z
  cases f2 : lcGo w body 0 (wkLen w h1) [] h1 with
  | stuck => rw [f2] at ok; exact ok.elim
  | ex e1 h5 => exact absurd f2 (nx_lc nb _ _ _ _ e1 h5)
  | ok res h5 =>
  rw [f2] at ok
  simp only [bind_ok] at ok
  unfold newL at ok
  split at ok
  case isFalse => exact ok.elim
  rename_i hz
  have k := Ct.cv ok
  refine ⟨LcW K D w body φ1 H1 res h5, ⟨wkLen w h1, φ1, h1, [], [], r1.newU hD, .refl φ1, .newU hD, upd_same, r1.fresh hD, by rw [VRs], f2⟩, ?_⟩
  rintro i m H2 ⟨φ2, h2, acc, ws, r2, p2, k2, hD2, nD2, qa, eg⟩
  cases m with
  | zero =>
    rw [lcGo] at eg
    split at eg
    · rename_i ew
      obtain ⟨g1, g2⟩ := out_inj eg
      subst g1 g2
      refine .inl ⟨wk.stop i φ2 h2 H2 p2 k2 r2 ew, ?_⟩
      have k3 : Kp φ1 (φ2 ++ [D]) H1 H2 := ⟨k2.st, fun a u t e n => ⟨(k2.oth a u t e n).1, fun z => by
        rcases List.mem_append.mp z with z | z
        · exact (k2.oth a u t e n).2 z
        · rw [List.mem_singleton.mp z, hD] at e; cases e⟩, k2.tb⟩
      refine k (φ2 ++ [D]) H2 (.ref D) (p2.trans (.app φ2 [D])) k3 (r2.own nD2 ⟨ws, hD2, qa.monoT (.app φ2 [D]) (.id H2)⟩) ?_
      rw [VR]
      refine ⟨D, ?_, rfl⟩
      rw [← r2.len, List.getElem?_append_right (Nat.le_refl _), Nat.sub_self]; rfl
    · cases eg
  | succ m =>
    rw [lcGo] at eg
    split at eg
    case h_2 => cases eg
    rename_i x ew
    obtain ⟨ob, h3, f3, eg⟩ := bind_eq_ok eg
    obtain ⟨go, hy⟩ := wk.item i φ2 h2 H2 x p2 k2 r2 ew
    refine .inr ⟨go, LcW K D w body φ1 H1 res h5 (i + 1) m, fun H' n' => ⟨m, Nat.lt_succ_self m, n'⟩, fun v H3 y => ?_⟩
    obtain ⟨k3, r3, q3⟩ := hy v H3 y
    rw [← hb] at f3
    simp only at f3
    split at f3
    case h_2 => cases f3
    rename_i σ2 et
    have f3 := noX_ok f3
    obtain ⟨b, h4, f4, f3⟩ := bind_eq_ok f3
    have sr3 := ((sr1.mono p2 k2).mono (.refl φ2) k3).wipe (tgIx tg')
    refine ⟨φ2, h2, _, x, σ2, r3, sr3, q3, et, fun τ1 s1 w1 => ⟨?_, ?_⟩⟩
    · rw [w1 (tgIx tg') fun i m => m, wipe_wipe]
    obtain ⟨hD3, nD3⟩ := k3.oth D _ (by intro _ z; cases z) hD2 nD2
    refine TT'.seqE r3 s1 f4 fun φ4 H4 p4 k4 r4 s4 => ?_
    obtain ⟨hD4, nD4⟩ := k4.oth D _ (by intro _ z; cases z) hD3 nD3
    have kb : Kp φ1 φ4 H1 H4 := (k2.trans k3).trans k4
    cases b with
    | false =>
      rw [if_neg Bool.false_ne_true] at f3 ⊢
      obtain ⟨g1, g2⟩ := out_inj f3
      subst g1 g2
      exact ⟨φ4, h4, acc, ws, r4, p2.trans p4, kb, hD4, nD4, (qa.mono (.refl φ2) k3).mono p4 k4, eg⟩
    | true =>
      rw [if_pos rfl] at f3 ⊢
      obtain ⟨vv, h6, f6, f3⟩ := bind_eq_ok f3
      obtain ⟨g1, g2⟩ := out_inj f3
      subst g1 g2
      simp only at eg
      split at eg
      case isFalse => cases eg
      rename_i hlen
      refine TI.seqE r4 s4 f6 fun φ6 H6 yv p6 k6 r6 s6 q6 => ?_
      obtain ⟨hD6, nD6⟩ := k6.oth D _ (by intro _ z; cases z) hD4 nD4
      have kc : Kp φ1 φ6 H1 H6 := kb.trans k6
      have neD : ∀ a u, H1 a = some u → a ≠ D := fun a u e z => by rw [z, hD] at e; cases e
      have kt : Kt H6 (upd H6 D (.lst (ws ++ [yv]))) := ⟨fun a u f e => by rw [upd_ne (fun z => by rw [z, hD6] at e; cases e; exact f)]; exact e, .upd hD6 (fun z => z) (by intro _ z; cases z)⟩
      have qa6 : VRs K φ6 H6 acc ws := ((qa.mono (.refl φ2) k3).mono p4 k4).mono p6 k6
      refine ⟨ws, hD6, by rw [← qa6.length]; exact lim_lt hlen, φ6, h6, acc ++ [vv], ws ++ [yv], r6.keep kt fun a ha => upd_ne fun z => nD6 (z ▸ ha), (p2.trans p4).trans p6, ?_, upd_same, nD6, (qa6.append (.one q6)).monoT (.refl φ6) kt, eg⟩
      exact ⟨fun a u f e => by rw [upd_ne (neD a _ e)]; exact kc.st a u f e, fun a u t e n => ⟨by rw [upd_ne (neD a _ e)]; exact (kc.oth a u t e n).1, (kc.oth a u t e n).2⟩, fun t => Tk.upd hD6 (fun z => z) (by intro _ z; cases z) (kc.tb t)⟩

structure LcP (X : Cx) (W : WX) (Φ : Calls) (el tgE iter : Expr) (ifs : List Expr) (scope : Scope) (tg' : Tg) (it' : It) (o : Oe) (el' : E) (own : List (Str × Nat)) : Prop where
  hown : own.map (·.2) = tgIx tg'
  hi : PI X tgE iter (TW X.K W (eI Φ it'))
  ok : BlkOk X.N X.env.scope scope own
  hg : ∀ (s : Shared) (H : Hp) (C : Addr) (cl : List (Str × Addr)) (fp : List Addr), PG (X.blk s H scope (compEnvC scope cl C X.env) fp) tgE (TG' X.K tg')
  ht : ∀ (s : Shared) (H : Hp) (C : Addr) (cl : List (Str × Addr)) (fp : List Addr), PTs (X.blk s H scope (compEnvC scope cl C X.env) fp) ifs (TT' X.K W0 (eC Φ o))
  he : ∀ (s : Shared) (H : Hp) (C : Addr) (cl : List (Str × Addr)) (fp : List Addr), PE (X.blk s H scope (compEnvC scope cl C X.env) fp) el (TI X.K W0 (eE Φ el'))
  hs : ∀ x, foldedSetIterable iter X.env x = pure x
theorem lc_parts (g : GX X W c Φ d) {n : Nat} (G : Fok X W Φ f) {el tgE iter : Expr} {ifs : List Expr} {scope : Scope} {tg' : Tg} {it' : It} {o : Oe} {el1 : E}
    (ihb : ∀ (s : Shared) (H : Hp) (C : Addr) (cl : List (Str × Addr)) (fp : List Addr) e e', scope.kind = .function → (∀ y ∈ scope.names, scope.names.lookup y.1 = some y.2) → cE n (c.blk scope) e = some e' → OkE (X.blk s H scope (compEnvC scope cl C X.env) fp) W0 Φ e e')
    (hset : isSetE iter = false) (e1 : cTg (c.blk scope) 4 tgE = some tg') (e2 : cI c f tgE iter = some it') (e3 : blkC c.N (dummy c.sc) scope ((tgIx tg').map fun i => (c.N.getD i Str.empty, i)) = true)
    (e4 : (match ifs with | [] => some Oe.non | [t] => if tOk t = true then (cE n (c.blk scope) t).map fun e' => .som (slE t e') else none | _ => none) = some o) (e5 : cE n (c.blk scope) el = some el1) :
    LcP X W Φ el tgE iter ifs scope tg' it' o (slE el el1) ((tgIx tg').map fun i => (c.N.getD i Str.empty, i)) := by
  have B0 := blkOk_by e3
  have B : BlkOk X.N X.env.scope scope ((tgIx tg').map fun i => (c.N.getD i Str.empty, i)) := dummy_ok g.sc (by rw [g.N]; exact B0)
  have hown : ((tgIx tg').map fun i => (c.N.getD i Str.empty, i)).map (·.2) = tgIx tg' := by
    rw [List.map_map]
    exact List.map_id _
  have gb := fun s H C cl fp => g.blk scope B0.kind B0.uniq s H C cl fp
  have hts : ∀ (s : Shared) (H : Hp) (C : Addr) (cl : List (Str × Addr)) (fp : List Addr), PTs (X.blk s H scope (compEnvC scope cl C X.env) fp) ifs (TT' X.K W0 (eC Φ o)) := fun s H C cl fp => by
    split at e4
    · cases e4
      refine ⟨fun pins s τ H Q I q => pts_nil.run pins s τ H Q I ?_⟩
      obtain ⟨φ, σ, h, rl, sr, ok⟩ := q
      exact OutG.here (v := true) ok rl
    · split at e4
      · rename_i t ht
        obtain ⟨t', e6, e4⟩ := Option.map_eq_some_iff.mp e4
        subst e4
        exact pts_one ((ok_sl (ihb s H C cl fp t t' B0.kind B0.uniq e6)).2 ht)
      · cases e4
    · cases e4
  exact ⟨hown, it_ok g G e2, B, fun s H C cl fp => tg_ok (gb s H C cl fp) 4 tgE tg' e1, hts, fun s H C cl fp => (ok_sl (ihb s H C cl fp el el1 B0.kind B0.uniq e5)).1, isSet_folded hset⟩
theorem lc_ok (g : GX X W c Φ d) {el tgE iter : Expr} {ifs : List Expr} {scope : Scope} {pos : Pos} {tg' : Tg} {it' : It} {o : Oe} {el' : E} {own : List (Str × Nat)} (P : LcP X W Φ el tgE iter ifs scope tg' it' o el' own) :
    PE X (.ListComp el [⟨tgE, iter, ifs, 0⟩] scope pos) (TI X.K W (eE Φ (.lc el' tg' it' o (tgIx tg')))) := by
  refine PE.mono (pe_lc (te := TI X.K W0 (eE Φ el')) (tt := TT' X.K W0 (eC Φ o)) (g := TG' X.K tg') (own := own) g.calm (by rw [g.N]; exact g.nd) P.hi P.ok P.hg P.ht P.he P.hs) fun τ H Q q => ?_
  rw [P.hown]
  exact lc_read τ H Q q
end
end Pi
end

section
set_option maxHeartbeats 8000000
namespace Pi
open PySem PySem.Spec PyProof.Rows L2
theorem lcGo_pre [ClsTab] {w : Wk} {body : IV → IH → Out (Option IV)} {res : List IV} {hF : IH} : ∀ (m i : Nat) (acc : List IV) (h : IH), lcGo w body i m acc h = .ok res hF → ∃ t, res = acc ++ t
  | 0, i, acc, h, e => by
    rw [lcGo] at e
    split at e
    · obtain ⟨g1, g2⟩ := out_inj e
      exact ⟨[], by rw [← g1, List.append_nil]⟩
    · cases e
  | m + 1, i, acc, h, e => by
    rw [lcGo] at e
    split at e
    · obtain ⟨o, h1, f, e⟩ := bind_eq_ok e
      cases o with
      | none => exact lcGo_pre m (i + 1) acc h1 e
      | some v =>
        simp only at e
        split at e
        · obtain ⟨t, et⟩ := lcGo_pre m (i + 1) (acc ++ [v]) h1 e
          exact ⟨v :: t, by rw [et, List.append_assoc]; rfl⟩
        · cases e
    · cases e
theorem intsOf_pre : ∀ {a b : List IV} {ns : List Int}, intsOf (a ++ b) = some ns → ∃ as, intsOf a = some as
  | [], _, _, _ => ⟨[], rfl⟩
  | x :: a, b, ns, e => by
    cases x with
    | int i =>
      simp only [List.cons_append, intsOf] at e
      obtain ⟨m, em, _⟩ := Option.map_eq_some_iff.mp e
      obtain ⟨as, ea⟩ := intsOf_pre em
      exact ⟨i :: as, by rw [intsOf, ea]; rfl⟩
    | _ => simp [intsOf] at e
theorem intsOf_snoc : ∀ {a : List IV} {x : IV} {ns : List Int}, intsOf (a ++ [x]) = some ns → ∃ as c, intsOf a = some as ∧ x = .int c ∧ ns = as ++ [c]
  | [], x, ns, e => by
    cases x with
    | int i => simp [intsOf] at e; exact ⟨[], i, rfl, rfl, e.symm⟩
    | _ => simp [intsOf] at e
  | y :: a, x, ns, e => by
    cases y with
    | int i =>
      simp only [List.cons_append, intsOf] at e
      obtain ⟨m, em, rfl⟩ := Option.map_eq_some_iff.mp e
      obtain ⟨as, c, h1, h2, rfl⟩ := intsOf_snoc em
      exact ⟨i :: as, c, by rw [intsOf, h1]; rfl, h2, rfl⟩
    | _ => simp [intsOf] at e
theorem intsOf_len : ∀ {a : List IV} {ns : List Int}, intsOf a = some ns → ns.length = a.length
  | [], ns, e => by simp [intsOf] at e; simp [← e]
  | y :: a, ns, e => by
    cases y with
    | int i =>
      simp only [intsOf] at e
      obtain ⟨m, em, rfl⟩ := Option.map_eq_some_iff.mp e
      simp [intsOf_len em]
    | _ => simp [intsOf] at e
theorem dkPut_none (l : List IV) : l.foldl dkPut none = none := by
  induction l with
  | nil => rfl
  | cons x l ih => rw [List.foldl_cons]; exact ih
theorem dkOf_pre {a b : List IV} {kvs : List (L2.Key × IV)} (e : dkOf (a ++ b) = some kvs) : ∃ as, dkOf a = some as := by
  unfold dkOf at e ⊢
  rw [List.foldl_append] at e
  cases q : a.foldl dkPut (some []) with
  | none => rw [q, dkPut_none] at e; cases e
  | some as => exact ⟨as, rfl⟩
theorem dkOf_snoc {a : List IV} {x : IV} {kvs : List (L2.Key × IV)} (e : dkOf (a ++ [x]) = some kvs) : ∃ as k v key, dkOf a = some as ∧ x = .tup [k, v] ∧ keyOf k = some key ∧ kvs = put key v as := by
  obtain ⟨as, ea⟩ := dkOf_pre e
  unfold dkOf at e ea
  rw [List.foldl_append, ea] at e
  simp only [List.foldl_cons, List.foldl_nil] at e
  unfold dkPut at e
  split at e
  · rename_i o y kvs0 k v eo
    cases eo
    obtain ⟨key, ek, rfl⟩ := Option.map_eq_some_iff.mp e
    exact ⟨_, k, v, key, ea, rfl, ek, rfl⟩
  · cases e
theorem put_le {κ : Type} [DecidableEq κ] (k : κ) (v : IV) (kvs : List (κ × IV)) : (put k v kvs).length ≤ kvs.length + 1 := by
  unfold put
  split <;> simp
theorem dkOf_len : ∀ (n : Nat) {a : List IV} {kvs : List (L2.Key × IV)}, a.length = n → dkOf a = some kvs → kvs.length ≤ a.length
  | 0, a, kvs, l, e => by
    rw [List.length_eq_zero_iff.mp l] at e
    rw [← Option.some.inj (show some [] = some kvs from e)]
    exact Nat.zero_le _
  | n + 1, a, kvs, l, e => by
    obtain ⟨b, x, rfl⟩ : ∃ b x, a = b ++ [x] := ⟨a.dropLast, a.getLast (by intro z; rw [z] at l; cases l), (List.dropLast_concat_getLast _).symm⟩
    obtain ⟨as, k, v, key, ea, _, _, rfl⟩ := dkOf_snoc e
    have h1 := dkOf_len n (by simpa using l) ea
    have h2 := put_le key v as
    rw [List.length_append, List.length_cons, List.length_nil]
    omega
variable [ClsTab]
section
variable {X : Cx} {W : WX} {c : Cs} {Φ : Calls} {d : Nat} {f : Expr → Option E}
def ScW (K : PySem.W.Frag) (wd : World) (D : Addr) (w : Wk) (body : IV → IH → Out (Option IV)) (φ0 : List Addr) (H0 : Hp) (res : List IV) (hF : IH) (i m : Nat) (H : Hp) : Prop :=
  ∃ φ h acc ns S n, Rel K φ h H ∧ Px φ0 φ ∧ Kp φ0 φ H0 H ∧ H D = some (SetO wd D S n) ∧ D ∉ φ ∧ intsOf acc = some ns ∧ (∀ j, S j = true ↔ j ∈ ns) ∧ n ≤ ns.length ∧ lcGo w body i m acc h = .ok res hF
theorem set_noT {wd : World} {D : Addr} {S : Int → Bool} {n : Nat} : NoT (SetO wd D S n) := fun _ z => by cases z
theorem ssc_read {K : PySem.W.Frag} {wd : World} {tg' : Tg} {it' : It} {o : Oe} {el' : E} : ∀ τ H Q, TI K W (eE Φ (.ssc el' tg' it' o (tgIx tg'))) τ H Q →
    tSci wd (TW K W (eI Φ it')) (TG' K tg') (TT' K W0 (eC Φ o)) (TI K W0 (eE Φ el')) (tgIx tg') τ H (fun x H' => rSortedSetN wd [x] H' Q) := by
  intro τ H Q q
  obtain ⟨φ, σ, h, rl, sr, ok⟩ := q
  refine ⟨φ, σ, h, rl, sr, (OutG.bind (x := eI Φ it' σ h) (show OutG K _ φ H ((eI Φ it' σ h).bind _) _ from ok)).imp fun φ1 H1 h1 w p1 k1 r1 ok J wk D hD => ?_⟩
  have sr1 := sr.mono p1 k1
  generalize hb : (fun (x : IV) (h2 : IH) => match tgI tg' x (wipeI σ (tgIx tg')) with
      | some σ2 => noX ((eC Φ o σ2 h2).bind fun b h3 => if b then (eE Φ el' σ2 h3).bind fun v h4 => Out.ok (some v) h4 else .ok none h3)
      | none => .stuck) = body at ok
  have nb : ∀ x h, NoEx (body x h) := fun x h => by
    rw [← hb]
    simp only
    split
    · exact nx_noX
    · intro _ _ z; cases z
  cases f2 : lcGo w body 0 (wkLen w h1) [] h1 with
  | stuck => rw [f2] at ok; exact ok.elim
  | ex e1 h5 => exact absurd f2 (nx_lc nb _ _ _ _ e1 h5)
  | ok res h5 =>
  rw [f2] at ok
  simp only [bind_ok] at ok
  unfold sscI at ok
  split at ok
  case h_2 => exact ok.elim
  rename_i nsR hI
  split at ok
  case isFalse => exact ok.elim
  rename_i few
  have k := Ct.cv ok
  refine ⟨ScW K wd D w body φ1 H1 res h5, ⟨wkLen w h1, φ1, h1, [], [], _, 0, r1.newU hD, .refl φ1, .newU hD, upd_same, r1.fresh hD, rfl, by simp, Nat.le_refl _, f2⟩, ?_⟩
  rintro i m H2 ⟨φ2, h2, acc, ns, S, n, r2, p2, k2, hD2, nD2, ea, hS, hn, eg⟩
  cases m with
  | zero =>
    rw [lcGo] at eg
    split at eg
    · rename_i ew
      obtain ⟨g1, g2⟩ := out_inj eg
      subst g1 g2
      refine .inl ⟨wk.stop i φ2 h2 H2 p2 k2 r2 ew, ?_⟩
      rw [ea] at hI
      have eN : ns = nsR := Option.some.inj hI
      subst eN
      refine ⟨D, S, n, rfl, hD2, fun ns' pz hs hmem hlen hpz => ?_⟩
      have en' : ns' = sst ns := sst_eq hs fun j => by rw [hmem j]; exact hS j
      subst en'
      exact (k.later p2 k2).list r2 (VRs.ofInts _) hpz
    · cases eg
  | succ m =>
    rw [lcGo] at eg
    split at eg
    case h_2 => cases eg
    rename_i x ew
    obtain ⟨ob, h3, f3, eg⟩ := bind_eq_ok eg
    obtain ⟨go, hy⟩ := wk.item i φ2 h2 H2 x p2 k2 r2 ew
    refine .inr ⟨go, ScW K wd D w body φ1 H1 res h5 (i + 1) m, fun H' n' => ⟨m, Nat.lt_succ_self m, n'⟩, fun v H3 y => ?_⟩
    obtain ⟨k3, r3, q3⟩ := hy v H3 y
    rw [← hb] at f3
    simp only at f3
    split at f3
    case h_2 => cases f3
    rename_i σ2 et
    have f3 := noX_ok f3
    obtain ⟨b, h4, f4, f3⟩ := bind_eq_ok f3
    have sr3 := ((sr1.mono p2 k2).mono (.refl φ2) k3).wipe (tgIx tg')
    refine ⟨φ2, h2, _, x, σ2, r3, sr3, q3, et, fun τ1 s1 w1 => ⟨?_, ?_⟩⟩
    · rw [w1 (tgIx tg') fun i m => m, wipe_wipe]
    obtain ⟨hD3, nD3⟩ := k3.oth D _ set_noT hD2 nD2
    refine TT'.seqE r3 s1 f4 fun φ4 H4 p4 k4 r4 s4 => ?_
    obtain ⟨hD4, nD4⟩ := k4.oth D _ set_noT hD3 nD3
    have kb : Kp φ1 φ4 H1 H4 := (k2.trans k3).trans k4
    cases b with
    | false =>
      rw [if_neg Bool.false_ne_true] at f3 ⊢
      obtain ⟨g1, g2⟩ := out_inj f3
      subst g1 g2
      exact ⟨φ4, h4, acc, ns, S, n, r4, p2.trans p4, kb, hD4, nD4, ea, hS, hn, eg⟩
    | true =>
      rw [if_pos rfl] at f3 ⊢
      obtain ⟨vv, h6, f6, f3⟩ := bind_eq_ok f3
      obtain ⟨g1, g2⟩ := out_inj f3
      subst g1 g2
      simp only at eg
      split at eg
      case isFalse => cases eg
      rename_i hlen
      obtain ⟨t, et⟩ := lcGo_pre m (i + 1) (acc ++ [vv]) h6 eg
      rw [et] at hI
      obtain ⟨as, eas⟩ := intsOf_pre hI
      obtain ⟨as', c, e1, ec, e2⟩ := intsOf_snoc eas
      rw [ea] at e1
      obtain rfl := Option.some.inj e1
      subst ec
      have lenR := intsOf_len hI
      have lenA := intsOf_len ea
      refine TI.seqE r4 s4 f6 fun φ6 H6 yv p6 k6 r6 s6 q6 => ?_
      obtain ⟨hD6, nD6⟩ := k6.oth D _ set_noT hD4 nD4
      have kc : Kp φ1 φ6 H1 H6 := kb.trans k6
      have neD : ∀ a u, H1 a = some u → a ≠ D := fun a u e z => by rw [z, hD] at e; cases e
      have ey : yv = .int c := by rw [VR] at q6; exact q6
      refine ⟨c, S, n, ey, hD6, ?_, φ6, h6, acc ++ [.int c], ns ++ [c], _, _, ?_, (p2.trans p4).trans p6, ?_, upd_same, nD6, by rw [eas, e2], fun j => ?_, ?_, eg⟩
      · have h1 : res.length = acc.length + 1 + t.length := by rw [et]; simp; omega
        rw [← et] at lenR
        show n + 1 < 4096
        omega
      · have kt : Kt H6 (upd H6 D (SetO wd D (fun j => S j || decide (j = c)) (if S c = true then n else n + 1))) := ⟨fun a u f e => by rw [upd_ne (fun z => by rw [z, hD6] at e; cases e; exact set_nofx f)]; exact e, .upd hD6 set_nofx set_noT⟩
        exact r6.keep kt fun a ha => upd_ne fun z => nD6 (z ▸ ha)
      · exact ⟨fun a u f e => by rw [upd_ne (neD a _ e)]; exact kc.st a u f e, fun a u t e n => ⟨by rw [upd_ne (neD a _ e)]; exact (kc.oth a u t e n).1, (kc.oth a u t e n).2⟩, fun t => Tk.upd hD6 set_nofx set_noT (kc.tb t)⟩
      · rw [Bool.or_eq_true, decide_eq_true_eq, hS j, List.mem_append, List.mem_singleton]
      · simp only [List.length_append, List.length_cons, List.length_nil]
        split <;> omega
theorem eEs_two {a b : E} {σ : Sl} {h : IH} : eEs Φ (.cons a (.cons b .nil)) σ h = (eE Φ a σ h).bind fun x h1 => (eE Φ b σ h1).bind fun y h2 => .ok [x, y] h2 := by
  rw [eEs]
  congr 1
  funext x h1
  rw [eEs]
  cases eE Φ b σ h1 with
  | stuck => rfl
  | ex e g => rfl
  | ok y g => simp only [bind_ok]; rw [eEs]; rfl
def DcW (K : PySem.W.Frag) (D : Addr) (w : Wk) (body : IV → IH → Out (Option IV)) (φ0 : List Addr) (H0 : Hp) (res : List IV) (hF : IH) (i m : Nat) (H : Hp) : Prop :=
  ∃ φ h acc kvs ws, Rel K φ h H ∧ Px φ0 φ ∧ Kp φ0 φ H0 H ∧ H D = some (.dK ws) ∧ D ∉ φ ∧ dkOf acc = some kvs ∧ KR K φ H kvs ws ∧ lcGo w body i m acc h = .ok res hF
theorem dk_nofx {ws : List (Key × V)} : ¬ Fx (.dK ws) := fun f => f
theorem dk_noT {ws : List (Key × V)} : NoT (.dK ws) := fun _ z => by cases z
theorem dcm_read {K : PySem.W.Frag} {tg' : Tg} {it' : It} {o : Oe} {ke ve : E} : ∀ τ H Q, TI K W (eE Φ (.dcm (.cons ke (.cons ve .nil)) tg' it' o (tgIx tg'))) τ H Q →
    tDc (TW K W (eI Φ it')) (TG' K tg') (TT' K W0 (eC Φ o)) (TI K W0 (eE Φ ke)) (TI K W0 (eE Φ ve)) (tgIx tg') τ H Q := by
  intro τ H Q q
  obtain ⟨φ, σ, h, rl, sr, ok⟩ := q
  refine ⟨φ, σ, h, rl, sr, (OutG.bind (x := eI Φ it' σ h) (show OutG K _ φ H ((eI Φ it' σ h).bind _) _ from ok)).imp fun φ1 H1 h1 w p1 k1 r1 ok J wk D hD => ?_⟩
  have sr1 := sr.mono p1 k1
  generalize hb : (fun (x : IV) (h2 : IH) => match tgI tg' x (wipeI σ (tgIx tg')) with
      | some σ2 => noX ((eC Φ o σ2 h2).bind fun b h3 => if b then ((eEs Φ (.cons ke (.cons ve .nil)) σ2 h3).bind fun us h4 => newT us h4).bind fun v h4 => Out.ok (some v) h4 else .ok none h3)
      | none => .stuck) = body at ok
  have nb : ∀ x h, NoEx (body x h) := fun x h => by
    rw [← hb]
    simp only
    split
    · exact nx_noX
    · intro _ _ z; cases z
  cases f2 : lcGo w body 0 (wkLen w h1) [] h1 with
  | stuck => rw [f2] at ok; exact ok.elim
  | ex e1 h5 => exact absurd f2 (nx_lc nb _ _ _ _ e1 h5)
  | ok res h5 =>
  rw [f2] at ok
  simp only [bind_ok] at ok
  unfold dcmI at ok
  split at ok
  case h_2 => exact ok.elim
  rename_i kvR hI
  have k := Ct.cv ok
  refine ⟨DcW K D w body φ1 H1 res h5, ⟨wkLen w h1, φ1, h1, [], [], [], r1.newU hD, .refl φ1, .newU hD, upd_same, r1.fresh hD, rfl, by rw [KR], f2⟩, ?_⟩
  rintro i m H2 ⟨φ2, h2, acc, kvs, ws, r2, p2, k2, hD2, nD2, ea, qa, eg⟩
  cases m with
  | zero =>
    rw [lcGo] at eg
    split at eg
    · rename_i ew
      obtain ⟨g1, g2⟩ := out_inj eg
      subst g1 g2
      refine .inl ⟨wk.stop i φ2 h2 H2 p2 k2 r2 ew, ?_⟩
      rw [ea] at hI
      have eN : kvs = kvR := Option.some.inj hI
      subst eN
      have k3 : Kp φ1 (φ2 ++ [D]) H1 H2 := ⟨k2.st, fun a u t e n => ⟨(k2.oth a u t e n).1, fun z => by
        rcases List.mem_append.mp z with z | z
        · exact (k2.oth a u t e n).2 z
        · rw [List.mem_singleton.mp z, hD] at e; cases e⟩, k2.tb⟩
      refine k (φ2 ++ [D]) H2 (.ref D) (p2.trans (.app φ2 [D])) k3 (r2.own nD2 ⟨ws, hD2, KR.monoT (.app φ2 [D]) (.id H2) _ _ qa⟩) ?_
      rw [VR]
      refine ⟨D, ?_, rfl⟩
      rw [← r2.len, List.getElem?_append_right (Nat.le_refl _), Nat.sub_self]; rfl
    · cases eg
  | succ m =>
    rw [lcGo] at eg
    split at eg
    case h_2 => cases eg
    rename_i x ew
    obtain ⟨ob, h3, f3, eg⟩ := bind_eq_ok eg
    obtain ⟨go, hy⟩ := wk.item i φ2 h2 H2 x p2 k2 r2 ew
    refine .inr ⟨go, DcW K D w body φ1 H1 res h5 (i + 1) m, fun H' n' => ⟨m, Nat.lt_succ_self m, n'⟩, fun v H3 y => ?_⟩
    obtain ⟨k3, r3, q3⟩ := hy v H3 y
    rw [← hb] at f3
    simp only at f3
    split at f3
    case h_2 => cases f3
    rename_i σ2 et
    have f3 := noX_ok f3
    obtain ⟨b, h4, f4, f3⟩ := bind_eq_ok f3
    have sr3 := ((sr1.mono p2 k2).mono (.refl φ2) k3).wipe (tgIx tg')
    refine ⟨φ2, h2, _, x, σ2, r3, sr3, q3, et, fun τ1 s1 w1 => ⟨?_, ?_⟩⟩
    · rw [w1 (tgIx tg') fun i m => m, wipe_wipe]
    obtain ⟨hD3, nD3⟩ := k3.oth D _ dk_noT hD2 nD2
    refine TT'.seqE r3 s1 f4 fun φ4 H4 p4 k4 r4 s4 => ?_
    obtain ⟨hD4, nD4⟩ := k4.oth D _ dk_noT hD3 nD3
    have kb : Kp φ1 φ4 H1 H4 := (k2.trans k3).trans k4
    cases b with
    | false =>
      rw [if_neg Bool.false_ne_true] at f3 ⊢
      obtain ⟨g1, g2⟩ := out_inj f3
      subst g1 g2
      exact ⟨φ4, h4, acc, kvs, ws, r4, p2.trans p4, kb, hD4, nD4, ea, KR.mono p4 k4 _ _ (KR.mono (.refl φ2) k3 _ _ qa), eg⟩
    | true =>
      rw [if_pos rfl] at f3 ⊢
      obtain ⟨tv, h6, ft, f3⟩ := bind_eq_ok f3
      obtain ⟨g1, g2⟩ := out_inj f3
      subst g1 g2
      obtain ⟨us, h7, fu, ft⟩ := bind_eq_ok ft
      unfold newT at ft
      split at ft
      case isFalse => cases ft
      obtain ⟨g1, g2⟩ := out_inj ft
      subst g1 g2
      rw [eEs_two] at fu
      obtain ⟨kk, h8, fk, fu⟩ := bind_eq_ok fu
      obtain ⟨vv, h9, fv, fu⟩ := bind_eq_ok fu
      obtain ⟨g1, g2⟩ := out_inj fu
      subst g1 g2
      simp only at eg
      split at eg
      case isFalse => cases eg
      rename_i hlen
      obtain ⟨t, et⟩ := lcGo_pre m (i + 1) _ _ eg
      rw [et] at hI
      obtain ⟨as, eas⟩ := dkOf_pre hI
      obtain ⟨as', k', v', key, e1, ec, ekey, e2⟩ := dkOf_snoc eas
      rw [ea] at e1
      obtain rfl := Option.some.inj e1
      injection ec with ec
      injection ec with ec1 ec
      injection ec with ec2 ec
      subst ec1 ec2
      have lenA := dkOf_len acc.length rfl ea
      refine TI.seqE r4 s4 fk fun φ5 H5 yk p5 k5 r5 s5 q5 => ?_
      refine TI.seqE r5 s5 fv fun φ6 H6 yv p6 k6 r6 s6 q6 => ?_
      obtain ⟨hD5, nD5⟩ := k5.oth D _ dk_noT hD4 nD4
      obtain ⟨hD6, nD6⟩ := k6.oth D _ dk_noT hD5 nD5
      have kc : Kp φ1 φ6 H1 H6 := (kb.trans k5).trans k6
      have neD : ∀ a u, H1 a = some u → a ≠ D := fun a u e z => by rw [z, hD] at e; cases e
      have qa6 : KR K φ6 H6 kvs ws := KR.mono p6 k6 _ _ (KR.mono p5 k5 _ _ (KR.mono p4 k4 _ _ (KR.mono (.refl φ2) k3 _ _ qa)))
      have kt : Kt H6 (upd H6 D (.dK (putK ws key yv))) := ⟨fun a u f e => by rw [upd_ne (fun z => by rw [z, hD6] at e; cases e; exact dk_nofx f)]; exact e, .upd hD6 dk_nofx dk_noT⟩
      refine ⟨ws, key, keyOf_kV q5 ekey, hD6, by rw [← qa6.length]; exact lim_lt (Nat.lt_of_le_of_lt lenA hlen), φ6, _, acc ++ [.tup [kk, vv]], put key vv kvs, _, r6.keep kt fun a ha => upd_ne fun z => nD6 (z ▸ ha), ((p2.trans p4).trans p5).trans p6, ?_, upd_same, nD6, by rw [eas, e2], KR.monoT (.refl φ6) kt _ _ (KR.put q6 qa6), eg⟩
      exact ⟨fun a u f e => by rw [upd_ne (neD a _ e)]; exact kc.st a u f e, fun a u t e n => ⟨by rw [upd_ne (neD a _ e)]; exact (kc.oth a u t e n).1, (kc.oth a u t e n).2⟩, fun t => Tk.upd hD6 dk_nofx dk_noT (kc.tb t)⟩
theorem ssc_ok (g : GX X W c Φ d) {x : Str} {args : List Expr} {el tgE iter : Expr} {ifs : List Expr} {scope : Scope} {p pos : Pos} {tg' : Tg} {it' : It} {o : Oe} {el' : E} {own : List (Str × Nat)}
    (h : scArg c x args = some (el, tgE, iter, ifs, scope)) (P : LcP X W Φ el tgE iter ifs scope tg' it' o el' own) : PE X (.Call (.Name x p) args [] pos) (TI X.K W (eE Φ (.ssc el' tg' it' o (tgIx tg')))) := by
  unfold scArg at h
  split at h
  · rename_i el0 tg0 it0 ifs0 sc0 spos
    split at h
    · rename_i hb
      simp only [Bool.and_eq_true, decide_eq_true_eq] at hb
      obtain ⟨⟨⟨rfl, hp⟩, hgl⟩, _⟩ := hb
      simp only [Option.some.injEq, Prod.mk.injEq] at h
      obtain ⟨rfl, rfl, rfl, rfl, rfl⟩ := h
      have pset := pe_sci (pos := spos) (te := TI X.K W0 (eE Φ el')) (tt := TT' X.K W0 (eC Φ o)) (g := TG' X.K tg') (own := own) g.calm (by rw [g.N]; exact g.nd) P.hi P.ok P.hg P.ht P.he P.hs
      rw [P.hown] at pset
      exact PE.mono (pe_callB (cr_sortedSetN (X := X) g.calm) (g.gl hgl) (g.bt .sorted) PyProof.Rows.boot_sorted (pa_cons pset pa_nil (by rfl)) (by decide) (by decide) (by rfl) (by rfl)) fun τ H Q q => ssc_read τ H Q q
    · cases h
  · cases h
theorem dcm_ok (g : GX X W c Φ d) {kx vx tgE iter : Expr} {ifs : List Expr} {scope : Scope} {pos : Pos} {tg' : Tg} {it' : It} {o : Oe} {ke ve : E} {own : List (Str × Nat)} (P : LcP X W Φ kx tgE iter ifs scope tg' it' o ke own) (Pv : LcP X W Φ vx tgE iter ifs scope tg' it' o ve own) :
    PE X (.DictComp kx vx [⟨tgE, iter, ifs, 0⟩] scope pos) (TI X.K W (eE Φ (.dcm (.cons ke (.cons ve .nil)) tg' it' o (tgIx tg')))) := by
  refine PE.mono (pe_dc (tk := TI X.K W0 (eE Φ ke)) (tv := TI X.K W0 (eE Φ ve)) (tt := TT' X.K W0 (eC Φ o)) (g := TG' X.K tg') (own := own) g.calm (by rw [g.N]; exact g.nd) P.hi P.ok P.hg P.ht P.he Pv.he P.hs) fun τ H Q q => ?_
  rw [P.hown]
  exact dcm_read τ H Q q
end
end Pi
end

section
set_option maxHeartbeats 8000000
namespace Pi
open PySem PySem.Spec PyProof.Rows L2
variable [ClsTab]

theorem fok_raw {X : Cx} {W : WX} {c : Cs} {Φ : Calls} {d : Nat} {f : Expr → Option E} (g : GX X W c Φ d) (G : Fok X W Φ f) : Fok X W Φ (frC c f) :=
  ⟨fun e e' h => by
    unfold frC at h
    split at h
    · obtain ⟨e1, h1, h2⟩ := Option.map_eq_some_iff.mp h
      subst h2
      exact ok_plain (call_ok g G h1).2 (fun _ => rfl)
    · exact G.ok _ _ h, fun e e' h => by
    unfold frC at h
    split at h
    · exact fun _ _ z => nomatch z
    · exact G.ns _ _ h⟩
theorem const_pe {X : Cx} {kc : Const} {v0 : IV} {kk : _} {pos : Pos} (e1 : cK kc = some v0) : ∃ w, PE X (.Constant kc kk pos) (tC w) ∧ ∀ φ H, VR X.K φ H v0 w := by
  unfold cK at e1
  split at e1
  · cases e1; exact ⟨_, pe_int, fun _ _ => by rw [VR]⟩
  · cases e1; exact ⟨_, pe_bl, fun _ _ => by rw [VR]⟩
  · cases e1; exact ⟨_, pe_non, fun _ _ => by rw [VR]⟩
  · cases e1; exact ⟨_, pe_str, fun _ _ => by rw [VR]⟩
  · cases e1
theorem VRs.ofStrs {K : PySem.W.Frag} {φ : List Addr} {H : Hp} : ∀ ys : List Str, VRs K φ H (ys.map .str) (ys.map V.str)
  | [] => by rw [List.map_nil, List.map_nil, VRs]
  | y :: ys => by
    rw [List.map_cons, List.map_cons, VRs]
    exact ⟨_, _, rfl, by rw [VR], VRs.ofStrs ys⟩
theorem strs_vs {K : PySem.W.Frag} {φ : List Addr} {H : Hp} : ∀ {xs : List IV} {ys : List Str} {vs : List V}, strsOf xs = some ys → VRs K φ H xs vs → vs = ys.map V.str
  | [], ys, vs, e, q => by
    cases e
    rw [VRs] at q
    subst q
    rfl
  | x :: xs, ys, vs, e, q => by
    cases x with
    | str z =>
      obtain ⟨zs, e1, rfl⟩ := Option.map_eq_some_iff.mp (show (strsOf xs).map (z :: ·) = some ys from e)
      rw [VRs] at q
      obtain ⟨v, us, rfl, q1, q2⟩ := q
      rw [VR] at q1
      subst q1
      rw [strs_vs e1 q2]
      rfl
    | _ => cases e
theorem e_ok : ∀ (n : Nat) (X : Cx) (W : WX) (c : Cs) (Φ : Calls) (d : Nat) (g : GX X W c Φ d) (e : Expr) (e' : E), cE n c e = some e' → OkE X W Φ e e' := by
  intro n
  induction n with
  | zero => intro X W c Φ d g e e' h; cases h
  | succ n ih0 =>
    intro X W c Φ d g e e' h
    have ih : ∀ e e', cE n c e = some e' → OkE X W Φ e e' := ih0 X W c Φ d g
    have G := fok_sl ih
    have G0 := fok_cE ih
    have two : ∀ {op : Operator} {a b : Expr} {a' b' : E} {pos : Pos}, OkE X W Φ a a' → OkE X W Φ b b' → OkE X W Φ (.BinOp a op b pos) (.bin op a' b') := fun {op a b a' b' pos} oa ob => by
      refine ok_plain (PE.mono (pe_op (opBin op) oa.1 ob.1) fun τ H Q q => ?_) (fun _ => rfl)
      obtain ⟨φ, σ, h, rl, s, ok⟩ := q
      refine TI.seq rl s (OutG.bind (x := eE Φ a' σ h) (show OutG X.K _ φ H ((eE Φ a' σ h).bind _) _ from ok)) fun φ1 H1 h1 x w1 p1 k1 r1 s1 q1 ok => ?_
      refine TI.seq r1 s1 (OutG.bind (x := eE Φ b' σ h1) ok) fun φ2 H2 h2 y w2 p2 k2 r2 s2 q2 ok => ?_
      obtain ⟨v, h', e, c⟩ := ok.ct nx_bin
      exact ⟨φ2, h2, x, y, v, h', r2, q1.mono p2 k2, q2, e, c⟩
    have second : ∀ e : Expr, cE2 (cE n) c e = some e' → OkE X W Φ e e' := by
      clear h e
      intro e h
      unfold cE2 at h
      simp only at h
      split at h
      case h_1 x xp args pos =>
        split at h
        · rename_i el tg iter ifs scope hsc
          split at h
          · cases h
          · rename_i hset
            obtain ⟨tg', e1, h⟩ := Option.bind_eq_some_iff.mp h
            obtain ⟨it', e2, h⟩ := Option.bind_eq_some_iff.mp h
            split at h
            · rename_i e3
              obtain ⟨o, e4, h⟩ := Option.bind_eq_some_iff.mp h
              obtain ⟨el', e5, h⟩ := Option.map_eq_some_iff.mp h
              subst h
              exact ok_plain (ssc_ok g hsc (lc_parts g G (fun s H C cl fp e e' hk hu he => ih0 _ _ _ _ _ (g.blk scope hk hu s H C cl fp) e e' he) (by simpa using hset) e1 e2 e3 e4 e5)) (fun _ => rfl)
            · cases h
        split at h
        · exact ok_plain (call_ok g (fok_raw g G) h).1 (fun _ => rfl)
        · exact ok_plain (call_ok g G h).1 (fun _ => rfl)
      case h_2 o m apos args cpos =>
        split at h
        · rename_i hm
          subst hm
          split at h
          · rename_i a
            split at h
            · rename_i hc
              simp only [Bool.and_eq_true] at hc
              obtain ⟨o', e1, h⟩ := Option.bind_eq_some_iff.mp h
              obtain ⟨a', e2, h⟩ := Option.map_eq_some_iff.mp h
              subst h
              have hb : attributeBase o "join" X.env (eval o X.env) = eval o X.env := by
                cases o <;> first | rfl | cases hc.1
              have hs : starEach [a] X.env = [(false, eval a X.env)] := star_plain (es := []) (G.ns a a' e2)
              refine ok_plain (PE.mono (pe_join (G.ok o o' e1).1 (G.ok a a' e2).1 hs hb hc.2) fun τ H Q q => ?_) (fun _ => rfl)
              obtain ⟨φ, σ, h, rl, s, ok⟩ := q
              refine TI.seq rl s (OutG.bind (x := eE Φ o' σ h) (show OutG X.K _ φ H ((eE Φ o' σ h).bind _) _ from ok)) fun φ1 H1 h1 x w1 p1 k1 r1 s1 q1 ok => ?_
              split at ok
              · rename_i z
                rw [VR] at q1
                refine ⟨⟨z, q1⟩, ?_⟩
                refine TI.seq r1 s1 (OutG.bind (x := eE Φ a' σ h1) ok) fun φ2 H2 h2 y w2 p2 k2 r2 s2 q2 ok => ?_
                obtain ⟨v, h', e, c⟩ := ok.ct nx_join
                unfold joinI at e
                split at e
                · rename_i ys ey
                  split at e
                  · rename_i hz
                    obtain ⟨f1, f2⟩ := out_inj e
                    subst f1 f2
                    obtain ⟨xs, ex, es⟩ := Option.bind_eq_some_iff.mp ey
                    obtain ⟨p, vs, rfl, sq, q, _⟩ := r2.seqV q2 ex
                    have ev := strs_vs es q
                    subst ev
                    exact ⟨z, p, ys, q1, rfl, sq, hz, c.str r2⟩
                  · cases e
                · cases e
              · exact ok.elim
            · cases h
          · cases h
        split at h
        · rename_i hm
          subst hm
          split at h
          · rename_i a
            split at h
            · rename_i hc
              simp only [Bool.and_eq_true] at hc
              obtain ⟨o', e1, h⟩ := Option.bind_eq_some_iff.mp h
              obtain ⟨a', e2, h⟩ := Option.map_eq_some_iff.mp h
              subst h
              have hb : attributeBase o "split" X.env (eval o X.env) = eval o X.env := by
                cases o <;> first | rfl | cases hc.1
              have hs : starEach [a] X.env = [(false, eval a X.env)] := star_plain (es := []) (G.ns a a' e2)
              refine ok_plain (PE.mono (pe_split (G.ok o o' e1).1 (G.ok a a' e2).1 hs hb hc.2) fun τ H Q q => ?_) (fun _ => rfl)
              obtain ⟨φ, σ, h, rl, s, ok⟩ := q
              refine TI.seq rl s (OutG.bind (x := eE Φ o' σ h) (show OutG X.K _ φ H ((eE Φ o' σ h).bind _) _ from ok)) fun φ1 H1 h1 x w1 p1 k1 r1 s1 q1 ok => ?_
              split at ok
              · rename_i z
                rw [VR] at q1
                refine ⟨⟨z, q1⟩, ?_⟩
                refine TI.seq r1 s1 (OutG.bind (x := eE Φ a' σ h1) ok) fun φ2 H2 h2 y w2 p2 k2 r2 s2 q2 ok => ?_
                obtain ⟨v, h', e, c⟩ := ok.ct nx_split
                unfold splitI at e
                split at e
                · rename_i u
                  split at e
                  · rename_i hz
                    obtain ⟨f1, f2⟩ := out_inj e
                    subst f1 f2
                    rw [VR] at q2
                    refine ⟨z, u, q1, by rw [q2], hz.1, ?_, fun p hp => ?_⟩
                    · have := hz.2
                      rw [sizeLine_eq]
                      unfold LIM at this
                      omega
                    · have := c.list r2 (xs := (Txt.split z u).map .str) (vs := (Txt.split z u).map V.str) (VRs.ofStrs _) hp
                      exact this
                  · cases e
                · cases e
              · exact ok.elim
            · cases h
          · cases h
        split at h
        · rename_i k0 hk0
          unfold sdArg at hk0
          split at hk0
          · split at hk0
            · rename_i k1 dp hm
              subst hm
              cases hk0
              split at h
              · rename_i hc
                simp only [Bool.and_eq_true] at hc
                obtain ⟨o', e1, h⟩ := Option.bind_eq_some_iff.mp h
                obtain ⟨k', e2, h⟩ := Option.map_eq_some_iff.mp h
                subst h
                exact ok_plain (sdef_ok g (ih o o' e1).1 hc.1 hc.2 (G.ok _ _ e2).1 (G.ns _ _ e2)) (fun _ => rfl)
              · cases h
            · cases hk0
          · cases hk0
        split at h
        · rename_i xs hxs
          split at h
          · rename_i hc
            simp only [Bool.and_eq_true] at hc
            obtain ⟨o', e1, h⟩ := Option.bind_eq_some_iff.mp h
            obtain ⟨es', e2, h⟩ := Option.map_eq_some_iff.mp h
            subst h
            exact ok_plain (xrg_ok g hxs (ih o o' e1).1 hc.1 hc.2 (es_ok G xs es' e2) (cEs_noStar G e2)) (fun _ => rfl)
          · cases h
        split at h
        · rename_i hc
          simp only [Bool.and_eq_true, decide_eq_true_eq] at hc
          obtain ⟨mt, e0, h⟩ := Option.bind_eq_some_iff.mp h
          obtain ⟨o', e1, h⟩ := Option.bind_eq_some_iff.mp h
          obtain ⟨es', e2, h⟩ := Option.map_eq_some_iff.mp h
          subst h
          have en := findMt_ok e0
          subst en
          exact ok_plain (meth_ok g (ih o o' e1).1 hc.1.1 hc.1.2 (es_ok G args es' e2) (cEs_noStar G e2) hc.2 fun z => by subst z; cases e2; rfl) (fun _ => rfl)
        · cases h
      case h_3 a lo hi sp pos =>
        obtain ⟨a', e1, h⟩ := Option.bind_eq_some_iff.mp h
        obtain ⟨l', e2, h⟩ := Option.bind_eq_some_iff.mp h
        obtain ⟨u', e3, h⟩ := Option.map_eq_some_iff.mp h
        subst h
        refine ok_plain (PE.mono (pe_slice opSl (G.ok a a' e1).1 (oe_ok G lo l' e2) (oe_ok G hi u' e3)) fun τ H Q q => ?_) (fun _ => rfl)
        obtain ⟨φ, σ, h, rl, s, ok⟩ := q
        refine TI.seq rl s (OutG.bind (x := eE Φ a' σ h) (show OutG X.K _ φ H ((eE Φ a' σ h).bind _) _ from ok)) fun φ1 H1 h1 x w1 p1 k1 r1 s1 q1 ok => ?_
        refine TOp.seq r1 s1 (OutG.bind (x := eO Φ l' σ h1) ok) fun φ2 H2 h2 l p2 k2 r2 s2 ok => ?_
        refine TOp.seq r2 s2 (OutG.bind (x := eO Φ u' σ h2) ok) fun φ3 H3 h3 u p3 k3 r3 s3 ok => ?_
        obtain ⟨v, h', e, c⟩ := ok.ct nx_sl
        exact ⟨φ3, h3, x, v, h', r3, q1.mono (p2.trans p3) (k2.trans k3), e, c⟩
      case h_4 a b pos _ =>
        split at h
        · rename_i hb
          obtain ⟨a', e1, h⟩ := Option.map_eq_some_iff.mp h
          subst h
          exact ok_plain (slr_ok g hb (G.ok a a' e1).1) (fun _ => rfl)
        split at h
        · rename_i hb
          obtain ⟨a', e1, h⟩ := Option.bind_eq_some_iff.mp h
          obtain ⟨b', e2, h⟩ := Option.map_eq_some_iff.mp h
          subst h
          refine ok_plain (PE.mono (pe_ix (opIx g.hu) (G.ok a a' e1).1 (G.ok b b' e2).1 (Pi.PlainIx.of hb)) fun τ H Q q => ?_) (fun _ => rfl)
          obtain ⟨φ, σ, h, rl, s, ok⟩ := q
          refine TI.seq rl s (OutG.bind (x := eE Φ a' σ h) (show OutG X.K _ φ H ((eE Φ a' σ h).bind _) _ from ok)) fun φ1 H1 h1 x w1 p1 k1 r1 s1 q1 ok => ?_
          refine TI.seq r1 s1 (OutG.bind (x := eE Φ b' σ h1) ok) fun φ2 H2 h2 y w2 p2 k2 r2 s2 q2 ok => ?_
          obtain ⟨v, h', e, c⟩ := ok.ct nx_ix
          exact ⟨φ2, h2, x, y, v, h', r2, q1.mono p2 k2, q2, e, c⟩
        · cases h
      case h_5 el tg iter ifs scope pos =>
        split at h
        · cases h
        · rename_i hset
          obtain ⟨tg', e1, h⟩ := Option.bind_eq_some_iff.mp h
          obtain ⟨it', e2, h⟩ := Option.bind_eq_some_iff.mp h
          split at h
          · rename_i e3
            obtain ⟨o, e4, h⟩ := Option.bind_eq_some_iff.mp h
            obtain ⟨el', e5, h⟩ := Option.map_eq_some_iff.mp h
            subst h
            exact ok_plain (lc_ok g (lc_parts g G (fun s H C cl fp e e' hk hu he => ih0 _ _ _ _ _ (g.blk scope hk hu s H C cl fp) e e' he) (by simpa using hset) e1 e2 e3 e4 e5)) (fun _ => rfl)
          · cases h
      case h_6 x xp args k0 kr pos =>
        split at h
        · rename_i kd a0 hk0
          obtain ⟨a', e1, h⟩ := Option.map_eq_some_iff.mp h
          subst h
          exact ok_plain (skey_ok g hk0 (G.ok _ _ e1).1 (G.ns _ _ e1)) (fun _ => rfl)
        · exact ok_plain (callk_ok g G h) (fun _ => rfl)
      case h_7 pos =>
        cases h
        refine ok_plain (PE.mono pe_dnewK fun τ H Q q => ?_) (fun _ => rfl)
        obtain ⟨φ, σ, h, rl, s, ok⟩ := q
        intro p hp
        have ok : OutG X.K (L2.WE W τ) φ H (Out.ok (IV.ref h.length) (h ++ [.dk []])) (CV X.K Q) := ok
        refine (Ct.cv ok) (φ ++ [p]) _ _ (.app φ [p]) (.new hp) (rl.new hp ⟨[], upd_same, by rw [KR]⟩) ?_
        rw [VR]
        refine ⟨p, ?_, rfl⟩
        rw [← rl.len, List.getElem?_append_right (Nat.le_refl _), Nat.sub_self]; rfl
      case h_8 x k1 p1 kc k2 p2 pos =>
        obtain ⟨v0, e1, h⟩ := Option.map_eq_some_iff.mp h
        subst h
        obtain ⟨w, pw, rw0⟩ := const_pe (X := X) (kk := k2) (pos := p2) e1
        refine ok_plain (PE.mono (pe_disp (pps_cons pe_str pw pps_nil) rfl rfl (by simp) (by simp)) fun τ H Q q => ?_) (fun _ => rfl)
        obtain ⟨φ, σ, h, rl, s, ok⟩ := q
        intro p hp
        have ok : OutG X.K (L2.WE W τ) φ H (if [x].Nodup ∧ [x].length = [v0].length then .ok (.ref h.length) (h ++ [.dk (([x].map Sum.inr).zip [v0])]) else .stuck) (CV X.K Q) := ok
        rw [if_pos ⟨by simp, rfl⟩] at ok
        refine ⟨upd_same, [(Sum.inr x, w)], rfl, by simp, ?_⟩
        have eu : upd (upd H p (.dK [])) p (.dK (mergeK [] [(Sum.inr x, w)])) = upd H p (.dK [(Sum.inr x, w)]) := by
          funext a
          by_cases z : a = p
          · subst z; rw [upd_same, upd_same]; rfl
          · rw [upd_ne z, upd_ne z, upd_ne z]
        rw [eu]
        refine (Ct.cv ok) (φ ++ [p]) _ _ (.app φ [p]) (.new hp) (rl.new hp ⟨_, upd_same, by
          show KR X.K (φ ++ [p]) _ [(Sum.inr x, v0)] _
          rw [KR]
          exact ⟨w, [], rfl, rw0 _ _, by rw [KR]⟩⟩) ?_
        rw [VR]
        refine ⟨p, ?_, rfl⟩
        rw [← rl.len, List.getElem?_append_right (Nat.le_refl _), Nat.sub_self]; rfl
      case h_9 y yp fd pos =>
        split at h
        case isFalse => cases h
        rename_i hfd
        subst hfd
        obtain ⟨a', e1, h⟩ := Option.map_eq_some_iff.mp h
        subst h
        refine ok_plain (PE.mono (pe_fld (G.ok _ a' e1).1 rfl) fun τ H Q q => ?_) (fun _ => rfl)
        obtain ⟨φ, σ, h, rl, s, ok⟩ := q
        refine TI.seq rl s (OutG.bind (x := eE Φ a' σ h) (show OutG X.K _ φ H ((eE Φ a' σ h).bind _) _ from ok)) fun φ1 H1 h1 x w1 p1 k1 r1 s1 q1 ok => ?_
        split at ok
        · rename_i k v
          rw [VR] at q1
          obtain ⟨a1, D, ws, rfl, hD, qs, hx⟩ := q1
          rw [VRs] at qs
          obtain ⟨w, r, rfl, qv, qr⟩ := qs
          rcases hx with ⟨z, _⟩ | ⟨dd, w', ew, ha, hd⟩
          · cases z
          · cases ew
            have C := g.ei k D hD
            exact ⟨a1, D, dd, _, w, rfl, ha, hd, ⟨C.1.hg, C.1.hk, C.1.hs, C.1.hd⟩, g.ep k D hD, rfl, ok.here r1 w qv⟩
        · exact ok.elim
      case h_10 kx vx tg iter ifs scope pos =>
        split at h
        · cases h
        · rename_i hset
          obtain ⟨tg', e1, h⟩ := Option.bind_eq_some_iff.mp h
          obtain ⟨it', e2, h⟩ := Option.bind_eq_some_iff.mp h
          split at h
          · rename_i e3
            obtain ⟨o, e4, h⟩ := Option.bind_eq_some_iff.mp h
            obtain ⟨k', e5, h⟩ := Option.bind_eq_some_iff.mp h
            obtain ⟨v', e6, h⟩ := Option.map_eq_some_iff.mp h
            subst h
            have blk := fun s H C cl fp e e' hk hu he => ih0 _ _ _ _ _ (g.blk scope hk hu s H C cl fp) e e' he
            exact ok_plain (dcm_ok g (lc_parts g G blk (by simpa using hset) e1 e2 e3 e4 e5) (lc_parts g G blk (by simpa using hset) e1 e2 e3 e4 e6)) (fun _ => rfl)
          · cases h
      case h_11 => cases h
    unfold cE at h
    simp only at h
    split at h
    case h_1 x pos =>
      unfold Cs.nam at h
      split at h
      · rename_i hp
        split at h
        · rename_i hl
          obtain ⟨i, e1, h⟩ := Option.map_eq_some_iff.mp h
          subst h
          have hN : X.N[i]? = some x := by rw [g.N]; exact findIx_get e1
          refine ok_plain (PE.mono (pe_var hN (g.vis hl) (plain1 hp) (plain2 hp)) fun τ H Q q => ?_) (fun _ => rfl)
          obtain ⟨φ, σ, h, rl, s, ok⟩ := q
          have ok : OutG X.K (L2.WE W τ) φ H (match σ[i]? with | some (some v) => Out.ok v h | _ => .stuck) (CV X.K Q) := ok
          split at ok
          · rename_i z ez
            obtain ⟨w, ew, q1⟩ := s.2 i _ ez
            exact ⟨w, ew, ok.here rl w q1⟩
          · exact ok.elim
        · split at h
          · rename_i hg
            split at h
            · rename_i i e1
              cases h
              obtain ⟨t, hm⟩ := g.G x i e1
              refine ok_plain (PE.mono (pe_glob (v := .int i) (g.gl hg) hm ⟨t, rfl⟩ (plain1 hp)) fun τ H Q q => ?_) (fun _ => rfl)
              obtain ⟨φ, σ, h, rl, s, ok⟩ := q
              exact OutG.here (v := IV.int i) ok rl _ (by rw [VR])
            · split at h
              · rename_i z e1
                cases h
                obtain ⟨t, hm⟩ := g.Z x z e1
                refine ok_plain (PE.mono (pe_glob (v := .str z) (g.gl hg) hm ⟨t, rfl⟩ (plain1 hp)) fun τ H Q q => ?_) (fun _ => rfl)
                obtain ⟨φ, σ, h, rl, s, ok⟩ := q
                exact OutG.here (v := IV.str z) ok rl _ (by rw [VR])
              · obtain ⟨i, e1, h⟩ := Option.bind_eq_some_iff.mp h
                obtain ⟨id, e2, h⟩ := Option.bind_eq_some_iff.mp h
                split at h
                · rename_i e3
                  cases h
                  obtain ⟨a, fa, hm⟩ := g.fa i id x (findIx_get e1) e2 e3
                  refine ok_plain (PE.mono (pe_glob (v := .ref a) (g.gl hg) hm rfl (plain1 hp)) fun τ H Q q => ?_) (fun _ => rfl)
                  obtain ⟨φ, σ, h, rl, s, ok⟩ := q
                  exact OutG.here (v := IV.fn id) ok rl _ (by rw [VR]; exact ⟨a, fa, rfl⟩)
                · cases h
          · cases h
      · cases h
    case h_2 kc kk pos =>
      obtain ⟨v0, e1, h⟩ := Option.map_eq_some_iff.mp h
      subst h
      have fin : ∀ {w : V}, (∀ φ H, VR X.K φ H v0 w) → ∀ τ H Q, TI X.K W (eE Φ (.con v0)) τ H Q → tC w τ H Q := fun {w} hw τ H Q q => by
        obtain ⟨φ, σ, h, rl, s, ok⟩ := q
        exact OutG.here (v := v0) ok rl w (hw _ _)
      unfold cK at e1
      split at e1
      · cases e1
        exact ok_plain (PE.mono pe_int (fin fun _ _ => by rw [VR])) (fun _ => rfl)
      · cases e1
        exact ok_plain (PE.mono pe_bl (fin fun _ _ => by rw [VR])) (fun _ => rfl)
      · cases e1
        exact ok_plain (PE.mono pe_non (fin fun _ _ => by rw [VR])) (fun _ => rfl)
      · cases e1
        exact ok_plain (PE.mono pe_str (fin fun _ _ => by rw [VR])) (fun _ => rfl)
      · cases e1
    case h_3 a b pos =>
      obtain ⟨a', e1, h⟩ := Option.bind_eq_some_iff.mp h
      obtain ⟨b', e2, h⟩ := Option.map_eq_some_iff.mp h
      subst h
      exact two (ih a a' e1) (ih b b' e2)
    case h_4 a op b pos _ =>
      obtain ⟨a', e1, h⟩ := Option.bind_eq_some_iff.mp h
      obtain ⟨b', e2, h⟩ := Option.map_eq_some_iff.mp h
      subst h
      exact two (G.ok a a' e1) (G.ok b b' e2)
    case h_5 a pos =>
      obtain ⟨a', e1, h⟩ := Option.map_eq_some_iff.mp h
      subst h
      refine ok_plain (PE.mono (pe_un un_neg (G.ok a a' e1).1) fun τ H Q q => ?_) (fun _ => rfl)
      obtain ⟨φ, σ, h, rl, s, ok⟩ := q
      refine TI.seq rl s (OutG.bind (x := eE Φ a' σ h) (show OutG X.K _ φ H ((eE Φ a' σ h).bind _) _ from ok)) fun φ1 H1 h1 x w1 p1 k1 r1 s1 q1 ok => ?_
      split at ok
      · rename_i i
        rw [VR] at q1
        exact ⟨i, q1, ok.here r1 _ (by rw [VR])⟩
      · exact ok.elim
    case h_6 a pos =>
      split at h
      · rename_i ht
        obtain ⟨a', e1, h⟩ := Option.map_eq_some_iff.mp h
        subst h
        have oa := G.ok a a' e1
        refine ⟨PE.mono (pe_notT oa.1) fun τ H Q q => ?_, fun _ => PT.mono (pt_not (oa.2 ht)) fun τ H Q q => ?_⟩
        · obtain ⟨φ, σ, h, rl, s, ok⟩ := q
          refine TI.seq rl s (tst_out (OutG.bind (x := tst (eE Φ a' σ h)) (show OutG X.K _ φ H ((tst (eE Φ a' σ h)).bind _) _ from ok))) fun φ1 H1 h1 x w1 p1 k1 r1 s1 q1 ok => ?_
          obtain ⟨b, eb, ok⟩ := ok
          exact ⟨b, truV r1 q1 eb, (ok φ1 H1 (.refl φ1) (.refl φ1 H1) r1).here r1 _ (by rw [VR])⟩
        · obtain ⟨φ, σ, h, rl, s, ok⟩ := q
          have ok : OutG X.K (L2.WE W τ) φ H (tst ((tst (eE Φ a' σ h)).bind fun b h1 => .ok (.bl !b) h1)) _ := ok
          refine ⟨φ, σ, h, rl, s, ?_⟩
          show OutG X.K (L2.WE W τ) φ H (tst (eE Φ a' σ h)) _
          cases ea : tst (eE Φ a' σ h) with
          | stuck => rw [ea] at ok; exact ok
          | ex ee h1 => rw [ea] at ok; exact ok
          | ok b h1 => rw [ea] at ok; exact ok
      · cases h
    case h_7 op vs pos =>
      split at h
      · rename_i ht
        obtain ⟨p1, p2⟩ := b_ok G op pos vs e' h ht
        exact ⟨p1, fun _ => p2.pt⟩
      · cases h
    case h_8 a op b pos =>
      split at h
      · cases h
      · rename_i hm
        obtain ⟨a', e1, h⟩ := Option.bind_eq_some_iff.mp h
        obtain ⟨b', e2, h⟩ := Option.map_eq_some_iff.mp h
        subst h
        have hm' : behindInMarks op b = false := by simpa using hm
        refine ⟨PE.mono (pe_cmpR (opCmp op g.hu) (G.ok a a' e1).1 (G.ok b b' e2).1 hm') fun τ H Q q => ?_, fun _ => PT.mono (pt_cmpR (opCmp op g.hu) (G.ok a a' e1).1 (G.ok b b' e2).1 hm') fun τ H Q q => ?_⟩
        · obtain ⟨φ, σ, h, rl, s, ok⟩ := q
          refine TI.seq rl s (OutG.bind (x := eE Φ a' σ h) (show OutG X.K _ φ H ((eE Φ a' σ h).bind _) _ from ok)) fun φ1 H1 h1 x w1 p1 k1 r1 s1 q1 ok => ?_
          refine TI.seq r1 s1 (OutG.bind (x := eE Φ b' σ h1) ok) fun φ2 H2 h2 y w2 p2 k2 r2 s2 q2 ok => ?_
          obtain ⟨v, h', e, c⟩ := ok.ct nx_cmp
          exact ⟨φ2, h2, x, y, v, h', r2, q1.mono p2 k2, q2, e, c⟩
        · obtain ⟨φ, σ, h, rl, s, ok⟩ := q
          refine TI.seq rl s (OutG.bind (x := eE Φ a' σ h) (tst_in (show OutG X.K _ φ H (tst ((eE Φ a' σ h).bind _)) _ from ok))) fun φ1 H1 h1 x w1 p1 k1 r1 s1 q1 ok => ?_
          refine TI.seq r1 s1 (OutG.bind (x := eE Φ b' σ h1) (tst_in ok)) fun φ2 H2 h2 y w2 p2 k2 r2 s2 q2 ok => ?_
          obtain ⟨v, h', e, t, rfl, c⟩ := tst_cmp ok
          exact ⟨φ2, h2, x, y, .bl t, h', r2, q1.mono p2 k2, q2, e, fun φ3 H3 w3 p3 k3 r3 q3 => by rw [VR] at q3; exact ⟨t, q3, c φ3 H3 p3 k3 r3⟩⟩
    case h_9 a op op' b d0 pos =>
      split at h
      · cases h
      · rename_i hm
        obtain ⟨a', e1, h⟩ := Option.bind_eq_some_iff.mp h
        obtain ⟨b', e2, h⟩ := Option.bind_eq_some_iff.mp h
        obtain ⟨d', e3, h⟩ := Option.map_eq_some_iff.mp h
        subst h
        have hm' : lastMarks [op, op'] [b, d0] = false := by simpa using hm
        have go : ∀ τ H Q, TI X.K W (eE Φ (.chain op op' a' b' d')) τ H Q → tChain (rCmp X.K op) (rCmp X.K op') (TI X.K W (eE Φ a')) (TI X.K W (eE Φ b')) (TI X.K W (eE Φ d')) τ H Q := fun τ H Q q => by
          obtain ⟨φ, σ, h, rl, s, ok⟩ := q
          refine TI.seq rl s (OutG.bind (x := eE Φ a' σ h) (show OutG X.K _ φ H ((eE Φ a' σ h).bind _) _ from ok)) fun φ1 H1 h1 x w1 p1 k1 r1 s1 q1 ok => ?_
          refine TI.seq r1 s1 (OutG.bind (x := eE Φ b' σ h1) ok) fun φ2 H2 h2 y w2 p2 k2 r2 s2 q2 ok => ?_
          obtain ⟨t, h3, f3, ok⟩ := (OutG.bind (x := cmpI op x y h2) ok).pure nx_cmp
          refine ⟨φ2, h2, x, y, t, h3, r2, q1.mono p2 k2, q2, f3, fun φ3 H3 w3 p3 k3 r3 q3 => ?_⟩
          obtain ⟨b0, eb⟩ := cmp_bl f3
          subst eb
          rw [VR] at q3
          refine ⟨b0, q3, ?_⟩
          have ok := ok φ3 H3 p3 k3 r3
          cases b0 with
          | true =>
            rw [if_pos rfl]
            refine TI.seq r3 (s2.mono p3 k3) (OutG.bind (x := eE Φ d' σ h3) ok) fun φ4 H4 h4 z w4 p4 k4 r4 s4 q4 ok => ?_
            obtain ⟨v, h', e, c⟩ := ok.ct nx_cmp
            exact ⟨φ4, h4, y, z, v, h', r4, q2.mono (p3.trans p4) (k3.trans k4), q4, e, c⟩
          | false =>
            rw [if_neg Bool.false_ne_true]
            exact ok.here r3 _ (by rw [VR])
        refine ⟨PE.mono (pe_chain (opCmp op g.hu) (opCmp op' g.hu) (G.ok a a' e1).1 (G.ok b b' e2).1 (G.ok d0 d' e3).1 hm') go, fun _ => PT.mono (pt_chain (opCmp op g.hu) (opCmp op' g.hu) (G.ok a a' e1).1 (G.ok b b' e2).1 (G.ok d0 d' e3).1 hm') fun τ H Q q => ?_⟩
        refine go τ H _ ?_
        obtain ⟨φ, σ, h, rl, s, ok⟩ := q
        refine ⟨φ, σ, h, rl, s, ?_⟩
        have hz : ∀ z h', eE Φ (.chain op op' a' b' d') σ h = .ok z h' → ∃ b0, z = .bl b0 := fun z h' e => by
          obtain ⟨x, h1, f1, e⟩ := bind_eq_ok (show (eE Φ a' σ h).bind _ = Out.ok z h' from e)
          obtain ⟨y, h2, f2, e⟩ := bind_eq_ok e
          obtain ⟨t, h3, f3, e⟩ := bind_eq_ok e
          split at e
          · obtain ⟨z', h4, f4, e⟩ := bind_eq_ok e
            exact cmp_bl e
          · obtain ⟨g1, g2⟩ := out_inj e
            exact ⟨false, g1.symm⟩
          · cases e
        have ok : OutG X.K (L2.WE W τ) φ H (tst (eE Φ (.chain op op' a' b' d') σ h)) _ := ok
        cases ec : eE Φ (.chain op op' a' b' d') σ h with
        | stuck => rw [ec] at ok; exact ok
        | ex ee h1 => rw [ec] at ok; exact ok
        | ok z h1 =>
          obtain ⟨b0, rfl⟩ := hz z h1 ec
          rw [ec] at ok
          intro φ3 H3 p3 k3 r3 w3 q3
          rw [VR] at q3
          exact ⟨b0, q3, ok φ3 H3 p3 k3 r3⟩
    case h_10 t a b pos =>
      split at h
      · rename_i ht
        obtain ⟨t', e1, h⟩ := Option.bind_eq_some_iff.mp h
        obtain ⟨a', e2, h⟩ := Option.bind_eq_some_iff.mp h
        obtain ⟨b', e3, h⟩ := Option.map_eq_some_iff.mp h
        subst h
        refine ⟨PE.mono (pe_ifExp ((G.ok t t' e1).2 ht) (G.ok a a' e2).1 (G.ok b b' e3).1) fun τ H Q q => ?_, fun z => by cases z⟩
        obtain ⟨φ, σ, h, rl, s, ok⟩ := q
        refine TT'.seq rl s (OutG.bind (x := tst (eE Φ t' σ h)) (show OutG X.K _ φ H ((tst (eE Φ t' σ h)).bind _) _ from ok)) fun φ1 H1 h1 x p1 k1 r1 s1 ok => ?_
        cases x with
        | true =>
          rw [if_pos rfl] at ok ⊢
          exact ⟨φ1, σ, h1, r1, s1, ok⟩
        | false =>
          rw [if_neg Bool.false_ne_true] at ok ⊢
          exact ⟨φ1, σ, h1, r1, s1, ok⟩
      · cases h
    case h_11 es kk pos =>
      obtain ⟨es', e1, h⟩ := Option.map_eq_some_iff.mp h
      subst h
      refine ok_plain (PE.mono (pe_tup (es_ok G es es' e1)) fun τ H Q q => ?_) (fun _ => rfl)
      obtain ⟨φ, σ, h, rl, s, ok⟩ := q
      refine TL.seq rl s (OutG.bind (x := eEs Φ es' σ h) (show OutG X.K _ φ H ((eEs Φ es' σ h).bind _) _ from ok)) fun φ1 H1 h1 vs ws p1 k1 r1 s1 q1 ok => ?_
      unfold newT at ok
      split at ok
      · rename_i hz
        have hz' : ws.length ≤ sizeLine := by rw [← q1.length]; exact lim_le hz
        exact ⟨hz', fun p hp => (Ct.cv ok).tup r1 q1 hz' hp⟩
      · exact ok.elim
    case h_12 es pos =>
      obtain ⟨es', e1, h⟩ := Option.map_eq_some_iff.mp h
      subst h
      refine ok_plain (PE.mono (pe_lst (es_ok G es es' e1)) fun τ H Q q => ?_) (fun _ => rfl)
      obtain ⟨φ, σ, h, rl, s, ok⟩ := q
      refine TL.seq rl s (OutG.bind (x := eEs Φ es' σ h) (show OutG X.K _ φ H ((eEs Φ es' σ h).bind _) _ from ok)) fun φ1 H1 h1 vs ws p1 k1 r1 s1 q1 ok => ?_
      unfold newL at ok
      split at ok
      · rename_i hz
        have hz' : ws.length ≤ sizeLine := by rw [← q1.length]; exact lim_le hz
        exact ⟨hz', fun p hp => (Ct.cv ok).list r1 q1 hp⟩
      · exact ok.elim
    case h_13 => exact second _ h
end Pi
end

section
set_option maxHeartbeats 8000000
namespace Pi
open PySem PySem.Spec PyProof.Rows L2
variable [ClsTab]

abbrev FU : Nat := 40
def isComp : Expr → Bool
  | .ListComp .. => true
  | .SetComp .. => true
  | .DictComp .. => true
  | _ => false
def isStar : Expr → Bool
  | .Starred .. => true
  | _ => false
def swB (c : Cs) (x : Str) (p : Pos) : Expr → Bool
  | .ListComp _ _ scope lp => (c.sc.lookup x == some .local) && (p.line == lp.line) && !(scope.names.any fun (n, k) => n == x && (k == .local || k == .cell))
  | _ => false
def dcSw (c : Cs) (x : Str) (p : Pos) : Expr → Bool
  | .DictComp _ _ _ scope lp => (c.sc.lookup x == some .local) && (p.line == lp.line) && !(scope.names.any fun (n, k) => n == x && (k == .local || k == .cell))
  | _ => false
def isDc : Expr → Bool
  | .DictComp .. => true
  | _ => false
def parOk (c : Cs) (x y : Str) (px py : Pos) (a b : Expr) : Bool :=
  decide (c.sc.lookup x = some .local) && decide (c.sc.lookup y = some .local) && (px.line == py.line) && decide (x ≠ y) && !isStar a && !isStar b && !([a, b].all (foldedForSure 8)) && !([a, b].all (constantsAlone 8))
def parCell (c : Cs) (x y : Str) : Bool := !decide (c.sc.lookup x = some .local) || !decide (c.sc.lookup y = some .local)
def cV (c : Cs) (e : Expr) : Option E := (cE FU c e).map (slE e)
def cR (c : Cs) : Expr → Option E
  | .Call (.Name x p) args [] pos => if (scArg c x args).isSome = true then cE FU c (.Call (.Name x p) args [] pos) else (cCall c (fun e => (cE (FU - 1) c e).map (slE e)) x args).map rawE
  | e => cE FU c e
def cIss (c : Cs) (n : Str) : List Expr → Option (List (Option Nat))
  | [] => some []
  | .Call (.Name f _) [.Name y _, .Name t _] [] _ :: r => if f = ("isinstance" : Str) ∧ y = n ∧ plainName t = true ∧ c.glo t = true ∧ c.glo f = true then
      (if t = ("ValueError" : Str) then some none else (c.cls.lookup t).map some).bind fun k => (cIss c n r).map (k :: ·) else none
  | _ => none
def cSx (c : Cs) (n : Option Str) : List Stmt → Option Sx
  | [.Assign [.Name x _] (.Constant k _ _) _] => if c.sto x = true then (findIx x c.N).bind fun i => (cK k).map fun v => .con i v else none
  | [.Assign [.Name x _] (.List es _) _] => if c.sc.lookup x = some .local then n.bind fun y => if x ≠ y ∧ c.sc.lookup y = some .local ∧ plainName y = true then (findIx x c.N).bind fun i => (cIss c y es).map fun cs => .iss i cs else none else none
  | [.Assign [.Name x _] (.Name z _) _] => if c.sc.lookup x = some .local then n.bind fun y => if x ≠ y ∧ z = y ∧ c.sc.lookup y = some .local ∧ plainName y = true then (findIx x c.N).map fun i => .err i else none else none
  | [.Assign [.Name x _] (.Attribute (.Name z _) fd _) _] => if c.sc.lookup x = some .local ∧ fd = ("place" : Str) then n.bind fun y => if x ≠ y ∧ z = y ∧ c.sc.lookup y = some .local ∧ plainName y = true then (findIx x c.N).map fun i => .fld i else none else none
  | _ => none
def cHs (c : Cs) : List ExceptHandler → Option (List (Nat × Option Nat × Sx))
  | [] => some []
  | .ExceptHandler (some (.Name x _)) none suite _ :: r => if plainName x = true ∧ c.glo x = true then (c.cls.lookup x).bind fun k => (cSx c none suite).bind fun sx => (cHs c r).map ((k, none, sx) :: ·) else none
  | _ => none
def cTry (c : Cs) : List ExceptHandler → Option (List (Nat × Option Nat × Sx))
  | [.ExceptHandler (some (.Name x _)) (some n) suite _] => if plainName x = true ∧ c.glo x = true ∧ c.sc.lookup n = some .local then (c.cls.lookup x).bind fun k => (findIx n c.N).bind fun i => (cSx c (some n) suite).map fun sx => [(k, some i, sx)] else none
  | h => if h.isEmpty then none else cHs c h
def cAs (c : Cs) (x : Str) (p : Pos) (v : Expr) : Option E := if dcSw c x p v = true then none else if x ∈ c.raw then cR c v else cV c v
def cRaise (c : Cs) : Option Expr → Option S
  | (some (.Call (.Name x _) [.Constant (.str m) _ _] [] _)) => if plainName x = true ∧ c.glo x = true then (match c.cls.lookup x with | some k => if k ∈ c.clsI then some .never else some (.rais k .nil) | none => some .never) else none
  | (some (.Call (.Name x _) [e] [] _)) => if plainName x = true ∧ c.glo x = true then (match c.cls.lookup x with | some k => if k ∈ c.clsI then (if isStar e = true then none else (cV c e).map fun e' => .rais k (.cons e' .nil)) else some .never | none => some .never) else none
  | _ => some .never
def cAsg (c : Cs) : List Expr → Expr → Option S
  | [.Name x p], v => if c.sto x = true then (findIx x c.N).bind fun i => (cAs c x p v).map fun v' => .asg (.name i) v' else none
  | [.Subscript o i p], v => if (ixOk i || isTupE i) = true then (cE FU c o).bind fun o' => (cV c i).bind fun i' => (cV c v).map fun v' => .set o' i' v' else none
  | [.Tuple [.Name x px, .Name y py] kt pt], (.Tuple [a, b] k2 pt2) => if parOk c x y px py a b = true then (findIx x c.N).bind fun i => (findIx y c.N).bind fun j => (cV c a).bind fun a' => (cV c b).map fun b' => .par i j a' b' else if parCell c x y = true then (cTg c 4 (.Tuple [.Name x px, .Name y py] kt pt)).bind fun tg => (cV c (.Tuple [a, b] k2 pt2)).map fun v' => .asg tg v' else none
  | [.Tuple [.Subscript o i _, .Subscript q j _] _ _], (.Tuple [a, b] k2 pt2) => if (ixOk i && ixOk j) = true then (cE FU c o).bind fun o' => (cV c i).bind fun i' => (cE FU c q).bind fun q' => (cV c j).bind fun j' => (cV c (.Tuple [a, b] k2 pt2)).map fun v' => .swp o' i' q' j' v' else none
  | [.Tuple es k p], v => if isTupE v = true then none else (cTg c 4 (.Tuple es k p)).bind fun tg => (cV c v).map fun v' => .asg tg v'
  | _, _ => none
mutual
def cS (c : Cs) : Nat → Stmt → Option S
  | 0, _ => none
  | n + 1, st => match st with
    | .Pass _ => some .pass
    | .Break _ => some .brk
    | .Continue _ => some .cnt
    | .Raise e none _ => cRaise c e
    | .Raise .. => some .never
    | .Expr e _ => if isComp e = true then none else (cV c e).map .drop
    | .Return (some e) _ => (if ("return" : Str) ∈ c.raw then cR c e else cE FU c e).map .ret
    | .Return none _ => some .retN
    | .Assign ts v _ => cAsg c ts v
    | .AugAssign (.Subscript o i p) .Add e _ => if ixOk i = true then (cE FU c o).bind fun o' => (cV c i).bind fun i' => (cV c e).map fun e' => .aug o' i' e' else none
    | .If t a b _ => if tOk t = true then (cV c t).bind fun t' => (cSs c n a).bind fun a' => (cSs c n b).map fun b' => .ite t' a' b' else none
    | .While t b [] _ => if tOk t = true then (cV c t).bind fun t' => (cSs c n b).map fun b' => .whl t' b' else none
    | .For tg it b [] _ => if isSetE it = true then none else (cTg c 4 tg).bind fun tg' => (cI c (cV c) tg it).bind fun it' => (cSs c n b).map fun b' => .for tg' it' b'
    | .Try b hs [] [] _ => (cTry c hs).bind fun hs' => (cSs c n b).map fun b' => .tri b' hs'
    | _ => none
def cSs (c : Cs) : Nat → List Stmt → Option Ss
  | 0, _ => none
  | n + 1, l => match l with
    | [] => some .nil
    | s :: r => (cS c n s).bind fun s' => (cSs c n r).map fun r' => .cons s' r'
end

def FlOk (K : PySem.W.Frag) (W : WX) (φ : List Addr) (H : Hp) (fl : Fl) (D : Ends) : Prop := match fl with
  | .nx σ => ∀ τ, SR K φ H σ τ → D.nx τ H
  | .ret v => ∀ w, VR K φ H v w → D.rt w H
  | .bk σ => ∀ τ, SR K φ H σ τ → D.bk τ H
  | .ct σ => ∀ τ, SR K φ H σ τ → D.ct τ H
  | .rs e σ => ∀ τ, SR K φ H σ τ → XOk K (L2.WE W τ) e φ H
def SOut (K : PySem.W.Frag) (W : WX) (φ : List Addr) (H : Hp) (D : Ends) (o : Out Fl) : Prop := ∃ fl h', o = .ok fl h' ∧ ∀ φ' H', Px φ φ' → Kp φ φ' H H' → Rel K φ' h' H' → FlOk K W φ' H' fl D
def TSt (K : PySem.W.Frag) (W : WX) (d : Sl → IH → Out Fl) : TS := fun D τ H => ∃ φ σ h, Rel K φ h H ∧ SR K φ H σ τ ∧ SOut K W φ H D (d σ h)
theorem PS.mono {X : Cx} {e : Stmt} {t t' : TS} (p : PS X e t) (h : ∀ D τ H, t' D τ H → t D τ H) : PS X e t' := ⟨fun pins s σ H D I q => p.run pins s σ H D I (h D σ H q)⟩
theorem PSs.mono {X : Cx} {e : List Stmt} {t t' : TS} (p : PSs X e t) (h : ∀ D τ H, t' D τ H → t D τ H) : PSs X e t' := ⟨fun pins s σ H D I q => p.run pins s σ H D I (h D σ H q)⟩
section
variable {K : PySem.W.Frag} {W : WX} {φ φ' : List Addr} {H H' : Hp} {h h' : IH} {σ : Sl} {τ : L2.St} {D : Ends} {α : Type}
theorem SOut.later {o : Out Fl} (ok : SOut K W φ H D o) (p : Px φ φ') (k : Kp φ φ' H H') : SOut K W φ' H' D o := by
  obtain ⟨fl, h', e, c⟩ := ok
  exact ⟨fl, h', e, fun φ2 H2 p2 k2 r => c φ2 H2 (p.trans p2) (k.trans k2) r⟩
theorem SOut.here {fl : Fl} (ok : SOut K W φ H D (.ok fl h)) (r : Rel K φ h H) : FlOk K W φ H fl D := by
  obtain ⟨fl', h', e, c⟩ := ok
  cases e
  exact c φ H (.refl φ) (.refl φ H) r
theorem SOut.bind {x : Out α} {f : α → IH → Out Fl} (s : SR K φ H σ τ) (ok : SOut K W φ H D (bindS σ x f)) : OutG K (L2.WE W τ) φ H x fun φ' H' h1 v => SOut K W φ' H' D (f v h1) := by
  cases x with
  | stuck => obtain ⟨_, _, e, _⟩ := ok; cases e
  | ok v h1 => exact fun φ' H' p k r => SOut.later (show SOut K W φ H D (f v h1) from ok) p k
  | ex e h1 =>
    obtain ⟨fl, h', e, c⟩ := ok
    cases e
    exact fun φ' H' p k r => c φ' H' p k r τ (s.mono p k)
theorem SOut.elim (ok : SOut K W φ H D .stuck) : False := by
  obtain ⟨_, _, e, _⟩ := ok; cases e
theorem FlOk.nx (f : FlOk K W φ H (.nx σ) D) (s : SR K φ H σ τ) : D.nx τ H := f τ s
end

section
variable {X : Cx} {W : WX} {c : Cs} {Φ : Calls} {d : Nat}
theorem cV_ok (g : GX X W c Φ d) {e : Expr} {e' : E} (h : cV c e = some e') : OkE X W Φ e e' := (fok_sl fun e e' he => e_ok FU X W c Φ d g e e' he).ok e e' h
theorem cV_fok (g : GX X W c Φ d) : Fok X W Φ (cV c) := fok_sl fun e e' he => e_ok FU X W c Φ d g e e' he
theorem cR_ok (g : GX X W c Φ d) {e : Expr} {e' : E} (h : cR c e = some e') : PE X e (TI X.K W (eE Φ e')) := by
  unfold cR at h
  split at h
  · split at h
    · exact (e_ok FU X W c Φ d g _ e' h).1
    obtain ⟨e1, h1, h⟩ := Option.map_eq_some_iff.mp h
    subst h
    exact (call_ok g (fok_sl fun e e' he => e_ok (FU - 1) X W c Φ d g e e' he) h1).2
  · exact (e_ok FU X W c Φ d g e e' h).1
theorem sw_no {e : Expr} {t : Option Expr} {l : Nat} {env : Env} (h : isComp e = false) : swapsWith e t l env = pure false := by
  cases e <;> first | rfl | cases h
theorem sw_sub {e o i : Expr} {p : Pos} {l : Nat} {env : Env} : swapsWith e (some (.Subscript o i p)) l env = pure false := by
  cases e <;> rfl
theorem sw_tup {e : Expr} {es : List Expr} {k : Nat} {p : Pos} {l : Nat} {env : Env} : swapsWith e (some (.Tuple es k p)) l env = pure false := by
  cases e <;> rfl
theorem sws_sub {e o i : Expr} {p : Pos} {env : Env} : swappedStores [.Subscript o i p] e env = pure none := by
  cases e <;> rfl
theorem sws_tup {e : Expr} {es : List Expr} {k : Nat} {p : Pos} {env : Env} (h : isTupE e = false) : swappedStores [.Tuple es k p] e env = pure none := by
  cases e <;> first | rfl | cases h
theorem opGet (hu : X.A.units + 64 < cLine) : PGet X (fun x y H Q => ∃ φ h a b u h', Rel X.K φ h H ∧ VR X.K φ H a x ∧ VR X.K φ H b y ∧ ixI a b h = .ok u h' ∧ (∃ i, a = .ref i) ∧ Ct X.K φ h' H u Q) := by
  intro pins s σ H x y v u Q I rx ry hh
  obtain ⟨φ, h, a, b, w, h', r, ra, rb, e, ⟨i0, rfl⟩, c⟩ := hh
  unfold ixI at e
  split at e
  · rename_i k
    split at e
    · rename_i xs es
      split at e
      · rename_i z ez
        obtain ⟨f1, f2⟩ := out_inj e
        subst f1 f2
        rw [VR] at rb
        obtain ⟨p, vs, e1, sq, q, _⟩ := r.lstV ra (show lstOf h (.ref i0) = some xs from es)
        obtain ⟨t, et, rt⟩ := atI_map q ez
        subst e1 rb
        cases rx
        obtain ⟨tk, rfl⟩ := ry
        obtain ⟨its, r1, pl, hz⟩ := I.list sq
        obtain ⟨j, h1, h2, h3, h4, h5⟩ := atI_get et
        obtain ⟨w, ew, rw'⟩ := r1.get h2
        have hl := r1.length
        have hn := line63
        have fin : EP X pins σ Q w s := ⟨t, H, I, rw', c.here r rt⟩
        by_cases h0 : 0 ≤ k
        · have hj : k.toNat = j := by
            rw [seqIndex_of h0 h5] at h1
            exact Option.some.inj h1
          exact wpAny_getItem_list pl.isList h0 (by omega) (by rw [hj]; simpa using ew) fin
        · have hj : (k + (its.toArray.size : Int)).toNat = j := by
            rw [seqIndex_neg (by omega) h4] at h1
            rw [List.size_toArray, ← hl]
            exact Option.some.inj h1
          exact wpAny_getItem_list_neg pl.isList (by omega) (by rw [List.size_toArray] <;> omega) (by omega) (by rw [hj]; simpa using ew) fin
      · cases e
    · simp only at e
      split at e
      · rename_i kvs ek
        split at e
        · rename_i z ez
          obtain ⟨f1, f2⟩ := out_inj e
          subst f1 f2
          simp only [VR] at ra rb
          obtain ⟨p, e1, rfl⟩ := ra
          subst rb
          obtain ⟨ws, k1, q⟩ := r.obj i0 p _ e1 ek
          obtain ⟨zv, ev, rz⟩ := (q.look (.inl k)).1 _ ez
          obtain rfl : v = Value.ref p := rx
          have gd : DGet H p (.int k) (some zv) := by
            have := DGet.k (k := .inl k) k1
            rw [ev] at this
            exact this
          exact d_getItem (by omega) I gd ry fun w' s' I' rw' => ⟨zv, H, I', rw', c.here r rz⟩
        · cases e
      · cases e
  · cases e

theorem par_sw {x y : Str} {px py : Pos} {a b : Expr} {kt k2 : Nat} {pt pt2 : Pos} (g : GX X W c Φ d) (h : parOk c x y px py a b = true) : swappedStores [.Tuple [.Name x px, .Name y py] kt pt] (.Tuple [a, b] k2 pt2) X.env = pure (some [x, y]) := by
  unfold parOk at h
  simp only [Bool.and_eq_true, decide_eq_true_eq, Bool.not_eq_true'] at h
  obtain ⟨⟨⟨⟨⟨⟨⟨hx, hy⟩, hl⟩, hne⟩, ha⟩, hb⟩, hf⟩, hc⟩ := h
  have bk : X.env.blockKind = .function := by unfold Env.blockKind; rw [g.kd]; rfl
  have kx : X.env.kindOf x = some .local := by show X.env.scope.names.lookup x = _; rw [g.sc]; exact hx
  have ky : X.env.kindOf y = some .local := by show X.env.scope.names.lookup y = _; rw [g.sc]; exact hy
  have hl2 : py.line = px.line := (by simpa using hl : px.line = py.line).symm
  unfold swappedStores
  simp only [bk, kx, ky, hf, hc, hl2, List.length_cons, List.length_nil, List.any_cons, List.any_nil, List.head?_cons, Option.map_some, Option.getD_some, Expr.pos, List.filterMap_cons, List.filterMap_nil, beq_self_eq_true, Bool.and_self, if_true]
  have e1 : ([x, y] : List Str).eraseDups.length = 2 := by
    have : (y == x) = false := by simpa using fun e => hne e.symm
    simp [List.eraseDups_cons, this]
  rw [if_neg (by decide), if_neg (fun hh => by
    rcases Bool.or_eq_true_iff.mp hh with h1 | h1
    · cases a <;> first
        | exact absurd (show false = true from h1) Bool.false_ne_true
        | cases ha
    · rcases Bool.or_eq_true_iff.mp h1 with h1 | h1
      · cases b <;> first
          | exact absurd (show false = true from h1) Bool.false_ne_true
          | cases hb
      · cases h1)]
  simp [e1]

theorem cE2_comp {m : Nat} {e : Expr} {v' : E} (h : cE2 (cE m) c e = some v') (hc : isComp e = true) (hd : isDc e = false) : ∃ el tg iter ifs scope lp tg' it' o el', e = .ListComp el [⟨tg, iter, ifs, 0⟩] scope lp ∧ isSetE iter = false ∧ cTg (c.blk scope) 4 tg = some tg' ∧ cI c (fun e => (cE m c e).map (slE e)) tg iter = some it' ∧
    blkC c.N (dummy c.sc) scope ((tgIx tg').map fun i => (c.N.getD i Str.empty, i)) = true ∧ (match ifs with | [] => some Oe.non | [t] => if tOk t = true then (cE m (c.blk scope) t).map fun e' => .som (slE t e') else none | _ => none) = some o ∧ cE m (c.blk scope) el = some el' ∧ v' = .lc (slE el el') tg' it' o (tgIx tg') := by
  unfold cE2 at h
  simp only at h
  split at h <;> first
    | (cases hc; done)
    | (cases hd; done)
    | skip
  rename_i el tg iter ifs scope lp
  split at h
  · cases h
  rename_i hset
  obtain ⟨tg', e1, h⟩ := Option.bind_eq_some_iff.mp h
  obtain ⟨it', e2, h⟩ := Option.bind_eq_some_iff.mp h
  split at h
  case isFalse => cases h
  rename_i e3
  obtain ⟨o, e4, h⟩ := Option.bind_eq_some_iff.mp h
  obtain ⟨el', e5, h⟩ := Option.map_eq_some_iff.mp h
  exact ⟨el, tg, iter, ifs, scope, lp, tg', it', o, el', rfl, by simpa using hset, e1, e2, e3, e4, e5, h.symm⟩
  all_goals cases h
theorem cE_comp {n : Nat} {e : Expr} {v' : E} (h : cE n c e = some v') (hc : isComp e = true) (hd : isDc e = false) : ∃ m el tg iter ifs scope lp tg' it' o el', n = m + 1 ∧ e = .ListComp el [⟨tg, iter, ifs, 0⟩] scope lp ∧ isSetE iter = false ∧ cTg (c.blk scope) 4 tg = some tg' ∧ cI c (fun e => (cE m c e).map (slE e)) tg iter = some it' ∧
    blkC c.N (dummy c.sc) scope ((tgIx tg').map fun i => (c.N.getD i Str.empty, i)) = true ∧ (match ifs with | [] => some Oe.non | [t] => if tOk t = true then (cE m (c.blk scope) t).map fun e' => .som (slE t e') else none | _ => none) = some o ∧ cE m (c.blk scope) el = some el' ∧ v' = .lc (slE el el') tg' it' o (tgIx tg') := by
  cases n with
  | zero => cases h
  | succ m =>
    unfold cE at h
    simp only at h
    split at h <;> first
      | (cases hc; done)
      | (cases hd; done)
      | skip
    obtain ⟨el, tg, iter, ifs, scope, lp, tg', it', o, el', a, b⟩ := cE2_comp h hc hd
    exact ⟨m, el, tg, iter, ifs, scope, lp, tg', it', o, el', rfl, a, b⟩
def LkS (P : L2.St → Hp → Prop) : L2.St → Hp → Prop := fun τ H => ∃ S, ∀ H', LockOf S H H' → P τ H'
theorem PS.lock {st : Stmt} {t : TS} (p : PS X st t) : PS X st (fun D τ H => t { D with nx := LkS D.nx } τ H) := by
  refine ⟨fun pins s σ H D I h => ?_⟩
  refine thn (p.run pins s σ H _ I h) fun f s1 q => ?_
  cases f with
  | next =>
    obtain ⟨τ', H', I', S, q⟩ := q
    obtain ⟨H2, l, I2⟩ := inv_lock S I'
    exact ⟨τ', H2, I2, q H2 l⟩
  | brk => exact q
  | cont => exact q
  | ret u => exact q
def TSet (K : PySem.W.Frag) (W : WX) (d : Sl → IH → Out IV) (i : Nat) : TS := fun D τ H => TI K W d τ H fun y H1 => D.nx (τ.set i (some y)) H1
theorem set_plain (g : GX X W c Φ d) {x : Str} {p pos : Pos} {v : Expr} {v' : E} {i : Nat} (hs : c.sto x = true) (hi : findIx x c.N = some i) (hv : PE X v (TI X.K W (eE Φ v'))) (hc : isComp v = false) : PS X (.Assign [.Name x p] v pos) (TSet X.K W (eE Φ v') i) := by
  have hN : X.N[i]? = some x := by rw [g.N]; exact findIx_get hi
  have hnd : X.N.Nodup := by rw [g.N]; exact g.nd
  obtain ⟨hx, hf⟩ := g.sto hs
  exact PS.mono (ps_set hnd hN hx hv (sw_no hc) hf) fun D τ H q => q
theorem set_cE (g : GX X W c Φ d) {x : Str} {p pos : Pos} {v : Expr} {v' : E} {i : Nat} (hs : c.sto x = true) (hi : findIx x c.N = some i) (hv : cE FU c v = some v') (hds : dcSw c x p v = false) : PS X (.Assign [.Name x p] v pos) (TSet X.K W (eE Φ v') i) := by
  have ov := e_ok FU X W c Φ d g v v' hv
  by_cases hdc : isDc v = true
  · have hN : X.N[i]? = some x := by rw [g.N]; exact findIx_get hi
    have hnd : X.N.Nodup := by rw [g.N]; exact g.nd
    obtain ⟨hx, hf⟩ := g.sto hs
    have bk : X.env.blockKind = .function := by unfold Env.blockKind; rw [g.kd]; rfl
    refine PS.mono (ps_set hnd hN hx ov.1 ?_ hf) fun D τ H q => q
    cases v with
    | DictComp kx vx gs scope lp =>
      have ek : X.env.kindOf x = c.sc.lookup x := by rw [← g.sc]; rfl
      unfold dcSw at hds
      show (pure (X.env.blockKind == ScopeKind.function && X.env.kindOf x == some NameKind.local && p.line == lp.line && !(scope.names.any fun (n, k) => n == x && (k == .local || k == .cell))) : Sem Bool) = pure false
      rw [bk, ek, show (ScopeKind.function == ScopeKind.function) = true from rfl, Bool.true_and]
      exact congrArg pure hds
    | _ => cases hdc
  have hdc : isDc v = false := by simpa using hdc
  by_cases hc : isComp v = true
  · have hN : X.N[i]? = some x := by rw [g.N]; exact findIx_get hi
    have hnd : X.N.Nodup := by rw [g.N]; exact g.nd
    obtain ⟨hx, hf⟩ := g.sto hs
    obtain ⟨m, el, tg, iter, ifs, scope, lp, tg', it', o, el', hm, rfl, hset, e1, e2, e3, e4, e5, rfl⟩ := cE_comp hv hc hdc
    have bk : X.env.blockKind = .function := by unfold Env.blockKind; rw [g.kd]; rfl
    by_cases hsw : swB c x p (.ListComp el [⟨tg, iter, ifs, 0⟩] scope lp) = true
    · have hsw0 := hsw
      unfold swB at hsw
      simp only [Bool.and_eq_true, beq_iff_eq] at hsw
      obtain ⟨⟨h1, h2⟩, h3⟩ := hsw
      have hxl : X.env.scope.names.lookup x = some .local := by rw [g.sc]; exact h1
      have P := lc_parts g (fok_sl fun e e' he => e_ok m X W c Φ d g e e' he) (fun s H C cl fp e e' hk hu he => e_ok m _ _ _ Φ d (g.blk scope hk hu s H C cl fp) e e' he) hset e1 e2 e3 e4 e5
      refine PS.mono (ps_setLc (te := TI X.K W0 (eE Φ (slE el el'))) (tt := TT' X.K W0 (eC Φ o)) (g := TG' X.K tg') g.calm hnd hN hxl (sw_true g.kd hxl (by simpa using h2) (by simpa using h3)) P.hi P.ok P.hg P.ht P.he P.hs) fun D τ H q => ?_
      show tLc _ _ _ _ _ τ H _
      rw [P.hown]
      exact lc_read τ H _ q
    · refine PS.mono (ps_set hnd hN hx ov.1 ?_ hf) fun D τ H q => q
      have hb : swB c x p (.ListComp el [⟨tg, iter, ifs, 0⟩] scope lp) = false := by simpa using hsw
      have ek : X.env.kindOf x = c.sc.lookup x := by rw [← g.sc]; rfl
      unfold swB at hb
      show (pure (X.env.blockKind == ScopeKind.function && X.env.kindOf x == some NameKind.local && p.line == lp.line && !(scope.names.any fun (n, k) => n == x && (k == .local || k == .cell))) : Sem Bool) = pure false
      rw [bk, ek, show (ScopeKind.function == ScopeKind.function) = true from rfl, Bool.true_and]
      exact congrArg pure hb
  · exact set_plain g hs hi ov.1 (by simpa using hc)
theorem set_ok (g : GX X W c Φ d) {x : Str} {p pos : Pos} {v : Expr} {v' : E} {i : Nat} (hs : c.sto x = true) (hi : findIx x c.N = some i) (hv : cAs c x p v = some v') : PS X (.Assign [.Name x p] v pos) (TSt X.K W (eS Φ (.asg (.name i) v'))) := by
  unfold cAs at hv
  split at hv
  · cases hv
  rename_i hds
  have hds : dcSw c x p v = false := by simpa using hds
  have fin : PS X (.Assign [.Name x p] v pos) (TSet X.K W (eE Φ v') i) := by
    split at hv
    · unfold cR at hv
      split at hv
      · exact set_plain g hs hi (cR_ok g (show cR c _ = some v' from hv)) rfl
      · exact set_cE g hs hi hv hds
    · obtain ⟨e1, h1, h2⟩ := Option.map_eq_some_iff.mp (show (cE FU c v).map (slE v) = some v' from hv)
      subst h2
      unfold slE
      split
      · exact PS.mono (PS.lock (set_cE g hs hi h1 hds)) fun D τ H q => seal_read (Q := fun y H1 => D.nx (τ.set i (some y)) H1) q
      · exact set_cE g hs hi h1 hds
  refine PS.mono fin fun D τ H q => ?_
  obtain ⟨φ, σ, h, rl, sr, ok⟩ := q
  refine TI.seq rl sr (SOut.bind (x := eE Φ v' σ h) sr (show SOut X.K W φ H D (bindS σ (eE Φ v' σ h) _) from ok)) fun φ1 H1 h1 v w p1 k1 r1 s1 q1 ok => ?_
  exact (SOut.here (fl := .nx (σ.set i (some v))) ok r1).nx (s1.set i q1)
theorem asgW_ok (g : GX X W c Φ d) {es : List Expr} {kt : Nat} {p pos : Pos} {v : Expr} {v' : E} {tg : Tg} (hw : swappedStores [.Tuple es kt p] v X.env = pure none) (h : cTg c 4 (.Tuple es kt p) = some tg) (hv : cV c v = some v') : PS X (.Assign [.Tuple es kt p] v pos) (TSt X.K W (eS Φ (.asg tg v'))) := by
  refine PS.mono (ps_asg (cV_ok g hv).1 (tg_ok g 4 _ tg h) (show swapsWith v (some (.Tuple es kt p)) pos.line X.env = pure false from sw_tup) hw (by rfl)) fun D τ H q => ?_
  obtain ⟨φ, σ, h, rl, sr, ok⟩ := q
  refine TI.seq rl sr (SOut.bind (x := eE Φ v' σ h) sr (show SOut X.K W φ H D (bindS σ (eE Φ v' σ h) _) from ok)) fun φ1 H1 h1 v w p1 k1 r1 s1 q1 ok => ?_
  split at ok
  · rename_i σ1 et
    exact ⟨φ1, h1, σ, v, σ1, r1, s1, q1, et, fun τ1 s2 _ => (ok.here r1).nx s2⟩
  · exact ok.elim.elim
theorem asgT_ok (g : GX X W c Φ d) {es : List Expr} {kt : Nat} {p pos : Pos} {v : Expr} {v' : E} {tg : Tg} (ht : isTupE v = false) (h : cTg c 4 (.Tuple es kt p) = some tg) (hv : cV c v = some v') : PS X (.Assign [.Tuple es kt p] v pos) (TSt X.K W (eS Φ (.asg tg v'))) := asgW_ok g (sws_tup ht) h hv
theorem sws_cell {x y : Str} {px py : Pos} {a b : Expr} {kt k2 : Nat} {pt pt2 : Pos} (g : GX X W c Φ d) (h : parCell c x y = true) : swappedStores [.Tuple [.Name x px, .Name y py] kt pt] (.Tuple [a, b] k2 pt2) X.env = pure none := by
  unfold parCell at h
  have kx : X.env.kindOf x = c.sc.lookup x := by rw [← g.sc]; rfl
  have ky : X.env.kindOf y = c.sc.lookup y := by rw [← g.sc]; rfl
  unfold swappedStores
  simp only [kx, ky, List.filterMap_cons, List.filterMap_nil]
  split
  · rfl
  split
  · rfl
  rcases Bool.or_eq_true_iff.mp h with h | h
  · have hx : (c.sc.lookup x == some NameKind.local) = false := by
      have := of_decide_eq_false (by simpa using h : decide (c.sc.lookup x = some NameKind.local) = false)
      cases e : c.sc.lookup x with
      | none => rfl
      | some k => rw [e] at this; cases k <;> first | rfl | exact absurd rfl this
    simp only [hx, Bool.false_and]
    rw [if_neg Bool.false_ne_true]
    simp
    intro hl
    exfalso
    repeat' split at hl
    all_goals simp at hl
  · have hy : (c.sc.lookup y == some NameKind.local) = false := by
      have := of_decide_eq_false (by simpa using h : decide (c.sc.lookup y = some NameKind.local) = false)
      cases e : c.sc.lookup y with
      | none => rfl
      | some k => rw [e] at this; cases k <;> first | rfl | exact absurd rfl this
    simp only [hy, Bool.false_and]
    rw [if_neg Bool.false_ne_true]
    simp
    intro hl
    exfalso
    repeat' split at hl
    all_goals simp at hl
theorem par_ok (g : GX X W c Φ d) {x y : Str} {px py kp2 : Pos} {a b : Expr} {a' b' : E} {i j kt k2 : Nat} {pt pt2 pos : Pos} (h : parOk c x y px py a b = true) (hi : findIx x c.N = some i) (hj : findIx y c.N = some j) (ha : cV c a = some a') (hb : cV c b = some b') :
    PS X (.Assign [.Tuple [.Name x px, .Name y py] kt pt] (.Tuple [a, b] k2 pt2) pos) (TSt X.K W (eS Φ (.par i j a' b'))) := by
  have hsw := par_sw (kt := kt) (k2 := k2) (pt := pt) (pt2 := pt2) g h
  unfold parOk at h
  simp only [Bool.and_eq_true, decide_eq_true_eq, Bool.not_eq_true'] at h
  obtain ⟨⟨⟨⟨⟨⟨⟨hx, hy⟩, hl⟩, hne⟩, _⟩, _⟩, _⟩, _⟩ := h
  have hN : X.N[i]? = some x := by rw [g.N]; exact findIx_get hi
  have hM : X.N[j]? = some y := by rw [g.N]; exact findIx_get hj
  have hnd : X.N.Nodup := by rw [g.N]; exact g.nd
  have hij : i ≠ j := fun z => by subst z; rw [hN] at hM; exact hne (Option.some.inj hM)
  refine PS.mono (ps_par g.calm hnd hN hM hij (by rw [g.sc]; exact hx) (by rw [g.sc]; exact hy) (args2 (cV_fok g) ha hb) hsw) fun D τ H q => ?_
  obtain ⟨φ, σ, h, rl, sr, ok⟩ := q
  refine ⟨φ, σ, h, rl, sr, ?_⟩
  have ok : SOut X.K W φ H D (bindS σ (eE Φ a' σ h) fun v h1 => bindS σ (eE Φ b' σ h1) fun u h2 => .ok (.nx ((σ.set i (some v)).set j (some u))) h2) := ok
  show OutG X.K (L2.WE W τ) φ H ((eE Φ a' σ h).bind fun v h1 => ((eE Φ b' σ h1).bind fun v2 h2 => (Out.ok [] h2).bind fun vs h3 => .ok (v2 :: vs) h3).bind fun vs h3 => .ok (v :: vs) h3) _
  cases ea : eE Φ a' σ h with
  | stuck => rw [ea] at ok; exact ok.elim.elim
  | ex ee h1 =>
    rw [ea] at ok
    exact SOut.bind (x := (Out.ex ee h1 : Out IV)) sr ok
  | ok v h1 =>
    rw [ea] at ok
    simp only [bindS_ok, bind_ok] at ok ⊢
    cases eb : eE Φ b' σ h1 with
    | stuck => rw [eb] at ok; exact ok.elim.elim
    | ex ee h2 =>
      rw [eb] at ok
      exact SOut.bind (x := (Out.ex ee h2 : Out IV)) sr ok
    | ok u h2 =>
      rw [eb] at ok
      simp only [bindS_ok, bind_ok] at ok ⊢
      intro φ1 H1 p1 k1 r1 ws q
      obtain ⟨w1, w2, rfl, q1, q2⟩ := q.two_inv
      exact ⟨w1, w2, rfl, ((ok.later p1 k1).here r1).nx (((sr.mono p1 k1).set i q1).set j q2)⟩
theorem nx_aug {u v : IV} {h : IH} : NoEx (augI u v h) := by
  unfold augI
  split <;> intro _ _ z <;> cases z
theorem sub_ok (g : GX X W c Φ d) {o i v : Expr} {o' i' v' : E} {p pos : Pos} (hx : (ixOk i || isTupE i) = true) (ho : cE FU c o = some o') (hi : cV c i = some i') (hv : cV c v = some v') : PS X (.Assign [.Subscript o i p] v pos) (TSt X.K W (eS Φ (.set o' i' v'))) := by
  have pg := pg_sub (pos := p) (e_ok FU X W c Φ d g o o' ho).1 (cV_ok g hi).1 (opSet (X := X) g.hu) (by intro _; cases i <;> first | rfl | cases hx)
  refine PS.mono (ps_asg (cV_ok g hv).1 pg (show swapsWith v (some (.Subscript o i p)) pos.line X.env = pure false from sw_sub) sws_sub (by rfl)) fun D τ H q => ?_
  obtain ⟨φ, σ, h, rl, sr, ok⟩ := q
  refine TI.seq rl sr (SOut.bind (x := eE Φ v' σ h) sr (show SOut X.K W φ H D (bindS σ (eE Φ v' σ h) _) from ok)) fun φ1 H1 h1 z w1 p1 k1 r1 s1 q1 ok => ?_
  refine TI.seq r1 s1 (SOut.bind (x := eE Φ o' σ h1) s1 ok) fun φ2 H2 h2 x w2 p2 k2 r2 s2 q2 ok => ?_
  refine TI.seq r2 s2 (SOut.bind (x := eE Φ i' σ h2) s2 ok) fun φ3 H3 h3 y w3 p3 k3 r3 s3 q3 ok => ?_
  obtain ⟨_, h4, f4, c4⟩ := (SOut.bind (x := setI x y z h3) s3 ok).pure nx_set
  exact ⟨φ3, h3, x, y, z, h4, r3, q2.mono p3 k3, q3, q1.mono (p2.trans p3) (k2.trans k3), f4, fun φ4 H4 p4 k4 r4 => ((c4 φ4 H4 p4 k4 r4).here r4).nx (s3.mono p4 k4)⟩
theorem swp_ok (g : GX X W c Φ d) {o i q j a b : Expr} {o' i' q' j' v' : E} {p1 p2 pt pt2 pos : Pos} {kt k2 : Nat} (hx : ixOk i = true) (hy : ixOk j = true) (ho : cE FU c o = some o') (hi : cV c i = some i') (hq : cE FU c q = some q') (hj : cV c j = some j') (hv : cV c (.Tuple [a, b] k2 pt2) = some v') :
    PS X (.Assign [.Tuple [.Subscript o i p1, .Subscript q j p2] kt pt] (.Tuple [a, b] k2 pt2) pos) (TSt X.K W (eS Φ (.swp o' i' q' j' v'))) := by
  have pg1 := pg_sub (pos := p1) (e_ok FU X W c Φ d g o o' ho).1 (cV_ok g hi).1 (opSet (X := X) g.hu) (by intro _; cases i <;> first | rfl | cases hx)
  have pg2 := pg_sub (pos := p2) (e_ok FU X W c Φ d g q q' hq).1 (cV_ok g hj).1 (opSet (X := X) g.hu) (by intro _; cases j <;> first | rfl | cases hy)
  have hw : swappedStores [.Tuple [.Subscript o i p1, .Subscript q j p2] kt pt] (.Tuple [a, b] k2 pt2) X.env = pure none := by
    unfold swappedStores
    simp only [List.filterMap_cons, List.filterMap_nil]
    split
    · rfl
    split
    · rfl
    rfl
  refine PS.mono (ps_asg (cV_ok g hv).1 (pg_tup (pos := pt) (k := kt) (n := 2) g.calm (pgs_cons pg1 (pgs_cons pg2 pgs_nil)) (by rfl) (by rfl)) (show swapsWith (.Tuple [a, b] k2 pt2) (some (.Tuple [.Subscript o i p1, .Subscript q j p2] kt pt)) pos.line X.env = pure false from sw_tup) hw (by rfl)) fun D τ H q => ?_
  obtain ⟨φ, σ, h, rl, sr, ok⟩ := q
  refine TI.seq rl sr (SOut.bind (x := eE Φ v' σ h) sr (show SOut X.K W φ H D (bindS σ (eE Φ v' σ h) _) from ok)) fun φ1 H1 h1 z w1 p1 k1 r1 s1 q1 ok => ?_
  split at ok
  case h_2 => exact ok.elim.elim
  rename_i zx zy
  obtain ⟨p', vs, rfl, sq, qq⟩ := q1.tup_inv
  obtain ⟨v1, v2, rfl, qx, qy⟩ := qq.two_inv
  refine ⟨p', [v1, v2], rfl, sq, rfl, v1, [v2], rfl, ?_⟩
  refine TI.seq r1 s1 (SOut.bind (x := eE Φ o' σ h1) s1 ok) fun φ2 H2 h2 x w2 p2 k2 r2 s2 q2 ok => ?_
  refine TI.seq r2 s2 (SOut.bind (x := eE Φ i' σ h2) s2 ok) fun φ3 H3 h3 y w3 p3 k3 r3 s3 q3 ok => ?_
  obtain ⟨_, h4, f4, c4⟩ := (SOut.bind (x := setI x y zx h3) s3 ok).pure nx_set
  refine ⟨φ3, h3, x, y, zx, h4, r3, q2.mono p3 k3, q3, qx.mono (p2.trans p3) (k2.trans k3), f4, fun φ4 H4 p4 k4 r4 => ?_⟩
  have s4 := s3.mono p4 k4
  have ok := c4 φ4 H4 p4 k4 r4
  refine ⟨v2, [], rfl, ?_⟩
  refine TI.seq r4 s4 (SOut.bind (x := eE Φ q' σ h4) s4 ok) fun φ5 H5 h5 x5 w5 p5 k5 r5 s5 q5 ok => ?_
  refine TI.seq r5 s5 (SOut.bind (x := eE Φ j' σ h5) s5 ok) fun φ6 H6 h6 y6 w6 p6 k6 r6 s6 q6 ok => ?_
  obtain ⟨_, h7, f7, c7⟩ := (SOut.bind (x := setI x5 y6 zy h6) s6 ok).pure nx_set
  exact ⟨φ6, h6, x5, y6, zy, h7, r6, q5.mono p6 k6, q6, qy.mono (((p2.trans p3).trans p4).trans (p5.trans p6)) (((k2.trans k3).trans k4).trans (k5.trans k6)), f7, fun φ8 H8 p8 k8 r8 => ⟨rfl, ((c7 φ8 H8 p8 k8 r8).here r8).nx (s6.mono p8 k8)⟩⟩
theorem aug_ok (g : GX X W c Φ d) {o i v : Expr} {o' i' v' : E} {p pos : Pos} (hx : ixOk i = true) (ho : cE FU c o = some o') (hi : cV c i = some i') (hv : cV c v = some v') : PS X (.AugAssign (.Subscript o i p) .Add v pos) (TSt X.K W (eS Φ (.aug o' i' v'))) := by
  refine PS.mono (ps_augS (e_ok FU X W c Φ d g o o' ho).1 (cV_ok g hi).1 (opGet (X := X) g.hu) (cV_ok g hv).1 ip_add (opSet (X := X) g.hu) (by intros; cases i <;> first | rfl | cases hx)) fun D τ H q => ?_
  obtain ⟨φ, σ, h, rl, sr, ok⟩ := q
  refine TI.seq rl sr (SOut.bind (x := eE Φ o' σ h) sr (show SOut X.K W φ H D (bindS σ (eE Φ o' σ h) _) from ok)) fun φ1 H1 h1 x w1 p1 k1 r1 s1 q1 ok => ?_
  refine TI.seq r1 s1 (SOut.bind (x := eE Φ i' σ h1) s1 ok) fun φ2 H2 h2 y w2 p2 k2 r2 s2 q2 ok => ?_
  split at ok
  · rename_i hl
    obtain ⟨u, h3, f3, c3⟩ := (SOut.bind (x := ixI x y h2) s2 ok).pure nx_ix
    have hr : ∃ i0, x = .ref i0 := by
      unfold isLst at hl
      split at hl
      · exact ⟨_, rfl⟩
      · cases hl
    refine ⟨φ2, h2, x, y, u, h3, r2, q1.mono p2 k2, q2, f3, hr, fun φ3 H3 w3 p3 k3 r3 q3 => ?_⟩
    have s3 := s2.mono p3 k3
    refine TI.seq r3 s3 (SOut.bind (x := eE Φ v' σ h3) s3 (c3 φ3 H3 p3 k3 r3)) fun φ4 H4 h4 v w4 p4 k4 r4 s4 q4 ok => ?_
    obtain ⟨z, h5, f5, c5⟩ := (SOut.bind (x := augI u v h4) s4 ok).pure nx_aug
    have hz : ∃ iu iv, u = .int iu ∧ v = .int iv ∧ z = .int (iu + iv) ∧ h4 = h5 := by
      unfold augI at f5
      split at f5
      · obtain ⟨m1, m2⟩ := out_inj f5
        exact ⟨_, _, rfl, rfl, m1.symm, m2⟩
      · cases f5
    obtain ⟨iu, iv, rfl, rfl, rfl, rfl⟩ := hz
    have q3' := q3.mono p4 k4
    rw [VR] at q3' q4
    refine ⟨iu, iv, q3', q4, ?_⟩
    obtain ⟨_, h6, f6, c6⟩ := (SOut.bind (x := setI x y (.int (iu + iv)) h4) s4 (c5 φ4 H4 (.refl φ4) (.refl φ4 H4) r4)).pure nx_set
    exact ⟨φ4, h4, x, y, .int (iu + iv), h6, r4, q1.mono ((p2.trans p3).trans p4) ((k2.trans k3).trans k4), q2.mono (p3.trans p4) (k3.trans k4), by rw [VR], f6, fun φ5 H5 p5 k5 r5 => ((c6 φ5 H5 p5 k5 r5).here r5).nx (s4.mono p5 k5)⟩
  · exact ok.elim.elim

theorem whl_read {K : PySem.W.Frag} {t : Sl → IH → Out Bool} {b : Sl → IH → Out Fl} : ∀ D τ H, TSt K W (fun σ h => whI t b σ h) D τ H → tWhile (TT' K W t) (TSt K W b) D τ H := by
  intro D τ H q
  obtain ⟨φ, σ, h, rl, sr, fl, h', e, k⟩ := q
  obtain ⟨n, e⟩ := whI_ex e (fun z => nomatch z)
  refine ⟨fun m τ1 H1 => ∃ φ1 σ1 h1, Rel K φ1 h1 H1 ∧ SR K φ1 H1 σ1 τ1 ∧ Px φ φ1 ∧ Kp φ φ1 H H1 ∧ whN t b m σ1 h1 = .ok fl h', ⟨n, φ, σ, h, rl, sr, .refl φ, .refl φ H, e⟩, ?_⟩
  rintro m τ1 H1 ⟨φ1, σ1, h1, r1, s1, p1, k1, e1⟩
  cases m with
  | zero => rw [whN] at e1; cases e1
  | succ m =>
    rw [whN] at e1
    have so : SOut K W φ1 H1 D (bindS σ1 (t σ1 h1) fun c h1 => if c then (b σ1 h1).bind fun fl h2 => match fl with
      | .nx σ2 => whN t b m σ2 h2
      | .ct σ2 => whN t b m σ2 h2
      | .bk σ2 => .ok (.nx σ2) h2
      | fl => .ok fl h2
      else .ok (.nx σ1) h1) := ⟨fl, h', e1, fun φ2 H2 p2 k2 r2 => k φ2 H2 (p1.trans p2) (k1.trans k2) r2⟩
    cases et : t σ1 h1 with
    | stuck => rw [et] at e1; cases e1
    | ex ee h2 =>
      refine ⟨φ1, σ1, h1, r1, s1, ?_⟩
      rw [et] at so ⊢
      exact SOut.bind (x := (Out.ex ee h2 : Out Bool)) s1 so
    | ok c h2 =>
      refine TT'.seqE r1 s1 et fun φ2 H2 p2 k2 r2 s2 => ?_
      rw [et] at e1
      simp only [bindS_ok] at e1
      cases c with
      | false =>
        simp only [Bool.false_eq_true, if_false] at e1 ⊢
        obtain ⟨g1, g2⟩ := out_inj e1
        subst g1 g2
        exact (k φ2 H2 (p1.trans p2) (k1.trans k2) r2).nx s2
      | true =>
        simp only [if_true] at e1 ⊢
        obtain ⟨fl3, h3, f3, e1⟩ := bind_eq_ok e1
        refine ⟨fun τ3 H3 => ∃ φ1 σ1 h1, Rel K φ1 h1 H3 ∧ SR K φ1 H3 σ1 τ3 ∧ Px φ φ1 ∧ Kp φ φ1 H H3 ∧ whN t b m σ1 h1 = .ok fl h', fun τ3 H3 n3 => ⟨m, Nat.lt_succ_self m, n3⟩, ?_⟩
        refine ⟨φ2, σ1, h2, r2, s2, fl3, h3, f3, fun φ3 H3 p3 k3 r3 => ?_⟩
        cases fl3 with
        | nx σ3 => exact fun τ3 s3 => ⟨φ3, σ3, h3, r3, s3, (p1.trans p2).trans p3, (k1.trans k2).trans k3, e1⟩
        | ct σ3 => exact fun τ3 s3 => ⟨φ3, σ3, h3, r3, s3, (p1.trans p2).trans p3, (k1.trans k2).trans k3, e1⟩
        | bk σ3 =>
          intro τ3 s3
          obtain ⟨g1, g2⟩ := out_inj (show Out.ok (Fl.nx σ3) h3 = Out.ok fl h' from e1)
          subst g1 g2
          exact (k φ3 H3 ((p1.trans p2).trans p3) ((k1.trans k2).trans k3) r3).nx s3
        | ret v =>
          intro w q
          obtain ⟨g1, g2⟩ := out_inj (show Out.ok (Fl.ret v) h3 = Out.ok fl h' from e1)
          subst g1 g2
          exact k φ3 H3 ((p1.trans p2).trans p3) ((k1.trans k2).trans k3) r3 w q
        | rs ee σ3 =>
          intro τ3 s3
          obtain ⟨g1, g2⟩ := out_inj (show Out.ok (Fl.rs ee σ3) h3 = Out.ok fl h' from e1)
          subst g1 g2
          exact k φ3 H3 ((p1.trans p2).trans p3) ((k1.trans k2).trans k3) r3 τ3 s3
theorem for_read {K : PySem.W.Frag} {it' : It} {tg' : Tg} {b : Sl → IH → Out Fl} : ∀ D τ H, TSt K W (fun σ h => bindS σ (eI Φ it' σ h) fun w h1 => forGo w tg' b 0 (wkLen w h1) σ h1) D τ H → tFor (TW K W (eI Φ it')) (TG' K tg') (TSt K W b) D τ H := by
  intro D τ H q
  obtain ⟨φ, σ, h, rl, sr, so⟩ := q
  refine ⟨φ, σ, h, rl, sr, (SOut.bind (x := eI Φ it' σ h) sr so).imp fun φ1 H1 h1 w p1 k1 r1 so J wk => ?_⟩
  have sr1 := sr.mono p1 k1
  obtain ⟨fl, h', e, k⟩ := so
  refine ⟨fun i m τ2 H2 => ∃ φ2 σ2 h2, Rel K φ2 h2 H2 ∧ SR K φ2 H2 σ2 τ2 ∧ Px φ1 φ2 ∧ Kp φ1 φ2 H1 H2 ∧ forGo w tg' b i m σ2 h2 = .ok fl h', ⟨_, φ1, σ, h1, r1, sr1, .refl φ1, .refl φ1 H1, e⟩, ?_⟩
  rintro i m τ2 H2 ⟨φ2, σ2, h2, r2, s2, p2, k2, e2⟩
  cases m with
  | zero =>
    rw [forGo] at e2
    split at e2
    · rename_i ew
      obtain ⟨g1, g2⟩ := out_inj e2
      subst g1 g2
      exact .inl ⟨wk.stop i φ2 h2 H2 p2 k2 r2 ew, (k φ2 H2 p2 k2 r2).nx s2⟩
    · cases e2
  | succ m =>
    rw [forGo] at e2
    split at e2
    case h_2 => cases e2
    rename_i x ew
    split at e2
    case h_2 => cases e2
    rename_i σ3 et
    obtain ⟨fl4, h4, f4, e2⟩ := bind_eq_ok e2
    obtain ⟨go, hy⟩ := wk.item i φ2 h2 H2 x p2 k2 r2 ew
    refine .inr ⟨go, fun τ3 H3 => ∃ φ2 σ2 h2, Rel K φ2 h2 H3 ∧ SR K φ2 H3 σ2 τ3 ∧ Px φ1 φ2 ∧ Kp φ1 φ2 H1 H3 ∧ forGo w tg' b (i + 1) m σ2 h2 = .ok fl h', fun τ3 H3 n3 => ⟨m, Nat.lt_succ_self m, n3⟩, fun v H3 y => ?_⟩
    obtain ⟨k3, r3, q3⟩ := hy v H3 y
    refine ⟨φ2, h2, σ2, x, σ3, r3, s2.mono (.refl φ2) k3, q3, et, fun τ3 s3 _ => ?_⟩
    refine ⟨φ2, σ3, h2, r3, s3, fl4, h4, f4, fun φ4 H4 p4 k4 r4 => ?_⟩
    have pp := p2.trans p4
    have kk := (k2.trans k3).trans k4
    cases fl4 with
    | nx σ4 => exact fun τ4 s4 => ⟨φ4, σ4, h4, r4, s4, pp, kk, e2⟩
    | ct σ4 => exact fun τ4 s4 => ⟨φ4, σ4, h4, r4, s4, pp, kk, e2⟩
    | bk σ4 =>
      intro τ4 s4
      obtain ⟨g1, g2⟩ := out_inj (show Out.ok (Fl.nx σ4) h4 = Out.ok fl h' from e2)
      subst g1 g2
      exact (k φ4 H4 pp kk r4).nx s4
    | ret v =>
      intro w' q
      obtain ⟨g1, g2⟩ := out_inj (show Out.ok (Fl.ret v) h4 = Out.ok fl h' from e2)
      subst g1 g2
      exact k φ4 H4 pp kk r4 w' q
    | rs ee σ4 =>
      intro τ4 s4
      obtain ⟨g1, g2⟩ := out_inj (show Out.ok (Fl.rs ee σ4) h4 = Out.ok fl h' from e2)
      subst g1 g2
      exact k φ4 H4 pp kk r4 τ4 s4

theorem raise_ok (g : GX X W c Φ d) {x m : Str} {j k : Nat} {p1 p2 p3 pos : Pos} (hp : plainName x = true) (hx : c.glo x = true) (hk : c.cls.lookup x = some k) (hi : k ∉ c.clsI) :
    PS X (.Raise (some (.Call (.Name x p1) [.Constant (.str m) j p2] [] p3)) none pos) (TSt X.K W (eS Φ (.rais k .nil))) := by
  obtain ⟨C, hC, hm⟩ := g.ec k x hk
  obtain ⟨f1, f2, f3, f4⟩ := g.er k C hi hC
  refine PS.mono (ps_raise g.calm g.tk (pmk_own PySem.F.excBase_ValueError f1 hm f2 (raises_own f3 f4) (g.gl hx) (plain1 hp))) fun D τ H q => ?_
  obtain ⟨φ, σ, h, rl, sr, so⟩ := q
  have so : SOut X.K W φ H D (.ok (.rs ⟨k, []⟩ σ) h) := so
  exact ((so.here rl) τ sr C [] hC (by rw [VRs])).1 rfl
theorem raise1_ok (g : GX X W c Φ d) {x : Str} {e : Expr} {e' : E} {k : Nat} {p1 p3 pos : Pos} (hp : plainName x = true) (hx : c.glo x = true) (hk : c.cls.lookup x = some k) (hi : k ∈ c.clsI) (hs : isStar e = false) (he : cV c e = some e') :
    PS X (.Raise (some (.Call (.Name x p1) [e] [] p3)) none pos) (TSt X.K W (eS Φ (.rais k (.cons e' .nil)))) := by
  obtain ⟨C, hC, hm⟩ := g.ec k x hk
  obtain ⟨m, rfl, J⟩ := g.eb k C hi hC
  obtain ⟨fI, fd, f1, f2, f3, f4⟩ := J.fn
  have ns : ∀ x p, e ≠ .Starred x p := fun x p z => by subst z; cases hs
  refine PS.mono (ps_raise g.calm g.tk (pmk_oex (CX := L2.CX X.prog X.w) J.T f1 f2 f4 g.room f3 .nil passL (g.gl hx) hm (pa_cons (cV_ok g he).1 pa_nil (star_plain ns)) (plain1 hp) (star_plain ns) rfl)) fun D τ H q => ?_
  obtain ⟨φ, σ, h, rl, sr, so⟩ := q
  have so : SOut X.K W φ H D (bindS σ (((eE Φ e' σ h).bind fun v h1 => .ok [v] h1)) fun vs h1 => if vs.length ≤ 1 then .ok (.rs ⟨k, vs⟩ σ) h1 else .stuck) := by
    have z : eS Φ (.rais k (.cons e' .nil)) σ h = bindS σ (((eE Φ e' σ h).bind fun v h1 => .ok [v] h1)) fun vs h1 => if vs.length ≤ 1 then .ok (.rs ⟨k, vs⟩ σ) h1 else .stuck := by
      rw [eS, eEs]
      congr 1
      try (congr 1; funext v h1; rw [eEs]; rfl)
    rw [← z]; exact so
  have so2 : SOut X.K W φ H D (bindS σ (eE Φ e' σ h) fun v h1 => .ok (.rs ⟨k, [v]⟩ σ) h1) := by
    cases ee : eE Φ e' σ h with
    | stuck => rw [ee] at so; exact so
    | ex a b => rw [ee] at so; exact so
    | ok v h1 => rw [ee] at so; exact so
  refine TI.seq rl sr (SOut.bind (x := eE Φ e' σ h) sr so2) fun φ1 H1 h1 v w p1 k1 r1 s1 q1 so => ?_
  refine ⟨by simp, fun a ha => ⟨a, w, rfl, upd_same, fun dx hdx nda => ⟨rfl, dx, [("place", w)], upd_same, ?_, ?_, ?_⟩⟩⟩
  · rw [upd_ne nda, upd_same]
  · exact (upd_ne (o := exo a C none) (H := H1) nda).symm.trans hdx
  · have hd1 : H1 dx = none := (upd_ne (o := exo a C none) (H := H1) nda).symm.trans hdx
    have eu : upd (del (upd (upd (upd H1 a (exo a C none)) dx (exd dx [("place", w)])) a (exo a C (some dx))) a) dx (.xd [("place", w)]) = upd H1 dx (.xd [("place", w)]) := by
      funext b
      by_cases hb : b = dx
      · subst hb; rw [upd_same, upd_same]
      · rw [upd_ne hb, upd_ne hb]
        by_cases hba : b = a
        · subst hba; rw [del_same, ha]
        · rw [del_ne hba, upd_ne hba, upd_ne hb, upd_ne hba]
    rw [eu]
    have kp : Kp φ1 φ1 H1 (upd H1 dx (.xd [("place", w)])) := Kp.newU hd1
    refine ((SOut.here (fl := .rs ⟨k, [v]⟩ σ) (so.later (.refl φ1) kp) (r1.newU hd1)) τ (s1.mono (.refl φ1) kp) C [w] hC ?_).2 dx w rfl upd_same
    rw [VRs]
    exact ⟨w, [], rfl, q1.mono (.refl φ1) kp, by rw [VRs]⟩
structure GS (X : Cx) : Prop where
  pw : PassesOwn (model X.prog X.w) X.A X.env X.xe
  hs : X.stack = X.env :: X.outer
  hf : X.env.frame = some X.env.locals
  ex : X.ex = []
theorem SR.non {K : PySem.W.Frag} {φ : List Addr} {H : Hp} {σ : Sl} {τ : L2.St} (s : SR K φ H σ τ) (i : Nat) (v : Option V) : SR K φ H (σ.set i none) (τ.set i v) := by
  refine ⟨by rw [List.length_set, List.length_set]; exact s.1, fun j y e => ?_⟩
  by_cases hj : j = i
  · subst hj
    have hl : j < σ.length := by
      have := (List.getElem?_eq_some_iff.mp e).1
      rwa [List.length_set] at this
    rw [List.getElem?_set_self hl] at e
    cases e
  · rw [List.getElem?_set_ne (Ne.symm hj)] at e ⊢
    exact s.2 j y e
end
end Pi
end

section
set_option maxHeartbeats 8000000
namespace Pi
open PySem PySem.Spec PyProof.Rows L2
def KpO (cls : Value) (d : Option Addr) (a : Addr) : HO := .ext fun h => ∃ (oe : Obj) (vs : Array Value), h.get? a = some oe ∧ Zc cls d oe ∧ oe.data = .fields vs
def wKp (K : PySem.W.Frag) (c : Value) (i : Nat) (ts : Addr → Value → Option Addr → TS) (Wo : WX) (D : Ends) : WX := fun cls d σ H =>
  ∃ b, PySem.W.exmOne K cls c = some b ∧
    (b = true → ∀ a, H a = none → ts a cls d ⟨fun σ1 H1 => D.nx (σ1.set i none) (upd H1 a (KpO cls d a)), fun _ _ => False, fun _ _ => False, fun _ _ => False⟩ (σ.set i (some (.ref a))) H) ∧
    (b = false → Wo cls d σ H)
theorem keep_inv {X : Cx} {pins pn : List (Addr × Obj)} {σ : L2.St} {H : Hp} {s : Shared} {a : Addr} {oe : Obj} {vs : Array Value} {cls : Value} {d : Option Addr} (I : Inv (X.suite a ((a, oe) :: (X.pn ++ pins))) pn σ H s) (ok : X.Ok)
    (new : X.s_0.heap.get? a = none) (np : ∀ p ∈ X.pn ++ pins, p.1 ≠ a) (z : Zc cls d oe) (hd : oe.data = .fields vs) : Inv X pins σ (upd H a (KpO cls d a)) s := by
  have J : Inv X pins σ H s := Inv.unsuite I ok
  obtain ⟨he, hn, hl, hf, hc⟩ := I.pin (a, oe) (List.mem_append_left _ List.mem_cons_self)
  have hl : a ≠ X.env.locals := hl
  have ne : ∀ {b : Addr} {o : HO}, H b = some o → b ≠ a := fun e q => by rw [q, hn] at e; cases e
  have old : ∀ {b : Addr} {o : Obj}, X.s_0.heap.get? b = some o → b ≠ a := fun e q => by rw [q, new] at e; cases e
  refine ⟨ok, J.os, J.bare, ⟨J.base.keep, J.base.slot, fun b o e n x => ?_, J.base.there, fun b xs e => ?_, fun b o u e => ?_, fun b ps e => ?_⟩, J.loc, J.cell, ?_, fun x cc e => ?_, fun p hp => ?_, ?_, J.len⟩
  · rw [upd_ne (old e)]; exact J.base.free b o e n x
  · have q := J.base.tups b xs e
    rw [upd_ne (ne q)]; exact q
  · have q := J.base.frzs b o u e
    rw [upd_ne (ne q)]; exact q
  · obtain ⟨more, q⟩ := J.base.tbls b ps e
    exact ⟨more, by rw [upd_ne (ne q)]; exact q⟩
  · rw [upd_ne (Ne.symm hl)]; exact J.free
  · obtain ⟨v, hv⟩ := J.cell x cc e
    have : cc ≠ a := fun q => by
      subst q
      obtain ⟨o, e1, e2⟩ : ∃ o, s.heap.get? cc = some o ∧ o.data = .cell v := by
        obtain ⟨o, h1, h2⟩ := hv
        exact ⟨o, h1, h2⟩
      rw [he] at e1
      cases e1
      exact hc v e2
    rw [upd_ne this]; exact J.freeC x cc e
  · obtain ⟨p1, p2, p3⟩ := J.pin p hp
    exact ⟨p1, by rw [upd_ne (np p hp)]; exact p2, p3⟩
  · refine HOk.laidN J.hok (fun _ _ e => e) hn ?_
    exact ⟨⟨oe, vs, he, z, hd⟩, ⟨oe, he⟩, fun h1 h2 q k => by obtain ⟨o, v, q1, q2⟩ := q; exact ⟨o, v, k o q1, q2⟩⟩
section
variable {X : Cx} {x n : Str} {c : Value} {i : Nat} {body sr : List Stmt} {b0 : Stmt} {np p1 p2 : Pos} {tb : WX → TS} {ts : Addr → Value → Option Addr → TS} {Wo : WX}
theorem ps_try_keep (hs : X.stack = X.env :: X.outer) (hf : X.env.frame = some X.env.locals)
    (hx : X.ex = []) (hN : X.N.Nodup) (hi : X.N[i]? = some n)
    (hl : X.env.kindOf n = some .local) (hc : Names X x c) (tk : Takes X Wo)
    (hb : ∀ (W1 : WX) (pn : List (Addr × Obj)) (xe : Value → Shared → Prop), Takes (X.tr pn xe) W1 →
      PassesOwn (model X.prog X.w) X.A X.env xe → PSs (X.tr pn xe) body (tb W1))
    (hsu : ∀ (a : Addr) (oe : Obj) (cls : Value) (d : Option Addr) (pn : List (Addr × Obj)), Zc cls d oe →
      (∃ vs, oe.data = .fields vs) → PSs (X.suite a ((a, oe) :: pn)) (b0 :: sr) (ts a cls d)) :
    PS X (.Try body [.ExceptHandler (some (.Name x np)) (some n) (b0 :: sr) p2] [] [] p1) (fun D σ H => tb (wKp X.K c i ts Wo D) D σ H) := by
  refine ⟨fun pins s σ H D I h => ?_⟩
  have ok := I.ok
  have stk : X.A.frames = some (X.env :: X.outer) := by rw [ok.frames, hs]
  have lc : Loc X.env.scope n := .inl hl
  let hdl : List ExceptHandler := [.ExceptHandler (some (.Name x np)) (some n) (b0 :: sr) p2]
  let XH : Value → Shared → Prop := fun e s₁ =>
    wpAny (model X.prog X.w) X.A (noteFrame e X.env) (fun _ s₂ =>
      wpAny (model X.prog X.w) X.A (setFlight e none) (fun _ s₃ =>
        wpAny (model X.prog X.w) X.A (handleBy e X.env hdl) (SP X pins D) X.xe s₃) X.xe s₂) X.xe s₁
  have tkb : Takes (X.tr (X.pn ++ pins) XH) (wKp X.K c i ts Wo D) := fun u s' xx => by
    obtain ⟨a, B, sI, pp, σ', H', cls, d, rfl, J', nb, up, sky, na, os, ag, b, e1, yes, no⟩ := xx
    have J : Inv X pins σ' H' sI := J'.ofTry ok
    have sk : Sky B (X.env :: X.outer) a (Zc cls d) X.env.locals s'.heap := by rw [← hs]; exact sky
    show wpAny _ X.A (noteFrame (.ref a) X.env) _ _ _
    refine Sky.land Zc.steady stk hf sk fun h3 fl up3 => ?_
    have J3 : Inv X pins σ' H' { s' with heap := h3 } :=
      J.landed nb fl.1 (up.trans up3) os ag
    obtain ⟨oe, vs, he, hz, hd⟩ := fl.there
    have nfr : a ∉ frs (X.env :: X.outer) := fun hm => by
      obtain ⟨_, o', e', hnf⟩ := fl.2.2.1.mem hm
      rw [he] at e'; cases e'
      exact hnf _ hd
    have nI : sI.heap.get? a = none := by
      cases e : sI.heap.get? a with
      | none => rfl
      | some o =>
        have q := nb a o e (by rw [hs]; exact nfr)
        rw [fl.2.1] at q; cases q
    have n0 : X.s_0.heap.get? a = none := by
      cases e : X.s_0.heap.get? a with
      | none => rfl
      | some o =>
        obtain ⟨o', q⟩ := J.base.there a o e (by rw [hx]; exact List.not_mem_nil)
        rw [nI] at q; cases q
    have npn : ∀ p ∈ X.pn ++ pins, p.1 ≠ a := fun p hp q => by
      have := (J.pin p hp).1
      rw [q, nI] at this; cases this
    have nL : a ≠ X.env.locals := fun z =>
      nfr (List.mem_filterMap.mpr ⟨X.env, List.mem_cons_self, by rw [hf, z]⟩)
    have nF : a ∉ X.fs := fun hm => by
      obtain ⟨e, m, q⟩ := List.mem_filterMap.mp hm
      exact nfr (List.mem_filterMap.mpr ⟨e, List.mem_cons_of_mem _ m, q⟩)
    have S3 := J3.suite he hd na nL nF
    refine wpAny_handleBy_cons (codeAny_handlers_test ?_) (by intro q; cases q)
    have LT : PySem.W.Looks (model X.prog X.w) h3 (typeOf (.ref a)) cls :=
      fun A Q E s k q => wpAny_typeOf_ref (k _ _ he) (by rw [hz.1]; exact q)
    have LM := PySem.W.exm_one (M := model X.prog X.w) J3.kIn LT e1
    have test : ∀ {Q : Value → Shared → Prop} {E : Value → Shared → Prop}, Q c { s' with heap := h3 } →
        wpAny (model X.prog X.w) (X.A.mark (some (.ref a))) (eval (.Name x np) X.env) Q E { s' with heap := h3 } := fun {Q E} q => by
      obtain ⟨hg, hdb, hm | ⟨hm, hv, hnn⟩⟩ := hc
      · exact ld_glob (X := X.suite a ((a, oe) :: (X.pn ++ pins))) S3 hg hm q hdb
      · exact ld_blt (X := X.suite a ((a, oe) :: (X.pn ++ pins))) S3 hg hm hv q hnn hdb
    refine test (LM.here ?_)
    cases b with
    | true =>
      refine codeAny_handlers_suite_as (HandSPX.lands_againZ fl fun h4 fl4 up4 => ?_)
      have J4 : Inv X pins σ' H' { s' with heap := h4 } :=
        J.landed nb fl4.1 ((up.trans up3).trans up4) os ag
      obtain ⟨oe4, vs4, he4, hz4, hd4⟩ := fl4.there
      have S4 := J4.suite he4 hd4 na nL nF
      refine store_ok (X := X.suite a ((a, oe4) :: (X.pn ++ pins))) (v := .ref a) S4 hN hi lc rfl
        (fun s5 S5 => ?_) (.inr hl)
      have run := (hsu a oe4 cls d (X.pn ++ pins) hz4 ⟨_, hd4⟩).run [] s5 _ H' _ S5 (yes rfl a na)
      refine wpAny_mono run (fun f s6 q => ?_) (fun _ _ z => False.elim z)
      cases f with
      | next =>
        obtain ⟨σ6, H6, S6, q6⟩ := q
        refine gone_ok (keep_inv S6 ok n0 npn hz4 hd4) hN hi hl fun s7 J7 => ?_
        exact ⟨_, _, J7, q6⟩
      | brk => obtain ⟨σ6, H6, S6, q6⟩ := q; exact q6.elim
      | cont => obtain ⟨σ6, H6, S6, q6⟩ := q; exact q6.elim
      | ret u => obtain ⟨v6, σ6, H6, S6, r6, q6⟩ := q; exact q6.elim
    | false =>
      show wpAny _ X.A (handleBy (.ref a) X.env []) _ _ _
      refine wpAny_handleBy_nil ?_
      obtain ⟨k1, k2, k3, oe', vs', T, oT, tt, g1, g2, g3, g4, gr⟩ := id fl
      unfold PySem.passOn
      refine wpAny_bind (wpAny_field g1 g3 g4 ?_)
      rw [if_neg (show ¬ (Value.ref T == Value.none) = true by simp)]
      have fin : wpAny (model X.prog X.w) X.A (setFlight (.ref a) X.env.frame) (fun _ s4 =>
          wpAny (model X.prog X.w) X.A (throw (.ref a) : Sem Flow) (SP X pins D) X.xe s4) X.xe { s' with heap := h3 } := by
        rw [hf]
        refine HandSPX.setFlight_upZ fl fun h4 hh up4 => wpAny_throw (tk _ _ ?_)
        refine ⟨a, B, sI, pins, σ', H', cls, d, rfl, J, nb, (up.trans up3).trans up4, ?_, na, os, ag, no rfl⟩
        exact .inr (.inr (by rw [hs]; exact hh))
      first
        | exact wpAny_bind (wpAny_pure (wpAny_bind fin))
        | exact wpAny_bind fin
  have run := (hb (wKp X.K c i ts Wo D) (X.pn ++ pins) XH tkb PassesOwn.looking).run [] s σ H D (I.toTry _) h
  refine wpAny_Try_except (wpAny_mono run (fun f s1 q => ?_) fun e s1 he => he)
  cases f with
  | next =>
    obtain ⟨σ', H', J', q⟩ := q
    exact wpAny_execs_nil ⟨σ', H', J'.ofTry ok, q⟩
  | brk => obtain ⟨σ', H', J', q⟩ := q; exact ⟨σ', H', J'.ofTry ok, q⟩
  | cont => obtain ⟨σ', H', J', q⟩ := q; exact ⟨σ', H', J'.ofTry ok, q⟩
  | ret u => obtain ⟨v, σ', H', J', r, q⟩ := q; exact ⟨v, σ', H', J'.ofTry ok, r, q⟩
end
end Pi
end

section
set_option maxHeartbeats 8000000
namespace Pi
open PySem PySem.Spec PyProof.Rows L2
variable [ClsTab]
section
variable {X : Cx} {W : WX} {c : Cs} {Φ : Calls} {d : Nat}
def ivV : IV → V
  | .int i => .int i
  | .bl b => .bl b
  | .str x => .str x
  | _ => .non
theorem ck_iv {K : PySem.W.Frag} {φ : List Addr} {H : Hp} {k : Const} {v : IV} (h : cK k = some v) : VR K φ H v (ivV v) := by
  unfold cK at h
  split at h <;> first
    | (cases h; rw [VR]; rfl)
    | cases h
def isB (dd : Nat) : Option Nat → Bool
  | none => true
  | some k => decide (k = 0 ∨ k = dd)
def tSx (sx : Sx) (nm : Option Nat) : Addr → Value → Option Addr → TS := fun a cls d D τ H => match sx with
  | .con i v => D.nx (τ.set i (some (ivV v))) H
  | .iss i cs => ∃ dd DC j, cls = .ref DC ∧ ClsTab.cl dd = some DC ∧ DK d H ∧ nm = some j ∧ τ[j]? = some (some (.ref a)) ∧ (cs.map fun c => V.bl (isB dd c)).length ≤ sizeLine ∧ ∀ p, H p = none → LkS D.nx (τ.set i (some (.ref p))) (upd H p (.lst (cs.map fun c => .bl (isB dd c))))
  | .err i => ∃ j, nm = some j ∧ τ[j]? = some (some (.ref a)) ∧ D.nx (τ.set i (some (.ref a))) H
  | .fld i => ∃ k DC j dd fs w, cls = .ref DC ∧ ClsTab.cl k = some DC ∧ nm = some j ∧ τ[j]? = some (some (.ref a)) ∧ d = some dd ∧ H dd = some (.xd fs) ∧ fs.lookup ("place" : Str) = some w ∧ D.nx (τ.set i (some w)) H
theorem iss_pa (g : GX X W c Φ d) {n : Str} {a : Addr} {oe : Obj} {dd j : Nat} {DC : Addr} {pn : List (Addr × Obj)} {d0 : Option Addr} (hj : findIx n c.N = some j) (hn : c.sc.lookup n = some .local) (hp : plainName n = true) (hC : ClsTab.cl dd = some DC) (hz : Zc (.ref DC) d0 oe) (hf : ∃ vs, oe.data = .fields vs) :
    ∀ (es : List Expr) (cs : List (Option Nat)), cIss c n es = some cs → PA (X.suite a ((a, oe) :: pn)) es fun τ H Q => τ[j]? = some (some (.ref a)) ∧ DK d0 H ∧ Q (cs.map fun c => V.bl (isB dd c)) H := by
  intro es
  induction es with
  | nil =>
    intro cs h
    cases h
    exact PA.mono pa_nil fun τ H Q q => q.2.2
  | cons e r ih =>
    intro cs h
    unfold cIss at h
    split at h
    case h_1 z => cases z
    case h_3 => cases h
    rename_i f fp y yp t tp pos r' ee
    obtain ⟨rfl, rfl⟩ := List.cons.inj ee
    split at h
    case isFalse => cases h
    rename_i hc
    obtain ⟨rfl, rfl, hpt, hgt, hgf⟩ := hc
    obtain ⟨k, e1, h⟩ := Option.bind_eq_some_iff.mp h
    obtain ⟨ks, e2, h⟩ := Option.map_eq_some_iff.mp h
    subst h
    have rest := ih ks e2
    have gl : ∀ {x}, c.glo x = true → Gl (X.suite a ((a, oe) :: pn)) x := fun {x} h => g.gl h
    have hm : X.mg ("isinstance" : Str) = none := g.bn _ (by decide)
    have EC := g.ei dd DC hC
    have hN : X.N[j]? = some y := by rw [g.N]; exact findIx_get hj
    have hv : Vis X.env.scope y := .inl (by rw [g.sc]; exact hn)
    have go : ∀ (tV : V) (tv : Value), (∀ u, RelV tV u → u = tv) → PE (X.suite a ((a, oe) :: pn)) (.Name t tp) (tC tV) → PySem.W.kitOne X.K (.ref DC) tv = some (isB dd k) →
        PE (X.suite a ((a, oe) :: pn)) (.Call (.Name "isinstance" fp) [.Name y yp, .Name t tp] [] pos) (fun τ H Q => τ[j]? = some (some (.ref a)) ∧ DK d0 H ∧ Q (.bl (isB dd k)) H) := fun tV tv hv2 pt hk => by
      refine PE.mono (pe_callB (call_isD (pn := pn) EC.1 hz hf) (gl hgf) hm PyProof.Rows.boot_isinstance (pa_cons (pe_var (i := j) hN hv (plain1 hp) (plain2 hp)) (pa_cons pt pa_nil (by rfl)) (by rfl)) (by decide) (by decide) (by rfl) (by rfl)) fun τ H Q q => ?_
      exact ⟨.ref a, q.1, tV, tv, isB dd k, rfl, hv2, hk, q.2.1, q.2.2⟩
    have one : PE (X.suite a ((a, oe) :: pn)) (.Call (.Name "isinstance" fp) [.Name y yp, .Name t tp] [] pos) (fun τ H Q => τ[j]? = some (some (.ref a)) ∧ DK d0 H ∧ Q (.bl (isB dd k)) H) := by
      split at e1
      · rename_i et
        subst et
        cases e1
        exact go (.ty "ValueError") (.type "ValueError") (fun u r => r) (pe_bltn (gl hgt) (g.bn _ (by decide)) boot_ValueError rfl (by decide) (by decide)) EC.2.1
      · obtain ⟨k0, ek, e1⟩ := Option.map_eq_some_iff.mp e1
        subst e1
        obtain ⟨C, hC2, hm2⟩ := g.ec k0 t ek
        exact go (.ref C) (.ref C) (fun u r => r) (pe_glob (gl hgt) hm2 rfl (plain1 hpt)) (EC.2.2 k0 C hC2).1
    refine PA.mono (pa_cons one rest (by rfl)) fun τ H Q q => ?_
    exact ⟨q.1, q.2.1, q.1, q.2.1, q.2.2⟩
theorem sx_ok (g : GX X W c Φ d) {n : Option Str} {suite : List Stmt} {sx : Sx} {nm : Option Nat} (hnm : nm = n.bind fun y => findIx y c.N) (h : cSx c n suite = some sx) : ∃ b₀ r, suite = b₀ :: r ∧
    ∀ (a : Addr) (oe : Obj) (cls : Value) (dd : Option Addr) (pn : List (Addr × Obj)), Zc cls dd oe → (∃ vs, oe.data = .fields vs) → PSs (X.suite a ((a, oe) :: pn)) (b₀ :: r) (tSx sx nm a cls dd) := by
  unfold cSx at h
  split at h
  · rename_i x xp k kk kp pos
    split at h
    case isFalse => cases h
    rename_i hx
    obtain ⟨i, ei, h⟩ := Option.bind_eq_some_iff.mp h
    obtain ⟨v, ev, h⟩ := Option.map_eq_some_iff.mp h
    subst h
    refine ⟨_, _, rfl, fun a oe cls dd pn hz hf => ?_⟩
    have hN : X.N[i]? = some x := by rw [g.N]; exact findIx_get ei
    have hnd : X.N.Nodup := by rw [g.N]; exact g.nd
    obtain ⟨hx, hfn⟩ := g.sto hx
    have pv : PE (X.suite a ((a, oe) :: pn)) (.Constant k kk kp) (tC (ivV v)) := by
      unfold cK at ev
      split at ev <;> first
        | (cases ev; first | exact pe_int | exact pe_bl | exact pe_non | exact pe_str)
        | cases ev
    refine PSs.mono (pss_one (ps_set (X := X.suite a ((a, oe) :: pn)) (i := i) hnd hN hx pv (by rfl) hfn)) fun D τ H q => q
  · rename_i x xp es lp pos
    split at h
    case isFalse => cases h
    rename_i hx
    obtain ⟨y, ey, h⟩ := Option.bind_eq_some_iff.mp h
    split at h
    case isFalse => cases h
    rename_i hc
    obtain ⟨hxy, hyl, hyp⟩ := hc
    obtain ⟨i, ei, h⟩ := Option.bind_eq_some_iff.mp h
    obtain ⟨cs, ec, h⟩ := Option.map_eq_some_iff.mp h
    subst h ey
    refine ⟨_, _, rfl, fun a oe cls dd pn hz hf => ⟨fun pins s τ H D I q => ?_⟩⟩
    obtain ⟨dn, DC, j, rfl, hC, hdk, ej, hs, hsz, q⟩ := q
    have hN : X.N[i]? = some x := by rw [g.N]; exact findIx_get ei
    have hnd : X.N.Nodup := by rw [g.N]; exact g.nd
    have hl : X.env.scope.names.lookup x = some .local := by rw [g.sc]; exact hx
    have ej : findIx y c.N = some j := by rw [ej] at hnm; exact hnm.symm
    have pa := iss_pa g (a := a) (pn := pn) ej hyl hyp hC hz hf es cs ec
    exact (pss_one (PS.lock (ps_set (X := X.suite a ((a, oe) :: pn)) (i := i) hnd hN (.inl hl) (pe_lst pa) (by rfl) (.inr hl)))).run pins s τ H D I ⟨hs, hdk, hsz, fun p hp => q p hp⟩
  · rename_i x xp z zp pos
    split at h
    case isFalse => cases h
    rename_i hx
    obtain ⟨y, ey, h⟩ := Option.bind_eq_some_iff.mp h
    split at h
    case isFalse => cases h
    rename_i hc
    obtain ⟨hxy, hzy, hyl, hyp⟩ := hc
    obtain ⟨i, ei, h⟩ := Option.map_eq_some_iff.mp h
    subst h ey hzy
    refine ⟨_, _, rfl, fun a oe cls dd pn hz hf => ⟨fun pins s τ H D I q => ?_⟩⟩
    obtain ⟨j, ej, hs, q⟩ := q
    have hN : X.N[i]? = some x := by rw [g.N]; exact findIx_get ei
    have hnd : X.N.Nodup := by rw [g.N]; exact g.nd
    have hl : X.env.scope.names.lookup x = some .local := by rw [g.sc]; exact hx
    have ej : findIx z c.N = some j := by rw [ej] at hnm; exact hnm.symm
    have hNj : X.N[j]? = some z := by rw [g.N]; exact findIx_get ej
    have hv : Vis X.env.scope z := .inl (by rw [g.sc]; exact hyl)
    exact (pss_one (ps_set (X := X.suite a ((a, oe) :: pn)) (i := i) hnd hN (.inl hl) (pe_var (X := X.suite a ((a, oe) :: pn)) (i := j) hNj hv (plain1 hyp) (plain2 hyp)) (by rfl) (.inr hl))).run pins s τ H D I ⟨.ref a, hs, q⟩
  · rename_i x xp z zp fd ap pos
    split at h
    case isFalse => cases h
    rename_i hx
    obtain ⟨hx, hfd⟩ := hx
    subst hfd
    obtain ⟨y, ey, h⟩ := Option.bind_eq_some_iff.mp h
    split at h
    case isFalse => cases h
    rename_i hc
    obtain ⟨hxy, hzy, hyl, hyp⟩ := hc
    obtain ⟨i, ei, h⟩ := Option.map_eq_some_iff.mp h
    subst h ey hzy
    refine ⟨_, _, rfl, fun a oe cls d pn hz hf => ⟨fun pins s τ H D I q => ?_⟩⟩
    obtain ⟨k, DC, j, dd, fs, w, rfl, hC, ej, hs, rfl, hd, hl0, q⟩ := q
    have hN : X.N[i]? = some x := by rw [g.N]; exact findIx_get ei
    have hnd : X.N.Nodup := by rw [g.N]; exact g.nd
    have hl : X.env.scope.names.lookup x = some .local := by rw [g.sc]; exact hx
    have ej : findIx z c.N = some j := by rw [ej] at hnm; exact hnm.symm
    have hNj : X.N[j]? = some z := by rw [g.N]; exact findIx_get ej
    have hv : Vis X.env.scope z := .inl (by rw [g.sc]; exact hyl)
    have C := g.ei k DC hC
    exact (pss_one (ps_set (X := X.suite a ((a, oe) :: pn)) (i := i) hnd hN (.inl hl) (pe_xf (pn := pn) ⟨C.1.hg, C.1.hk, C.1.hs, C.1.hd⟩ (g.ep k DC hC) hz hf (pe_var (X := X.suite a ((a, oe) :: pn)) (i := j) hNj hv (plain1 hyp) (plain2 hyp))) (by rfl) (.inr hl))).run pins s τ H D I ⟨.ref a, hs, rfl, rfl, dd, fs, w, rfl, hd, hl0, q⟩
  · cases h

theorem lock_new {K : PySem.W.Frag} {φ : List Addr} {h : IH} {H H2 : Hp} {p : Addr} {vs : List V} (r : Rel K φ h H) (hp : H p = none) (l : LockOf [p] (upd H p (.lst vs)) H2) : Kp φ φ H H2 ∧ Rel K φ h H2 ∧ ∃ o, H2 p = some (.frz o (.lst vs)) := by
  have hne : ∀ a ∈ φ, a ∉ [p] := fun a ha m => r.fresh hp (List.mem_singleton.mp m ▸ ha)
  refine ⟨⟨fun a o f e => l.fx a o f (by rw [upd_ne (ne_of_none e hp)]; exact e), fun a o _ e n => ⟨?_, n⟩, fun t => l.tk ((Kp.newU (φ := φ) hp).tb t)⟩, (r.newU hp).keep l.kt fun a ha => l.out a (hne a ha), l.at p vs List.mem_cons_self upd_same⟩
  rw [l.out a fun m => ne_of_none e hp (List.mem_singleton.mp m), upd_ne (ne_of_none e hp)]; exact e
structure Caught (K : PySem.W.Frag) (φ : List Addr) (h : IH) (H : Hp) (σ : Sl) (τ : L2.St) (e : Ex) (C : Addr) (dd : Option Addr) : Prop where
  rl : Rel K φ h H
  sr : SR K φ H σ τ
  hC : ClsTab.cl e.cls = some C
  vd : e.val = [] ∧ dd = none ∨ ∃ v w a, e.val = [v] ∧ VR K φ H v w ∧ dd = some a ∧ H a = some (.xd [("place", w)])
theorem Caught.dk {K : PySem.W.Frag} {φ : List Addr} {h : IH} {H : Hp} {σ : Sl} {τ : L2.St} {e : Ex} {C : Addr} {dd : Option Addr} (cg : Caught K φ h H σ τ e C dd) : DK dd H := by
  rcases cg.vd with ⟨_, z⟩ | ⟨v, w, a, _, _, z, q⟩
  · exact .inl z
  · exact .inr ⟨a, _, z, q⟩
theorem sx_read {K : PySem.W.Frag} {φ : List Addr} {h : IH} {H : Hp} {σ σ1 : Sl} {τ : L2.St} {e : Ex} {C a : Addr} {dd : Option Addr} {sx : Sx} {nm : Option Nat} {D : Ends} (cg : Caught K φ h H σ τ e C dd)
    (hn : ∀ j, nm = some j → τ[j]? = some (some (.ref a))) (hcs : ∀ i cs, (sx = .iss i cs ∨ sx = .fld i) → ∃ j, nm = some j) (hok : (∃ i v k, sx = .con i v ∧ cK k = some v) ∨ (∃ i cs, sx = .iss i cs) ∨ ∃ i, sx = .fld i) (e1 : sxI e σ sx = some σ1)
    (q : ∀ H', Kp φ φ H H' → Rel K φ h H' → ∀ τ1, SR K φ H' σ1 τ1 → D.nx τ1 H') : tSx sx nm a (.ref C) dd D τ H := by
  rcases hok with ⟨i, v, k, rfl, hk⟩ | ⟨i, cs, rfl⟩ | ⟨i, rfl⟩
  · cases e1
    exact q H (.refl φ H) cg.rl _ (cg.sr.set i (ck_iv hk))
  · rw [sxI] at e1
    split at e1
    case isFalse => cases e1
    rename_i hl
    cases e1
    obtain ⟨j, hj⟩ := hcs i cs (.inl rfl)
    refine ⟨e.cls, C, j, rfl, cg.hC, cg.dk, hj, hn j hj, by rw [List.length_map]; exact lim_le hl, fun p hp => ⟨[p], fun H2 l => ?_⟩⟩
    obtain ⟨k1, r1, o, ho⟩ := lock_new cg.rl hp l
    refine q H2 k1 r1 _ ((cg.sr.mono (.refl φ) k1).set i ?_)
    rw [VR]
    refine ⟨p, _, rfl, .inl ⟨o, ho⟩, ?_⟩
    have all : ∀ cs : List (Option Nat), VRs K φ H2 (cs.map fun c => IV.bl (match c with | none => true | some k => decide (k = 0 ∨ k = e.cls))) (cs.map fun c => V.bl (isB e.cls c)) := fun cs => by
      induction cs with
      | nil => rw [List.map_nil, List.map_nil, VRs]
      | cons c cs ih =>
        rw [List.map_cons, List.map_cons, VRs]
        refine ⟨_, _, rfl, ?_, ih⟩
        rw [VR]
        cases c <;> rfl
    exact all cs
  · rw [sxI] at e1
    split at e1
    case h_2 => cases e1
    rename_i v ev
    cases e1
    obtain ⟨j, hj⟩ := hcs i [] (.inr rfl)
    rcases cg.vd with ⟨z, _⟩ | ⟨v', w, dd, ev2, rv, rfl, hd⟩
    · rw [z] at ev; cases ev
    · rw [ev] at ev2
      cases ev2
      exact ⟨e.cls, C, j, dd, _, w, rfl, cg.hC, hj, hn j hj, rfl, hd, rfl, q H (.refl φ H) cg.rl _ (cg.sr.set i rv)⟩

def HdsR (hs : List (Nat × Option Nat × Sx)) (l : List (Value × (Addr → Value → Option Addr → TS))) : Prop := match hs, l with
  | [], [] => True
  | (k, n, sx) :: r, (c, ts) :: l => n = none ∧ (∃ C, ClsTab.cl k = some C ∧ c = .ref C) ∧ ts = tSx sx none ∧ (∃ i v q, sx = .con i v ∧ cK q = some v) ∧ HdsR r l
  | _, _ => False
theorem sx_con {n : Option Str} {suite : List Stmt} {sx : Sx} (h : cSx c n suite = some sx) : (∃ i v k, sx = .con i v ∧ cK k = some v) ∨ (∃ i cs y, (sx = .iss i cs ∨ sx = .fld i) ∧ n = some y) ∨ ∃ i y, sx = .err i ∧ n = some y := by
  unfold cSx at h
  split at h
  · rename_i x xp k kk kp pos
    split at h
    case isFalse => cases h
    obtain ⟨i, ei, h⟩ := Option.bind_eq_some_iff.mp h
    obtain ⟨v, ev, h⟩ := Option.map_eq_some_iff.mp h
    exact .inl ⟨i, v, k, h.symm, ev⟩
  · split at h
    case isFalse => cases h
    obtain ⟨y, ey, h⟩ := Option.bind_eq_some_iff.mp h
    split at h
    case isFalse => cases h
    obtain ⟨i, ei, h⟩ := Option.bind_eq_some_iff.mp h
    obtain ⟨cs, ec, h⟩ := Option.map_eq_some_iff.mp h
    exact .inr (.inl ⟨i, cs, y, .inl h.symm, ey⟩)
  · split at h
    case isFalse => cases h
    obtain ⟨y, ey, h⟩ := Option.bind_eq_some_iff.mp h
    split at h
    case isFalse => cases h
    obtain ⟨i, ei, h⟩ := Option.map_eq_some_iff.mp h
    exact .inr (.inr ⟨i, y, h.symm, ey⟩)
  · split at h
    case isFalse => cases h
    obtain ⟨y, ey, h⟩ := Option.bind_eq_some_iff.mp h
    split at h
    case isFalse => cases h
    obtain ⟨i, ei, h⟩ := Option.map_eq_some_iff.mp h
    exact .inr (.inl ⟨i, [], y, .inr h.symm, ey⟩)
  · cases h
theorem hds_ok (g : GX X W c Φ d) : ∀ (h : List ExceptHandler) (hs : List (Nat × Option Nat × Sx)), cHs c h = some hs → ∃ l, HdsOk X h l ∧ HdsR hs l := by
  intro h
  induction h with
  | nil =>
    intro hs e
    cases e
    exact ⟨[], .nil, trivial⟩
  | cons x r ih =>
    intro hs e
    unfold cHs at e
    split at e
    case h_1 z => cases z
    case h_3 => cases e
    rename_i y yp suite pos r' ee
    obtain ⟨rfl, rfl⟩ := List.cons.inj ee
    split at e
    case isFalse => cases e
    rename_i hc
    obtain ⟨hp, hg⟩ := hc
    obtain ⟨k, ek, e⟩ := Option.bind_eq_some_iff.mp e
    obtain ⟨sx, es, e⟩ := Option.bind_eq_some_iff.mp e
    obtain ⟨hs', eh, e⟩ := Option.map_eq_some_iff.mp e
    subst e
    obtain ⟨l, l1, l2⟩ := ih hs' eh
    obtain ⟨C, hC, hm⟩ := g.ec k y ek
    obtain ⟨b₀, sr, rfl, hsu⟩ := sx_ok g (nm := none) rfl es
    refine ⟨(.ref C, tSx sx none) :: l, .cons ⟨g.gl hg, plain1 hp, .inl hm⟩ (fun a oe cls d pn hz hf => hsu a oe cls d pn hz hf) l1, rfl, ⟨C, hC, rfl⟩, rfl, ?_, l2⟩
    rcases sx_con es with z | ⟨_, _, _, _, z⟩ | ⟨_, _, _, z⟩
    · exact z
    · cases z
    · cases z
theorem many_read {K : PySem.W.Frag} {φ : List Addr} {h h' : IH} {H : Hp} {σ : Sl} {τ : L2.St} {e : Ex} {C : Addr} {dd : Option Addr} {D : Ends} {fl : Fl} (cg : Caught K φ h H σ τ e C dd)
    (ex : ∀ k C', ClsTab.cl k = some C' → PySem.W.exmOne K (.ref C) (.ref C') = some (decide (k = 0 ∨ k = e.cls))) (out : (∀ ws, e.val = [] → ws = ([] : List V) → W (.ref C) dd τ H → W (.ref C) dd τ H)) :
    ∀ (hs : List (Nat × Option Nat × Sx)) (l : List (Value × (Addr → Value → Option Addr → TS))), HdsR hs l → hdI e σ h hs = .ok fl h' → (∀ H', Kp φ φ H H' → Rel K φ h' H' → ∀ σ1 τ1, fl = .nx σ1 → SR K φ H' σ1 τ1 → D.nx τ1 H') → (fl = .rs e σ → h' = h → W (.ref C) dd τ H) → wMany K W D l (.ref C) dd τ H
  | [], [], _, e1, _, o => by
    cases e1
    exact o rfl rfl
  | (k, n, sx) :: r, (c, ts) :: l, R, e1, q, o => by
    obtain ⟨rfl, ⟨C', hC', rfl⟩, rfl, hcon, R⟩ := R
    refine ⟨_, ex k C' hC', fun hb a ha => ?_, fun hb => ?_⟩
    · unfold hdI at e1
      rw [if_pos (of_decide_eq_true hb)] at e1
      split at e1
      case isFalse => cases e1
      split at e1
      · rename_i σ1 es
        cases e1
        obtain ⟨i, v, q0, hv⟩ := hcon
        exact sx_read cg (fun j z => nomatch z) (fun i cs z => by rw [hv.1] at z; rcases z with z | z <;> cases z) (.inl ⟨i, v, q0, hv⟩) es fun H' k1 r1 τ1 s1 => q H' k1 r1 σ1 τ1 rfl s1
      · cases e1
    · unfold hdI at e1
      rw [if_neg (of_decide_eq_false hb)] at e1
      exact many_read cg ex out r l R e1 q o
  | [], _ :: _, R, _, _, _ => R.elim
  | _ :: _, [], R, _, _, _ => R.elim
theorem GX.tr (g : GX X W c Φ d) {W' : WX} {pn : List (Addr × Obj)} {xe : Value → Shared → Prop} (tk : Takes (X.tr pn xe) W') : GX (X.tr pn xe) W' c Φ d where
  sc := g.sc
  kd := g.kd
  N := g.N
  nd := g.nd
  calm := g.calm
  room := g.room
  G := g.G
  T := g.T
  Z := g.Z
  fc := g.fc
  tk := tk
  bt := g.bt
  bn := g.bn
  fn := g.fn
  ec := g.ec
  ei := g.ei
  er := g.er
  ep := g.ep
  fa := g.fa
  fv := g.fv
  eb := fun k C hk hC => (g.eb k C hk hC).imp fun m h => ⟨h.1, ⟨h.2.T, h.2.fn⟩⟩
  lam := fun z => ⟨⟨(g.lam z).1.ex⟩, (g.lam z).2⟩
theorem tri_body {K : PySem.W.Frag} {W' : WX} {b : Sl → IH → Out Fl} {hs : List (Nat × Option Nat × Sx)} {D : Ends} {τ : L2.St} {H : Hp}
    (q : TSt K W (fun σ h => (b σ h).bind fun fl h1 => match fl with | .rs e σ1 => hdI e σ1 h1 hs | fl => .ok fl h1) D τ H)
    (k : ∀ φ H σ τ h e C dd fl h', Caught K φ h H σ τ e C dd → hdI e σ h hs = .ok fl h' → (∀ H', Kp φ φ H H' → Rel K φ h' H' → FlOk K W φ H' fl D) → (∀ ws, VRs K φ H e.val ws → (ws = [] → dd = none) → True) → (fl = .rs e σ → h' = h → W (.ref C) dd τ H) → W' (.ref C) dd τ H) : TSt K W' b D τ H := by
  obtain ⟨φ, σ, h, rl, sr, fl, h', e1, c⟩ := q
  obtain ⟨fl1, h1, f1, e1⟩ := bind_eq_ok e1
  refine ⟨φ, σ, h, rl, sr, fl1, h1, f1, fun φ1 H1 p1 k1 r1 => ?_⟩
  cases fl1 with
  | nx σ1 => cases e1; exact c φ1 H1 p1 k1 r1
  | ret v => cases e1; exact c φ1 H1 p1 k1 r1
  | bk σ1 => cases e1; exact c φ1 H1 p1 k1 r1
  | ct σ1 => cases e1; exact c φ1 H1 p1 k1 r1
  | rs e σ1 =>
    have e1 : hdI e σ1 h1 hs = .ok fl h' := e1
    intro τ1 s1 C ws hC qv
    have go : ∀ dd, (e.val = [] ∧ dd = none ∨ ∃ v w a, e.val = [v] ∧ VR K φ1 H1 v w ∧ dd = some a ∧ H1 a = some (.xd [("place", w)])) → (FlOk K W φ1 H1 (.rs e σ1) D → W (.ref C) dd τ1 H1) → W' (.ref C) dd τ1 H1 := fun dd vd ho =>
      k φ1 H1 σ1 τ1 h1 e C dd fl h' ⟨r1, s1, hC, vd⟩ e1 (fun H2 k2 r2 => c φ1 H2 p1 (k1.trans k2) r2) (fun _ _ _ => trivial) fun z1 z2 => by
        subst z1 z2
        exact ho (c φ1 H1 p1 k1 r1)
    have nil : ws = [] ↔ e.val = [] := by
      have l := qv.length
      constructor
      · intro z; rw [z] at l; exact List.eq_nil_of_length_eq_zero l
      · intro z; rw [z] at l; exact List.eq_nil_of_length_eq_zero l.symm
    refine ⟨fun z => go none (.inl ⟨nil.mp z, rfl⟩) fun f => (f τ1 s1 C ws hC qv).1 z, fun dd w z hx => go (some dd) (.inr ?_) fun f => (f τ1 s1 C ws hC qv).2 dd w z hx⟩
    subst z
    match hev : e.val, qv with
    | [], qv => rw [VRs] at qv; cases qv
    | v :: r, qv =>
      rw [VRs] at qv
      obtain ⟨w', r', ew, q1, q2⟩ := qv
      cases ew
      match r, q2 with
      | [], _ => exact ⟨v, w, dd, rfl, q1, rfl, hx⟩
      | x :: r, q2 => rw [VRs] at q2; obtain ⟨_, _, z, _⟩ := q2; cases z
theorem try_ok (g : GX X W c Φ d) (gs : GS X) {body : List Stmt} {b : Ss} {h : List ExceptHandler} {hs : List (Nat × Option Nat × Sx)} {pos : Pos} (hh : cTry c h = some hs)
    (hb : ∀ (W' : WX) (pn : List (Addr × Obj)) (xe : Value → Shared → Prop), Takes (X.tr pn xe) W' → PassesOwn (model X.prog X.w) X.A X.env xe → PSs (X.tr pn xe) body (TSt X.K W' (eSs Φ b))) :
    PS X (.Try body h [] [] pos) (TSt X.K W (eS Φ (.tri b hs))) := by
  unfold cTry at hh
  split at hh
  · rename_i x xp n suite hp
    split at hh
    case isFalse => cases hh
    rename_i hc
    obtain ⟨hp, hg, hl⟩ := hc
    obtain ⟨k, ek, hh⟩ := Option.bind_eq_some_iff.mp hh
    obtain ⟨i, ei, hh⟩ := Option.bind_eq_some_iff.mp hh
    obtain ⟨sx, es, hh⟩ := Option.map_eq_some_iff.mp hh
    subst hh
    obtain ⟨C', hC', hm⟩ := g.ec k x ek
    obtain ⟨b₀, sr, rfl, hsu⟩ := sx_ok g (nm := some i) (by rw [Option.bind_some]; exact ei.symm) es
    have hN : X.N[i]? = some n := by rw [g.N]; exact findIx_get ei
    have hnd : X.N.Nodup := by rw [g.N]; exact g.nd
    have hln : X.env.kindOf n = some .local := by show X.env.scope.names.lookup n = _; rw [g.sc]; exact hl
    rcases sx_con es with z0 | z0 | ⟨i2, _, rfl, _⟩
    case inr.inr =>
      refine PS.mono (ps_try_keep (tb := fun W' => TSt X.K W' (eSs Φ b)) gs.hs gs.hf gs.ex hnd hN hln ⟨g.gl hg, plain1 hp, .inl hm⟩ g.tk hb (fun a oe cls d pn hz hf => hsu a oe cls d pn hz hf)) fun D τ H q => ?_
      refine tri_body q fun φ H σ τ h e C dd fl h' cg e1 kfl _ ko => ?_
      refine ⟨_, (((g.ei e.cls C cg.hC).2.2 k C' hC').2), fun hbt a ha => ?_, fun hbf => ?_⟩
      · unfold hdI at e1
        rw [if_pos (of_decide_eq_true hbt)] at e1
        split at e1
        case isFalse => cases e1
        rename_i hil
        simp only at e1
        split at e1
        · rename_i σ1 esx
          cases e1
          rw [sxI] at esx
          cases esx
          have hi : i < τ.length := by
            rw [← cg.sr.1]
            simpa using hil
          refine ⟨i, rfl, List.getElem?_set_self hi, ?_⟩
          have kp : Kp φ φ H (upd H a (KpO (.ref C) dd a)) := Kp.newU ha
          have vr : VR X.K φ (upd H a (KpO (.ref C) dd a)) (.exc e.cls e.val) (.ref a) := by
            rw [VR]
            rcases cg.vd with ⟨z, hd⟩ | ⟨v, w, b, z, rv, hd, hb⟩
            · subst hd
              exact ⟨a, C, [], rfl, cg.hC, by rw [z, VRs], .inl ⟨rfl, by rw [upd_same]; rfl⟩⟩
            · subst hd
              refine ⟨a, C, [w], rfl, cg.hC, ?_, .inr ⟨b, w, rfl, by rw [upd_same]; rfl, by rw [upd_ne (ne_of_none hb ha)]; exact hb⟩⟩
              rw [z, VRs]
              exact ⟨w, [], rfl, rv.mono (.refl φ) kp, by rw [VRs]⟩
          have s1 := ((cg.sr.mono (.refl φ) kp).non i (some (.ref a))).set i2 vr
          exact (kfl _ kp (cg.rl.newU ha)).nx (s1.non i none)
        · cases e1
      · unfold hdI at e1
        rw [if_neg (of_decide_eq_false hbf)] at e1
        cases e1
        exact ko rfl rfl
    all_goals
    refine PS.mono (ps_try_as (tb := fun W' => TSt X.K W' (eSs Φ b)) gs.hs gs.hf hnd hN hln ⟨g.gl hg, plain1 hp, .inl hm⟩ g.tk hb (fun a oe cls d pn hz hf => hsu a oe cls d pn hz hf)) fun D τ H q => ?_
    refine tri_body q fun φ H σ τ h e C dd fl h' cg e1 kfl _ ko => ?_
    have exk := (((g.ei e.cls C cg.hC).2.2 k C' hC').2)
    refine ⟨_, exk, fun hbt a ha => ?_, fun hbf => ?_⟩
    · unfold hdI at e1
      rw [if_pos (of_decide_eq_true hbt)] at e1
      split at e1
      case isFalse => cases e1
      rename_i hil
      simp only at e1
      split at e1
      · rename_i σ1 esx
        cases e1
        have cg' : Caught X.K φ h H (σ.set i none) (τ.set i (some (.ref a))) e C dd := ⟨cg.rl, cg.sr.non i _, cg.hC, cg.vd⟩
        have hi : i < τ.length := by
          rw [← cg.sr.1]
          simpa using hil
        refine sx_read cg' (fun j z => by cases z; exact List.getElem?_set_self hi) (fun i2 cs z => ?_) ?_ esx fun H' k1 r1 τ1 s1 => ?_
        · exact ⟨i, rfl⟩
        · first
            | exact .inl z0
            | (obtain ⟨i2, cs, y, z, _⟩ := z0; rcases z with z | z; exact .inr (.inl ⟨i2, cs, z⟩); exact .inr (.inr ⟨i2, z⟩))
        · exact (kfl H' k1 r1).nx (s1.non i none)
      · cases e1
    · unfold hdI at e1
      rw [if_neg (of_decide_eq_false hbf)] at e1
      cases e1
      exact ko rfl rfl
  · split at hh
    · cases hh
    rename_i hne
    obtain ⟨l, l1, l2⟩ := hds_ok g h hs hh
    cases h with
    | nil => exact absurd rfl hne
    | cons h0 hr =>
      refine PS.mono (ps_try_many (tb := fun W' => TSt X.K W' (eSs Φ b)) gs.hs gs.hf g.tk hb l1) fun D τ H q => ?_
      refine tri_body q fun φ H σ τ h e C dd fl h' cg e1 kfl _ ko => ?_
      exact many_read cg (fun k C' hC' => ((g.ei e.cls C cg.hC).2.2 k C' hC').2) (fun _ _ _ z => z) hs l l2 e1 (fun H' k1 r1 σ1 τ1 z s1 => by subst z; exact (kfl H' k1 r1).nx s1) ko

theorem s_ok : ∀ (n : Nat) (X : Cx) (W : WX) (g : GX X W c Φ d) (gs : GS X), (∀ st s', cS c n st = some s' → PS X st (TSt X.K W (eS Φ s'))) ∧ ∀ sts s', cSs c n sts = some s' → PSs X sts (TSt X.K W (eSs Φ s')) := by
  intro n
  induction n with
  | zero => exact fun X W g gs => ⟨fun st s' h => (by cases h), fun sts s' h => (by cases h)⟩
  | succ n ih0 =>
    intro X W g gs
    have ih := ih0 X W g gs
    refine ⟨fun st s' h => ?_, fun sts s' h => ?_⟩
    · unfold cS at h
      split at h
      · cases h
        refine PS.mono ps_pass fun D τ H q => ?_
        obtain ⟨φ, σ, h, rl, sr, so⟩ := q
        exact (SOut.here (fl := .nx σ) so rl).nx sr
      · cases h
        refine PS.mono ps_break fun D τ H q => ?_
        obtain ⟨φ, σ, h, rl, sr, so⟩ := q
        exact SOut.here (fl := .bk σ) so rl τ sr
      · cases h
        refine PS.mono ps_continue fun D τ H q => ?_
        obtain ⟨φ, σ, h, rl, sr, so⟩ := q
        exact SOut.here (fl := .ct σ) so rl τ sr
      · unfold cRaise at h
        split at h
        · -- raise
          have never : ∀ {e : Option Expr} {e2 : Option Expr} {pos : Pos}, PS X (.Raise e e2 pos) (TSt X.K W (eS Φ .never)) := fun {e e2 pos} => by
            refine PS.mono ps_never fun D τ H q => ?_
            obtain ⟨φ, σ, h, rl, sr, so⟩ := q
            exact so.elim.elim
          split at h
          · rename_i hc
            split at h
            · rename_i k ek
              split at h
              · cases h; exact never
              · rename_i hi
                cases h
                exact raise_ok g hc.1 hc.2 ek hi
            · cases h; exact never
          · cases h
        · -- raise, with a field
          have never : ∀ {e : Option Expr} {e2 : Option Expr} {pos : Pos}, PS X (.Raise e e2 pos) (TSt X.K W (eS Φ .never)) := fun {e e2 pos} => by
            refine PS.mono ps_never fun D τ H q => ?_
            obtain ⟨φ, σ, h, rl, sr, so⟩ := q
            exact so.elim.elim
          split at h
          · rename_i hc
            split at h
            · rename_i k ek
              split at h
              · rename_i hi
                split at h
                · cases h
                · rename_i hst
                  obtain ⟨e', e1, h⟩ := Option.map_eq_some_iff.mp h
                  subst h
                  exact raise1_ok g hc.1 hc.2 ek hi (by simpa using hst) e1
              · cases h; exact never
            · cases h; exact never
          · cases h
        · cases h
          refine PS.mono ps_never fun D τ H q => ?_
          obtain ⟨φ, σ, h, rl, sr, so⟩ := q
          exact so.elim.elim
      · cases h
        refine PS.mono ps_never fun D τ H q => ?_
        obtain ⟨φ, σ, h, rl, sr, so⟩ := q
        exact so.elim.elim
      · -- an expression
        rename_i e p
        split at h
        · cases h
        · rename_i hc
          obtain ⟨e', e1, h⟩ := Option.map_eq_some_iff.mp h
          subst h
          refine PS.mono (ps_expr (cV_ok g e1).1 (sw_no (by simpa using hc))) fun D τ H q => ?_
          obtain ⟨φ, σ, h, rl, sr, so⟩ := q
          exact TI.seq rl sr (SOut.bind (x := eE Φ e' σ h) sr (show SOut X.K W φ H D (bindS σ (eE Φ e' σ h) _) from so)) fun φ1 H1 h1 v w p1 k1 r1 s1 q1 so => (SOut.here (fl := .nx σ) so r1).nx s1
      · rename_i e p
        obtain ⟨e', e1, h⟩ := Option.map_eq_some_iff.mp h
        subst h
        have pe : PE X e (TI X.K W (eE Φ e')) := by
          split at e1
          · exact cR_ok g e1
          · exact (e_ok FU X W c Φ d g e e' e1).1
        refine PS.mono (ps_ret pe) fun D τ H q => ?_
        obtain ⟨φ, σ, h, rl, sr, so⟩ := q
        exact TI.seq rl sr (SOut.bind (x := eE Φ e' σ h) sr (show SOut X.K W φ H D (bindS σ (eE Φ e' σ h) _) from so)) fun φ1 H1 h1 v w p1 k1 r1 s1 q1 so => SOut.here (fl := .ret v) so r1 w q1
      · cases h
        refine PS.mono ps_retN fun D τ H q => ?_
        obtain ⟨φ, σ, h, rl, sr, so⟩ := q
        exact SOut.here (fl := .ret .non) so rl .non (by rw [VR])
      · unfold cAsg at h
        split at h
        · -- name = value
          split at h
          · rename_i hs
            obtain ⟨i, e1, h⟩ := Option.bind_eq_some_iff.mp h
            obtain ⟨v', e2, h⟩ := Option.map_eq_some_iff.mp h
            subst h
            exact set_ok g hs e1 e2
          · cases h
        · split at h
          · rename_i hx
            obtain ⟨o', e1, h⟩ := Option.bind_eq_some_iff.mp h
            obtain ⟨i', e2, h⟩ := Option.bind_eq_some_iff.mp h
            obtain ⟨v', e3, h⟩ := Option.map_eq_some_iff.mp h
            subst h
            exact sub_ok g hx e1 e2 e3
          · cases h
        · split at h
          · rename_i hp
            obtain ⟨i, e1, h⟩ := Option.bind_eq_some_iff.mp h
            obtain ⟨j, e2, h⟩ := Option.bind_eq_some_iff.mp h
            obtain ⟨a', e3, h⟩ := Option.bind_eq_some_iff.mp h
            obtain ⟨b', e4, h⟩ := Option.map_eq_some_iff.mp h
            subst h
            exact par_ok g (kp2 := default) hp e1 e2 e3 e4
          · split at h
            · rename_i hc
              obtain ⟨tg, e1, h⟩ := Option.bind_eq_some_iff.mp h
              obtain ⟨v', e2, h⟩ := Option.map_eq_some_iff.mp h
              subst h
              exact asgW_ok g (sws_cell g hc) e1 e2
            · cases h
        · split at h
          · rename_i hx
            obtain ⟨o', e1, h⟩ := Option.bind_eq_some_iff.mp h
            obtain ⟨i', e2, h⟩ := Option.bind_eq_some_iff.mp h
            obtain ⟨q', e3, h⟩ := Option.bind_eq_some_iff.mp h
            obtain ⟨j', e4, h⟩ := Option.bind_eq_some_iff.mp h
            obtain ⟨v', e5, h⟩ := Option.map_eq_some_iff.mp h
            subst h
            obtain ⟨hx1, hx2⟩ := Bool.and_eq_true_iff.mp hx
            exact swp_ok g hx1 hx2 e1 e2 e3 e4 e5
          · cases h
        · split at h
          · cases h
          · rename_i ht
            obtain ⟨tg, e1, h⟩ := Option.bind_eq_some_iff.mp h
            obtain ⟨v', e2, h⟩ := Option.map_eq_some_iff.mp h
            subst h
            exact asgT_ok g (by simpa using ht) e1 e2
        · cases h
      · split at h
        · rename_i hx
          obtain ⟨o', e1, h⟩ := Option.bind_eq_some_iff.mp h
          obtain ⟨i', e2, h⟩ := Option.bind_eq_some_iff.mp h
          obtain ⟨v', e3, h⟩ := Option.map_eq_some_iff.mp h
          subst h
          exact aug_ok g hx e1 e2 e3
        · cases h
      · split at h
        · rename_i t a b p ht
          obtain ⟨t', e1, h⟩ := Option.bind_eq_some_iff.mp h
          obtain ⟨a', e2, h⟩ := Option.bind_eq_some_iff.mp h
          obtain ⟨b', e3, h⟩ := Option.map_eq_some_iff.mp h
          subst h
          refine PS.mono (ps_if ((cV_ok g e1).2 ht) (ih.2 a a' e2) (ih.2 b b' e3)) fun D τ H q => ?_
          obtain ⟨φ, σ, h, rl, sr, so⟩ := q
          refine TT'.seq rl sr (SOut.bind (x := tst (eE Φ t' σ h)) sr (show SOut X.K W φ H D (bindS σ (tst (eE Φ t' σ h)) _) from so)) fun φ1 H1 h1 z p1 k1 r1 s1 so => ?_
          cases z with
          | true =>
            rw [if_pos rfl] at so ⊢
            exact ⟨φ1, σ, h1, r1, s1, so⟩
          | false =>
            rw [if_neg Bool.false_ne_true] at so ⊢
            exact ⟨φ1, σ, h1, r1, s1, so⟩
        · cases h
      · split at h
        · rename_i t b p ht
          obtain ⟨t', e1, h⟩ := Option.bind_eq_some_iff.mp h
          obtain ⟨b', e2, h⟩ := Option.map_eq_some_iff.mp h
          subst h
          exact PS.mono (ps_while gs.pw ((cV_ok g e1).2 ht) (ih.2 b b' e2)) whl_read
        · cases h
      · split at h
        · cases h
        · rename_i tg it b p hset
          obtain ⟨tg', e1, h⟩ := Option.bind_eq_some_iff.mp h
          obtain ⟨it', e2, h⟩ := Option.bind_eq_some_iff.mp h
          obtain ⟨b', e3, h⟩ := Option.map_eq_some_iff.mp h
          subst h
          exact PS.mono (ps_for gs.pw g.calm (it_ok g (cV_fok g) e2) (tg_ok g 4 tg tg' e1) (ih.2 b b' e3) (isSet_folded (by simpa using hset))) for_read
      · -- try
        obtain ⟨hs', e1, h⟩ := Option.bind_eq_some_iff.mp h
        obtain ⟨b', e2, h⟩ := Option.map_eq_some_iff.mp h
        subst h
        exact try_ok g gs e1 fun W' pn xe tk pw => (ih0 (X.tr pn xe) W' (g.tr tk) ⟨pw, gs.hs, gs.hf, gs.ex⟩).2 _ b' e2
      · cases h
    · unfold cSs at h
      split at h
      · cases h
        refine PSs.mono pss_nil fun D τ H q => ?_
        obtain ⟨φ, σ, h, rl, sr, so⟩ := q
        exact (SOut.here (fl := .nx σ) so rl).nx sr
      · rename_i st r
        obtain ⟨s1, e1, h⟩ := Option.bind_eq_some_iff.mp h
        obtain ⟨r1, e2, h⟩ := Option.map_eq_some_iff.mp h
        subst h
        refine PSs.mono (pss_cons (ih.1 _ s1 e1) (ih.2 _ r1 e2)) fun D τ H q => ?_
        obtain ⟨φ, σ, h, rl, sr, fl, h', e, k⟩ := q
        obtain ⟨fl1, h1, f1, e⟩ := bind_eq_ok (show (eS Φ s1 σ h).bind _ = Out.ok fl h' from e)
        refine ⟨φ, σ, h, rl, sr, fl1, h1, f1, fun φ1 H1 p1 k1 rr1 => ?_⟩
        cases fl1 with
        | nx σ1 => exact fun τ1 s1 => ⟨φ1, σ1, h1, rr1, s1, fl, h', e, fun φ2 H2 p2 k2 r2 => k φ2 H2 (p1.trans p2) (k1.trans k2) r2⟩
        | ret v => cases e; exact k φ1 H1 p1 k1 rr1
        | bk σ1 => cases e; exact k φ1 H1 p1 k1 rr1
        | ct σ1 => cases e; exact k φ1 H1 p1 k1 rr1
        | rs ee σ1 => cases e; exact k φ1 H1 p1 k1 rr1
end
end Pi
end

section
set_option maxHeartbeats 8000000
namespace Pi
open PySem PySem.Spec PyProof.Rows L2

structure Ent where
  x : Str
  st : Stmt
  N : List Str
  ps : List Str
  kw : List (Nat × List Str × List Nat) := []
  id : Nat := 0
  raw : List Str := []
  lam : Bool := false
def kwsOf : Nat → List Ent → List (Nat × Nat × List Str × List Nat)
  | _, [] => []
  | i, e :: r => e.kw.map (fun q => (i, q.1, q.2.1, q.2.2)) ++ kwsOf (i + 1) r
theorem kwsOf_mem {j m : Nat} {ks : List Str} {perm : List Nat} : ∀ {r : List Ent} {i : Nat}, (j, m, ks, perm) ∈ kwsOf i r → ∃ e, i ≤ j ∧ r[j - i]? = some e ∧ (m, ks, perm) ∈ e.kw
  | [], i, h => by cases h
  | e :: r, i, h => by
    unfold kwsOf at h
    rcases List.mem_append.mp h with h | h
    · obtain ⟨⟨m', ks', perm'⟩, hq, e2⟩ := List.mem_map.mp h
      simp only [Prod.mk.injEq] at e2
      obtain ⟨rfl, rfl, rfl, rfl⟩ := e2
      exact ⟨e, Nat.le_refl _, by simp, hq⟩
    · obtain ⟨e', h1, h2, h3⟩ := kwsOf_mem h
      refine ⟨e', by omega, ?_, h3⟩
      have : j - i = (j - (i + 1)) + 1 := by omega
      rw [this]; simpa using h2
structure Prg where
  ents : List Ent
  G : List (Str × Int)
  T : List (Str × List Int)
  cls : List (Str × Nat) := []
  clsI : List Nat := []
  Z : List (Str × Str) := []
def Ent.cs (e : Ent) (p : Prg) : Cs :=
  { sc := (defScope e.st).names, st := ((defScope e.st).names.filter fun y => decide (y.2 = .cell)).map (·.1), N := e.N, G := p.G, T := p.T, Z := p.Z, fns := p.ents.map (·.x), kw := kwsOf 0 p.ents, ids := p.ents.map (·.id), cls := p.cls, clsI := p.clsI, raw := e.raw, lam := e.lam }
def Ent.df (e : Ent) (p : Prg) : Option Df := (cSs (e.cs p) 60 (defBody e.st)).map fun b => ⟨e.ps.length, e.N.length, b⟩
def Ent.chk (e : Ent) : Bool :=
  decide ((defScope e.st).kind = .function) && !(defScope e.st).isCoroutine && !(defScope e.st).isGenerator && decide e.N.Nodup && decide (e.N.take e.ps.length = e.ps) &&
  e.ps.all (fun x => decide ((defScope e.st).names.lookup x = some .local) || decide ((defScope e.st).names.lookup x = some .cell)) && (defScope e.st).names.all (fun y => decide (y.2 ≠ .free)) && decide (e.ps.length ≤ e.N.length)
theorem Ent.scope {e : Ent} (h : e.chk = true) : FnScope e.N e.ps (defScope e.st) := by
  unfold Ent.chk at h
  simp only [Bool.and_eq_true, decide_eq_true_eq, Bool.not_eq_true', List.all_eq_true, Bool.or_eq_true] at h
  obtain ⟨⟨⟨⟨⟨⟨⟨h1, h2⟩, h3⟩, h4⟩, h5⟩, h6⟩, h7⟩, h8⟩ := h
  exact ⟨h1, h2, h3, h4, h5, fun x m => h6 x m, fun y m => h7 y m⟩
structure Fact (K : PySem.W.Frag) (e : Ent) (a : Addr) (fd : FuncData) : Prop where
  ns : PySem.W.nsIn K mainGlobals e.x = some (some (.ref a))
  fn : Fun K e.x e.x e.st a fd
  bd : ∀ us : List Value, us.length = e.ps.length → bindArgs fd ⟨us, []⟩ = pure (e.ps.zip us)
  kb : ∀ q ∈ e.kw, q.1 + q.2.1.length = q.2.2.length ∧ e.ps ≠ [] ∧ ∀ us ws : List Value, us.length = q.1 → ws.length = q.2.1.length → bindArgs fd ⟨us, q.2.1.zip ws⟩ = pure (e.ps.zip (arr q.2.2 (us ++ ws)))
def Has (K : PySem.W.Frag) (e : Ent) : Prop := ∃ a fd, Fact K e a fd
theorem has_mk {K : PySem.W.Frag} {e : Ent} {f : Addr} {oc : Value} {od an : Option Addr} {osl : Array (Option Value)} {kV doc pm cdv ct : Value} (a : PySem.W.nsIn K mainGlobals e.x = some (some (.ref f)))
    (l : K.lookup f = some ⟨oc, od, .func (PySem.W.fnOf e.x e.x (defArgs e.st) (defBody e.st) (defScope e.st) .none kV doc pm an cdv ct), osl⟩) (c : PySem.W.codeIn K cdv e.x = true) (k : PySem.W.keepIn K (.ref f) = true)
    (h : ∀ (kV doc pm : Value) (an : Option Addr) (cdv ct : Value) (us : List Value), us.length = e.ps.length → bindArgs (PySem.W.fnOf e.x e.x (defArgs e.st) (defBody e.st) (defScope e.st) .none kV doc pm an cdv ct) ⟨us, []⟩ = pure (e.ps.zip us))
    (hw : ∀ q ∈ e.kw, q.1 + q.2.1.length = q.2.2.length ∧ e.ps ≠ [] ∧ ∀ (kV doc pm : Value) (an : Option Addr) (cdv ct : Value) (us ws : List Value), us.length = q.1 → ws.length = q.2.1.length →
      bindArgs (PySem.W.fnOf e.x e.x (defArgs e.st) (defBody e.st) (defScope e.st) .none kV doc pm an cdv ct) ⟨us, q.2.1.zip ws⟩ = pure (e.ps.zip (arr q.2.2 (us ++ ws)))) : Has K e :=
  ⟨f, _, a, fun_mk l c k, fun us hl => h kV doc pm an cdv ct us hl, fun q hq => ⟨(hw q hq).1, (hw q hq).2.1, fun us ws => (hw q hq).2.2 kV doc pm an cdv ct us ws⟩⟩
theorem w_nil {α : Type} {P : α → Prop} : ∀ q ∈ ([] : List α), P q := fun _ m => nomatch m
section
variable {P : Program} {w : World} {K : PySem.W.Frag} {mg : Str → Option Value} {base : Heap}
theorem vals_arr {vs : List V} {us : List Value} (r : Vals vs us) : ∀ perm : List Nat, Vals (arr perm vs) (arr perm us)
  | [] => .nil
  | i :: perm => by
    have ih := vals_arr r perm
    unfold arr at ih ⊢
    cases e : vs[i]? with
    | none =>
      have e2 : us[i]? = none := by
        rw [List.getElem?_eq_none_iff] at e ⊢
        rw [← r.length]; exact e
      rw [List.filterMap_cons_none e, List.filterMap_cons_none e2]
      exact ih
    | some x =>
      obtain ⟨v, e2, q⟩ := r.get e
      rw [List.filterMap_cons_some e, List.filterMap_cons_some e2]
      exact .cons q ih
variable [ClsTab]
theorem sr_start {φ : List Addr} {H : Hp} {N : List Str} {ivs : List IV} {vs : List V} {n : Nat} (q : VRs K φ H ivs vs) (hn : ivs.length = n) : SR K φ H (ivs.map some ++ List.replicate (N.length - n) none) (L2.start N vs) := by
  have l := q.length
  unfold L2.start
  refine ⟨by simp [l, ← hn], fun i x e => ?_⟩
  by_cases hi : i < ivs.length
  · rw [List.getElem?_append_left (by simpa using hi), List.getElem?_map] at e
    rw [List.getElem?_append_left (by simpa [← l] using hi), List.getElem?_map]
    cases e2 : ivs[i]? with
    | none => rw [e2] at e; cases e
    | some y =>
      rw [e2] at e
      have e' : y = x := Option.some.inj (Option.some.inj e)
      subst e'
      obtain ⟨v, ev, r⟩ := q.get e2
      exact ⟨v, by rw [ev]; rfl, r⟩
  · rw [List.getElem?_append_right (by simpa using Nat.le_of_not_lt hi), List.getElem?_replicate] at e
    split at e <;> cases e

theorem PSs.lock2 {X : Cx} {sts : List Stmt} {t : TS} (p : PSs X sts t) : PSs X sts (fun D σ H => t { D with nx := LkS D.nx, rt := Lk D.rt } σ H) := by
  refine ⟨fun pins s σ H D I h => ?_⟩
  refine thn (p.run pins s σ H _ I h) fun f s1 q => ?_
  cases f with
  | next =>
    obtain ⟨τ', H', I', S, q⟩ := q
    obtain ⟨H2, l, I2⟩ := inv_lock S I'
    exact ⟨τ', H2, I2, q H2 l⟩
  | brk => exact q
  | cont => exact q
  | ret u =>
    obtain ⟨v, σ', H', I', r, S, q⟩ := q
    obtain ⟨H2, l, I2⟩ := inv_lock S I'
    exact ⟨v, σ', H2, I2, r, q H2 l⟩
structure ErF (K : PySem.W.Frag) (mg : Str → Option Value) (cls : List (Str × Nat)) (clsI : List Nat) : Prop where
  ec : ∀ (k : Nat) (x : Str), (x, k) ∈ cls → ∃ C, mg x = some (.ref C)
  ei : ∀ (d : Nat) (x : Str) (D : Addr), (x, d) ∈ cls → mg x = some (.ref D) → ExcC K D ∧ PySem.W.kitOne K (.ref D) (.type "ValueError") = some true ∧ ∀ k y C, (y, k) ∈ cls → mg y = some (.ref C) → PySem.W.kitOne K (.ref D) (.ref C) = some (decide (k = 0 ∨ k = d)) ∧ PySem.W.exmOne K (.ref D) (.ref C) = some (decide (k = 0 ∨ k = d))
  er : ∀ (k : Nat) (x : Str) (C : Addr), k ∉ clsI → (x, k) ∈ cls → mg x = some (.ref C) → PySem.W.excIn K C [.type "ValueError", .type "Exception", .type "BaseException", .type "object"] "ValueError.__new__" = true ∧ PySem.W.keepIn K (.ref C) = true ∧ PySem.W.subIn K (.ref C) (.type "BaseException") = some true ∧ PySem.W.typeIn K (.ref C) = some (.type "type")
  ep : ∀ (d : Nat) (x : Str) (D : Addr), (x, d) ∈ cls → mg x = some (.ref D) → PySem.W.findIn K (.ref D) "place" = some none
  eb : ∀ (k : Nat) (x : Str) (C : Addr), k ∈ clsI → (x, k) ∈ cls → mg x = some (.ref C) → InitK K mg C
def clsAt (mg : Str → Option Value) (k : Nat) : List (Str × Nat) → Option Addr
  | [] => none
  | (x, j) :: r => if j = k then (match mg x with
    | some (.ref C) => some C
    | _ => none) else clsAt mg k r
theorem clsAt_ok {mg : Str → Option Value} {k : Nat} {C : Addr} : ∀ {cls : List (Str × Nat)}, clsAt mg k cls = some C → ∃ x, (x, k) ∈ cls ∧ mg x = some (.ref C)
  | [], h => by cases h
  | (x, j) :: r, h => by
    unfold clsAt at h
    split at h
    · rename_i e
      subst e
      split at h
      · rename_i C' e2
        cases h
        exact ⟨x, List.mem_cons_self, e2⟩
      · cases h
    · obtain ⟨y, h1, h2⟩ := clsAt_ok h
      exact ⟨y, List.mem_cons_of_mem _ h1, h2⟩
theorem clsAt_of {mg : Str → Option Value} {k : Nat} {x : Str} {C : Addr} (m : mg x = some (.ref C)) : ∀ {cls : List (Str × Nat)}, (cls.map (·.2)).Nodup → (x, k) ∈ cls → clsAt mg k cls = some C
  | [], _, h => by cases h
  | (y, j) :: r, nd, h => by
    rw [List.map_cons, List.nodup_cons] at nd
    unfold clsAt
    rcases List.mem_cons.mp h with e | h
    · cases e
      rw [if_pos rfl]
      simp only [m]
    · have : j ≠ k := fun z => nd.1 (z ▸ List.mem_map.mpr ⟨_, h, rfl⟩)
      rw [if_neg this]
      exact clsAt_of m nd.2 h
theorem look_mem {x : Str} {k : Nat} : ∀ {cls : List (Str × Nat)}, cls.lookup x = some k → (x, k) ∈ cls
  | [], h => by cases h
  | (y, j) :: r, h => by
    rw [List.lookup_cons] at h
    split at h
    · rename_i b
      have e : x = y := by simpa using b
      cases h
      rw [e]; exact List.mem_cons_self
    · exact List.mem_cons_of_mem _ (look_mem h)

def faAt (mg : Str → Option Value) (ents : List Ent) (id : Nat) : Option Addr := (idIx (ents.map (·.id)) id).bind fun i => (ents[i]?).bind fun e => match mg e.x with
  | some (.ref a) => some a
  | _ => none
theorem idIx_ok {ids : List Nat} {id i : Nat} (h : idIx ids id = some i) : ids[i]? = some id := by
  unfold idIx at h
  obtain ⟨hl, h1, _⟩ := List.findIdx?_eq_some_iff_getElem.mp h
  rw [List.getElem?_eq_getElem hl, of_decide_eq_true h1]
theorem faAt_ok {mg : Str → Option Value} {ents : List Ent} {id : Nat} {a : Addr} (h : faAt mg ents id = some a) : ∃ (i : Nat) (e : Ent), ents[i]? = some e ∧ e.id = id ∧ mg e.x = some (.ref a) := by
  unfold faAt at h
  obtain ⟨i, e1, h⟩ := Option.bind_eq_some_iff.mp h
  obtain ⟨e, e2, h⟩ := Option.bind_eq_some_iff.mp h
  split at h
  · rename_i b e3
    cases h
    have := idIx_ok e1
    rw [List.getElem?_map, e2] at this
    exact ⟨i, e, e2, Option.some.inj this, e3⟩
  · cases h
theorem fun_okc {x qual : Str} {st : Stmt} {f : Addr} {fd : FuncData} {N ps : List Str} {k : Nat} {sp : Sp} (F : Fun K x qual st f fd) (S : FnScope N ps (defScope st)) (len : ∀ vs H Q E, sp vs H Q E → vs.length = ps.length)
    (hbody : ∀ (A : Around) (outer : List Env) (s : Shared) (H : Hp) (vs : List V) (Q : VK) (E : XK), Room k (A.deeper (envOfC qual (defScope st) s.heap.objs.size f fd.code)) → sp vs H Q E →
      ∃ t, PSs (cxOf (L2.CX P w) P w K mg base N qual (defScope st) f fd.code A outer s H E) (defBody st) t ∧ t { nx := fun _ H' => Q .non H', rt := Q } (start N vs) H) : FnOk P w K mg base (L2.CX P w) (k + 1) f fd ps sp := by
  obtain ⟨oc, od, kV, doc, pm, an, cdv, ct, osl, rfl, lk, hcd⟩ := F.ex
  exact fn_of lk hcd S len fun A outer s H vs Q E hr hsp => hbody A outer s H vs Q E hr hsp
theorem PSs.pre {X : Cx} {sts : List Stmt} {t : TS} (p : PSs X sts t) : PSs X sts (fun D σ H => ∃ S, ∀ H', LockOf S H H' → t D σ H') := by
  refine ⟨fun pins s σ H D I h => ?_⟩
  obtain ⟨S, h⟩ := h
  obtain ⟨H', l, I'⟩ := inv_lock S I
  exact p.run pins s σ H' D I' (h H' l)
theorem LockOf.any : ∀ (S : List Addr) (H : Hp), ∃ H', LockOf S H H'
  | [], H => ⟨H, .nil⟩
  | a :: S, H => by
    by_cases h : ∃ vs, H a = some (.lst vs)
    · obtain ⟨vs, e⟩ := h
      obtain ⟨H', l⟩ := LockOf.any S (upd H a (.frz { cls := .none, data := .plain } (.lst vs)))
      exact ⟨H', .lock e l⟩
    · obtain ⟨H', l⟩ := LockOf.any S H
      exact ⟨H', .skip (fun vs e => h ⟨vs, e⟩) l⟩
def spL (sp : Sp) : Sp := fun vs H Q E => ∃ S, ∀ H', LockOf S H H' → sp vs H' Q E
def LamOk (K : PySem.W.Frag) (base : Heap) (mg : Str → Option Value) (e : Ent) : Prop := ∀ a fd, Fact K e a fd → ∃ c P, LamX.TabB base mg c P ∧ fd.code = .ref c ∧ (P, e.x ++ ".<locals>." ++ "<lambda>") ∈ ClsTab.tb ∧ ∀ p ∈ ClsTab.tb, p.1 = P → p.2 = e.x ++ ".<locals>." ++ "<lambda>"
theorem prog_ok {p : Prg} {dfs : List (Nat × Df)}
    (hd : p.ents.map (fun e => (e.id, e.df p)) = dfs.map fun q => (q.1, some q.2)) (hP : ∀ q ∈ dfs, tabOf dfs q.1 = some q.2 ∧ q.1 < RAW) (hc : p.ents.all Ent.chk = true) (KX : K.In base) (N : base.Ns mainGlobals mg)
    (hG : ∀ x i, p.G.lookup x = some i → ∃ t, mg x = some (.int i t)) (hT : ∀ x xs, p.T.lookup x = some xs → ∃ a, mg x = some (.ref a) ∧ ∀ H, SqT K H a (xs.map V.int))
    (hZ : ∀ x z, p.Z.lookup x = some z → ∃ t, mg x = some (.str z t)) (hbt : ∀ b : Bt, mg b.name = none) (hbn : ∀ x ∈ others, mg x = none) (hh : ∀ e ∈ p.ents, Has K e) (hE : ErF K mg p.cls p.clsI) (hcl : ∀ k, ClsTab.cl k = clsAt mg k p.cls) (hfa : ∀ id, ClsTab.fa id = faAt mg p.ents id) (hcn : (p.cls.map (·.2)).Nodup) (hlam : ∀ e ∈ p.ents, e.lam = true → LamOk K base mg e) :
    ∀ (d i : Nat) (e : Ent) (a : Addr) (fd : FuncData), p.ents[i]? = some e → Fact K e a fd → FnOk P w K mg base (L2.CX P w) (d + 2) a fd e.ps (spI K (callF (tabOf dfs) d e.id)) ∧ FnOk P w K mg base (L2.CX P w) (d + 2) a fd e.ps (spI K (callF (tabOf dfs) d (e.id + RAW))) ∧ FnOk P w K mg base (L2.CX P w) (d + 2) a fd e.ps (spL (spI K (callF (tabOf dfs) d e.id))) := by
  intro d
  induction d with
  | zero =>
    intro i e a fd hi F
    have no : ∀ {j vs H Q E}, spI K (callF (tabOf dfs) 0 j) vs H Q E → False := fun {j vs H Q E} h => by
      obtain ⟨_, _, _, _, _, z⟩ := h
      exact z
    have no2 : ∀ {j vs H Q E}, spL (spI K (callF (tabOf dfs) 0 j)) vs H Q E → False := fun {j vs H Q E} h => by
      obtain ⟨S, h⟩ := h
      obtain ⟨H', l⟩ := LockOf.any S H
      exact no (h H' l)
    exact ⟨⟨fun vs H Q E h => (no h).elim, fun A outer s H args us vs Q E hr e0 hb r h => (no h).elim⟩, ⟨fun vs H Q E h => (no h).elim, fun A outer s H args us vs Q E hr e0 hb r h => (no h).elim⟩, ⟨fun vs H Q E h => (no2 h).elim, fun A outer s H args us vs Q E hr e0 hb r h => (no2 h).elim⟩⟩
  | succ d ih =>
    intro i e a fd hi F
    have hce : e.chk = true := List.all_eq_true.mp hc e (List.mem_of_getElem? hi)
    have hdi : (dfs.map fun q => (q.1, some q.2))[i]? = some (e.id, e.df p) := by
      rw [← hd, List.getElem?_map, hi]; rfl
    rw [List.getElem?_map] at hdi
    obtain ⟨⟨id0, df⟩, h1, h2⟩ := Option.map_eq_some_iff.mp hdi
    simp only [Prod.mk.injEq] at h2
    obtain ⟨h2a, h2⟩ := h2
    subst h2a
    obtain ⟨ht, hraw⟩ := hP _ (List.mem_of_getElem? h1)
    simp only at ht hraw
    unfold Ent.df at h2
    obtain ⟨b, h3, h4⟩ := Option.map_eq_some_iff.mp h2.symm
    subst h4
    let Φ := callF (tabOf dfs) d
    have body : ∀ (A : Around) (outer : List Env) (s : Shared) (H : Hp) (vs : List V) (Q : VK) (E : XK), Room (d + 2) (A.deeper (envOfC e.x (defScope e.st) s.heap.objs.size a fd.code)) →
        PSs (cxOf (L2.CX P w) P w K mg base e.N e.x (defScope e.st) a fd.code A outer s H E) (defBody e.st) (TSt K (fun cls d _ H => E cls d H) (eSs Φ b)) := fun A outer s H vs Q E hr => by
      have g : GX (cxOf (L2.CX P w) P w K mg base e.N e.x (defScope e.st) a fd.code A outer s H E) (fun cls d _ H => E cls d H) (e.cs p) Φ (d + 2) := {
        sc := rfl
        kd := (Ent.scope hce).kind
        N := rfl
        nd := (Ent.scope hce).nd
        calm := rfl
        room := hr
        G := hG
        T := hT
        Z := hZ
        fc := fun _ _ => rfl
        tk := takes_of rfl rfl rfl rfl
        bt := hbt
        bn := hbn
        ec := fun k x hx => by
          have hx := look_mem hx
          obtain ⟨C, hm⟩ := hE.ec k x hx
          exact ⟨C, (hcl k).trans (clsAt_of hm hcn hx), hm⟩
        ei := fun d D hD => by
          rw [hcl] at hD
          obtain ⟨x, hx, hm⟩ := clsAt_ok hD
          obtain ⟨f1, f2, f3⟩ := hE.ei d x D hx hm
          refine ⟨f1, f2, fun k C hC => ?_⟩
          rw [hcl] at hC
          obtain ⟨y, hy, hm2⟩ := clsAt_ok hC
          exact f3 k y C hy hm2
        er := fun k C hk hC => by
          rw [hcl] at hC
          obtain ⟨x, hx, hm⟩ := clsAt_ok hC
          exact hE.er k x C hk hx hm
        fa := fun j id x hj hid hix => by
          have hj : (p.ents.map (·.x))[j]? = some x := hj
          have hix : idIx (p.ents.map (·.id)) id = some j := hix
          rw [List.getElem?_map] at hj
          obtain ⟨ej, hj1, hj2⟩ := Option.map_eq_some_iff.mp hj
          obtain ⟨aj, fdj, Fj⟩ := hh ej (List.mem_of_getElem? hj1)
          subst hj2
          have hm := PySem.W.mg_of KX N Fj.ns
          refine ⟨aj, ?_, hm⟩
          rw [hfa]
          unfold faAt
          rw [hix, Option.bind_some, hj1, Option.bind_some, hm]
        fv := fun id a hfv => by
          rw [hfa] at hfv
          obtain ⟨j, ej, hj1, rfl, hm⟩ := faAt_ok hfv
          obtain ⟨aj, fdj, Fj⟩ := hh ej (List.mem_of_getElem? hj1)
          have hm2 := PySem.W.mg_of KX N Fj.ns
          rw [hm] at hm2
          have e2 : Value.ref a = Value.ref aj := Option.some.inj hm2
          injection e2 with e2
          subst e2
          exact ⟨Fj.fn.kp, fdj, ej.ps, .all Fj.bd, (ih j ej a fdj hj1 Fj).1⟩
        ep := fun d D hD => by
          rw [hcl] at hD
          obtain ⟨x, hx, hm⟩ := clsAt_ok hD
          exact hE.ep d x D hx hm
        lam := fun hl => by
          obtain ⟨c0, P0, h1, h2, h3, h4⟩ := hlam e (List.mem_of_getElem? hi) hl a fd F
          exact ⟨⟨c0, P0, h1, h2, h3, h4⟩, by omega⟩
        eb := fun k C hk hC => by
          rw [hcl] at hC
          obtain ⟨x, hx, hm⟩ := clsAt_ok hC
          exact ⟨d + 1, rfl, (hE.eb k x C hk hx hm).ok d⟩
        fn := fun j id x hj hid => by
          have hj : (p.ents.map (·.x))[j]? = some x := hj
          have hid : (p.ents.map (·.id))[j]? = some id := hid
          rw [List.getElem?_map] at hj hid
          obtain ⟨ej, hj1, hj2⟩ := Option.map_eq_some_iff.mp hj
          rw [hj1] at hid
          have hid : ej.id = id := Option.some.inj hid
          obtain ⟨aj, fdj, Fj⟩ := hh ej (List.mem_of_getElem? hj1)
          subst hj2 hid
          obtain ⟨g1, g2, _⟩ := ih j ej aj fdj hj1 Fj
          have hlt : ej.id < RAW := by
            have hdj : (dfs.map fun q => (q.1, some q.2))[j]? = some (ej.id, ej.df p) := by
              rw [← hd, List.getElem?_map, hj1]; rfl
            rw [List.getElem?_map] at hdj
            obtain ⟨⟨id1, df1⟩, k1, k2⟩ := Option.map_eq_some_iff.mp hdj
            simp only [Prod.mk.injEq] at k2
            rw [← k2.1]
            exact (hP _ (List.mem_of_getElem? k1)).2
          refine ⟨aj, fdj, ej.ps, PySem.W.mg_of KX N Fj.ns, Fj.fn.kp, .all Fj.bd, g1, g2, hlt, fun m ks perm hq => ?_⟩
          obtain ⟨e', _, h2, h3⟩ := kwsOf_mem hq
          rw [Nat.sub_zero, hj1] at h2
          have h2 := Option.some.inj h2
          subst h2
          obtain ⟨w1, w2, w3⟩ := Fj.kb _ h3
          have w1 : m + ks.length = perm.length := w1
          refine ⟨fun s us ws _ hl => ?_, fun {vs us zs ws} r1 r2 => ?_⟩
          · unfold gK at hl ⊢
            split at hl
            · rename_i hc
              rw [if_pos hc]
              exact .of_eq (w3 us ws hc.1 (by show ws.length = ks.length; omega))
            · exact absurd (List.eq_nil_of_length_eq_zero hl.symm) w2
          · unfold gK
            rw [r1.length, r2.length]
            split
            · exact vals_arr (r1.append r2) perm
            · exact .nil }
      exact (s_ok 60 _ _ g ⟨passes_of rfl, rfl, rfl, rfl⟩).2 _ b h3
    have run : ∀ {φ : List Addr} {h : IH} {H : Hp} {E : XK} {ivs : List IV} {C : List Addr → Hp → IH → IV → Prop} {o : Out IV → Out IV}, o .stuck = .stuck → OutG K E φ H (o (runD Φ ⟨e.ps.length, e.N.length, b⟩ ivs h)) C → ivs.length = e.ps.length ∧ ∃ fl h1, eSs Φ b (ivs.map some ++ List.replicate (e.N.length - e.ps.length) none) h = .ok fl h1 ∧
        OutG K E φ H (o (match fl with | .nx _ => Out.ok IV.non h1 | .ret v => .ok v h1 | .rs e _ => .ex e h1 | _ => .stuck)) C := fun {φ h H E ivs C o} ho ok => by
      unfold runD at ok
      split at ok
      · rename_i hl
        refine ⟨hl, ?_⟩
        have ok : OutG K E φ H (o (match eSs Φ b (ivs.map some ++ List.replicate (e.N.length - e.ps.length) none) h with | .ok fl h1 => (match fl with | .nx _ => Out.ok IV.non h1 | .ret v => .ok v h1 | .rs e _ => .ex e h1 | _ => .stuck) | _ => .stuck)) C := ok
        split at ok
        · rename_i fl h1 e1
          exact ⟨fl, h1, e1, ok⟩
        · rw [ho] at ok
          exact ok.elim
      · rw [ho] at ok
        exact ok.elim
    have raw : FnOk P w K mg base (L2.CX P w) (d + 1 + 2) a fd e.ps (spI K (callF (tabOf dfs) (d + 1) (e.id + RAW))) := by
      have cf : ∀ ivs h, callF (tabOf dfs) (d + 1) (e.id + RAW) ivs h = runD Φ ⟨e.ps.length, e.N.length, b⟩ ivs h := fun ivs h => by
        unfold callF
        rw [if_neg (by omega), Nat.add_sub_cancel, ht]
      refine fun_okc F.fn (Ent.scope hce) (fun vs H Q E h => ?_) (fun A outer s H vs Q E hr h => ?_)
      · obtain ⟨φ, h, ivs, rl, q, ok⟩ := h
        rw [cf] at ok
        rw [← q.length]
        exact (run (o := fun x => x) rfl ok).1
      · obtain ⟨φ, h, ivs, rl, q, ok⟩ := h
        rw [cf] at ok
        obtain ⟨hl, fl, h1, e1, ok⟩ := run (o := fun x => x) rfl ok
        refine ⟨_, body A outer s H vs Q E hr, φ, _, h, rl, sr_start q hl, fl, h1, e1, ?_⟩
        cases fl with
        | nx σ => exact fun φ1 H1 p1 k1 r1 τ sr => ok φ1 H1 p1 k1 r1 .non (by rw [VR])
        | ret v => exact fun φ1 H1 p1 k1 r1 w q => ok φ1 H1 p1 k1 r1 w q
        | bk σ => exact ok.elim
        | ct σ => exact ok.elim
        | rs ee σ => exact fun φ1 H1 p1 k1 r1 τ sr => ok φ1 H1 p1 k1 r1
    have cf : ∀ ivs h, callF (tabOf dfs) (d + 1) e.id ivs h = outI h (runD Φ ⟨e.ps.length, e.N.length, b⟩ ivs h) := fun ivs h => by
      unfold callF
      rw [if_pos hraw, ht]
    have len : ∀ vs H Q E, spI K (callF (tabOf dfs) (d + 1) e.id) vs H Q E → vs.length = e.ps.length := fun vs H Q E h => by
      obtain ⟨φ, h, ivs, rl, q, ok⟩ := h
      rw [cf] at ok
      rw [← q.length]
      exact (run (o := outI h) rfl ok).1
    have truth : ∀ (vs : List V) (H : Hp) (Q : VK) (E : XK), spI K (callF (tabOf dfs) (d + 1) e.id) vs H Q E → (fun (D : Ends) σ H => TSt K (fun cls d _ H => E cls d H) (eSs Φ b) { D with nx := LkS D.nx, rt := Lk D.rt } σ H) { nx := fun _ H' => Q .non H', rt := Q } (start e.N vs) H := fun vs H Q E h => by
      obtain ⟨φ, h, ivs, rl, q, ok⟩ := h
      rw [cf] at ok
      obtain ⟨hl, fl, h1, e1, ok⟩ := run (o := outI h) rfl ok
      refine ⟨φ, _, h, rl, sr_start q hl, fl, h1, e1, ?_⟩
      have sealed : ∀ {v : IV}, OutG K E φ H (sealI h v h1) (CV K Q) → ∀ φ1 H1 w, Px φ φ1 → Kp φ φ1 H H1 → Rel K φ1 h1 H1 → VR K φ1 H1 v w → Lk Q w H1 := fun {v} ok φ1 H1 w p1 k1 r1 q1 => by
        obtain ⟨y, h2, e2, c⟩ := OutG.ct (nx_seal (h0 := h) (v := v) (h := h1)) ok
        obtain ⟨S, hS⟩ := seal_ok rl p1 k1 r1 q1 e2
        refine ⟨S, fun H' l => ?_⟩
        obtain ⟨φ', p2, k2, r2, q2⟩ := hS H' l
        exact c φ' H' w p2 k2 r2 q2
      cases fl with
      | nx σ =>
        intro φ1 H1 p1 k1 r1 τ sr
        exact sealed (v := .non) ok φ1 H1 .non p1 k1 r1 (by rw [VR])
      | ret v => exact fun φ1 H1 p1 k1 r1 w q => sealed (v := v) ok φ1 H1 w p1 k1 r1 q
      | bk σ => exact ok.elim
      | ct σ => exact ok.elim
      | rs ee σ =>
        intro φ1 H1 p1 k1 r1 τ sr C ws hC qv
        have ok : OutG K E φ H (cutX h ee h1) (CV K Q) := ok
        cases ecx : cutX h ee h1 with
        | stuck => unfold cutX at ecx; split at ecx <;> cases ecx
        | ok v h2 => unfold cutX at ecx; split at ecx <;> cases ecx
        | ex e2 h2 =>
          have ok2 : OutG K E φ H (Out.ex e2 h2 : Out IV) (CV K Q) := ecx ▸ ok
          obtain ⟨rfl, φ2, p2, k2, r2, q2⟩ := cut_ok rl p1 k1 r1 qv ecx
          exact ok2 φ2 H1 p2 k2 r2 C ws hC q2
    refine ⟨?_, raw, ?_⟩
    · exact fun_okc F.fn (Ent.scope hce) len fun A outer s H vs Q E hr h => ⟨_, PSs.lock2 (body A outer s H vs Q E hr), truth vs H Q E h⟩
    · refine fun_okc F.fn (Ent.scope hce) (fun vs H Q E h => ?_) fun A outer s H vs Q E hr h => ?_
      · obtain ⟨S, h⟩ := h
        obtain ⟨H', l⟩ := LockOf.any S H
        exact len vs H' Q E (h H' l)
      · obtain ⟨S, h⟩ := h
        exact ⟨_, PSs.pre (PSs.lock2 (body A outer s H vs Q E hr)), S, fun H' l => truth vs H' Q E (h H' l)⟩
end

theorem lsr_of [ClsTab] {K : PySem.W.Frag} {H H' : Hp} {a : Addr} {vs : List V} (l : LockOf [a] H H') (s : SqL K H a vs) : (∃ o, H' a = some (.frz o (.lst vs))) ∨ (false = false ∧ ∀ H', SqL K H' a vs) := by
  rcases s with (s | ⟨ob, s⟩) | s
  · exact .inl (l.at a vs List.mem_cons_self s)
  · exact .inl ⟨ob, l.fx a _ trivial s⟩
  · exact .inr ⟨rfl, fun H' => .inr s⟩
def LamF (K : PySem.W.Frag) : List Str → List (Addr × Addr) → Prop
  | [], [] => True
  | x :: xs, t :: ts => PySem.W.tabIn K x = some t ∧ K.lookup t.2 = none ∧ LamF K xs ts
  | _, _ => False
def lamQ (x : Str) : Str := x ++ ".<locals>." ++ "<lambda>"
def tbOf : List Str → List (Addr × Addr) → List (Addr × Str)
  | x :: xs, t :: ts => (t.2, lamQ x) :: tbOf xs ts
  | _, _ => []
theorem tbOf_mem : ∀ {xs : List Str} {ts : List (Addr × Addr)} {p : Addr × Str}, p ∈ tbOf xs ts → p.1 ∈ ts.map (·.2)
  | x :: xs, t :: ts, p, h => by
    rcases List.mem_cons.mp h with rfl | h
    · exact List.mem_cons_self
    · exact List.mem_cons_of_mem _ (tbOf_mem h)
  | [], ts, p, h => by cases h
  | _ :: _, [], p, h => by cases h
theorem LamF.tab {K : PySem.W.Frag} : ∀ {xs : List Str} {ts : List (Addr × Addr)}, LamF K xs ts → ∀ t ∈ ts, ∃ x ∈ xs, PySem.W.tabIn K x = some t ∧ K.lookup t.2 = none
  | x :: xs, t :: ts, f, u, h => by
    obtain ⟨f1, f2, f3⟩ := f
    rcases List.mem_cons.mp h with rfl | h
    · exact ⟨x, List.mem_cons_self, f1, f2⟩
    · obtain ⟨y, m, r⟩ := LamF.tab f3 u h
      exact ⟨y, List.mem_cons_of_mem _ m, r⟩
  | [], [], _, u, h => by cases h
  | [], _ :: _, f, _, _ => f.elim
  | _ :: _, [], f, _, _ => f.elim
theorem LamF.at {K : PySem.W.Frag} : ∀ {xs : List Str} {ts : List (Addr × Addr)}, LamF K xs ts → (ts.map (·.2)).Nodup → ∀ x ∈ xs, ∃ t ∈ ts, PySem.W.tabIn K x = some t ∧ (t.2, lamQ x) ∈ tbOf xs ts ∧ ∀ p ∈ tbOf xs ts, p.1 = t.2 → p.2 = lamQ x
  | x :: xs, t :: ts, f, nd, y, h => by
    obtain ⟨f1, f2, f3⟩ := f
    rw [List.map_cons, List.nodup_cons] at nd
    have own : ∀ p ∈ tbOf (x :: xs) (t :: ts), p.1 = t.2 → p.2 = lamQ x := fun p m e => by
      rcases List.mem_cons.mp m with rfl | m
      · rfl
      · exact absurd (e ▸ tbOf_mem m) nd.1
    rcases List.mem_cons.mp h with rfl | h
    · exact ⟨t, List.mem_cons_self, f1, List.mem_cons_self, own⟩
    · obtain ⟨u, m, r1, r2, r3⟩ := LamF.at f3 nd.2 y h
      refine ⟨u, List.mem_cons_of_mem _ m, r1, List.mem_cons_of_mem _ r2, fun p mp e => ?_⟩
      rcases List.mem_cons.mp mp with rfl | mp
      · have e : t.2 = u.2 := e
        exact absurd (List.mem_map.mpr ⟨u, m, e.symm⟩) nd.1
      · exact r3 p mp e
  | [], _, _, _, y, h => by cases h
  | _ :: _, [], f, _, _, _ => f.elim
def Prg.lams (p : Prg) : List Str := (p.ents.filter (·.lam)).map (·.x)
theorem code_of {K : PySem.W.Frag} {e : Ent} {a c P : Addr} {fd : FuncData} (F : Fact K e a fd) (t : PySem.W.tabIn K e.x = some (c, P)) : fd.code = .ref c := by
  obtain ⟨oc, od, kV, doc, pm, an, cdv, ct, osl, e1, lk, hcd⟩ := F.fn.ex
  unfold PySem.W.tabIn at t
  rw [F.ns] at t
  simp only [lk] at t
  split at t
  · rename_i c2 hc
    split at t
    · split at t
      · cases t
        exact hc
      · cases t
    · cases t
  · cases t
theorem pi_walk {l : PySem.W.OpenLaw} {q : Program} {loose : List Str} {XP : (Str → Option Value) → Heap → Prop} {YP : World → Heap → Prop} {d : DefRec} {K : Params → PySem.W.Frag} {p : Prg} {dfs : List (Nat × Df)} {x : Str} {e : Ent} (D i : Nat)
    (hn : l.most = some 63) (hdf : d.params.defaults = []) (hr : Room (D + 2) callerA) (hY : ∀ (w : World) (h : Heap), YP w h → (K w.params).In h)
    (hd : p.ents.map (fun e => (e.id, e.df p)) = dfs.map fun q => (q.1, some q.2)) (hP : ∀ q ∈ dfs, tabOf dfs q.1 = some q.2 ∧ q.1 < RAW) (hc : p.ents.all Ent.chk = true) (hi : p.ents[i]? = some e) (hx : e.x = d.name) (hps : e.ps = [x]) (hcn : (p.cls.map (·.2)).Nodup)
    (hrec : p.lams.all (fun x => ((recsOf q).find? fun e => e.name == x).isSome) = true)
    (F : ∀ (w : World) (mg : Str → Option Value) (h : Heap), (K w.params).In h → h.Ns mainGlobals mg → XP mg h →
      (∀ x i, p.G.lookup x = some i → ∃ t, mg x = some (.int i t)) ∧ (∀ x xs, p.T.lookup x = some xs → ∃ a, mg x = some (.ref a) ∧ ∀ H, SqT (K w.params) H a (xs.map V.int)) ∧ (∀ b : Bt, mg b.name = none) ∧ (∀ x ∈ others, mg x = none) ∧ (∀ e ∈ p.ents, Has (K w.params) e) ∧ ErF (K w.params) mg p.cls p.clsI ∧ (∀ x z, p.Z.lookup x = some z → ∃ t, mg x = some (.str z t)) ∧
      ∃ cs : List (Addr × Addr), LamF (K w.params) p.lams cs ∧ (cs.map (·.2)).Nodup)
    (math : ∀ ns : List Int, ns.length ≤ 63 → ∃ h', callF (tabOf dfs) D e.id [.lsr false (ns.map IV.int)] [] = .ok (.bl true) h') :
    PySem.W.WalkO q loose XP YP l.row.toRowW d [] (fun f vs => PySem.call f vs) := by
  refine Att.attach_call hn hdf fun w s₀ s₁ mg mb fa o pm cd doc a vs ns G' Y ho hd' hcd hmg hobj hints hlen hg => ?_
  have KX := hY w _ Y
  obtain ⟨f1, f2, f3, f4, f5, f6, f7, cs, fl, nd⟩ := F w mg _ KX G'.T.g G'.X
  obtain ⟨a0, fd, Fe⟩ := f5 e (List.mem_of_getElem? hi)
  have ea : a0 = fa := by
    have h1 := PySem.W.mg_of KX G'.T.g Fe.ns
    rw [hx, hmg] at h1
    have h1' : Value.ref fa = Value.ref a0 := Option.some.inj h1
    injection h1' with h1'
    exact h1'.symm
  subst ea
  have hb : ∀ (s : Shared) (u : Value), BindsTo s fd ⟨[u], []⟩ [(x, u)] := fun s u => .of_eq (by
    have h1 := Fe.bd [u] (by rw [hps]; rfl)
    rw [hps] at h1
    exact h1)
  have hs : (63 : Nat) ≤ sizeLine := by rw [sizeLine_eq]; decide
  have tabs : ∀ t ∈ cs, PySem.W.CodeHd s₁.heap t.1 t.2 ∧ s₁.heap.get? t.2 = some { cls := .none, data := .fields #[] } ∧ (K w.params).lookup t.2 = none := fun t m => by
    obtain ⟨y, my, e1, e2⟩ := fl.tab t m
    obtain ⟨dr, hdr⟩ := Option.isSome_iff_exists.mp (List.all_eq_true.mp hrec y my)
    obtain ⟨g1, g2⟩ := PySem.W.tab_of (c := t.1) (P := t.2) G'.T KX hdr e1
    exact ⟨g1, g2, e2⟩
  letI : ClsTab := ⟨fun k => clsAt mg k p.cls, fun id => faAt mg p.ents id, tbOf p.lams cs⟩
  refine LamX.law_callTs (x := x) (k := D + 2) (CX := L2.CX l.prog w) (cs := cs) (sp := spL (spI (K w.params) (callF (tabOf dfs) D e.id))) KX G'.T.g G'.T.b G'.T.builtins G'.T.nolimit hg (fun t m => (tabs t m).2.1) (fun t m => (tabs t m).2.2) (fun t m => (tabs t m).1) G'.T.bmain hobj hints (Nat.le_trans hlen hs) hr (fun base hK hN hTB => ?_) hb (fun H hT hS => ?_) (fun H ex s' z => ?_)
  · have lam : ∀ e ∈ p.ents, e.lam = true → LamOk (K w.params) base mg e := fun e me hl a fd Fa => by
      have mx : e.x ∈ p.lams := List.mem_map.mpr ⟨e, List.mem_filter.mpr ⟨me, hl⟩, rfl⟩
      obtain ⟨t, mt, e1, e2, e3⟩ := fl.at nd e.x mx
      exact ⟨t.1, t.2, hTB t mt, code_of Fa e1, e2, e3⟩
    have := (prog_ok (P := l.prog) (w := w) (base := base) hd hP hc hK hN f1 f2 f7 f3 f4 f5 f6 (fun _ => rfl) (fun _ => rfl) hcn lam D i e a0 fd hi Fe).2.2
    rw [hps] at this
    exact this
  · obtain ⟨h', hm⟩ := math ns hlen
    refine ⟨[a], fun H' lk => ⟨[], [], [.lsr false (ns.map IV.int)], ⟨rfl, fun i j a e => by simp at e, fun i a o e => by simp at e, lk.tk fun t mt => ?_⟩, .one ?_, ?_⟩⟩
    · have := tbOf_mem mt
      obtain ⟨u, mu, eu⟩ := List.mem_map.mp this
      exact LamX.TabS.nil (by rw [← eu]; exact hT u mu)
    · rw [VR]
      exact ⟨a, ns.map V.int, rfl, lsr_of lk hS, VRs.ofInts ns⟩
    · rw [hm]
      intro φ' H' p k r w' q
      rw [VR] at q
      exact q
  · obtain ⟨_, _, _, _, _, _, _, _, _, _, _, _, zz⟩ := z
    exact zz
end Pi
end

section
set_option maxHeartbeats 8000000
namespace Pi
open PySem PySem.Spec PyProof.Rows L2
def GF (mg : Str → Option Value) (G : List (Str × Int)) : Prop := ∀ x i, G.lookup x = some i → ∃ t, mg x = some (.int i t)
theorem g_nil {mg : Str → Option Value} : GF mg [] := fun _ _ e => nomatch e
theorem g_cons {mg : Str → Option Value} {x : Str} {i : Int} {G : List (Str × Int)} (h : ∃ t, mg x = some (.int i t)) (r : GF mg G) : GF mg ((x, i) :: G) := fun y j e => by
  rw [List.lookup_cons] at e
  split at e
  · rename_i b
    have eb : y = x := by simpa using b
    rw [eb, ← Option.some.inj e]; exact h
  · exact r y j e
def TF (K : PySem.W.Frag) (mg : Str → Option Value) (T : List (Str × List Int)) : Prop := ∀ x xs, T.lookup x = some xs → ∃ a, mg x = some (.ref a) ∧ ∀ H, SqT K H a (xs.map V.int)
theorem t_nil {K : PySem.W.Frag} {mg : Str → Option Value} : TF K mg [] := fun _ _ e => nomatch e
def intChk : List Value → List Int → Bool
  | [], [] => true
  | .int i _ :: r, x :: xs => decide (i = x) && intChk r xs
  | _, _ => false
def tupChk : Obj → List Int → Bool
  | ⟨.type n, _, .seq its _, _⟩, xs => decide (n = "tuple") && decide (its.size ≤ 2 ^ 24) && intChk its.toList xs
  | _, _ => false
def ZF (mg : Str → Option Value) (Z : List (Str × Str)) : Prop := ∀ x z, Z.lookup x = some z → ∃ t, mg x = some (.str z t)
theorem z_nil {mg : Str → Option Value} : ZF mg [] := fun _ _ e => nomatch e
theorem z_cons {mg : Str → Option Value} {x : Str} {i : Str} {G : List (Str × Str)} (h : ∃ t, mg x = some (.str i t)) (r : ZF mg G) : ZF mg ((x, i) :: G) := fun y j e => by
  rw [List.lookup_cons] at e
  split at e
  · rename_i b
    have eb : y = x := by simpa using b
    rw [eb, ← Option.some.inj e]; exact h
  · exact r y j e
theorem h_nil {K : PySem.W.Frag} : ∀ e ∈ ([] : List Ent), Has K e := fun _ m => nomatch m
theorem h_cons {K : PySem.W.Frag} {e : Ent} {es : List Ent} (h : Has K e) (r : ∀ e ∈ es, Has K e) : ∀ x ∈ e :: es, Has K x := fun x m => by
  rcases List.mem_cons.mp m with rfl | m
  · exact h
  · exact r x m
theorem n_nil {mg : Str → Option Value} : ∀ x ∈ ([] : List Str), mg x = none := fun _ m => nomatch m
theorem n_cons {mg : Str → Option Value} {e : Str} {es : List Str} (h : mg e = none) (r : ∀ e ∈ es, mg e = none) : ∀ x ∈ e :: es, mg x = none := fun x m => by
  rcases List.mem_cons.mp m with rfl | m
  · exact h
  · exact r x m
theorem g_loose {lv : List (Str × PySem.W.WData)} {mg : Str → Option Value} {h : Heap} {x : Str} {i : Int} (L : PySem.W.LooseAre lv mg h) (m : (x, PySem.W.WData.int i) ∈ lv) : ∃ t, mg x = some (.int i t) := by
  obtain ⟨v, a, b⟩ := L.val _ m
  obtain ⟨t, rfl, -⟩ := PySem.W.readsW_int_inv b
  exact ⟨t, a⟩


abbrev VEs : List Value := [.type "ValueError", .type "Exception", .type "BaseException", .type "object"]
structure ClsF (K : PySem.W.Frag) (mg : Str → Option Value) (clsI : List Nat) (C0 : Addr) (x : Str) (k : Nat) (C : Addr) : Prop where
  m : mg x = some (.ref C)
  c : ∃ cd, PySem.W.clsIn K C = some cd ∧ cd.hasDict = true ∧ cd.mro = .ref C :: (if k = 0 then VEs else .ref C0 :: VEs)
  z : k = 0 → C = C0
  t : PySem.W.typeIn K (.ref C) = some (.type "type")
  g1 : PySem.W.findIn K (.ref C) "__getattribute__" = some (some (.builtin "BaseException.__getattribute__"))
  g2 : PySem.W.findIn K (.ref C) "__getattr__" = some none
  g3 : PySem.W.findIn K (.ref C) "__class__" = some (some (.builtin "object.__class__"))
  e : k ∉ clsI → PySem.W.excIn K C VEs "ValueError.__new__" = true
  p : PySem.W.keepIn K (.ref C) = true
  pl : PySem.W.findIn K (.ref C) "place" = some none
inductive ClsL (K : PySem.W.Frag) (mg : Str → Option Value) (clsI : List Nat) (C0 : Addr) : List (Str × Nat) → List Addr → Prop where
  | nil : ClsL K mg clsI C0 [] []
  | cons {x : Str} {k : Nat} {C : Addr} {l : List (Str × Nat)} {as : List Addr} (f : ClsF K mg clsI C0 x k C) (r : ClsL K mg clsI C0 l as) : ClsL K mg clsI C0 ((x, k) :: l) (C :: as)
section
variable {K : PySem.W.Frag} {mg : Str → Option Value} {clsI : List Nat} {C0 : Addr}
theorem ClsL.mem {l : List (Str × Nat)} {as : List Addr} (L : ClsL K mg clsI C0 l as) : ∀ {x : Str} {k : Nat}, (x, k) ∈ l → ∃ D, ClsF K mg clsI C0 x k D ∧ D ∈ as := by
  induction L with
  | nil => intro x k h; cases h
  | cons f r ih =>
    intro x k h
    rcases List.mem_cons.mp h with e | h
    · cases e; exact ⟨_, f, List.mem_cons_self⟩
    · obtain ⟨D, h1, h2⟩ := ih h
      exact ⟨D, h1, List.mem_cons_of_mem _ h2⟩
theorem ClsL.get {l : List (Str × Nat)} {as : List Addr} (L : ClsL K mg clsI C0 l as) {x : Str} {k : Nat} {D : Addr} (h : (x, k) ∈ l) (m : mg x = some (.ref D)) : ClsF K mg clsI C0 x k D ∧ D ∈ as := by
  obtain ⟨E, f, e⟩ := L.mem h
  have : Value.ref E = Value.ref D := Option.some.inj (f.m.symm.trans m)
  cases this
  exact ⟨f, e⟩
theorem ClsL.one {l : List (Str × Nat)} {as : List Addr} (L : ClsL K mg clsI C0 l as) : as.Nodup → (l.map (·.2)).Nodup → ∀ {x y : Str} {k j : Nat} {D : Addr}, (x, k) ∈ l → (y, j) ∈ l → mg x = some (.ref D) → mg y = some (.ref D) → k = j := by
  induction L with
  | nil => intro _ _ x y k j D h; cases h
  | @cons x0 k0 C0' l as f r ih =>
    intro na nl x y k j D h1 h2 m1 m2
    rw [List.nodup_cons] at na
    rw [List.map_cons, List.nodup_cons] at nl
    rcases List.mem_cons.mp h1 with e1 | h1
    · cases e1
      rcases List.mem_cons.mp h2 with e2 | h2
      · cases e2; rfl
      · have := (r.get h2 m2).2
        have e : Value.ref C0' = Value.ref D := Option.some.inj (f.m.symm.trans m1)
        cases e
        exact absurd this na.1
    · rcases List.mem_cons.mp h2 with e2 | h2
      · cases e2
        have := (r.get h1 m1).2
        have e : Value.ref C0' = Value.ref D := Option.some.inj (f.m.symm.trans m2)
        cases e
        exact absurd this na.1
      · exact ih na.2 nl.2 h1 h2 m1 m2
theorem num_one {l : List (Str × Nat)} : (l.map (·.2)).Nodup → ∀ {x y : Str} {k : Nat}, (x, k) ∈ l → (y, k) ∈ l → x = y := by
  induction l with
  | nil => intro _ x y k h; cases h
  | cons q l ih =>
    intro nl x y k h1 h2
    rw [List.map_cons, List.nodup_cons] at nl
    rcases List.mem_cons.mp h1 with e1 | h1
    · rcases List.mem_cons.mp h2 with e2 | h2
      · rw [← e1] at e2; exact (congrArg Prod.fst e2).symm
      · exact absurd (List.mem_map.mpr ⟨_, h2, by rw [← e1]⟩) nl.1
    · rcases List.mem_cons.mp h2 with e2 | h2
      · exact absurd (List.mem_map.mpr ⟨_, h1, by rw [← e2]⟩) nl.1
      · exact ih nl.2 h1 h2
theorem er_mk {l : List (Str × Nat)} {as : List Addr} (L : ClsL K mg clsI C0 l as) (na : as.Nodup) (nl : (l.map (·.2)).Nodup)
    (hn : PySem.W.specialIn K (.builtin "object.__class__") "__get__" = some (some (.builtin "getset_descriptor.__get__"))) (ht : PySem.W.takesIn K (.builtin "object.__class__") = some true) (h0 : ∃ x, (x, 0) ∈ l ∧ mg x = some (.ref C0))
    (hI : ∀ x k, k ∈ clsI → (x, k) ∈ l → x = ("BadText" : Str)) (hB : ∀ C, clsI ≠ [] → mg "BadText" = some (.ref C) → InitK K mg C) : ErF K mg l clsI := by
  obtain ⟨x0, x0m, m0⟩ := h0
  have sub : ∀ {x : Str} {d : Nat} {D : Addr}, ClsF K mg clsI C0 x d D → ∀ b : Value, PySem.W.subIn K (.ref D) b = some ((Value.ref D :: (if d = 0 then VEs else .ref C0 :: VEs)).contains b) := fun {x d D} f b => by
    obtain ⟨cd, c1, _, c3⟩ := f.c
    show PySem.W.mroIn K D b = _
    unfold PySem.W.mroIn
    rw [c1, Option.bind_some, c3]
    rfl
  have bex : ∀ {x : Str} {d : Nat} {D : Addr}, ClsF K mg clsI C0 x d D → PySem.W.subIn K (.ref D) (.type "BaseException") = some true := fun {x d D} f => by
    rw [sub f]
    split <;> rfl
  have pair : ∀ {x y : Str} {d k : Nat} {D C : Addr}, (x, d) ∈ l → (y, k) ∈ l → mg x = some (.ref D) → mg y = some (.ref C) → (Value.ref D :: (if d = 0 then VEs else .ref C0 :: VEs)).contains (Value.ref C) = decide (k = 0 ∨ k = d) := fun {x y d k D C} h1 h2 m1 m2 => by
    have f1 := (L.get h1 m1).1
    have f2 := (L.get h2 m2).1
    have ve : VEs.contains (Value.ref C) = false := by
      show (Value.ref C == Value.type "ValueError" || (Value.ref C == Value.type "Exception" || (Value.ref C == Value.type "BaseException" || (Value.ref C == Value.type "object" || false)))) = false
      rfl
    have e1 : (Value.ref C == Value.ref D) = decide (k = d) := by
      by_cases h : k = d
      · subst h
        have := num_one nl h1 h2
        subst this
        rw [m1] at m2
        have e : Value.ref D = Value.ref C := Option.some.inj m2
        rw [decide_eq_true rfl, e]; simp
      · rw [decide_eq_false h]
        refine beq_eq_false_iff_ne.mpr fun z => h ?_
        cases z
        exact L.one na nl h2 h1 m2 m1
    have e0 : (Value.ref C == Value.ref C0) = decide (k = 0) := by
      by_cases h : k = 0
      · rw [decide_eq_true h, f2.z h]; simp
      · rw [decide_eq_false h]
        refine beq_eq_false_iff_ne.mpr fun z => h ?_
        cases z
        exact L.one na nl h2 x0m m2 m0
    rw [List.contains_cons, e1]
    split
    · rename_i hd
      subst hd
      rw [ve]
      by_cases h : k = 0 <;> simp [h]
    · rw [List.contains_cons, e0, ve]
      by_cases h : k = 0 <;> by_cases h2 : k = d <;> simp [h, h2]
  refine ⟨fun k x h => ?_, fun d x D h m => ?_, fun k x C hk h m => ?_, fun d x D h m => (L.get h m).1.pl, fun k x C hk h m => hB C (fun z => by rw [z] at hk; cases hk) (by rw [hI x k hk h] at m; exact m)⟩
  · obtain ⟨D, f, _⟩ := L.mem h
    exact ⟨D, f.m⟩
  · have f := (L.get h m).1
    obtain ⟨cd, c1, c2, c3⟩ := f.c
    refine ⟨⟨f.g1, f.g2, bex f, ?_, f.g3, hn, ht, ?_⟩, ?_, fun k y C h2 m2 => ?_⟩
    · unfold PySem.W.hasDictIn
      rw [c1]
      exact c2
    · have := sub f (.type "object")
      have e : PySem.W.mroIn K D (.type "object") = PySem.W.subIn K (.ref D) (.type "object") := rfl
      rw [e, this]
      split <;> rfl
    · have e : PySem.W.kitOne K (.ref D) (.type "ValueError") = PySem.W.subIn K (.ref D) (.type "ValueError") := by
        unfold PySem.W.kitOne PySem.W.kitCls
        rfl
      rw [e, sub f]
      split <;> rfl
    · have f2 := (L.get h2 m2).1
      obtain ⟨cd2, d1, d2, d3⟩ := f2.c
      have ok : ((PySem.W.clsIn K C).isSome && PySem.W.typeIn K (.ref C) == some (.type "type")) = true := by rw [d1, f2.t]; rfl
      have kc : PySem.W.kitCls K (.ref D) (.ref C) = some (decide (k = 0 ∨ k = d)) := by
        show (if ((PySem.W.clsIn K C).isSome && PySem.W.typeIn K (.ref C) == some (.type "type")) = true then PySem.W.subIn K (.ref D) (.ref C) else none) = _
        rw [if_pos ok, sub f, pair h h2 m m2]
      refine ⟨?_, ?_⟩
      · unfold PySem.W.kitOne
        split
        · rename_i hb
          have := beq_iff_eq.mp hb
          cases this
          have := L.one na nl h2 h m2 m
          subst this
          simp
        · exact kc
      · unfold PySem.W.exmOne
        rw [bex f2]
        exact kc
  · have f := (L.get h m).1
    exact ⟨f.e hk, f.p, bex f, f.t⟩
theorem hI_of {l : List (Str × Nat)} (h : (l.all fun q => !(clsI.contains q.2) || decide (q.1 = ("BadText" : Str))) = true) : ∀ x k, k ∈ clsI → (x, k) ∈ l → x = ("BadText" : Str) := fun x k hk hx => by
  have h1 := List.all_eq_true.mp h _ hx
  have h2 : clsI.contains k = true := by simpa using hk
  simp only [h2, Bool.not_true, Bool.false_or, decide_eq_true_eq] at h1
  exact h1
theorem ib_of {C : Addr} (m : mg "BadText" = some (.ref C)) (J : InitK K mg C) : ∀ D, clsI ≠ [] → mg "BadText" = some (.ref D) → InitK K mg D := fun D _ m2 => by
  have : Value.ref C = Value.ref D := Option.some.inj (m.symm.trans m2)
  cases this
  exact J
def initOf : Stmt → Stmt
  | .ClassDef _ _ _ body _ _ _ _ _ _ _ => (body.find? fun s => match s with | .FunctionDef .. => true | _ => false).getD (.Pass ⟨0, 0, 0, 0⟩)
  | s => s
def initChk (st : Stmt) : Bool :=
  Ent.chk { x := "__init__", st := st, N := ["self", "place"], ps := ["self", "place"] } && decide ((defScope st).names.lookup ("WholeError" : Str) = some .globalImplicit) && decide ((defScope st).names.lookup ("self" : Str) = some .local) && decide ((defScope st).names.lookup ("place" : Str) = some .local) &&
  (match defBody st with
    | [.Expr (.Call (.Attribute (.Name w p1) i p2) [.Name s p3, .Constant (.str m) kk p4] [] p5) p6, .Assign [.Attribute (.Name s2 p7) pl p8] (.Name pl2 p9) p10] => decide (w = ("WholeError" : Str)) && decide (i = ("__init__" : Str)) && decide (s = ("self" : Str)) && decide (s2 = ("self" : Str)) && decide (pl = ("place" : Str)) && decide (pl2 = ("place" : Str)) && (p2.endLine == p5.line)
    | _ => false)
theorem initS_of {st : Stmt} (h : initChk st = true) : InitS st := by
  unfold initChk at h
  simp only [Bool.and_eq_true, decide_eq_true_eq] at h
  obtain ⟨⟨⟨⟨h1, h2⟩, h3⟩, h4⟩, h5⟩ := h
  refine ⟨?_, Ent.scope h1, h2, h3, h4⟩
  split at h5
  · rename_i w p1 i p2 s p3 m kk p4 p5 p6 s2 p7 pl p8 pl2 p9 p10 e
    simp only [Bool.and_eq_true, decide_eq_true_eq] at h5
    obtain ⟨⟨⟨⟨⟨⟨rfl, rfl⟩, rfl⟩, rfl⟩, rfl⟩, rfl⟩, hl⟩ := h5
    exact ⟨p1, p2, p3, m, kk, p4, p5, p6, p7, p8, p9, p10, hl, e⟩
  · cases h5
end
end Pi
end

section
set_option maxHeartbeats 8000000
namespace Pi
open PySem
def W {α : Type} (x : Out α) (Q : α → IH → Prop) (R : Ex → IH → Prop) : Prop := match x with
  | .ok a h => Q a h
  | .ex e h => R e h
  | .stuck => False
section
variable {α β : Type} {Q Q' : α → IH → Prop} {R R' : Ex → IH → Prop}
theorem W.imp {x : Out α} (w : W x Q R) (k : ∀ a h, Q a h → Q' a h) (l : ∀ e h, R e h → R' e h) : W x Q' R' := by
  cases x with
  | ok a h => exact k a h w
  | ex e h => exact l e h w
  | stuck => exact w
theorem W.mono {x : Out α} (w : W x Q R) (k : ∀ a h, Q a h → Q' a h) : W x Q' R := w.imp k fun _ _ r => r
@[simp] theorem W_ok {a : α} {h : IH} : W (.ok a h) Q R ↔ Q a h := Iff.rfl
@[simp] theorem W_ex {e : Ex} {h : IH} : W (.ex e h) Q R ↔ R e h := Iff.rfl
@[simp] theorem W_stuck : W (.stuck : Out α) Q R ↔ False := Iff.rfl
@[simp] theorem W_bind {x : Out β} {f : β → IH → Out α} : W (x.bind f) Q R ↔ W x (fun a h => W (f a h) Q R) R := by cases x <;> exact Iff.rfl
theorem W_ite {c : Prop} [Decidable c] {x y : Out α} : W (if c then x else y) Q R ↔ if c then W x Q R else W y Q R := by split <;> rfl
theorem W_noX {x : Out α} : W (noX x) Q R ↔ W x Q (fun _ _ => False) := by cases x <;> exact Iff.rfl
theorem W_eq {x : Out α} {r : α} {h : IH} : W x (fun a h' => a = r ∧ h' = h) (fun _ _ => False) ↔ x = .ok r h := by
  cases x with
  | ok a g => exact ⟨fun ⟨e1, e2⟩ => by rw [e1, e2], fun e => by cases e; exact ⟨rfl, rfl⟩⟩
  | ex e g => exact ⟨False.elim, fun e => by cases e⟩
  | stuck => exact ⟨False.elim, fun e => by cases e⟩
theorem W_eqX {x : Out α} {r : Ex} {h : IH} : W x (fun _ _ => False) (fun e h' => e = r ∧ h' = h) ↔ x = .ex r h := by
  cases x with
  | ex a g => exact ⟨fun ⟨e1, e2⟩ => by rw [e1, e2], fun e => by cases e; exact ⟨rfl, rfl⟩⟩
  | ok e g => exact ⟨False.elim, fun e => by cases e⟩
  | stuck => exact ⟨False.elim, fun e => by cases e⟩
end
def OptQ {α : Type} (o : Option α) (k : α → Prop) : Prop := match o with
  | some b => k b
  | none => False
@[simp] theorem OptQ_some {α : Type} {b : α} {k : α → Prop} : OptQ (some b) k ↔ k b := Iff.rfl
@[simp] theorem OptQ_none {α : Type} {k : α → Prop} : OptQ none k ↔ False := Iff.rfl
@[simp] theorem W_tst {x : Out IV} {Q : Bool → IH → Prop} {R : Ex → IH → Prop} : W (tst x) Q R ↔ W x (fun v h1 => OptQ (truI v h1) fun b => Q b h1) R := by
  unfold tst
  rw [W_bind]
  cases x with
  | ok v g =>
    show W (match truI v g with | some b => Out.ok b g | none => .stuck) Q R ↔ OptQ (truI v g) _
    cases truI v g <;> exact Iff.rfl
  | ex e g => exact Iff.rfl
  | stuck => exact Iff.rfl
def valI (x : IV) (h1 : IH) : Out Wk := match x with
    | .tup xs => .ok (.vals xs) h1
    | .str z => .ok (.vals (z.cps.toList.map fun c => .str ⟨#[c]⟩)) h1
    | .lsr _ xs => .ok (.vals xs) h1
    | .ref i => (match lsAt h1 i with
      | some _ => .ok (.lst i) h1
      | none => .stuck)
    | _ => .stuck
def rngI (x : IV) (h1 : IH) : Out Wk := match x with
    | .int j => if -4611686018427387904 ≤ j ∧ j < 4611686018427387904 then .ok (.vals ((List.range j.toNat).map fun k : Nat => .int k)) h1 else .stuck
    | _ => .stuck
def rng2I (x y : IV) (h2 : IH) : Out Wk := match x, y with
    | .int i, .int j => if -4611686018427387904 ≤ i ∧ i < 4611686018427387904 ∧ -4611686018427387904 ≤ j ∧ j < 4611686018427387904 then .ok (.vals ((List.range (j - i).toNat).map fun k : Nat => .int (i + k))) h2 else .stuck
    | _, _ => .stuck
def enumI (x : IV) (h1 : IH) : Out Wk := match x with
    | .tup xs => .ok (.enumT xs) h1
    | .lsr _ xs => .ok (.enumT xs) h1
    | .ref i => (match lsAt h1 i with
      | some _ => .ok (.enum i) h1
      | none => .stuck)
    | _ => .stuck
def revI (x : IV) (h1 : IH) : Out Wk := match x with
    | .ref i => (match lsAt h1 i with
      | some xs => .ok (.rev i xs.length) h1
      | none => .stuck)
    | .lsr _ xs => .ok (.vals xs.reverse) h1
    | _ => .stuck
def revrI (x : IV) (h1 : IH) : Out Wk := match x with
    | .int j => if -4611686018427387904 ≤ j ∧ j < 4611686018427387904 then .ok (.vals ((List.range j.toNat).map fun k : Nat => .int (j.toNat - 1 - (k : Int)))) h1 else .stuck
    | _ => .stuck
def zipI (x y : IV) (h2 : IH) : Out Wk := match x, y with
    | .ref i, .ref j => (match lsAt h2 i, lsAt h2 j with
      | some _, some _ => .ok (.zip i j) h2
      | _, _ => .stuck)
    | .lsr _ xs, .lsr _ ys => .ok (.vals (List.zipWith (fun a b => .tup [a, b]) xs ys)) h2
    | _, _ => .stuck
@[irreducible] noncomputable def jE (Φ : Calls) (e : E) (σ : Sl) (h : IH) : Out IV := eE Φ e σ h
theorem jE_eq {Φ : Calls} {e : E} {σ : Sl} {h : IH} : jE Φ e σ h = eE Φ e σ h := by unfold jE; rfl
@[irreducible] noncomputable def jEs (Φ : Calls) (e : Es) (σ : Sl) (h : IH) : Out (List IV) := eEs Φ e σ h
theorem jEs_eq {Φ : Calls} {e : Es} {σ : Sl} {h : IH} : jEs Φ e σ h = eEs Φ e σ h := by unfold jEs; rfl
@[irreducible] noncomputable def jO (Φ : Calls) (e : Oe) (σ : Sl) (h : IH) : Out (Option Int) := eO Φ e σ h
theorem jO_eq {Φ : Calls} {e : Oe} {σ : Sl} {h : IH} : jO Φ e σ h = eO Φ e σ h := by unfold jO; rfl
@[irreducible] noncomputable def jC (Φ : Calls) (e : Oe) (σ : Sl) (h : IH) : Out Bool := eC Φ e σ h
theorem jC_eq {Φ : Calls} {e : Oe} {σ : Sl} {h : IH} : jC Φ e σ h = eC Φ e σ h := by unfold jC; rfl
@[irreducible] noncomputable def jI (Φ : Calls) (e : It) (σ : Sl) (h : IH) : Out Wk := eI Φ e σ h
theorem jI_eq {Φ : Calls} {e : It} {σ : Sl} {h : IH} : jI Φ e σ h = eI Φ e σ h := by unfold jI; rfl
@[irreducible] noncomputable def jS (Φ : Calls) (e : S) (σ : Sl) (h : IH) : Out Fl := eS Φ e σ h
theorem jS_eq {Φ : Calls} {e : S} {σ : Sl} {h : IH} : jS Φ e σ h = eS Φ e σ h := by unfold jS; rfl
@[irreducible] noncomputable def jSs (Φ : Calls) (e : Ss) (σ : Sl) (h : IH) : Out Fl := eSs Φ e σ h
theorem jSs_eq {Φ : Calls} {e : Ss} {σ : Sl} {h : IH} : jSs Φ e σ h = eSs Φ e σ h := by unfold jSs; rfl
section
variable {Φ : Calls} {σ : Sl} {h : IH} {R : Ex → IH → Prop} {Q : IV → IH → Prop}
@[simp] theorem W_var {i : Nat} : W (jE Φ (.var i) σ h) Q R ↔ W (match σ[i]? with | some (some v) => .ok v h | _ => .stuck) Q R := by simp only [jE_eq, jEs_eq, jO_eq, jC_eq, jI_eq, jS_eq, jSs_eq]; rw [eE]; (try exact Iff.rfl)
@[simp] theorem W_con {v : IV} : W (jE Φ (.con v) σ h) Q R ↔ Q v h := by simp only [jE_eq, jEs_eq, jO_eq, jC_eq, jI_eq, jS_eq, jSs_eq]; rw [eE, W_ok]
@[simp] theorem W_bin {op : Operator} {a b : E} : W (jE Φ (.bin op a b) σ h) Q R ↔ W (jE Φ a σ h) (fun x h1 => W (jE Φ b σ h1) (fun y h2 => W (binI op x y h2) Q R) R) R := by simp only [jE_eq, jEs_eq, jO_eq, jC_eq, jI_eq, jS_eq, jSs_eq]; rw [eE]; (try simp only [W_bind]); (try exact Iff.rfl)
@[simp] theorem W_neg {a : E} : W (jE Φ (.neg a) σ h) Q R ↔ W (jE Φ a σ h) (fun x h1 => W (match x with | .int i => .ok (.int (-i)) h1 | _ => .stuck) Q R) R := by simp only [jE_eq, jEs_eq, jO_eq, jC_eq, jI_eq, jS_eq, jSs_eq]; rw [eE]; (try simp only [W_bind]); (try exact Iff.rfl)
@[simp] theorem W_not {a : E} : W (jE Φ (.not a) σ h) Q R ↔ W (tst (jE Φ a σ h)) (fun b h1 => Q (.bl !b) h1) R := by simp only [jE_eq, jEs_eq, jO_eq, jC_eq, jI_eq, jS_eq, jSs_eq]; rw [eE]; (try simp only [W_bind, W_ok]); (try exact Iff.rfl)
@[simp] theorem W_and {a b : E} : W (jE Φ (.and a b) σ h) Q R ↔ W (jE Φ a σ h) (fun x h1 => W (match truI x h1 with | some true => jE Φ b σ h1 | some false => .ok x h1 | none => .stuck) Q R) R := by simp only [jE_eq, jEs_eq, jO_eq, jC_eq, jI_eq, jS_eq, jSs_eq]; rw [eE]; (try simp only [W_bind]); (try exact Iff.rfl)
@[simp] theorem W_or {a b : E} : W (jE Φ (.or a b) σ h) Q R ↔ W (jE Φ a σ h) (fun x h1 => W (match truI x h1 with | some true => .ok x h1 | some false => jE Φ b σ h1 | none => .stuck) Q R) R := by simp only [jE_eq, jEs_eq, jO_eq, jC_eq, jI_eq, jS_eq, jSs_eq]; rw [eE]; (try simp only [W_bind]); (try exact Iff.rfl)
@[simp] theorem W_cmp {op : CmpOp} {a b : E} : W (jE Φ (.cmp op a b) σ h) Q R ↔ W (jE Φ a σ h) (fun x h1 => W (jE Φ b σ h1) (fun y h2 => W (cmpI op x y h2) Q R) R) R := by simp only [jE_eq, jEs_eq, jO_eq, jC_eq, jI_eq, jS_eq, jSs_eq]; rw [eE]; (try simp only [W_bind]); (try exact Iff.rfl)
@[simp] theorem W_chain {op op' : CmpOp} {a b c : E} : W (jE Φ (.chain op op' a b c) σ h) Q R ↔ W (jE Φ a σ h) (fun x h1 => W (jE Φ b σ h1) (fun y h2 => W (cmpI op x y h2) (fun r h3 => W (match r with
    | .bl true => (jE Φ c σ h3).bind fun z h4 => cmpI op' y z h4
    | .bl false => .ok (.bl false) h3
    | _ => .stuck) Q R) R) R) R := by simp only [jE_eq, jEs_eq, jO_eq, jC_eq, jI_eq, jS_eq, jSs_eq]; rw [eE]; (try simp only [W_bind]); (try exact Iff.rfl)
@[simp] theorem W_ife {c a b : E} : W (jE Φ (.ife c a b) σ h) Q R ↔ W (tst (jE Φ c σ h)) (fun t h1 => if t = true then W (jE Φ a σ h1) Q R else W (jE Φ b σ h1) Q R) R := by simp only [jE_eq, jEs_eq, jO_eq, jC_eq, jI_eq, jS_eq, jSs_eq]; rw [eE]; (try simp only [W_bind, W_ite]); (try exact Iff.rfl)
@[simp] theorem W_tup {es : Es} : W (jE Φ (.tup es) σ h) Q R ↔ W (jEs Φ es σ h) (fun vs h1 => W (newT vs h1) Q R) R := by simp only [jE_eq, jEs_eq, jO_eq, jC_eq, jI_eq, jS_eq, jSs_eq]; rw [eE]; (try simp only [W_bind]); (try exact Iff.rfl)
@[simp] theorem W_lst {es : Es} : W (jE Φ (.lst es) σ h) Q R ↔ W (jEs Φ es σ h) (fun vs h1 => W (newL vs h1) Q R) R := by simp only [jE_eq, jEs_eq, jO_eq, jC_eq, jI_eq, jS_eq, jSs_eq]; rw [eE]; (try simp only [W_bind]); (try exact Iff.rfl)
@[simp] theorem W_call {f : Nat} {es : Es} : W (jE Φ (.call f es) σ h) Q R ↔ W (jEs Φ es σ h) (fun vs h1 => W (Φ f vs h1) Q R) R := by simp only [jE_eq, jEs_eq, jO_eq, jC_eq, jI_eq, jS_eq, jSs_eq]; rw [eE]; (try simp only [W_bind]); (try exact Iff.rfl)
@[simp] theorem W_callk {f m : Nat} {perm : List Nat} {es ks : Es} : W (jE Φ (.callk f m perm es ks) σ h) Q R ↔ W (jEs Φ es σ h) (fun vs h1 => W (jEs Φ ks σ h1) (fun zs h2 => W (if vs.length = m ∧ m + zs.length = perm.length then Φ f (arr perm (vs ++ zs)) h2 else .stuck) Q R) R) R := by simp only [jE_eq, jEs_eq, jO_eq, jC_eq, jI_eq, jS_eq, jSs_eq]; rw [eE]; (try simp only [W_bind]); (try exact Iff.rfl)
@[simp] theorem W_blt {f : Bt} {es : Es} : W (jE Φ (.blt f es) σ h) Q R ↔ W (jEs Φ es σ h) (fun vs h1 => W (bltI f vs h1) Q R) R := by simp only [jE_eq, jEs_eq, jO_eq, jC_eq, jI_eq, jS_eq, jSs_eq]; rw [eE]; (try simp only [W_bind]); (try exact Iff.rfl)
@[simp] theorem W_trg {a : E} : W (jE Φ (.trg a) σ h) Q R ↔ W (jE Φ a σ h) (fun x h1 => W (match x with | .int n => if 0 ≤ n ∧ n ≤ 1000000 then .ok (.tup ((List.range n.toNat).map fun i : Nat => .int i)) h1 else .stuck | _ => .stuck) Q R) R := by simp only [jE_eq, jEs_eq, jO_eq, jC_eq, jI_eq, jS_eq, jSs_eq]; rw [eE]; (try simp only [W_bind]); (try exact Iff.rfl)
@[simp] theorem W_lrg {a : E} : W (jE Φ (.lrg a) σ h) Q R ↔ W (jE Φ a σ h) (fun x h1 => W (match x with | .int n => if 0 ≤ n ∧ n ≤ 1000000 then .ok (.ref h1.length) (h1 ++ [.lst ((List.range n.toNat).map fun i : Nat => .int i)]) else .stuck | _ => .stuck) Q R) R := by simp only [jE_eq, jEs_eq, jO_eq, jC_eq, jI_eq, jS_eq, jSs_eq]; rw [eE]; (try simp only [W_bind]); (try exact Iff.rfl)
@[simp] theorem W_sset {a : E} : W (jE Φ (.sset a) σ h) Q R ↔ W (jE Φ a σ h) (fun x h1 => W (match (lstOf h1 x).bind intsOf with
    | some ns => if ns.length + 1 < 4096 then .ok (.ref h1.length) (h1 ++ [.lst ((sst ns).map .int)]) else .stuck
    | none => .stuck) Q R) R := by simp only [jE_eq, jEs_eq, jO_eq, jC_eq, jI_eq, jS_eq, jSs_eq]; rw [eE]; (try simp only [W_bind]); (try exact Iff.rfl)
def skeyO (k : Ky) (x : IV) (h1 : IH) : Out IV := match lstOf h1 x with
    | some xs => if (xs.all fun x => (keyI k x).isSome) = true then .ok (.ref h1.length) (h1 ++ [.lst (skeyI k xs)]) else .stuck
    | none => .stuck
def sdefO (x y : IV) (h2 : IH) : Out IV := match x, keyOf y with
      | .ref a, some key => (match h2[a]? with
        | some (.dk kvs) => if kvs.length < LIM then (match look key kvs with
          | some v => .ok v h2
          | none => .ok (.ref h2.length) ((h2 ++ [IO.dt []]).set a (IO.dk (put key (.ref h2.length) kvs)))) else .stuck
        | _ => .stuck)
      | _, _ => .stuck
@[simp] theorem W_skey {k : Ky} {a : E} : W (jE Φ (.skey k a) σ h) Q R ↔ W (jE Φ a σ h) (fun x h1 => W (skeyO k x h1) Q R) R := by simp only [jE_eq, jEs_eq, jO_eq, jC_eq, jI_eq, jS_eq, jSs_eq]; rw [eE]; (try simp only [W_bind]); (try exact Iff.rfl)
@[simp] theorem W_slr {a : E} : W (jE Φ (.slr a) σ h) Q R ↔ W (jE Φ a σ h) (fun x h1 => W (match lstOf h1 x with | some xs => .ok (.ref h1.length) (h1 ++ [.lst xs.reverse]) | none => .stuck) Q R) R := by simp only [jE_eq, jEs_eq, jO_eq, jC_eq, jI_eq, jS_eq, jSs_eq]; rw [eE]; (try simp only [W_bind]); (try exact Iff.rfl)
@[simp] theorem W_sdef {o k : E} : W (jE Φ (.sdef o k) σ h) Q R ↔ W (jE Φ o σ h) (fun x h1 => isDct x h1 = true ∧ W (jE Φ k σ h1) (fun y h2 => W (sdefO x y h2) Q R) R) R := by
  simp only [jE_eq, jEs_eq, jO_eq, jC_eq, jI_eq, jS_eq, jSs_eq]
  rw [eE, W_bind]
  cases eE Φ o σ h with
  | ex e g => exact Iff.rfl
  | stuck => exact Iff.rfl
  | ok v g =>
    simp only [W_ok]
    split
    · rename_i e2; rw [W_bind]; exact ⟨fun q => ⟨e2, q⟩, fun q => q.2⟩
    · rename_i e2; exact ⟨fun q => q.elim, fun q => (e2 q.1).elim⟩
@[simp] theorem W_isi {a : E} {T : Ty} : W (jE Φ (.isi a T) σ h) Q R ↔ W (jE Φ a σ h) (fun x h1 => W (match isIH T x h1 with | some b => .ok (.bl b) h1 | none => .stuck) Q R) R := by simp only [jE_eq, jEs_eq, jO_eq, jC_eq, jI_eq, jS_eq, jSs_eq]; rw [eE]; (try simp only [W_bind]); (try exact Iff.rfl)
@[simp] theorem W_calv {i : Nat} {es : Es} : W (jE Φ (.calv i es) σ h) Q R ↔ (match σ[i]? with | some (some (.fn f)) => W (jEs Φ es σ h) (fun vs h1 => W (Φ f vs h1) Q R) R | _ => False) := by
  simp only [jE_eq, jEs_eq, jO_eq, jC_eq, jI_eq, jS_eq, jSs_eq]; rw [eE]
  cases σ[i]? with
  | none => exact Iff.rfl
  | some o => cases o with
    | none => exact Iff.rfl
    | some v => cases v <;> (try simp only [W_bind]) <;> exact Iff.rfl
@[simp] theorem W_fld {a : E} : W (jE Φ (.fld a) σ h) Q R ↔ W (jE Φ a σ h) (fun x h1 => W (match x with | .exc _ [v] => .ok v h1 | _ => .stuck) Q R) R := by simp only [jE_eq, jEs_eq, jO_eq, jC_eq, jI_eq, jS_eq, jSs_eq]; rw [eE]; (try simp only [W_bind]); (try exact Iff.rfl)
@[simp] theorem W_isx {a : E} {c : Option Nat} : W (jE Φ (.isx a c) σ h) Q R ↔ W (jE Φ a σ h) (fun x h1 => W (match isxI c x with | some b => .ok (.bl b) h1 | none => .stuck) Q R) R := by simp only [jE_eq, jEs_eq, jO_eq, jC_eq, jI_eq, jS_eq, jSs_eq]; rw [eE]; (try simp only [W_bind]); (try exact Iff.rfl)
@[simp] theorem W_seal {e : E} : W (jE Φ (.shut e) σ h) Q R ↔ W (jE Φ e σ h) (fun x h1 => W (sealI h x h1) Q R) R := by simp only [jE_eq, jEs_eq, jO_eq, jC_eq, jI_eq, jS_eq, jSs_eq]; rw [eE]; (try simp only [W_bind]); (try exact Iff.rfl)
@[simp] theorem W_ix {a b : E} : W (jE Φ (.ix a b) σ h) Q R ↔ W (jE Φ a σ h) (fun x h1 => W (jE Φ b σ h1) (fun y h2 => W (ixI x y h2) Q R) R) R := by simp only [jE_eq, jEs_eq, jO_eq, jC_eq, jI_eq, jS_eq, jSs_eq]; rw [eE]; (try simp only [W_bind]); (try exact Iff.rfl)
@[simp] theorem W_sl {a : E} {lo hi : Oe} : W (jE Φ (.sl a lo hi) σ h) Q R ↔ W (jE Φ a σ h) (fun x h1 => W (jO Φ lo σ h1) (fun l h2 => W (jO Φ hi σ h2) (fun u h3 => W (slI x l u h3) Q R) R) R) R := by simp only [jE_eq, jEs_eq, jO_eq, jC_eq, jI_eq, jS_eq, jSs_eq]; rw [eE]; (try simp only [W_bind]); (try exact Iff.rfl)
noncomputable def lcB (Φ : Calls) (el : E) (tg : Tg) (c : Oe) (own : List Nat) (σ : Sl) : IV → IH → Out (Option IV) := fun x h2 => match tgI tg x (wipeI σ own) with
      | some σ2 => noX ((jC Φ c σ2 h2).bind fun b h3 => if b then (jE Φ el σ2 h3).bind fun v h4 => .ok (some v) h4 else .ok none h3)
      | none => .stuck
theorem lcB_eq {el : E} {tg : Tg} {c : Oe} {own : List Nat} : lcB Φ el tg c own σ = fun x h2 => match tgI tg x (wipeI σ own) with
      | some σ2 => noX ((eC Φ c σ2 h2).bind fun b h3 => if b then (eE Φ el σ2 h3).bind fun v h4 => .ok (some v) h4 else .ok none h3)
      | none => .stuck := by
  unfold lcB
  simp only [jE_eq, jEs_eq, jO_eq, jC_eq, jI_eq, jS_eq, jSs_eq]
@[simp] theorem W_lc {el : E} {tg : Tg} {it : It} {c : Oe} {own : List Nat} : W (jE Φ (.lc el tg it c own) σ h) Q R ↔ W (jI Φ it σ h) (fun w h1 => W (lcGo w (lcB Φ el tg c own σ) 0 (wkLen w h1) [] h1) (fun vs h5 => W (newL vs h5) Q R) R) R := by
  simp only [jE_eq, jEs_eq, jO_eq, jC_eq, jI_eq, jS_eq, jSs_eq, lcB_eq]; rw [eE]; (try simp only [W_bind]); (try exact Iff.rfl)
@[simp] theorem W_ssc {el : E} {tg : Tg} {it : It} {c : Oe} {own : List Nat} : W (jE Φ (.ssc el tg it c own) σ h) Q R ↔ W (jI Φ it σ h) (fun w h1 => W (lcGo w (lcB Φ el tg c own σ) 0 (wkLen w h1) [] h1) (fun vs h5 => W (sscI vs h5) Q R) R) R := by
  simp only [jE_eq, jEs_eq, jO_eq, jC_eq, jI_eq, jS_eq, jSs_eq, lcB_eq]; rw [eE]; (try simp only [W_bind]); (try exact Iff.rfl)
theorem eE_tup {es : Es} {σ : Sl} {h : IH} : eE Φ (.tup es) σ h = (eEs Φ es σ h).bind fun vs h1 => newT vs h1 := by rw [eE]
@[simp] theorem W_dcm {kv : Es} {tg : Tg} {it : It} {c : Oe} {own : List Nat} : W (jE Φ (.dcm kv tg it c own) σ h) Q R ↔ W (jI Φ it σ h) (fun w h1 => W (lcGo w (lcB Φ (.tup kv) tg c own σ) 0 (wkLen w h1) [] h1) (fun vs h5 => W (dcmI vs h5) Q R) R) R := by
  simp only [jE_eq, jEs_eq, jO_eq, jC_eq, jI_eq, jS_eq, jSs_eq, lcB_eq, eE_tup]; rw [eE]; (try simp only [W_bind]); (try exact Iff.rfl)
theorem W_lcB {el : E} {tg : Tg} {c : Oe} {own : List Nat} {x : IV} {Q : Option IV → IH → Prop} : W (lcB Φ el tg c own σ x h) Q R ↔ OptQ (tgI tg x (wipeI σ own)) fun σ2 => W (jC Φ c σ2 h) (fun b h3 => if b = true then W (jE Φ el σ2 h3) (fun v h4 => Q (some v) h4) (fun _ _ => False) else Q none h3) (fun _ _ => False) := by
  unfold lcB
  cases tgI tg x (wipeI σ own) with
  | none => exact Iff.rfl
  | some σ2 =>
    simp only [OptQ_some, W_noX, W_bind, W_ite, W_ok]
@[simp] theorem W_dict {tk : Bool} : W (jE Φ (.dict tk) σ h) Q R ↔ Q (.ref h.length) (h ++ [if tk then .dt [] else .dk []]) := by simp only [jE_eq, jEs_eq, jO_eq, jC_eq, jI_eq, jS_eq, jSs_eq]; rw [eE, W_ok]
@[simp] theorem W_xrg {o : E} {es : Es} : W (jE Φ (.xrg o es) σ h) Q R ↔ W (jE Φ o σ h) (fun x h1 => isLst x h1 = true ∧ W (jEs Φ es σ h1) (fun vs h2 => W (xrgI x vs h2) Q R) R) R := by
  simp only [jE_eq, jEs_eq, jO_eq, jC_eq, jI_eq, jS_eq, jSs_eq]
  rw [eE, W_bind]
  cases eE Φ o σ h with
  | ex e g => exact Iff.rfl
  | stuck => exact Iff.rfl
  | ok v g =>
    simp only [W_ok]
    split
    · rename_i e2; rw [W_bind]; exact ⟨fun q => ⟨e2, q⟩, fun q => q.2⟩
    · rename_i e2; exact ⟨fun q => q.elim, fun q => (e2 q.1).elim⟩
@[simp] theorem W_meth {m : Mt} {o : E} {es : Es} : W (jE Φ (.meth m o es) σ h) Q R ↔ W (jE Φ o σ h) (fun x h1 => isLst x h1 = true ∧ W (jEs Φ es σ h1) (fun vs h2 => W (methI m x vs h2) Q R) R) R := by
  simp only [jE_eq, jEs_eq, jO_eq, jC_eq, jI_eq, jS_eq, jSs_eq]
  rw [eE, W_bind]
  cases eE Φ o σ h with
  | ex e g => exact Iff.rfl
  | stuck => exact Iff.rfl
  | ok v g =>
    simp only [W_ok]
    split
    · rename_i e2; rw [W_bind]; exact ⟨fun q => ⟨e2, q⟩, fun q => q.2⟩
    · rename_i e2; exact ⟨fun q => q.elim, fun q => (e2 q.1).elim⟩
@[simp] theorem W_join {a b : E} : W (jE Φ (.join a b) σ h) Q R ↔ W (jE Φ a σ h) (fun x h1 => W (match x with | .str s => (jE Φ b σ h1).bind fun y h2 => joinI s y h2 | _ => .stuck) Q R) R := by simp only [jE_eq, jEs_eq, jO_eq, jC_eq, jI_eq, jS_eq, jSs_eq]; rw [eE]; (try simp only [W_bind]); (try exact Iff.rfl)
@[simp] theorem W_split {a b : E} : W (jE Φ (.split a b) σ h) Q R ↔ W (jE Φ a σ h) (fun x h1 => W (match x with | .str s => (jE Φ b σ h1).bind fun y h2 => splitI s y h2 | _ => .stuck) Q R) R := by simp only [jE_eq, jEs_eq, jO_eq, jC_eq, jI_eq, jS_eq, jSs_eq]; rw [eE]; (try simp only [W_bind]); (try exact Iff.rfl)
@[simp] theorem W_dks {ks : List Str} {es : Es} : W (jE Φ (.dks ks es) σ h) Q R ↔ W (jEs Φ es σ h) (fun vs h1 => W (if ks.Nodup ∧ ks.length = vs.length then .ok (.ref h1.length) (h1 ++ [.dk ((ks.map Sum.inr).zip vs)]) else .stuck) Q R) R := by simp only [jE_eq, jEs_eq, jO_eq, jC_eq, jI_eq, jS_eq, jSs_eq]; rw [eE]; (try simp only [W_bind]); (try exact Iff.rfl)
@[simp] theorem W_nilE {Q : List IV → IH → Prop} : W (jEs Φ .nil σ h) Q R ↔ Q [] h := by simp only [jE_eq, jEs_eq, jO_eq, jC_eq, jI_eq, jS_eq, jSs_eq]; rw [eEs, W_ok]
@[simp] theorem W_consE {e : E} {es : Es} {Q : List IV → IH → Prop} : W (jEs Φ (.cons e es) σ h) Q R ↔ W (jE Φ e σ h) (fun v h1 => W (jEs Φ es σ h1) (fun vs h2 => Q (v :: vs) h2) R) R := by simp only [jE_eq, jEs_eq, jO_eq, jC_eq, jI_eq, jS_eq, jSs_eq]; rw [eEs]; (try simp only [W_bind, W_ok]); (try exact Iff.rfl)
@[simp] theorem W_nonO {Q : Option Int → IH → Prop} : W (jO Φ .non σ h) Q R ↔ Q none h := by simp only [jE_eq, jEs_eq, jO_eq, jC_eq, jI_eq, jS_eq, jSs_eq]; rw [eO, W_ok]
@[simp] theorem W_somO {e : E} {Q : Option Int → IH → Prop} : W (jO Φ (.som e) σ h) Q R ↔ W (jE Φ e σ h) (fun x h1 => W (match x with | .int i => .ok (some i) h1 | _ => .stuck) Q R) R := by simp only [jE_eq, jEs_eq, jO_eq, jC_eq, jI_eq, jS_eq, jSs_eq]; rw [eO]; (try simp only [W_bind]); (try exact Iff.rfl)
@[simp] theorem W_nonC {Q : Bool → IH → Prop} : W (jC Φ .non σ h) Q R ↔ Q true h := by simp only [jE_eq, jEs_eq, jO_eq, jC_eq, jI_eq, jS_eq, jSs_eq]; rw [eC, W_ok]
@[simp] theorem W_somC {e : E} {Q : Bool → IH → Prop} : W (jC Φ (.som e) σ h) Q R ↔ W (tst (jE Φ e σ h)) Q R := by simp only [jE_eq, jEs_eq, jO_eq, jC_eq, jI_eq, jS_eq, jSs_eq]; rw [eC]
@[simp] theorem W_Ival {e : E} {Q : Wk → IH → Prop} : W (jI Φ (.val e) σ h) Q R ↔ W (jE Φ e σ h) (fun x h1 => W (valI x h1) Q R) R := by simp only [jE_eq, jEs_eq, jO_eq, jC_eq, jI_eq, jS_eq, jSs_eq]; rw [eI]; (try simp only [W_bind]); (try exact Iff.rfl)
@[simp] theorem W_Iints {xs : List Int} {Q : Wk → IH → Prop} : W (jI Φ (.ints xs) σ h) Q R ↔ Q (.vals (xs.map .int)) h := by simp only [jE_eq, jEs_eq, jO_eq, jC_eq, jI_eq, jS_eq, jSs_eq]; rw [eI, W_ok]
@[simp] theorem W_Irng {e : E} {Q : Wk → IH → Prop} : W (jI Φ (.rng e) σ h) Q R ↔ W (jE Φ e σ h) (fun x h1 => W (rngI x h1) Q R) R := by simp only [jE_eq, jEs_eq, jO_eq, jC_eq, jI_eq, jS_eq, jSs_eq]; rw [eI]; (try simp only [W_bind]); (try exact Iff.rfl)
@[simp] theorem W_Irng2 {a b : E} {Q : Wk → IH → Prop} : W (jI Φ (.rng2 a b) σ h) Q R ↔ W (jE Φ a σ h) (fun x h1 => W (jE Φ b σ h1) (fun y h2 => W (rng2I x y h2) Q R) R) R := by simp only [jE_eq, jEs_eq, jO_eq, jC_eq, jI_eq, jS_eq, jSs_eq]; rw [eI]; (try simp only [W_bind]); (try exact Iff.rfl)
@[simp] theorem W_Ienum {e : E} {Q : Wk → IH → Prop} : W (jI Φ (.enum e) σ h) Q R ↔ W (jE Φ e σ h) (fun x h1 => W (enumI x h1) Q R) R := by simp only [jE_eq, jEs_eq, jO_eq, jC_eq, jI_eq, jS_eq, jSs_eq]; rw [eI]; (try simp only [W_bind]); (try exact Iff.rfl)
@[simp] theorem W_Irev {e : E} {Q : Wk → IH → Prop} : W (jI Φ (.rev e) σ h) Q R ↔ W (jE Φ e σ h) (fun x h1 => W (revI x h1) Q R) R := by simp only [jE_eq, jEs_eq, jO_eq, jC_eq, jI_eq, jS_eq, jSs_eq]; rw [eI]; (try simp only [W_bind]); (try exact Iff.rfl)
@[simp] theorem W_Irevr {e : E} {Q : Wk → IH → Prop} : W (jI Φ (.revr e) σ h) Q R ↔ W (jE Φ e σ h) (fun x h1 => W (revrI x h1) Q R) R := by simp only [jE_eq, jEs_eq, jO_eq, jC_eq, jI_eq, jS_eq, jSs_eq]; rw [eI]; (try simp only [W_bind]); (try exact Iff.rfl)
@[simp] theorem W_Izip {a b : E} {Q : Wk → IH → Prop} : W (jI Φ (.zip a b) σ h) Q R ↔ W (jE Φ a σ h) (fun x h1 => W (jE Φ b σ h1) (fun y h2 => W (zipI x y h2) Q R) R) R := by simp only [jE_eq, jEs_eq, jO_eq, jC_eq, jI_eq, jS_eq, jSs_eq]; rw [eI]; (try simp only [W_bind]); (try exact Iff.rfl)
end

abbrev WS (x : Out Fl) (Q : Fl → IH → Prop) : Prop := W x Q fun _ _ => False
theorem WS.mono {x : Out Fl} {Q Q' : Fl → IH → Prop} (w : WS x Q) (k : ∀ fl h, Q fl h → Q' fl h) : WS x Q' := W.mono w k
section
variable {Φ : Calls} {σ : Sl} {h : IH} {Q : Fl → IH → Prop} {α : Type}
@[simp] theorem W_bindS {x : Out α} {f : α → IH → Out Fl} : WS (bindS σ x f) Q ↔ W x (fun v h1 => WS (f v h1) Q) (fun e h1 => Q (.rs e σ) h1) := by cases x <;> exact Iff.rfl
@[simp] theorem W_pass : WS (jS Φ .pass σ h) Q ↔ Q (.nx σ) h := by simp only [jE_eq, jEs_eq, jO_eq, jC_eq, jI_eq, jS_eq, jSs_eq]; rw [eS]; exact Iff.rfl
@[simp] theorem W_brk : WS (jS Φ .brk σ h) Q ↔ Q (.bk σ) h := by simp only [jE_eq, jEs_eq, jO_eq, jC_eq, jI_eq, jS_eq, jSs_eq]; rw [eS]; exact Iff.rfl
@[simp] theorem W_cnt : WS (jS Φ .cnt σ h) Q ↔ Q (.ct σ) h := by simp only [jE_eq, jEs_eq, jO_eq, jC_eq, jI_eq, jS_eq, jSs_eq]; rw [eS]; exact Iff.rfl
@[simp] theorem W_asg {tg : Tg} {e : E} : WS (jS Φ (.asg tg e) σ h) Q ↔ W (jE Φ e σ h) (fun v h1 => OptQ (tgI tg v σ) fun σ1 => Q (.nx σ1) h1) (fun e h1 => Q (.rs e σ) h1) := by
  simp only [jE_eq, jEs_eq, jO_eq, jC_eq, jI_eq, jS_eq, jSs_eq]
  rw [eS, W_bindS]
  have this : ∀ v h1, WS (match tgI tg v σ with | some σ1 => .ok (.nx σ1) h1 | none => .stuck) Q ↔ OptQ (tgI tg v σ) fun σ1 => Q (.nx σ1) h1 := fun v h1 => by cases tgI tg v σ <;> exact Iff.rfl
  exact ⟨fun w => W.imp w (fun v h1 q => (this v h1).mp q) fun _ _ r => r, fun w => W.imp w (fun v h1 q => (this v h1).mpr q) fun _ _ r => r⟩
@[simp] theorem W_par {i j : Nat} {a b : E} : WS (jS Φ (.par i j a b) σ h) Q ↔ W (jE Φ a σ h) (fun v h1 => W (jE Φ b σ h1) (fun u h2 => Q (.nx ((σ.set i (some v)).set j (some u))) h2) (fun e h1 => Q (.rs e σ) h1)) (fun e h1 => Q (.rs e σ) h1) := by simp only [jE_eq, jEs_eq, jO_eq, jC_eq, jI_eq, jS_eq, jSs_eq]; rw [eS]; simp only [W_bindS, W_ok]
@[simp] theorem W_set {o i e : E} : WS (jS Φ (.set o i e) σ h) Q ↔ W (jE Φ e σ h) (fun v h1 => W (jE Φ o σ h1) (fun x h2 => W (jE Φ i σ h2) (fun y h3 => W (setI x y v h3) (fun _ h4 => Q (.nx σ) h4) (fun e h1 => Q (.rs e σ) h1)) (fun e h1 => Q (.rs e σ) h1)) (fun e h1 => Q (.rs e σ) h1)) (fun e h1 => Q (.rs e σ) h1) := by simp only [jE_eq, jEs_eq, jO_eq, jC_eq, jI_eq, jS_eq, jSs_eq]; rw [eS]; simp only [W_bindS, W_ok]
@[simp] theorem W_swp {o i q j e : E} : WS (jS Φ (.swp o i q j e) σ h) Q ↔ W (jE Φ e σ h) (fun v h1 => ∃ x y, v = IV.tup [x, y] ∧ W (jE Φ o σ h1) (fun a h2 => W (jE Φ i σ h2) (fun b h3 => W (setI a b x h3) (fun _ h4 => W (jE Φ q σ h4) (fun a2 h5 => W (jE Φ j σ h5) (fun b2 h6 => W (setI a2 b2 y h6) (fun _ h7 => Q (.nx σ) h7) (fun e h1 => Q (.rs e σ) h1)) (fun e h1 => Q (.rs e σ) h1)) (fun e h1 => Q (.rs e σ) h1)) (fun e h1 => Q (.rs e σ) h1)) (fun e h1 => Q (.rs e σ) h1)) (fun e h1 => Q (.rs e σ) h1)) (fun e h1 => Q (.rs e σ) h1) := by
  simp only [jE_eq, jEs_eq, jO_eq, jC_eq, jI_eq, jS_eq, jSs_eq]
  rw [eS, W_bindS]
  have this : ∀ (v : IV) (h1 : IH), WS (match v with
      | IV.tup [x, y] => bindS σ (eE Φ o σ h1) fun a h2 => bindS σ (eE Φ i σ h2) fun b h3 => bindS σ (setI a b x h3) fun _ h4 => bindS σ (eE Φ q σ h4) fun a2 h5 => bindS σ (eE Φ j σ h5) fun b2 h6 => bindS σ (setI a2 b2 y h6) fun _ h7 => .ok (.nx σ) h7
      | _ => .stuck) Q ↔ ∃ x y, v = IV.tup [x, y] ∧ W (eE Φ o σ h1) (fun a h2 => W (eE Φ i σ h2) (fun b h3 => W (setI a b x h3) (fun _ h4 => W (eE Φ q σ h4) (fun a2 h5 => W (eE Φ j σ h5) (fun b2 h6 => W (setI a2 b2 y h6) (fun _ h7 => Q (.nx σ) h7) (fun e h1 => Q (.rs e σ) h1)) (fun e h1 => Q (.rs e σ) h1)) (fun e h1 => Q (.rs e σ) h1)) (fun e h1 => Q (.rs e σ) h1)) (fun e h1 => Q (.rs e σ) h1)) (fun e h1 => Q (.rs e σ) h1) := fun v h1 => by
    split
    · rename_i x y
      simp only [W_bindS, W_ok]
      exact ⟨fun w => ⟨x, y, rfl, w⟩, fun ⟨x', y', e, w⟩ => by cases e; exact w⟩
    · rename_i nv
      exact ⟨fun w => w.elim, fun ⟨x', y', e, w⟩ => (nv x' y' e).elim⟩
  exact ⟨fun w => W.imp w (fun v h1 q => (this v h1).mp q) fun _ _ r => r, fun w => W.imp w (fun v h1 q => (this v h1).mpr q) fun _ _ r => r⟩
@[simp] theorem W_aug {o i e : E} : WS (jS Φ (.aug o i e) σ h) Q ↔ W (jE Φ o σ h) (fun x h1 => W (jE Φ i σ h1) (fun y h2 => isLst x h2 = true ∧ W (ixI x y h2) (fun u h3 => W (jE Φ e σ h3) (fun v h4 => W (augI u v h4) (fun z h5 => W (setI x y z h5) (fun _ h6 => Q (.nx σ) h6) (fun e h1 => Q (.rs e σ) h1)) (fun e h1 => Q (.rs e σ) h1)) (fun e h1 => Q (.rs e σ) h1)) (fun e h1 => Q (.rs e σ) h1)) (fun e h1 => Q (.rs e σ) h1)) (fun e h1 => Q (.rs e σ) h1) := by
  simp only [jE_eq, jEs_eq, jO_eq, jC_eq, jI_eq, jS_eq, jSs_eq]
  rw [eS]
  simp only [W_bindS, W_ok]
  have : ∀ {x : IV} {h2 : IH} {o : Out Fl}, WS (if isLst x h2 = true then o else .stuck) Q ↔ isLst x h2 = true ∧ WS o Q := fun {x h2 o} => by
    split
    · rename_i e; exact ⟨fun q => ⟨e, q⟩, fun q => q.2⟩
    · rename_i e; exact ⟨fun q => q.elim, fun q => (e q.1).elim⟩
  simp only [this, W_bindS, W_ok]
@[simp] theorem W_drop {e : E} : WS (jS Φ (.drop e) σ h) Q ↔ W (jE Φ e σ h) (fun _ h1 => Q (.nx σ) h1) (fun e h1 => Q (.rs e σ) h1) := by simp only [jE_eq, jEs_eq, jO_eq, jC_eq, jI_eq, jS_eq, jSs_eq]; rw [eS]; simp only [W_bindS, W_ok]
@[simp] theorem W_ret {e : E} : WS (jS Φ (.ret e) σ h) Q ↔ W (jE Φ e σ h) (fun v h1 => Q (.ret v) h1) (fun e h1 => Q (.rs e σ) h1) := by simp only [jE_eq, jEs_eq, jO_eq, jC_eq, jI_eq, jS_eq, jSs_eq]; rw [eS]; simp only [W_bindS, W_ok]
@[simp] theorem W_retN : WS (jS Φ .retN σ h) Q ↔ Q (.ret .non) h := by simp only [jE_eq, jEs_eq, jO_eq, jC_eq, jI_eq, jS_eq, jSs_eq]; rw [eS]; exact Iff.rfl
@[simp] theorem W_if {c : E} {a b : Ss} : WS (jS Φ (.ite c a b) σ h) Q ↔ W (tst (jE Φ c σ h)) (fun t h1 => if t = true then WS (jSs Φ a σ h1) Q else WS (jSs Φ b σ h1) Q) (fun e h1 => Q (.rs e σ) h1) := by simp only [jE_eq, jEs_eq, jO_eq, jC_eq, jI_eq, jS_eq, jSs_eq]; rw [eS]; simp only [W_bindS, W_ite]
@[simp] theorem W_never : WS (jS Φ .never σ h) Q ↔ False := by simp only [jE_eq, jEs_eq, jO_eq, jC_eq, jI_eq, jS_eq, jSs_eq]; rw [eS]; exact Iff.rfl
@[simp] theorem W_rais0 {c : Nat} : WS (jS Φ (.rais c .nil) σ h) Q ↔ Q (.rs ⟨c, []⟩ σ) h := by
  simp only [jE_eq, jEs_eq, jO_eq, jC_eq, jI_eq, jS_eq, jSs_eq]
  rw [eS]
  simp only [W_bindS, W_nilE]
  exact Iff.rfl
@[simp] theorem W_rais1 {c : Nat} {e : E} : WS (jS Φ (.rais c (.cons e .nil)) σ h) Q ↔ W (jE Φ e σ h) (fun v h1 => Q (.rs ⟨c, [v]⟩ σ) h1) (fun e h1 => Q (.rs e σ) h1) := by
  simp only [jE_eq, jEs_eq, jO_eq, jC_eq, jI_eq, jS_eq, jSs_eq]
  rw [eS]
  simp only [W_bindS, eEs, W_bind, W_ok]
  exact Iff.rfl
@[simp] theorem W_for {tg : Tg} {it : It} {b : Ss} : WS (jS Φ (.for tg it b) σ h) Q ↔ W (jI Φ it σ h) (fun w h1 => WS (forGo w tg (fun σ h => jSs Φ b σ h) 0 (wkLen w h1) σ h1) Q) (fun e h1 => Q (.rs e σ) h1) := by simp only [jE_eq, jEs_eq, jO_eq, jC_eq, jI_eq, jS_eq, jSs_eq]; rw [eS]; simp only [W_bindS]
@[simp] theorem W_whl {c : E} {b : Ss} : WS (jS Φ (.whl c b) σ h) Q ↔ WS (whI (fun σ h => tst (jE Φ c σ h)) (fun σ h => jSs Φ b σ h) σ h) Q := by simp only [jE_eq, jEs_eq, jO_eq, jC_eq, jI_eq, jS_eq, jSs_eq]; rw [eS]
@[simp] theorem W_tri {b : Ss} {hs : List (Nat × Option Nat × Sx)} : WS (jS Φ (.tri b hs) σ h) Q ↔ WS (jSs Φ b σ h) fun fl h1 => match fl with
    | .rs e σ1 => WS (hdI e σ1 h1 hs) Q
    | fl => Q fl h1 := by
  simp only [jE_eq, jEs_eq, jO_eq, jC_eq, jI_eq, jS_eq, jSs_eq]
  rw [eS]
  show W (Out.bind _ _) Q _ ↔ _
  rw [W_bind]
  cases eSs Φ b σ h with
  | ok fl g => cases fl <;> exact Iff.rfl
  | ex e g => exact Iff.rfl
  | stuck => exact Iff.rfl
@[simp] theorem W_nil : WS (jSs Φ .nil σ h) Q ↔ Q (.nx σ) h := by simp only [jE_eq, jEs_eq, jO_eq, jC_eq, jI_eq, jS_eq, jSs_eq]; rw [eSs]; exact Iff.rfl
def Nxt (Φ : Calls) (r : Ss) (Q : Fl → IH → Prop) : Fl → IH → Prop := fun fl h1 => match fl with | .nx σ1 => WS (jSs Φ r σ1 h1) Q | f => Q f h1
theorem W.step {s : S} {r : Ss} (w : WS (jS Φ s σ h) (Nxt Φ r Q)) : WS (jSs Φ (.cons s r) σ h) Q := by
  simp only [jS_eq] at w
  simp only [jE_eq, jEs_eq, jO_eq, jC_eq, jI_eq, jS_eq, jSs_eq]
  rw [eSs]
  unfold WS
  rw [W_bind]
  refine W.mono w fun fl h1 q => ?_
  cases fl with
  | nx σ2 => unfold Nxt at q; simp only [jSs_eq] at q; exact q
  | ret v => exact q
  | bk σ2 => exact q
  | ct σ2 => exact q
  | rs e σ2 => exact q
theorem Nxt.go {s : S} {r : Ss} (w : WS (jS Φ s σ h) (Nxt Φ r Q)) : Nxt Φ (.cons s r) Q (.nx σ) h := W.step w
@[simp] theorem Nxt_nil : Nxt Φ .nil Q (.nx σ) h ↔ Q (.nx σ) h := W_nil (Φ := Φ)
@[simp] theorem Nxt_ret {r : Ss} {v : IV} : Nxt Φ r Q (.ret v) h ↔ Q (.ret v) h := Iff.rfl
@[simp] theorem Nxt_bk {r : Ss} {σ : Sl} : Nxt Φ r Q (.bk σ) h ↔ Q (.bk σ) h := Iff.rfl
@[simp] theorem Nxt_ct {r : Ss} {σ : Sl} : Nxt Φ r Q (.ct σ) h ↔ Q (.ct σ) h := Iff.rfl
@[simp] theorem Nxt_rs {r : Ss} {e : Ex} {σ : Sl} : Nxt Φ r Q (.rs e σ) h ↔ Q (.rs e σ) h := Iff.rfl
end
def LpQ (I : Sl → IH → Prop) (Q : Fl → IH → Prop) : Fl → IH → Prop := fun fl h2 => match fl with
  | .nx σ2 => I σ2 h2
  | .ct σ2 => I σ2 h2
  | .bk σ2 => Q (.nx σ2) h2
  | fl => Q fl h2
@[simp] theorem LpQ_nx {I : Sl → IH → Prop} {Q : Fl → IH → Prop} {σ : Sl} {h : IH} : LpQ I Q (.nx σ) h ↔ I σ h := Iff.rfl
@[simp] theorem LpQ_ct {I : Sl → IH → Prop} {Q : Fl → IH → Prop} {σ : Sl} {h : IH} : LpQ I Q (.ct σ) h ↔ I σ h := Iff.rfl
@[simp] theorem LpQ_bk {I : Sl → IH → Prop} {Q : Fl → IH → Prop} {σ : Sl} {h : IH} : LpQ I Q (.bk σ) h ↔ Q (.nx σ) h := Iff.rfl
@[simp] theorem LpQ_ret {I : Sl → IH → Prop} {Q : Fl → IH → Prop} {v : IV} {h : IH} : LpQ I Q (.ret v) h ↔ Q (.ret v) h := Iff.rfl
@[simp] theorem LpQ_rs {I : Sl → IH → Prop} {Q : Fl → IH → Prop} {e : Ex} {σ : Sl} {h : IH} : LpQ I Q (.rs e σ) h ↔ Q (.rs e σ) h := Iff.rfl
theorem lp_next {w : Wk} {tg : Tg} {b : Sl → IH → Out Fl} {n rem : Nat} {x : Out Fl} {Q : Fl → IH → Prop} (w1 : WS x (LpQ (fun σ2 h2 => WS (forGo w tg b n rem σ2 h2) Q) Q)) : WS (x.bind fun fl h2 => match fl with
        | .nx σ2 => forGo w tg b n rem σ2 h2
        | .ct σ2 => forGo w tg b n rem σ2 h2
        | .bk σ2 => .ok (.nx σ2) h2
        | fl => .ok fl h2) Q := by
  unfold WS
  rw [W_bind]
  refine W.mono w1 fun fl h2 q => ?_
  cases fl <;> exact q
theorem W_forV {xs : List IV} {tg : Tg} {b : Sl → IH → Out Fl} {Q : Fl → IH → Prop} (I : Nat → Sl → IH → Prop) {σ : Sl} {h : IH} (h0 : I 0 σ h)
    (step : ∀ n x σ h, xs[n]? = some x → I n σ h → OptQ (tgI tg x σ) fun σ1 => WS (b σ1 h) (LpQ (I (n + 1)) Q))
    (fin : ∀ σ h, I xs.length σ h → Q (.nx σ) h) : WS (forGo (.vals xs) tg b 0 (wkLen (.vals xs) h) σ h) Q := by
  have go : ∀ (rem n : Nat) (σ : Sl) (h : IH), n + rem = xs.length → I n σ h → WS (forGo (.vals xs) tg b n rem σ h) Q := by
    intro rem
    induction rem with
    | zero =>
      intro n σ h hn hi
      unfold forGo wkAt
      have e : xs[n]? = none := List.getElem?_eq_none (by omega)
      simp only [e]
      have : n = xs.length := by omega
      subst this
      exact fin σ h hi
    | succ rem ih =>
      intro n σ h hn hi
      unfold forGo wkAt
      have hlt : n < xs.length := by omega
      have e : xs[n]? = some xs[n] := List.getElem?_eq_getElem hlt
      simp only [e]
      have w := step n _ σ h e hi
      cases e1 : tgI tg xs[n] σ with
      | none => rw [e1] at w; exact w.elim
      | some σ1 =>
        rw [e1] at w
        simp only
        refine lp_next (W.mono w fun fl h2 q => ?_)
        cases fl <;> first
          | exact ih (n + 1) _ h2 (by omega) q
          | exact q
  exact go xs.length 0 σ h (by omega) h0
theorem W_while {t : Sl → IH → Out Bool} {b : Sl → IH → Out Fl} {Q : Fl → IH → Prop} (I : Nat → Sl → IH → Prop) {m : Nat} {σ : Sl} {h : IH} (h0 : I m σ h)
    (step : ∀ m σ h, I m σ h → W (t σ h) (fun c h1 => if c = true then WS (b σ h1) (LpQ (fun σ2 h2 => ∃ m', m' < m ∧ I m' σ2 h2) Q) else Q (.nx σ) h1) (fun e h1 => Q (.rs e σ) h1)) : WS (whI t b σ h) Q := by
  have go : ∀ (k m : Nat) (σ : Sl) (h : IH), m ≤ k → I m σ h → ∃ n fl h', whN t b n σ h = .ok fl h' ∧ Q fl h' := by
    intro k
    induction k with
    | zero =>
      intro m σ h hm hi
      have w := step m σ h hi
      cases e1 : t σ h with
      | stuck => rw [e1] at w; exact w.elim
      | ex e h1 => rw [e1] at w; exact ⟨1, _, h1, by unfold whN; rw [e1]; rfl, w⟩
      | ok c h1 =>
        rw [e1] at w
        cases c with
        | false => exact ⟨1, .nx σ, h1, by unfold whN; rw [e1]; rfl, w⟩
        | true =>
          have w : WS (b σ h1) _ := w
          cases e2 : b σ h1 with
          | stuck => rw [e2] at w; exact w.elim
          | ex e h2 => rw [e2] at w; exact w.elim
          | ok fl h2 =>
            rw [e2] at w
            cases fl with
            | nx σ2 => obtain ⟨m', hm', _⟩ := w; omega
            | ct σ2 => obtain ⟨m', hm', _⟩ := w; omega
            | bk σ2 => exact ⟨1, .nx σ2, h2, by unfold whN; rw [e1]; simp [e2], w⟩
            | ret v => exact ⟨1, .ret v, h2, by unfold whN; rw [e1]; simp [e2], w⟩
            | rs e σ2 => exact ⟨1, .rs e σ2, h2, by unfold whN; rw [e1]; simp [e2], w⟩
    | succ k ih =>
      intro m σ h hm hi
      have w := step m σ h hi
      cases e1 : t σ h with
      | stuck => rw [e1] at w; exact w.elim
      | ex e h1 => rw [e1] at w; exact ⟨1, _, h1, by unfold whN; rw [e1]; rfl, w⟩
      | ok c h1 =>
        rw [e1] at w
        cases c with
        | false => exact ⟨1, .nx σ, h1, by unfold whN; rw [e1]; rfl, w⟩
        | true =>
          have w : WS (b σ h1) _ := w
          cases e2 : b σ h1 with
          | stuck => rw [e2] at w; exact w.elim
          | ex e h2 => rw [e2] at w; exact w.elim
          | ok fl h2 =>
            rw [e2] at w
            cases fl with
            | nx σ2 =>
              obtain ⟨m', hm', hi'⟩ := w
              obtain ⟨n, fl, h', e3, q3⟩ := ih m' σ2 h2 (by omega) hi'
              exact ⟨n + 1, fl, h', by unfold whN; rw [e1]; simp [e2, e3], q3⟩
            | ct σ2 =>
              obtain ⟨m', hm', hi'⟩ := w
              obtain ⟨n, fl, h', e3, q3⟩ := ih m' σ2 h2 (by omega) hi'
              exact ⟨n + 1, fl, h', by unfold whN; rw [e1]; simp [e2, e3], q3⟩
            | bk σ2 => exact ⟨1, .nx σ2, h2, by unfold whN; rw [e1]; simp [e2], w⟩
            | ret v => exact ⟨1, .ret v, h2, by unfold whN; rw [e1]; simp [e2], w⟩
            | rs e σ2 => exact ⟨1, .rs e σ2, h2, by unfold whN; rw [e1]; simp [e2], w⟩
  obtain ⟨n, fl, h', e, q⟩ := go m m σ h (Nat.le_refl _) h0
  rw [whI_of n e (fun z => nomatch z)]
  exact q
theorem W_lcV {xs : List IV} {body : IV → IH → Out (Option IV)} {Q : List IV → IH → Prop} {R : Ex → IH → Prop} (I : Nat → List IV → IH → Prop) {h : IH} (h0 : I 0 [] h)
    (step : ∀ n x acc h, xs[n]? = some x → I n acc h → W (body x h) (fun o h2 => match o with
      | some v => acc.length < LIM ∧ I (n + 1) (acc ++ [v]) h2
      | none => I (n + 1) acc h2) R)
    (fin : ∀ acc h, I xs.length acc h → Q acc h) : W (lcGo (.vals xs) body 0 (wkLen (.vals xs) h) [] h) Q R := by
  have go : ∀ (rem n : Nat) (acc : List IV) (h : IH), n + rem = xs.length → I n acc h → W (lcGo (.vals xs) body n rem acc h) Q R := by
    intro rem
    induction rem with
    | zero =>
      intro n σ h hn hi
      unfold lcGo wkAt
      have e : xs[n]? = none := List.getElem?_eq_none (by omega)
      simp only [e]
      have : n = xs.length := by omega
      subst this
      exact fin σ h hi
    | succ rem ih =>
      intro n acc h hn hi
      unfold lcGo wkAt
      have hlt : n < xs.length := by omega
      have e : xs[n]? = some xs[n] := List.getElem?_eq_getElem hlt
      simp only [e]
      refine W_bind.mpr ((step n _ acc h e hi).mono fun o h2 q => ?_)
      cases o with
      | some v => simp only [q.1, if_true]; exact ih (n + 1) _ h2 (by omega) q.2
      | none => exact ih (n + 1) _ h2 (by omega) q
  exact go xs.length 0 [] h (by omega) h0
theorem W_def {P : Tab} {k f : Nat} {d : Df} {vs : List IV} {h : IH} {Q : IV → IH → Prop} {R : Ex → IH → Prop} (e : P f = some d) (hf : f < RAW) (hl : vs.length = d.ar)
    (w : WS (jSs (callF P k) d.body (vs.map some ++ List.replicate (d.sl - d.ar) none) h) fun fl h1 => match fl with
      | .nx _ => W (sealI h .non h1) Q R
      | .ret v => W (sealI h v h1) Q R
      | .rs e _ => W (cutX h e h1) Q R
      | _ => False) : W (callF P (k + 1) f vs h) Q R := by
  simp only [jSs_eq] at w
  unfold callF
  rw [if_pos hf, e]
  simp only
  unfold runD
  rw [if_pos hl]
  cases eb : eSs (callF P k) d.body (vs.map some ++ List.replicate (d.sl - d.ar) none) h with
  | stuck => rw [eb] at w; exact w.elim
  | ex e h1 => rw [eb] at w; exact w.elim
  | ok fl h1 =>
    rw [eb] at w
    cases fl with
    | nx σ => exact w
    | ret v => exact w
    | bk σ => exact w.elim
    | ct σ => exact w.elim
    | rs e σ => exact w
theorem W_defG {P : Tab} {k f g : Nat} {d : Df} {vs : List IV} {h : IH} {Q : IV → IH → Prop} {R : Ex → IH → Prop} (hg : g = f + RAW) (e : P f = some d) (hl : vs.length = d.ar)
    (w : WS (jSs (callF P k) d.body (vs.map some ++ List.replicate (d.sl - d.ar) none) h) fun fl h1 => match fl with
      | .nx _ => Q .non h1
      | .ret v => Q v h1
      | .rs e _ => R e h1
      | _ => False) : W (callF P (k + 1) g vs h) Q R := by
  have hg1 : ¬ g < RAW := by omega
  have hg2 : g - RAW = f := by omega
  simp only [jSs_eq] at w
  unfold callF
  rw [if_neg hg1, hg2, e]
  simp only
  unfold runD
  rw [if_pos hl]
  cases eb : eSs (callF P k) d.body (vs.map some ++ List.replicate (d.sl - d.ar) none) h with
  | stuck => rw [eb] at w; exact w.elim
  | ex e h1 => rw [eb] at w; exact w.elim
  | ok fl h1 =>
    rw [eb] at w
    cases fl with
    | nx σ => exact w
    | ret v => exact w
    | bk σ => exact w.elim
    | ct σ => exact w.elim
    | rs e σ => exact w
theorem nrVs_append {n : Nat} : ∀ {xs ys : List IV}, nrVs n (xs ++ ys) = (nrVs n xs && nrVs n ys)
  | [], ys => by rw [List.nil_append, nrVs, Bool.true_and]
  | x :: xs, ys => by rw [List.cons_append, nrVs, nrVs, nrVs_append, Bool.and_assoc]
@[simp] theorem nrVs_ints {n : Nat} : ∀ {xs : List Int}, nrVs n (xs.map IV.int) = true
  | [] => rfl
  | x :: xs => by rw [List.map_cons, nrVs, nrVs_ints]; rfl
theorem nrVs_all {n : Nat} : ∀ {xs : List IV}, (∀ x ∈ xs, nrV n x = true) → nrVs n xs = true
  | [], _ => rfl
  | x :: xs, h => by rw [nrVs, h x List.mem_cons_self, nrVs_all fun y m => h y (List.mem_cons_of_mem _ m)]; rfl
theorem fz_nr {h : IH} {n k : Nat} {v : IV} (m : nrV n v = true) : fzV h n k v = some v := by
  cases k <;> (unfold fzV; rw [if_pos m])
theorem fz_all {h : IH} {n k : Nat} : ∀ {xs : List IV}, nrVs n xs = true → allM (fzV h n k) xs = some xs
  | [], _ => rfl
  | x :: xs, m => by
    rw [nrVs, Bool.and_eq_true] at m
    unfold allM
    rw [fz_nr m.1]
    simp only
    rw [fz_all m.2]; rfl
theorem old_app {h g : IH} : oldOk h (h ++ g) := ⟨by simp, fun i hi => .inl (List.getElem?_append_left hi)⟩
theorem seal_of {h0 h : IH} {v u : IV} (o : oldOk h0 h) (e : fzV h h0.length 6 v = some u) : sealI h0 v h = .ok u (h.take h0.length) := by
  unfold sealI
  rw [e]
  simp only
  rw [if_pos o]
theorem seal_nr {h0 g : IH} {v : IV} (m : nrV h0.length v = true) : sealI h0 v (h0 ++ g) = .ok v h0 := by
  rw [seal_of old_app (fz_nr m), List.take_left]
theorem seal_nr0 {h0 : IH} {v : IV} (m : nrV h0.length v = true) : sealI h0 v h0 = .ok v h0 := by
  have := seal_nr (g := []) m
  rwa [List.append_nil] at this
theorem seal_lst {h0 : IH} {g : IH} {xs : List IV} {i : Nat} (hi : h0.length ≤ i) (e : (h0 ++ g)[i]? = some (.lst xs)) (m : nrVs h0.length xs = true) : sealI h0 (.ref i) (h0 ++ g) = .ok (.lsr true xs) h0 := by
  have : fzV (h0 ++ g) h0.length 6 (.ref i) = some (.lsr true xs) := by
    unfold fzV
    have : nrV h0.length (.ref i) = false := by rw [nrV]; exact decide_eq_false (by omega)
    rw [if_neg (by rw [this]; exact Bool.false_ne_true)]
    simp only [e]
    rw [fz_all m]; rfl
  rw [seal_of old_app this, List.take_left]
theorem seal_new {h0 : IH} {xs : List IV} (m : nrVs h0.length xs = true) : sealI h0 (.ref h0.length) (h0 ++ [.lst xs]) = .ok (.lsr true xs) h0 := seal_lst (Nat.le_refl _) (by simp) m
@[simp] theorem seal_int {h0 g : IH} {i : Int} : sealI h0 (.int i) (h0 ++ g) = .ok (.int i) h0 := seal_nr rfl
@[simp] theorem seal_int0 {h0 : IH} {i : Int} : sealI h0 (.int i) h0 = .ok (.int i) h0 := seal_nr0 rfl
@[simp] theorem seal_bl {h0 g : IH} {i : Bool} : sealI h0 (.bl i) (h0 ++ g) = .ok (.bl i) h0 := seal_nr rfl
@[simp] theorem seal_bl0 {h0 : IH} {i : Bool} : sealI h0 (.bl i) h0 = .ok (.bl i) h0 := seal_nr0 rfl
@[simp] theorem seal_non {h0 g : IH} : sealI h0 .non (h0 ++ g) = .ok .non h0 := seal_nr rfl
@[simp] theorem seal_non0 {h0 : IH} : sealI h0 .non h0 = .ok .non h0 := seal_nr0 rfl
@[simp] theorem seal_str0 {h0 : IH} {x : Str} : sealI h0 (.str x) h0 = .ok (.str x) h0 := seal_nr0 rfl
theorem old_set {h0 : IH} {p : Nat} {o : IO} (m : nrO h0.length o = true) : oldOk h0 (h0.set p o) := ⟨by simp, fun i hi => by
  by_cases hp : i = p
  · subst hp
    exact .inr ⟨o, List.getElem?_set_self hi, m⟩
  · exact .inl (List.getElem?_set_ne (Ne.symm hp))⟩
theorem seal_set {h0 : IH} {p : Nat} {o : IO} {v : IV} (m : nrO h0.length o = true) (mv : nrV h0.length v = true) : sealI h0 v (h0.set p o) = .ok v (h0.set p o) := by
  rw [seal_of (old_set m) (fz_nr mv)]
  have : (h0.set p o).take h0.length = h0.set p o := List.take_of_length_le (by simp)
  rw [this]
theorem old_setA {h0 g : IH} {p : Nat} {o : IO} (m : nrO h0.length o = true) : oldOk h0 (h0.set p o ++ g) := ⟨by simp, fun i hi => by
  rw [List.getElem?_append_left (by simpa using hi)]
  exact (old_set m).2 i hi⟩
theorem seal_setA {h0 g : IH} {p : Nat} {o : IO} {v u : IV} (m : nrO h0.length o = true) (e : fzV (h0.set p o ++ g) h0.length 6 v = some u) : sealI h0 v (h0.set p o ++ g) = .ok u (h0.set p o) := by
  rw [seal_of (old_setA m) e]
  have : (h0.set p o ++ g).take h0.length = h0.set p o := by
    have := List.take_left (l₁ := h0.set p o) (l₂ := g)
    rwa [List.length_set] at this
  rw [this]
theorem cut_app {h0 g : IH} {c : Nat} : cutX h0 ⟨c, []⟩ (h0 ++ g) = .ex ⟨c, []⟩ h0 := by
  unfold cutX
  rw [if_pos ⟨old_app, rfl⟩, List.take_left]
@[simp] theorem cut_0 {h0 : IH} {c : Nat} : cutX h0 ⟨c, []⟩ h0 = .ex ⟨c, []⟩ h0 := by
  have := cut_app (h0 := h0) (g := []) (c := c)
  rwa [List.append_nil] at this
end Pi
end

section
set_option maxHeartbeats 8000000
namespace Pi
open PySem
section
variable {h : IH} {i j : Int} {xs ys : List IV} {b : Bool} {α : Type}
@[simp] theorem truI_non : truI .non h = some false := rfl
@[simp] theorem truI_bl : truI (.bl b) h = some b := rfl
@[simp] theorem truI_int : truI (.int i) h = some (i != 0) := rfl
@[simp] theorem truI_tup : truI (.tup xs) h = some !xs.isEmpty := rfl
@[simp] theorem truI_lsr {k : Bool} : truI (.lsr k xs) h = some !xs.isEmpty := rfl
@[simp] theorem b_add : binI .Add (.int i) (.int j) h = .ok (.int (i + j)) h := rfl
@[simp] theorem b_sub : binI .Sub (.int i) (.int j) h = .ok (.int (i - j)) h := rfl
theorem small_of {k : Nat} (e : i.natAbs < 2 ^ k) (l : k ≤ 400000) : small i = true := decide_eq_true (Nat.lt_of_lt_of_le e (Nat.pow_le_pow_right (by omega) l))
theorem mid_lt {n : Nat} (e : i.natAbs ≤ n) (l : n < 2 ^ 8000) : mid i = true := decide_eq_true (Nat.lt_of_le_of_lt e l)
theorem small64 (e : i.natAbs < 18446744073709551616) : small i = true := small_of (k := 64) (by omega) (by omega)
theorem mid64 (e : i.natAbs < 18446744073709551616) : mid i = true := mid_lt (n := 18446744073709551616) (by omega) (by decide +kernel)
theorem b_mul (a : small i = true) (b : small j = true) : binI .Mult (.int i) (.int j) h = .ok (.int (i * j)) h := by unfold binI; simp [a, b]
theorem b_mulL (a : i.natAbs < 18446744073709551616) : binI .Mult (.int i) (.int j) h = .ok (.int (i * j)) h := by unfold binI tiny; simp [a]
theorem b_mulR (a : j.natAbs < 18446744073709551616) : binI .Mult (.int i) (.int j) h = .ok (.int (i * j)) h := by unfold binI tiny; simp [a]
theorem b_mul64 (a : i.natAbs < 18446744073709551616) (b : j.natAbs < 18446744073709551616) : binI .Mult (.int i) (.int j) h = .ok (.int (i * j)) h := b_mul (small64 a) (small64 b)
theorem b_mod (a : 0 < j) : binI .Mod (.int i) (.int j) h = .ok (.int (i % j)) h := by unfold binI; simp [a]
theorem b_div (a : 0 < j) (b : mid j = true) : binI .FloorDiv (.int i) (.int j) h = .ok (.int (i / j)) h := by unfold binI; simp [a, b]
theorem b_div64 (a : 0 < j) (b : j < 18446744073709551616) : binI .FloorDiv (.int i) (.int j) h = .ok (.int (i / j)) h := b_div a (mid64 (by omega))
theorem b_pow (a : 0 ≤ j) (b : j ≤ 1000000) (c : i.natAbs < 18446744073709551616) : binI .Pow (.int i) (.int j) h = .ok (.int (i ^ j.toNat)) h := by unfold binI; simp [a, b, c]
@[simp] theorem c_eq : cmpI .Eq (.int i) (.int j) h = .ok (.bl (decide (i = j))) h := rfl
@[simp] theorem c_ne : cmpI .NotEq (.int i) (.int j) h = .ok (.bl (!decide (i = j))) h := rfl
@[simp] theorem c_lt : cmpI .Lt (.int i) (.int j) h = .ok (.bl (decide (i < j))) h := rfl
@[simp] theorem c_le : cmpI .LtE (.int i) (.int j) h = .ok (.bl (decide (i ≤ j))) h := rfl
@[simp] theorem c_gt : cmpI .Gt (.int i) (.int j) h = .ok (.bl (decide (j < i))) h := rfl
@[simp] theorem c_ge : cmpI .GtE (.int i) (.int j) h = .ok (.bl (decide (j ≤ i))) h := rfl
@[simp] theorem c_isn {v : IV} : cmpI .Is v .non h = .ok (.bl v.isNon) h := rfl
@[simp] theorem c_nisn {v : IV} : cmpI .IsNot v .non h = .ok (.bl !v.isNon) h := rfl
@[simp] theorem c_isb {c : Bool} : cmpI .Is (.bl b) (.bl c) h = .ok (.bl (decide (b = c))) h := rfl
@[simp] theorem c_nisb {c : Bool} : cmpI .IsNot (.bl b) (.bl c) h = .ok (.bl !decide (b = c)) h := rfl
@[simp] theorem isNon_non : IV.isNon .non = true := rfl
@[simp] theorem isNon_int : IV.isNon (.int i) = false := rfl
@[simp] theorem isNon_bl : IV.isNon (.bl b) = false := rfl
@[simp] theorem isNon_tup : IV.isNon (.tup xs) = false := rfl
@[simp] theorem isNon_lsr {k : Bool} : IV.isNon (.lsr k xs) = false := rfl
@[simp] theorem c_eqs {x y : Str} : cmpI .Eq (.str x) (.str y) h = .ok (.bl (decide (x = y))) h := rfl
@[simp] theorem c_nes {x y : Str} : cmpI .NotEq (.str x) (.str y) h = .ok (.bl (!decide (x = y))) h := rfl
@[simp] theorem c_eqb {c : Bool} : cmpI .Eq (.bl b) (.bl c) h = .ok (.bl (decide (b = c))) h := rfl
@[simp] theorem c_neb {c : Bool} : cmpI .NotEq (.bl b) (.bl c) h = .ok (.bl (!decide (b = c))) h := rfl
@[simp] theorem len_tup : bltI .len [.tup xs] h = .ok (.int xs.length) h := rfl
@[simp] theorem len_lsr {k : Bool} : bltI .len [.lsr k xs] h = .ok (.int xs.length) h := rfl
@[simp] theorem abs_int : bltI .abs [.int i] h = .ok (.int i.natAbs) h := by
  show Out.ok (IV.int (if i < 0 then -i else i)) h = _
  split <;> (congr 2; omega)
@[simp] theorem int_int : bltI .int [.int i] h = .ok (.int i) h := rfl
@[simp] theorem int_bl : bltI .int [.bl b] h = .ok (.int (if b then 1 else 0)) h := rfl
@[simp] theorem max_int : bltI .max [.int i, .int j] h = .ok (.int (max i j)) h := by
  show Out.ok (IV.int (if j > i then j else i)) h = _
  split <;> (congr 2; omega)
@[simp] theorem min_int : bltI .min [.int i, .int j] h = .ok (.int (min i j)) h := by
  show Out.ok (IV.int (if j < i then j else i)) h = _
  split <;> (congr 2; omega)
@[simp] theorem list_tup : bltI .list [.tup xs] h = .ok (.ref h.length) (h ++ [.lst xs]) := rfl
@[simp] theorem list_lsr {k : Bool} : bltI .list [.lsr k xs] h = .ok (.ref h.length) (h ++ [.lst xs]) := rfl
@[simp] theorem tuple_tup : bltI .tuple [.tup xs] h = .ok (.tup xs) h := rfl
@[simp] theorem tuple_lsr : bltI .tuple [.lsr true xs] h = .ok (.tup xs) h := rfl
@[simp] theorem val_tup : valI (.tup xs) h = .ok (.vals xs) h := rfl
@[simp] theorem val_lsr {k : Bool} : valI (.lsr k xs) h = .ok (.vals xs) h := rfl
@[simp] theorem enum_tup : enumI (.tup xs) h = .ok (.enumT xs) h := rfl
@[simp] theorem enum_lsr {k : Bool} : enumI (.lsr k xs) h = .ok (.enumT xs) h := rfl
@[simp] theorem rev_lsr {k : Bool} : revI (.lsr k xs) h = .ok (.vals xs.reverse) h := rfl
@[simp] theorem zip_lsr {k l : Bool} : zipI (.lsr k xs) (.lsr l ys) h = .ok (.vals (List.zipWith (fun a b => .tup [a, b]) xs ys)) h := rfl
theorem rng_int {n : Nat} (l : n < 4611686018427387904) : rngI (.int n) h = .ok (.vals ((List.range n).map fun k : Nat => .int k)) h := by
  unfold rngI
  have : (-4611686018427387904 : Int) ≤ n ∧ (n : Int) < 4611686018427387904 := by omega
  simp [this]
theorem rng_i (l : -4611686018427387904 ≤ i ∧ i < 4611686018427387904) : rngI (.int i) h = .ok (.vals ((List.range i.toNat).map fun k : Nat => .int k)) h := by
  unfold rngI
  simp [l]
@[simp] theorem tg_name {k : Nat} {v : IV} {σ : Sl} : tgI (.name k) v σ = some (σ.set k (some v)) := rfl
@[simp] theorem tg_pair {a b : Tg} {x y : IV} {σ : Sl} : tgI (.pair a b) (.tup [x, y]) σ = (tgI a x σ).bind (tgI b y) := rfl
@[simp] theorem tg_four {a b c d : Tg} {x y z w : IV} {σ : Sl} : tgI (.four a b c d) (.tup [x, y, z, w]) σ = (((tgI a x σ).bind (tgI b y)).bind (tgI c z)).bind (tgI d w) := rfl
@[simp] theorem tg_three {a b c : Tg} {x y z : IV} {σ : Sl} : tgI (.three a b c) (.tup [x, y, z]) σ = ((tgI a x σ).bind (tgI b y)).bind (tgI c z) := rfl
@[simp] theorem tg_one {a : Tg} {x : IV} {σ : Sl} : tgI (.one a) (.tup [x]) σ = tgI a x σ := rfl
theorem newL_ok (l : xs.length ≤ LIM) : newL xs h = .ok (.ref h.length) (h ++ [.lst xs]) := by unfold newL; rw [if_pos l]
@[simp] theorem newT_0 : newT [] h = .ok (.tup []) h := rfl
@[simp] theorem newT_1 {a : IV} : newT [a] h = .ok (.tup [a]) h := rfl
@[simp] theorem newT_2 {a b : IV} : newT [a, b] h = .ok (.tup [a, b]) h := rfl
@[simp] theorem newT_3 {a b c : IV} : newT [a, b, c] h = .ok (.tup [a, b, c]) h := rfl
@[simp] theorem newT_4 {a b c d : IV} : newT [a, b, c, d] h = .ok (.tup [a, b, c, d]) h := rfl
@[simp] theorem newL_0 : newL [] h = .ok (.ref h.length) (h ++ [.lst []]) := rfl
@[simp] theorem newL_1 {a : IV} : newL [a] h = .ok (.ref h.length) (h ++ [.lst [a]]) := rfl
@[simp] theorem newL_2 {a b : IV} : newL [a, b] h = .ok (.ref h.length) (h ++ [.lst [a, b]]) := rfl
@[simp] theorem newL_3 {a b c : IV} : newL [a, b, c] h = .ok (.ref h.length) (h ++ [.lst [a, b, c]]) := rfl
inductive SqV : IV → List IV → Prop where
  | tup (xs : List IV) : SqV (.tup xs) xs
  | lsr (xs : List IV) : SqV (.lsr true xs) xs
theorem ix_of {a : IV} {n : Nat} (s : seqOf h a = some xs) (l : n < xs.length) : ixI a (.int n) h = .ok xs[n] h := by
  have e1 : L2.ixN xs.length (n : Int) = some n := by
    unfold L2.ixN
    rw [if_pos (by omega), if_pos (by omega)]
    rfl
  simp [ixI, s, L2.atI, e1, l]
theorem ix_at {a : IV} {n : Nat} {v : IV} (s : seqOf h a = some xs) (l : xs[n]? = some v) : ixI a (.int n) h = .ok v h := by
  obtain ⟨h1, h2⟩ := List.getElem?_eq_some_iff.mp l
  rw [ix_of s h1, h2]
theorem ix_at0 {a : IV} {v : IV} (s : seqOf h a = some xs) (l : xs[0]? = some v) : ixI a (.int 0) h = .ok v h := ix_at (n := 0) s l
theorem ix_i {a : IV} (s : seqOf h a = some xs) (l0 : 0 ≤ i) (l : i.toNat < xs.length) : ixI a (.int i) h = .ok xs[i.toNat] h := by
  have := ix_of (h := h) s l
  rw [Int.toNat_of_nonneg l0] at this
  exact this
theorem ix_neg1 {a : IV} (s : seqOf h a = some xs) (hn : xs ≠ []) : ixI a (.int (-1)) h = .ok (xs.getLast hn) h := by
  have hp : 0 < xs.length := List.length_pos_iff.mpr hn
  have e1 : L2.ixN xs.length (-1) = some (xs.length - 1) := by
    unfold L2.ixN
    rw [if_neg (by omega), if_pos (by omega)]
    congr 1; omega
  have e2 : xs[xs.length - 1]? = some (xs.getLast hn) := by rw [List.getElem?_eq_getElem (by omega), List.getLast_eq_getElem]
  simp [ixI, s, L2.atI, e1, e2]
@[simp] theorem ix_t0 {x : IV} : ixI (.tup (x :: xs)) (.int 0) h = .ok x h := by simp [ixI, seqOf, L2.atI, L2.ixN]
@[simp] theorem ix_t1 {x y : IV} : ixI (.tup (x :: y :: xs)) (.int 1) h = .ok y h := by
  have := ix_of (a := .tup (x :: y :: xs)) (n := 1) (h := h) rfl (by simp); exact this
@[simp] theorem ix_t2 {x y z : IV} : ixI (.tup (x :: y :: z :: xs)) (.int 2) h = .ok z h := by
  have := ix_of (a := .tup (x :: y :: z :: xs)) (n := 2) (h := h) rfl (by simp); exact this
@[simp] theorem ix_t3 {x y z w : IV} : ixI (.tup (x :: y :: z :: w :: xs)) (.int 3) h = .ok w h := by
  have := ix_of (a := .tup (x :: y :: z :: w :: xs)) (n := 3) (h := h) rfl (by simp); exact this
@[simp] theorem ix_l0 {k : Bool} {x : IV} : ixI (.lsr k (x :: xs)) (.int 0) h = .ok x h := by simp [ixI, seqOf, lstOf, L2.atI, L2.ixN]
@[simp] theorem ix_l1 {k : Bool} {x y : IV} : ixI (.lsr k (x :: y :: xs)) (.int 1) h = .ok y h := by
  have := ix_of (a := .lsr k (x :: y :: xs)) (n := 1) (h := h) rfl (by simp); exact this
@[simp] theorem ix_l2 {k : Bool} {x y z : IV} : ixI (.lsr k (x :: y :: z :: xs)) (.int 2) h = .ok z h := by
  have := ix_of (a := .lsr k (x :: y :: z :: xs)) (n := 2) (h := h) rfl (by simp); exact this
@[simp] theorem seq_tup : seqOf h (.tup xs) = some xs := rfl
@[simp] theorem seq_lsr {k : Bool} : seqOf h (.lsr k xs) = some xs := rfl
@[simp] theorem lst_lsr {k : Bool} : lstOf h (.lsr k xs) = some xs := rfl
@[simp] theorem intsOf_ints : ∀ ns : List Int, intsOf (ns.map .int) = some ns
  | [] => rfl
  | n :: ns => by rw [List.map_cons, intsOf, intsOf_ints ns]; rfl
@[simp] theorem blsOf_bls : ∀ ns : List Bool, blsOf (ns.map .bl) = some ns
  | [] => rfl
  | n :: ns => by rw [List.map_cons, blsOf, blsOf_bls ns]; rfl
@[simp] theorem sum_lsr {k : Bool} {ns : List Int} : bltI .sum [.lsr k (ns.map .int)] h = .ok (.int ns.sum) h := by simp [bltI]
@[simp] theorem all_lsr {k : Bool} {bs : List Bool} : bltI .all [.lsr k (bs.map .bl)] h = .ok (.bl (bs.all id)) h := by simp [bltI]
@[simp] theorem any_lsr {k : Bool} {bs : List Bool} : bltI .any [.lsr k (bs.map .bl)] h = .ok (.bl (bs.any id)) h := by simp [bltI]
@[simp] theorem sorted_lsr {k : Bool} {ns : List Int} : bltI .sorted [.lsr k (ns.map .int)] h = .ok (.ref h.length) (h ++ [.lst ((srt ns).map .int)]) := by simp [bltI]
@[simp] theorem new_at {o : IO} {l : IH} : (h ++ o :: l)[h.length]? = some o := by simp
@[simp] theorem new_at1 {o o1 : IO} {l : IH} : (h ++ o :: o1 :: l)[h.length + 1]? = some o1 := by simp
@[simp] theorem new_at2 {o o1 o2 : IO} {l : IH} : (h ++ o :: o1 :: o2 :: l)[h.length + 2]? = some o2 := by simp
@[simp] theorem new_set {o o' : IO} {l : IH} : (h ++ o :: l).set h.length o' = h ++ o' :: l := by
  rw [List.set_append_right _ _ (Nat.le_refl _), Nat.sub_self]; rfl
@[simp] theorem new_set1 {o o1 o' : IO} {l : IH} : (h ++ o :: o1 :: l).set (h.length + 1) o' = h ++ o :: o' :: l := by
  rw [List.set_append_right _ _ (by omega), Nat.add_sub_cancel_left]; rfl
@[simp] theorem new_set2 {o o1 o2 o' : IO} {l : IH} : (h ++ o :: o1 :: o2 :: l).set (h.length + 2) o' = h ++ o :: o1 :: o' :: l := by
  rw [List.set_append_right _ _ (by omega), Nat.add_sub_cancel_left]; rfl
theorem ref_seq {p : Nat} (e : h[p]? = some (.lst xs)) : seqOf h (.ref p) = some xs := by simp [seqOf, lstOf, e]
theorem ref_lst {p : Nat} (e : h[p]? = some (.lst xs)) : lstOf h (.ref p) = some xs := by simp [lstOf, e]
theorem ref_isLst {p : Nat} (e : h[p]? = some (.lst xs)) : isLst (.ref p) h = true := by simp [isLst, e]
theorem ref_len {p : Nat} (e : h[p]? = some (.lst xs)) : bltI .len [.ref p] h = .ok (.int xs.length) h := by unfold bltI; simp only [e]
theorem ref_tuple {p : Nat} (e : h[p]? = some (.lst xs)) : bltI .tuple [.ref p] h = .ok (.tup xs) h := by unfold bltI; simp only [ref_lst e]
theorem ref_app {p : Nat} {v : IV} (e : h[p]? = some (.lst xs)) (l : xs.length < LIM) : methI .append (.ref p) [v] h = .ok .non (h.set p (.lst (xs ++ [v]))) := by unfold methI; simp only [e, if_pos l]
theorem ref_set {p n : Nat} {v : IV} (e : h[p]? = some (.lst xs)) (l : n < xs.length) : setI (.ref p) (.int n) v h = .ok () (h.set p (.lst (xs.set n v))) := by
  have e1 : L2.ixN xs.length (n : Int) = some n := by
    unfold L2.ixN
    rw [if_pos (by omega), if_pos (by omega)]
    rfl
  unfold setI; simp only [e, e1]
@[simp] theorem isi_int {T : Ty} : isIH T (.int i) h = some (decide (T = .int)) := rfl
@[simp] theorem isi_bl {T : Ty} : isIH T (.bl b) h = some (decide (T = .int ∨ T = .bool)) := rfl
@[simp] theorem isi_tup {T : Ty} : isIH T (.tup xs) h = some (decide (T = .tuple)) := rfl
@[simp] theorem isi_lsr {T : Ty} : isIH T (.lsr true xs) h = some (decide (T = .list)) := rfl
@[simp] theorem isi_str {T : Ty} {x : Str} : isIH T (.str x) h = some (decide (T = .str)) := rfl
@[simp] theorem isi_non {T : Ty} : isIH T .non h = some false := rfl
@[simp] theorem aug_int : augI (.int i) (.int j) h = .ok (.int (i + j)) h := rfl
@[simp] theorem nrV_int {n : Nat} : nrV n (.int i) = true := rfl
@[simp] theorem nrV_bl {n : Nat} : nrV n (.bl b) = true := rfl
@[simp] theorem nrV_non {n : Nat} : nrV n .non = true := rfl
@[simp] theorem nrV_str {n : Nat} {x : Str} : nrV n (.str x) = true := rfl
@[simp] theorem nrV_tup {n : Nat} : nrV n (.tup xs) = nrVs n xs := by rw [nrV]
@[simp] theorem nrV_lsr {n : Nat} {k : Bool} : nrV n (.lsr k xs) = nrVs n xs := by rw [nrV]
@[simp] theorem nrVs_nil {n : Nat} : nrVs n [] = true := rfl
@[simp] theorem nrVs_cons {n : Nat} {x : IV} : nrVs n (x :: xs) = (nrV n x && nrVs n xs) := by rw [nrVs]
@[simp] theorem nrVs_mapi {n : Nat} {f : α → Int} {ts : List α} : nrVs n (ts.map fun t => .int (f t)) = true := nrVs_all fun x m => by
  obtain ⟨t, m1, rfl⟩ := List.mem_map.mp m
  rfl
@[simp] theorem nrVs_mapb {n : Nat} {f : α → Bool} {ts : List α} : nrVs n (ts.map fun t => .bl (f t)) = true := nrVs_all fun x m => by
  obtain ⟨t, m1, rfl⟩ := List.mem_map.mp m
  rfl
theorem nrVs_map {n : Nat} {f : α → IV} {ts : List α} (e : ∀ t ∈ ts, nrV n (f t) = true) : nrVs n (ts.map f) = true := nrVs_all fun x m => by
  obtain ⟨t, m1, rfl⟩ := List.mem_map.mp m
  exact e t m1
end
section
variable {α β : Type} {h : IH} {Q : IV → IH → Prop} {R : Ex → IH → Prop}
theorem W_lcM {ts : List α} {u : α → IV} {body : IV → IH → Out (Option IV)} (g : α → IV) (hl : ts.length ≤ LIM) (step : ∀ t ∈ ts, W (body (u t) h) (fun o h' => o = some (g t) ∧ h' = h) (fun _ _ => False)) (nr : ∀ t ∈ ts, nrV h.length (g t) = true) (fin : Q (.lsr true (ts.map g)) h) :
    W (lcGo (.vals (ts.map u)) body 0 (wkLen (.vals (ts.map u)) h) [] h) (fun vs h5 => W (newL vs h5) (fun x h1 => W (sealI h x h1) Q R) R) R := by
  refine W_lcV (fun n acc h' => acc = (ts.take n).map g ∧ h' = h) ⟨by simp, rfl⟩ ?_ ?_
  · rintro n x acc h' hx ⟨rfl, rfl⟩
    rw [List.getElem?_map] at hx
    cases e : ts[n]? with
    | none => rw [e] at hx; cases hx
    | some t =>
      rw [e] at hx
      cases hx
      have hn := (List.getElem?_eq_some_iff.mp e).1
      rw [W_eq.mp (step t (List.mem_of_getElem? e))]
      have et : ts.take (n + 1) = ts.take n ++ [t] := by rw [List.take_succ, e]; rfl
      exact ⟨by simp; omega, by rw [et, List.map_append]; rfl, rfl⟩
  · rintro acc h' ⟨rfl, rfl⟩
    rw [List.length_map, List.take_length, newL_ok (by simpa using hl), W_ok, seal_new (nrVs_map nr)]
    exact fin
end
theorem W_forM {α : Type} {ts : List α} {u : α → IV} {tg : Tg} {b : Sl → IH → Out Fl} {Q : Fl → IH → Prop} (I : Nat → Sl → IH → Prop) {σ : Sl} {h : IH} (h0 : I 0 σ h)
    (step : ∀ n t σ h, ts[n]? = some t → I n σ h → OptQ (tgI tg (u t) σ) fun σ1 => WS (b σ1 h) (LpQ (I (n + 1)) Q))
    (fin : ∀ σ h, I ts.length σ h → Q (.nx σ) h) : WS (forGo (.vals (ts.map u)) tg b 0 (wkLen (.vals (ts.map u)) h) σ h) Q := by
  refine W_forV I h0 (fun n x σ h hx hi => ?_) (fun σ h hi => fin σ h (by rw [List.length_map] at hi; exact hi))
  rw [List.getElem?_map] at hx
  cases e : ts[n]? with
  | none => rw [e] at hx; cases hx
  | some t =>
    rw [e] at hx
    cases hx
    exact step n t σ h e hi
theorem at_lt {α : Type} {ts : List α} {n : Nat} {t : α} (e : ts[n]? = some t) : n < ts.length := (List.getElem?_eq_some_iff.mp e).1
theorem W_forWI {w : Wk} {N : Nat} (it : Nat → IV) {tg : Tg} {b : Sl → IH → Out Fl} {Q : Fl → IH → Prop} (I : Nat → Sl → IH → Prop) {σ : Sl} {h : IH} (hN : wkLen w h = N) (hw : ∀ n σ h, n ≤ N → I n σ h → wkAt w n h = some (if n < N then some (it n) else none)) (h0 : I 0 σ h)
    (step : ∀ n σ h, n < N → I n σ h → OptQ (tgI tg (it n) σ) fun σ1 => WS (b σ1 h) (LpQ (I (n + 1)) Q))
    (fin : ∀ σ h, I N σ h → Q (.nx σ) h) : WS (forGo w tg b 0 (wkLen w h) σ h) Q := by
  have go : ∀ (rem n : Nat) (σ : Sl) (h : IH), n + rem = N → I n σ h → WS (forGo w tg b n rem σ h) Q := by
    intro rem
    induction rem with
    | zero =>
      intro n σ h hn hi
      unfold forGo
      have e := hw n σ h (by omega) hi
      rw [if_neg (by omega)] at e
      simp only [e]
      have : n = N := by omega
      subst this
      exact fin σ h hi
    | succ rem ih =>
      intro n σ h hn hi
      unfold forGo
      have e := hw n σ h (by omega) hi
      rw [if_pos (by omega)] at e
      simp only [e]
      have w1 := step n σ h (by omega) hi
      cases e1 : tgI tg (it n) σ with
      | none => rw [e1] at w1; exact w1.elim
      | some σ1 =>
        rw [e1] at w1
        simp only
        refine lp_next (W.mono w1 fun fl h2 q => ?_)
        cases fl <;> first
          | exact ih (n + 1) _ h2 (by omega) q
          | exact q
  rw [hN]
  exact go N 0 σ h (by omega) h0
theorem lsAt_of {h : IH} {p : Nat} {xs : List IV} (e : h[p]? = some (.lst xs)) : lsAt h p = some xs := by unfold lsAt; simp only [e]
theorem W_forL {α : Type} {ts : List α} {u : α → IV} {p : Nat} {tg : Tg} {b : Sl → IH → Out Fl} {Q : Fl → IH → Prop} (I : Nat → Sl → IH → Prop) {σ : Sl} {h : IH} (hx : h[p]? = some (.lst (ts.map u))) (keep : ∀ n σ h, I n σ h → h[p]? = some (.lst (ts.map u))) (h0 : I 0 σ h)
    (step : ∀ n t σ h, ts[n]? = some t → I n σ h → OptQ (tgI tg (u t) σ) fun σ1 => WS (b σ1 h) (LpQ (I (n + 1)) Q))
    (fin : ∀ σ h, I ts.length σ h → Q (.nx σ) h) : WS (forGo (.lst p) tg b 0 (wkLen (.lst p) h) σ h) Q := by
  refine W_forWI (N := ts.length) (fun n => ((ts.map u)[n]?).getD .non) I (by simp [wkLen, lsAt_of hx]) (fun n σ h hn hi => ?_) h0 (fun n σ h hn hi => ?_) fin
  · show (lsAt h p).map (fun xs => xs[n]?) = _
    rw [lsAt_of (keep n σ h hi)]
    by_cases c : n < ts.length
    · simp [c]
    · simp [c]
  · have := step n ts[n] σ h (by simp [hn]) hi
    simpa [hn] using this
end Pi
end

section
set_option maxHeartbeats 8000000
namespace Pi
open PySem
def b_is_integer : Ss := (.cons (.ret (.and (.isi (.var 0) .int) (.not (.isi (.var 0) .bool))))
  .nil)
def D6 : Df := ⟨1, 1, b_is_integer⟩
def b_in_range : Ss := (.cons (.ret (.and (.call 6 (.cons (.var 0) .nil)) (.chain .LtE .LtE (.var 1) (.var 0) (.var 2))))
  .nil)
def D7 : Df := ⟨3, 3, b_in_range⟩
def b_ascends : Ss := (.cons (.ite (.or (.not (.isi (.var 0) .tuple)) (.cmp .Eq (.blt .len (.cons (.var 0) .nil)) (.con (.int 0))))
    (.cons (.ret (.con (.bl false)))
    .nil)
    .nil)
  (.cons (.for (.name 3) (.rng (.blt .len (.cons (.var 0) .nil)))
    (.cons (.ite (.not (.call 7 (.cons (.ix (.var 0) (.var 3)) (.cons (.var 1) (.cons (.var 2) .nil)))))
      (.cons (.ret (.con (.bl false)))
      .nil)
      .nil)
    (.cons (.ite (.and (.cmp .Gt (.var 3) (.con (.int 0))) (.cmp .GtE (.ix (.var 0) (.bin .Sub (.var 3) (.con (.int 1)))) (.ix (.var 0) (.var 3))))
      (.cons (.ret (.con (.bl false)))
      .nil)
      .nil)
    .nil)))
  (.cons (.ret (.con (.bl true)))
  .nil)))
def D8 : Df := ⟨3, 4, b_ascends⟩
def b_leaf_fits : Ss := (.cons (.asg (.name 1) (.ix (.var 0) (.con (.int 0))))
  (.cons (.ite (.cmp .Eq (.var 1) (.con (.str "rests")))
    (.cons (.ret (.and (.cmp .Eq (.blt .len (.cons (.var 0) .nil)) (.con (.int 3))) (.and (.call 7 (.cons (.ix (.var 0) (.con (.int 1))) (.cons (.con (.int 1)) (.cons (.con (.int 60)) .nil)))) (.call 8 (.cons (.ix (.var 0) (.con (.int 2))) (.cons (.con (.int 0)) (.cons (.bin .Sub (.ix (.var 0) (.con (.int 1))) (.con (.int 1))) .nil)))))))
    .nil)
    .nil)
  (.cons (.ite (.cmp .Eq (.var 1) (.con (.str "list")))
    (.cons (.ret (.and (.cmp .Eq (.blt .len (.cons (.var 0) .nil)) (.con (.int 2))) (.and (.call 8 (.cons (.ix (.var 0) (.con (.int 1))) (.cons (.neg (.con (.int 100))) (.cons (.con (.int 100)) .nil)))) (.cmp .LtE (.blt .len (.cons (.ix (.var 0) (.con (.int 1))) .nil)) (.con (.int 12))))))
    .nil)
    .nil)
  (.cons (.ite (.cmp .Eq (.var 1) (.con (.str "powers")))
    (.cons (.ret (.and (.cmp .Eq (.blt .len (.cons (.var 0) .nil)) (.con (.int 2))) (.call 7 (.cons (.ix (.var 0) (.con (.int 1))) (.cons (.con (.int 2)) (.cons (.con (.int 10)) .nil))))))
    .nil)
    .nil)
  (.cons (.ret (.and (.cmp .Eq (.blt .len (.cons (.var 0) .nil)) (.con (.int 1))) (.or (.cmp .Eq (.var 1) (.con (.str "squares"))) (.cmp .Eq (.var 1) (.con (.str "primes"))))))
  .nil)))))
def D10 : Df := ⟨1, 2, b_leaf_fits⟩
def b_move_fits : Ss := (.cons (.ret (.and (.call 7 (.cons (.var 0) (.cons (.neg (.con (.int 20))) (.cons (.con (.int 20)) .nil)))) (.and (.cmp .NotEq (.var 0) (.con (.int 0))) (.call 7 (.cons (.var 1) (.cons (.neg (.con (.int 200))) (.cons (.con (.int 200)) .nil)))))))
  .nil)
def D9 : Df := ⟨2, 2, b_move_fits⟩
def b_tuples_in : Ss := (.cons (.ite (.or (.cmp .Eq (.var 1) (.con (.int 0))) (.or (.not (.isi (.var 0) .tuple)) (.cmp .Eq (.blt .len (.cons (.var 0) .nil)) (.con (.int 0)))))
    (.cons (.ret (.con (.int 0)))
    .nil)
    .nil)
  (.cons (.asg (.name 4) (.ix (.var 0) (.con (.int 0))))
  (.cons (.ite (.cmp .Eq (.var 4) (.con (.str "moved")))
    (.cons (.ite (.or (.cmp .NotEq (.blt .len (.cons (.var 0) .nil)) (.con (.int 4))) (.or (.not (.call 9 (.cons (.ix (.var 0) (.con (.int 2))) (.cons (.ix (.var 0) (.con (.int 3))) .nil)))) (.cmp .Gt (.blt .abs (.cons (.bin .Mult (.var 2) (.ix (.var 0) (.con (.int 2)))) .nil)) (.con (.int 400)))))
      (.cons (.ret (.con (.int 0)))
      .nil)
      .nil)
    (.cons (.asg (.name 5) (.call 11 (.cons (.ix (.var 0) (.con (.int 1))) (.cons (.bin .Sub (.var 1) (.con (.int 1))) (.cons (.bin .Mult (.var 2) (.ix (.var 0) (.con (.int 2)))) (.cons (.var 3) .nil))))))
    (.cons (.ret (.ife (.cmp .Eq (.var 5) (.con (.int 0))) (.con (.int 0)) (.bin .Add (.var 5) (.con (.int 1)))))
    .nil)))
    .nil)
  (.cons (.ite (.cmp .Eq (.var 4) (.con (.str "either")))
    (.cons (.ite (.cmp .NotEq (.blt .len (.cons (.var 0) .nil)) (.con (.int 3)))
      (.cons (.ret (.con (.int 0)))
      .nil)
      .nil)
    (.cons (.asg (.name 6) (.call 11 (.cons (.ix (.var 0) (.con (.int 1))) (.cons (.bin .Sub (.var 1) (.con (.int 1))) (.cons (.var 2) (.cons (.con (.bl true)) .nil))))))
    (.cons (.asg (.name 7) (.call 11 (.cons (.ix (.var 0) (.con (.int 2))) (.cons (.bin .Sub (.var 1) (.con (.int 1))) (.cons (.var 2) (.cons (.con (.bl true)) .nil))))))
    (.cons (.ret (.ife (.or (.cmp .Eq (.var 6) (.con (.int 0))) (.cmp .Eq (.var 7) (.con (.int 0)))) (.con (.int 0)) (.bin .Add (.bin .Add (.var 6) (.var 7)) (.con (.int 1)))))
    .nil))))
    .nil)
  (.cons (.ite (.or (.not (.call 10 (.cons (.var 0) .nil))) (.and (.var 3) (.and (.cmp .NotEq (.var 4) (.con (.str "rests"))) (.cmp .NotEq (.var 4) (.con (.str "list"))))))
    (.cons (.ret (.con (.int 0)))
    .nil)
    .nil)
  (.cons (.ret (.con (.int 1)))
  .nil))))))
def D11 : Df := ⟨4, 8, b_tuples_in⟩
def b_is_set : Ss := (.cons (.ret (.chain .Lt .LtE (.con (.int 0)) (.call 11 (.cons (.var 0) (.cons (.con (.int 6)) (.cons (.con (.int 1)) (.cons (.con (.bl false)) .nil))))) (.con (.int 12))))
  .nil)
def D12 : Df := ⟨1, 1, b_is_set⟩
def b_check_set : Ss := (.cons (.ite (.not (.call 12 (.cons (.var 0) .nil)))
    (.cons (.rais 1 .nil)
    .nil)
    .nil)
  .nil)
def D24 : Df := ⟨1, 1, b_check_set⟩
def b_words_of : Ss := (.cons (.asg (.name 1) (.ix (.var 0) (.con (.int 0))))
  (.cons (.ite (.cmp .Eq (.var 1) (.con (.str "rests")))
    (.cons (.ret (.bin .Add (.shut (.lst (.cons (.con (.str "rests")) (.cons (.blt .str (.cons (.ix (.var 0) (.con (.int 1))) .nil)) (.cons (.con (.str ":")) .nil))))) (.shut (.lc (.blt .str (.cons (.var 2) .nil)) (.name 2) (.val (.ix (.var 0) (.con (.int 2)))) .non [2]))))
    .nil)
    .nil)
  (.cons (.ite (.cmp .Eq (.var 1) (.con (.str "list")))
    (.cons (.ret (.bin .Add (.shut (.lst (.cons (.con (.str "list")) (.cons (.con (.str ":")) .nil)))) (.shut (.lc (.blt .str (.cons (.var 3) .nil)) (.name 3) (.val (.ix (.var 0) (.con (.int 1)))) .non [3]))))
    .nil)
    .nil)
  (.cons (.ite (.cmp .Eq (.var 1) (.con (.str "powers")))
    (.cons (.ret (.lst (.cons (.con (.str "powers")) (.cons (.blt .str (.cons (.ix (.var 0) (.con (.int 1))) .nil)) .nil))))
    .nil)
    .nil)
  (.cons (.ite (.cmp .Eq (.var 1) (.con (.str "moved")))
    (.cons (.ret (.bin .Add (.shut (.bin .Add (.shut (.lst (.cons (.con (.str "moved")) (.cons (.blt .str (.cons (.ix (.var 0) (.con (.int 2))) .nil)) (.cons (.blt .str (.cons (.ix (.var 0) (.con (.int 3))) .nil)) (.cons (.con (.str "(")) .nil)))))) (.call 369 (.cons (.ix (.var 0) (.con (.int 1))) .nil)))) (.shut (.lst (.cons (.con (.str ")")) .nil)))))
    .nil)
    .nil)
  (.cons (.ite (.cmp .Eq (.var 1) (.con (.str "either")))
    (.cons (.ret (.bin .Add (.shut (.bin .Add (.shut (.bin .Add (.shut (.bin .Add (.shut (.lst (.cons (.con (.str "either")) (.cons (.con (.str "(")) .nil)))) (.call 369 (.cons (.ix (.var 0) (.con (.int 1))) .nil)))) (.shut (.lst (.cons (.con (.str ")")) (.cons (.con (.str "(")) .nil)))))) (.call 369 (.cons (.ix (.var 0) (.con (.int 2))) .nil)))) (.shut (.lst (.cons (.con (.str ")")) .nil)))))
    .nil)
    .nil)
  (.cons (.ret (.lst (.cons (.var 1) .nil)))
  .nil)))))))
def D369 : Df := ⟨1, 4, b_words_of⟩
def b_show_set : Ss := (.cons (.drop (.call 24 (.cons (.var 0) .nil)))
  (.cons (.ret (.join (.con (.str " ")) (.call 369 (.cons (.var 0) .nil))))
  .nil))
def D370 : Df := ⟨1, 1, b_show_set⟩
def b_integer_of : Ss := (.cons (.asg (.name 1) (.var 0))
  (.cons (.ite (.cmp .Eq (.shut (.sl (.var 0) .non (.som (.con (.int 1))))) (.con (.str "-")))
    (.cons (.asg (.name 1) (.shut (.sl (.var 0) (.som (.con (.int 1))) .non)))
    .nil)
    .nil)
  (.cons (.ite (.or (.cmp .Eq (.var 1) (.con (.str ""))) (.cmp .Gt (.blt .len (.cons (.var 1) .nil)) (.con (.int 61))))
    (.cons (.ret (.con .non))
    .nil)
    .nil)
  (.cons (.for (.name 2) (.val (.var 1))
    (.cons (.ite (.cmp .NotIn (.var 2) (.con (.str "0123456789")))
      (.cons (.ret (.con .non))
      .nil)
      .nil)
    .nil))
  (.cons (.ite (.and (.cmp .Eq (.ix (.var 1) (.con (.int 0))) (.con (.str "0"))) (.cmp .NotEq (.var 0) (.con (.str "0"))))
    (.cons (.ret (.con .non))
    .nil)
    .nil)
  (.cons (.ret (.blt .int (.cons (.var 0) .nil)))
  .nil))))))
def D371 : Df := ⟨1, 3, b_integer_of⟩
def b_word_at : Ss := (.cons (.ite (.cmp .GtE (.var 1) (.blt .len (.cons (.var 0) .nil)))
    (.cons (.rais 19 (.cons (.blt .len (.cons (.var 0) .nil)) .nil))
    .nil)
    .nil)
  (.cons (.ret (.ix (.var 0) (.var 1)))
  .nil))
def D344 : Df := ⟨2, 2, b_word_at⟩
def b_number_at : Ss := (.cons (.asg (.name 4) (.call 371 (.cons (.call 344 (.cons (.var 0) (.cons (.var 1) .nil))) .nil)))
  (.cons (.ite (.not (.call 7 (.cons (.var 4) (.cons (.var 2) (.cons (.var 3) .nil)))))
    (.cons (.rais 19 (.cons (.var 1) .nil))
    .nil)
    .nil)
  (.cons (.ret (.var 4))
  .nil)))
def D372 : Df := ⟨4, 5, b_number_at⟩
def b_check_word : Ss := (.cons (.ite (.cmp .NotEq (.call 344 (.cons (.var 0) (.cons (.var 1) .nil))) (.var 2))
    (.cons (.rais 19 (.cons (.var 1) .nil))
    .nil)
    .nil)
  .nil)
def D345 : Df := ⟨3, 3, b_check_word⟩
def b_row_at : Ss := (.cons (.asg (.name 6) (.lst (.cons (.call 372 (.cons (.var 0) (.cons (.var 1) (.cons (.var 2) (.cons (.var 3) .nil))))) .nil)))
  (.cons (.asg (.name 1) (.bin .Add (.var 1) (.con (.int 1))))
  (.cons (.whl (.and (.cmp .Lt (.var 1) (.blt .len (.cons (.var 0) .nil))) (.or (.cmp .Eq (.var 5) (.con (.int 1))) (.cmp .NotEq (.ix (.var 0) (.var 1)) (.con (.str ")")))))
    (.cons (.ite (.cmp .Eq (.blt .len (.cons (.var 6) .nil)) (.var 4))
      (.cons (.rais 19 (.cons (.var 1) .nil))
      .nil)
      .nil)
    (.cons (.drop (.meth .append (.var 6) (.cons (.call 372 (.cons (.var 0) (.cons (.var 1) (.cons (.bin .Add (.ix (.var 6) (.neg (.con (.int 1)))) (.con (.int 1))) (.cons (.var 3) .nil))))) .nil)))
    (.cons (.asg (.name 1) (.bin .Add (.var 1) (.con (.int 1))))
    .nil))))
  (.cons (.ret (.tup (.cons (.blt .tuple (.cons (.var 6) .nil)) (.cons (.var 1) .nil))))
  .nil))))
def D373 : Df := ⟨6, 7, b_row_at⟩
def b_leaf_at : Ss := (.cons (.asg (.name 3) (.ix (.var 0) (.var 1)))
  (.cons (.ite (.cmp .Eq (.var 3) (.con (.str "rests")))
    (.cons (.asg (.name 4) (.call 372 (.cons (.var 0) (.cons (.bin .Add (.var 1) (.con (.int 1))) (.cons (.con (.int 1)) (.cons (.con (.int 60)) .nil))))))
    (.cons (.drop (.call 345 (.cons (.var 0) (.cons (.bin .Add (.var 1) (.con (.int 2))) (.cons (.con (.str ":")) .nil)))))
    (.cons (.asg (.pair (.name 5) (.name 1)) (.call 373 (.cons (.var 0) (.cons (.bin .Add (.var 1) (.con (.int 3))) (.cons (.con (.int 0)) (.cons (.bin .Sub (.var 4) (.con (.int 1))) (.cons (.var 4) (.cons (.var 2) .nil))))))))
    (.cons (.ret (.tup (.cons (.tup (.cons (.con (.str "rests")) (.cons (.var 4) (.cons (.var 5) .nil)))) (.cons (.var 1) .nil))))
    .nil))))
    .nil)
  (.cons (.ite (.cmp .Eq (.var 3) (.con (.str "list")))
    (.cons (.drop (.call 345 (.cons (.var 0) (.cons (.bin .Add (.var 1) (.con (.int 1))) (.cons (.con (.str ":")) .nil)))))
    (.cons (.asg (.pair (.name 6) (.name 1)) (.call 373 (.cons (.var 0) (.cons (.bin .Add (.var 1) (.con (.int 2))) (.cons (.neg (.con (.int 100))) (.cons (.con (.int 100)) (.cons (.con (.int 12)) (.cons (.var 2) .nil))))))))
    (.cons (.ret (.tup (.cons (.tup (.cons (.con (.str "list")) (.cons (.var 6) .nil))) (.cons (.var 1) .nil))))
    .nil)))
    .nil)
  (.cons (.ite (.cmp .Eq (.var 3) (.con (.str "powers")))
    (.cons (.ret (.tup (.cons (.tup (.cons (.con (.str "powers")) (.cons (.call 372 (.cons (.var 0) (.cons (.bin .Add (.var 1) (.con (.int 1))) (.cons (.con (.int 2)) (.cons (.con (.int 10)) .nil))))) .nil))) (.cons (.bin .Add (.var 1) (.con (.int 2))) .nil))))
    .nil)
    .nil)
  (.cons (.ret (.tup (.cons (.tup (.cons (.var 3) .nil)) (.cons (.bin .Add (.var 1) (.con (.int 1))) .nil))))
  .nil)))))
def D374 : Df := ⟨3, 7, b_leaf_at⟩
def b_set_at : Ss := (.cons (.asg (.name 6) (.call 344 (.cons (.var 0) (.cons (.var 1) .nil))))
  (.cons (.ite (.and (.cmp .Eq (.var 6) (.con (.str "moved"))) (.and (.cmp .Lt (.var 2) (.con (.int 6))) (.cmp .GtE (.var 3) (.con (.int 2)))))
    (.cons (.ret (.call 377 (.cons (.var 0) (.cons (.var 1) (.cons (.var 2) (.cons (.var 3) (.cons (.var 4) (.cons (.var 5) .nil))))))))
    .nil)
    .nil)
  (.cons (.ite (.and (.cmp .Eq (.var 6) (.con (.str "either"))) (.and (.cmp .Lt (.var 2) (.con (.int 6))) (.cmp .GtE (.var 3) (.con (.int 3)))))
    (.cons (.ret (.call 375 (.cons (.var 0) (.cons (.var 1) (.cons (.var 2) (.cons (.var 3) (.cons (.var 4) .nil)))))))
    .nil)
    .nil)
  (.cons (.ite (.or (.cmp .Eq (.var 6) (.con (.str "rests"))) (.or (.cmp .Eq (.var 6) (.con (.str "list"))) (.and (.not (.var 5)) (.cmp .In (.var 6) (.tup (.cons (.con (.str "powers")) (.cons (.con (.str "squares")) (.cons (.con (.str "primes")) .nil))))))))
    (.cons (.asg (.pair (.name 7) (.name 8)) (.call 374 (.cons (.var 0) (.cons (.var 1) (.cons (.var 2) .nil)))))
    (.cons (.ret (.tup (.cons (.var 7) (.cons (.var 8) (.cons (.con (.int 1)) .nil)))))
    .nil))
    .nil)
  (.cons (.rais 19 (.cons (.var 1) .nil))
  .nil)))))
def D378 : Df := ⟨6, 9, b_set_at⟩
def b_moved_at : Ss := (.cons (.asg (.name 6) (.call 372 (.cons (.var 0) (.cons (.bin .Add (.var 1) (.con (.int 1))) (.cons (.neg (.con (.int 20))) (.cons (.con (.int 20)) .nil))))))
  (.cons (.ite (.or (.cmp .Eq (.var 6) (.con (.int 0))) (.cmp .Gt (.blt .abs (.cons (.bin .Mult (.var 6) (.var 4)) .nil)) (.con (.int 400))))
    (.cons (.rais 19 (.cons (.bin .Add (.var 1) (.con (.int 1))) .nil))
    .nil)
    .nil)
  (.cons (.asg (.name 7) (.call 372 (.cons (.var 0) (.cons (.bin .Add (.var 1) (.con (.int 2))) (.cons (.neg (.con (.int 200))) (.cons (.con (.int 200)) .nil))))))
  (.cons (.asg (.three (.name 8) (.name 9) (.name 10)) (.call 376 (.cons (.var 0) (.cons (.bin .Add (.var 1) (.con (.int 3))) (.cons (.bin .Add (.var 2) (.con (.int 1))) (.cons (.bin .Sub (.var 3) (.con (.int 1))) (.cons (.bin .Mult (.var 6) (.var 4)) (.cons (.var 5) .nil))))))))
  (.cons (.ret (.tup (.cons (.tup (.cons (.con (.str "moved")) (.cons (.var 8) (.cons (.var 6) (.cons (.var 7) .nil))))) (.cons (.var 9) (.cons (.bin .Add (.var 10) (.con (.int 1))) .nil)))))
  .nil)))))
def D377 : Df := ⟨6, 11, b_moved_at⟩
def b_inner_at : Ss := (.cons (.drop (.call 345 (.cons (.var 0) (.cons (.var 1) (.cons (.con (.str "(")) .nil)))))
  (.cons (.asg (.three (.name 6) (.name 1) (.name 7)) (.call 378 (.cons (.var 0) (.cons (.bin .Add (.var 1) (.con (.int 1))) (.cons (.var 2) (.cons (.var 3) (.cons (.var 4) (.cons (.var 5) .nil))))))))
  (.cons (.drop (.call 345 (.cons (.var 0) (.cons (.var 1) (.cons (.con (.str ")")) .nil)))))
  (.cons (.ret (.tup (.cons (.var 6) (.cons (.bin .Add (.var 1) (.con (.int 1))) (.cons (.var 7) .nil)))))
  .nil))))
def D376 : Df := ⟨6, 8, b_inner_at⟩
def b_either_at : Ss := (.cons (.asg (.three (.name 5) (.name 6) (.name 7)) (.call 376 (.cons (.var 0) (.cons (.bin .Add (.var 1) (.con (.int 1))) (.cons (.bin .Add (.var 2) (.con (.int 1))) (.cons (.bin .Sub (.var 3) (.con (.int 2))) (.cons (.var 4) (.cons (.con (.bl true)) .nil))))))))
  (.cons (.asg (.three (.name 8) (.name 9) (.name 10)) (.call 376 (.cons (.var 0) (.cons (.var 6) (.cons (.bin .Add (.var 2) (.con (.int 1))) (.cons (.bin .Sub (.bin .Sub (.var 3) (.con (.int 1))) (.var 7)) (.cons (.var 4) (.cons (.con (.bl true)) .nil))))))))
  (.cons (.ret (.tup (.cons (.tup (.cons (.con (.str "either")) (.cons (.var 5) (.cons (.var 8) .nil)))) (.cons (.var 9) (.cons (.bin .Add (.bin .Add (.var 7) (.var 10)) (.con (.int 1))) .nil)))))
  .nil)))
def D375 : Df := ⟨5, 11, b_either_at⟩
def b_read_set : Ss := (.cons (.ite (.not (.isi (.var 0) .str))
    (.cons (.rais 19 (.cons (.con (.int 0)) .nil))
    .nil)
    .nil)
  (.cons (.asg (.name 1) (.shut (.split (.var 0) (.con (.str " ")))))
  (.cons (.asg (.three (.name 2) (.name 3) (.name 4)) (.call 378 (.cons (.var 1) (.cons (.con (.int 0)) (.cons (.con (.int 1)) (.cons (.con (.int 12)) (.cons (.con (.int 1)) (.cons (.con (.bl false)) .nil))))))))
  (.cons (.ite (.cmp .Lt (.var 3) (.blt .len (.cons (.var 1) .nil)))
    (.cons (.rais 19 (.cons (.var 3) .nil))
    .nil)
    .nil)
  (.cons (.ret (.var 2))
  .nil)))))
def D379 : Df := ⟨1, 5, b_read_set⟩
def b_law_deck : Ss := (.cons (.asg (.name 2) (.bin .Add (.bin .Mult (.con (.int 29)) (.var 1)) (.con (.int 5))))
  (.cons (.ite (.cmp .Lt (.var 1) (.blt .len (.cons (.var 0) .nil)))
    (.cons (.asg (.name 2) (.ix (.var 0) (.var 1)))
    .nil)
    .nil)
  (.cons (.ret (.lst (.cons (.blt .max (.cons (.con (.int 0)) (.cons (.bin .Sub (.var 2) (.bin .Pow (.con (.int 10)) (.con (.int 18)))) .nil))) (.cons (.bin .Add (.bin .Mult (.blt .abs (.cons (.var 2) .nil)) (.con (.int 2))) (.blt .int (.cons (.cmp .Lt (.var 2) (.con (.int 0))) .nil))) (.cons (.var 1) .nil)))))
  .nil)))
def D273 : Df := ⟨2, 3, b_law_deck⟩
def b_law_draw_3 : Ss := (.cons (.ite (.cmp .Gt (.ix (.var 0) (.con (.int 0))) (.con (.int 0)))
    (.cons (.asg (.name 2) (.bin .Mod (.blt .int (.cons (.ix (.var 0) (.con (.int 0))) .nil)) (.var 1)))
    (.cons (.set (.var 0) (.con (.int 0)) (.bin .FloorDiv (.ix (.var 0) (.con (.int 0))) (.var 1)))
    (.cons (.ret (.var 2))
    .nil)))
    .nil)
  (.cons (.set (.var 0) (.con (.int 2)) (.bin .Add (.ix (.var 0) (.con (.int 2))) (.con (.int 1))))
  (.cons (.asg (.name 3) (.bin .Mod (.blt .int (.cons (.bin .Add (.bin .Add (.bin .Mult (.ix (.var 0) (.con (.int 1))) (.con (.int 40503))) (.bin .Mult (.ix (.var 0) (.con (.int 2))) (.con (.int 69069)))) (.con (.int 7))) .nil)) (.con (.int 4294967291))))
  (.cons (.asg (.name 3) (.bin .Mod (.blt .int (.cons (.bin .Add (.bin .Add (.bin .Mult (.var 3) (.var 3)) (.bin .Mult (.con (.int 17)) (.ix (.var 0) (.con (.int 2))))) (.ix (.var 0) (.con (.int 1)))) .nil)) (.con (.int 4294967279))))
  (.cons (.asg (.name 3) (.bin .Mod (.blt .int (.cons (.bin .Add (.bin .Mult (.var 3) (.bin .Add (.var 3) (.ix (.var 0) (.con (.int 2))))) (.con (.int 3))) .nil)) (.con (.int 4294967231))))
  (.cons (.ret (.bin .Mod (.blt .int (.cons (.bin .FloorDiv (.var 3) (.con (.int 32))) .nil)) (.var 1)))
  .nil))))))
def D274 : Df := ⟨2, 4, b_law_draw_3⟩
def b_law_place_2 : Ss := (.cons (.asg (.name 2) (.neg (.con (.int 1))))
  (.cons (.asg (.name 3) (.con .non))
  (.cons (.tri (.cons (.drop (.calv 0 (.cons (.var 1) .nil)))
    .nil)
    [(19, some 4, (.err 3))])
  (.cons (.ite (.cmp .Is (.var 3) (.con .non))
    (.cons (.ret (.var 2))
    .nil)
    .nil)
  (.cons (.ite (.or (.not (.isx (.var 3) (some 0))) (.or (.not (.isx (.var 3) none)) (.isi (.fld (.var 3)) .bool)))
    (.cons (.ret (.neg (.con (.int 2))))
    .nil)
    .nil)
  (.cons (.ret (.fld (.var 3)))
  .nil))))))
def D420 : Df := ⟨2, 5, b_law_place_2⟩
def b_law_rows : Ss := (.cons (.asg (.name 1) (.bin .Add (.con (.int 2)) (.call 274 (.cons (.var 0) (.cons (.con (.int 58)) .nil)))))
  (.cons (.asg (.name 2) (.call 274 (.cons (.var 0) (.cons (.bin .Sub (.var 1) (.con (.int 1))) .nil))))
  (.cons (.asg (.name 3) (.call 274 (.cons (.var 0) (.cons (.bin .Pow (.con (.int 10)) (.con (.int 12))) .nil))))
  (.cons (.asg (.name 4) (.bin .Sub (.call 274 (.cons (.var 0) (.cons (.con (.int 199)) .nil))) (.con (.int 99))))
  (.cons (.asg (.name 5) (.shut (.lc (.blt .str (.cons (.bin .Sub (.var 12) (.con (.int 6))) .nil)) (.name 12) (.rng (.con (.int 12))) .non [12])))
  (.cons (.asg (.name 6) (.ix (.shut (.lst (.cons (.blt .str (.cons (.bin .Add (.var 1) (.var 3)) .nil)) (.cons (.blt .str (.cons (.var 2) .nil)) (.cons (.con (.str "-1")) .nil))))) (.call 274 (.cons (.var 0) (.cons (.con (.int 3)) .nil)))))
  (.cons (.asg (.name 7) (.lst (.cons (.tup (.cons (.shut (.lst (.cons (.con (.str "rests")) .nil))) (.cons (.ix (.shut (.lst (.cons (.con (.str "0")) (.cons (.con (.str "61")) (.cons (.con (.str "-1")) (.cons (.blt .str (.cons (.bin .Add (.con (.int 61)) (.var 3)) .nil)) .nil)))))) (.call 274 (.cons (.var 0) (.cons (.con (.int 4)) .nil)))) (.cons (.blt .str (.cons (.var 1) .nil)) (.cons (.shut (.lst (.cons (.con (.str ":")) (.cons (.con (.str "0")) .nil)))) .nil))))) .nil)))
  (.cons (.drop (.meth .append (.var 7) (.cons (.tup (.cons (.shut (.lst (.cons (.con (.str "rests")) (.cons (.blt .str (.cons (.var 1) .nil)) (.cons (.con (.str ":")) (.cons (.blt .str (.cons (.var 2) .nil)) .nil)))))) (.cons (.var 6) (.cons (.blt .str (.cons (.bin .Add (.var 2) (.con (.int 1))) .nil)) (.cons (.shut (.lst .nil)) .nil))))) .nil)))
  (.cons (.drop (.meth .append (.var 7) (.cons (.tup (.cons (.shut (.lst (.cons (.con (.str "rests")) (.cons (.con (.str "1")) (.cons (.con (.str ":")) .nil))))) (.cons (.ix (.shut (.lst (.cons (.con (.str "1")) (.cons (.con (.str "-1")) (.cons (.blt .str (.cons (.bin .Add (.con (.int 1)) (.var 3)) .nil)) .nil))))) (.call 274 (.cons (.var 0) (.cons (.con (.int 3)) .nil)))) (.cons (.con (.str "0")) (.cons (.shut (.lst .nil)) .nil))))) .nil)))
  (.cons (.drop (.meth .append (.var 7) (.cons (.tup (.cons (.shut (.lst (.cons (.con (.str "list")) (.cons (.con (.str ":")) .nil)))) (.cons (.ix (.shut (.lst (.cons (.con (.str "101")) (.cons (.con (.str "-101")) (.cons (.blt .str (.cons (.bin .Add (.con (.int 101)) (.var 3)) .nil)) .nil))))) (.call 274 (.cons (.var 0) (.cons (.con (.int 3)) .nil)))) (.cons (.blt .str (.cons (.var 4) .nil)) (.cons (.shut (.lst .nil)) .nil))))) .nil)))
  (.cons (.drop (.meth .append (.var 7) (.cons (.tup (.cons (.shut (.lst (.cons (.con (.str "list")) (.cons (.con (.str ":")) (.cons (.blt .str (.cons (.var 4) .nil)) .nil))))) (.cons (.ix (.shut (.lst (.cons (.blt .str (.cons (.var 4) .nil)) (.cons (.blt .str (.cons (.bin .Sub (.var 4) (.con (.int 1))) .nil)) (.cons (.con (.str "101")) .nil))))) (.call 274 (.cons (.var 0) (.cons (.con (.int 3)) .nil)))) (.cons (.blt .str (.cons (.bin .Add (.var 4) (.con (.int 1))) .nil)) (.cons (.shut (.lst .nil)) .nil))))) .nil)))
  (.cons (.drop (.meth .append (.var 7) (.cons (.tup (.cons (.shut (.bin .Add (.shut (.lst (.cons (.con (.str "list")) (.cons (.con (.str ":")) .nil)))) (.shut (.sl (.var 5) .non (.som (.neg (.con (.int 1)))))))) (.cons (.ix (.shut (.lst (.cons (.ix (.var 5) (.neg (.con (.int 2)))) (.cons (.con (.str "101")) .nil)))) (.call 274 (.cons (.var 0) (.cons (.con (.int 2)) .nil)))) (.cons (.ix (.var 5) (.neg (.con (.int 1)))) (.cons (.shut (.lst .nil)) .nil))))) .nil)))
  (.cons (.drop (.meth .append (.var 7) (.cons (.tup (.cons (.shut (.lst (.cons (.con (.str "powers")) .nil))) (.cons (.ix (.shut (.lst (.cons (.con (.str "1")) (.cons (.con (.str "0")) (.cons (.con (.str "11")) (.cons (.con (.str "-2")) (.cons (.blt .str (.cons (.bin .Add (.con (.int 11)) (.var 3)) .nil)) .nil))))))) (.call 274 (.cons (.var 0) (.cons (.con (.int 5)) .nil)))) (.cons (.blt .str (.cons (.bin .Add (.con (.int 2)) (.call 274 (.cons (.var 0) (.cons (.con (.int 9)) .nil)))) .nil)) (.cons (.shut (.lst .nil)) .nil))))) .nil)))
  (.cons (.asg (.name 8) (.ix (.shut (.lst (.cons (.bin .Add (.con (.int 1)) (.call 274 (.cons (.var 0) (.cons (.con (.int 20)) .nil)))) (.cons (.bin .Sub (.neg (.con (.int 1))) (.call 274 (.cons (.var 0) (.cons (.con (.int 20)) .nil)))) .nil)))) (.call 274 (.cons (.var 0) (.cons (.con (.int 2)) .nil)))))
  (.cons (.asg (.name 9) (.bin .Sub (.call 274 (.cons (.var 0) (.cons (.con (.int 401)) .nil))) (.con (.int 200))))
  (.cons (.asg (.name 10) (.shut (.lst (.cons (.con (.str "(")) (.cons (.con (.str "list")) (.cons (.con (.str ":")) (.cons (.con (.str "-3")) (.cons (.con (.str "4")) (.cons (.con (.str ")")) .nil)))))))))
  (.cons (.drop (.meth .append (.var 7) (.cons (.tup (.cons (.shut (.lst (.cons (.con (.str "moved")) .nil))) (.cons (.ix (.shut (.lst (.cons (.con (.str "0")) (.cons (.con (.str "21")) (.cons (.con (.str "-21")) (.cons (.blt .str (.cons (.bin .Add (.con (.int 21)) (.var 3)) .nil)) .nil)))))) (.call 274 (.cons (.var 0) (.cons (.con (.int 4)) .nil)))) (.cons (.blt .str (.cons (.var 8) .nil)) (.cons (.shut (.bin .Add (.shut (.lst (.cons (.blt .str (.cons (.var 9) .nil)) .nil))) (.var 10))) .nil))))) .nil)))
  (.cons (.drop (.meth .append (.var 7) (.cons (.tup (.cons (.shut (.lst (.cons (.con (.str "moved")) (.cons (.blt .str (.cons (.var 8) .nil)) .nil)))) (.cons (.ix (.shut (.lst (.cons (.con (.str "201")) (.cons (.con (.str "-201")) (.cons (.blt .str (.cons (.bin .Add (.con (.int 201)) (.var 3)) .nil)) .nil))))) (.call 274 (.cons (.var 0) (.cons (.con (.int 3)) .nil)))) (.cons (.blt .str (.cons (.var 9) .nil)) (.cons (.var 10) .nil))))) .nil)))
  (.cons (.asg (.name 11) (.ix (.shut (.lst (.cons (.shut (.lst (.cons (.con (.str "squares")) .nil))) (.cons (.shut (.lst (.cons (.con (.str "primes")) .nil))) (.cons (.shut (.lst (.cons (.con (.str "powers")) (.cons (.con (.str "3")) .nil)))) .nil))))) (.call 274 (.cons (.var 0) (.cons (.con (.int 3)) .nil)))))
  (.cons (.drop (.meth .append (.var 7) (.cons (.tup (.cons (.shut (.lst (.cons (.con (.str "either")) (.cons (.con (.str "(")) .nil)))) (.cons (.ix (.var 11) (.con (.int 0))) (.cons (.con (.str "list")) (.cons (.shut (.bin .Add (.shut (.lst (.cons (.con (.str ":")) (.cons (.con (.str "5")) (.cons (.con (.str ")")) .nil))))) (.var 10))) .nil))))) .nil)))
  (.cons (.drop (.meth .append (.var 7) (.cons (.tup (.cons (.shut (.bin .Add (.shut (.bin .Add (.shut (.lst (.cons (.con (.str "either")) .nil))) (.var 10))) (.shut (.lst (.cons (.con (.str "(")) (.cons (.con (.str "moved")) (.cons (.con (.str "2")) (.cons (.con (.str "1")) (.cons (.con (.str "(")) .nil))))))))) (.cons (.ix (.var 11) (.con (.int 0))) (.cons (.con (.str "rests")) (.cons (.shut (.lst (.cons (.con (.str "3")) (.cons (.con (.str ":")) (.cons (.con (.str "0")) (.cons (.con (.str ")")) (.cons (.con (.str ")")) .nil))))))) .nil))))) .nil)))
  (.cons (.ret (.var 7))
  .nil))))))))))))))))))))))
def D382 : Df := ⟨1, 13, b_law_rows⟩
def b_law_wrapped : Ss := (.cons (.asg (.four (.name 2) (.name 3) (.name 4) (.name 5)) (.var 1))
  (.cons (.for (.name 6) (.rng (.call 274 (.cons (.var 0) (.cons (.con (.int 4)) .nil))))
    (.cons (.asg (.name 2) (.shut (.bin .Add (.shut (.lst (.cons (.con (.str "moved")) (.cons (.ix (.shut (.lst (.cons (.con (.str "1")) (.cons (.con (.str "-1")) .nil)))) (.call 274 (.cons (.var 0) (.cons (.con (.int 2)) .nil)))) (.cons (.blt .str (.cons (.bin .Sub (.call 274 (.cons (.var 0) (.cons (.con (.int 401)) .nil))) (.con (.int 200))) .nil)) (.cons (.con (.str "(")) .nil)))))) (.var 2))))
    (.cons (.asg (.name 5) (.shut (.bin .Add (.var 5) (.shut (.lst (.cons (.con (.str ")")) .nil))))))
    .nil)))
  (.cons (.ret (.tup (.cons (.var 2) (.cons (.var 3) (.cons (.var 4) (.cons (.var 5) .nil))))))
  .nil)))
def D418 : Df := ⟨2, 7, b_law_wrapped⟩
def b_law_link : Ss := (.cons (.asg (.pair (.name 3) (.name 4)) (.var 1))
  (.cons (.asg (.name 5) (.call 274 (.cons (.var 0) (.cons (.con (.int 3)) .nil))))
  (.cons (.ite (.or (.cmp .IsNot (.var 2) (.con .non)) (.cmp .Eq (.var 5) (.con (.int 0))))
    (.cons (.asg (.name 6) (.lst (.cons (.con (.str "moved")) (.cons (.blt .str (.cons (.var 2) .nil)) (.cons (.blt .str (.cons (.bin .Sub (.call 274 (.cons (.var 0) (.cons (.con (.int 401)) .nil))) (.con (.int 200))) .nil)) (.cons (.con (.str "(")) .nil))))))
    (.cons (.ite (.cmp .Is (.var 2) (.con .non))
      (.cons (.set (.var 6) (.con (.int 1)) (.ix (.shut (.lst (.cons (.con (.str "1")) (.cons (.con (.str "-1")) .nil)))) (.call 274 (.cons (.var 0) (.cons (.con (.int 2)) .nil)))))
      .nil)
      .nil)
    (.cons (.ret (.tup (.cons (.bin .Add (.var 3) (.var 6)) (.cons (.shut (.bin .Add (.shut (.lst (.cons (.con (.str ")")) .nil))) (.var 4))) .nil))))
    .nil)))
    .nil)
  (.cons (.ite (.cmp .Eq (.var 5) (.con (.int 1)))
    (.cons (.ret (.tup (.cons (.shut (.bin .Add (.var 3) (.shut (.lst (.cons (.con (.str "either")) (.cons (.con (.str "(")) .nil)))))) (.cons (.shut (.bin .Add (.shut (.lst (.cons (.con (.str ")")) (.cons (.con (.str "(")) (.cons (.con (.str "list")) (.cons (.con (.str ":")) (.cons (.con (.str "7")) (.cons (.con (.str ")")) .nil)))))))) (.var 4))) .nil))))
    .nil)
    .nil)
  (.cons (.ret (.tup (.cons (.shut (.bin .Add (.var 3) (.shut (.lst (.cons (.con (.str "either")) (.cons (.con (.str "(")) (.cons (.con (.str "list")) (.cons (.con (.str ":")) (.cons (.con (.str "7")) (.cons (.con (.str ")")) (.cons (.con (.str "(")) .nil))))))))))) (.cons (.shut (.bin .Add (.shut (.lst (.cons (.con (.str ")")) .nil))) (.var 4))) .nil))))
  .nil)))))
def D383 : Df := ⟨3, 7, b_law_link⟩
def b_law_products : Ss := (.cons (.asg (.name 1) (.lst (.cons (.ix (.shut (.lst (.cons (.con (.int 20)) (.cons (.neg (.con (.int 20))) .nil)))) (.call 274 (.cons (.var 0) (.cons (.con (.int 2)) .nil)))) (.cons (.ix (.shut (.lst (.cons (.con (.int 10)) (.cons (.neg (.con (.int 10))) .nil)))) (.call 274 (.cons (.var 0) (.cons (.con (.int 2)) .nil)))) .nil))))
  (.cons (.drop (.meth .insert (.var 1) (.cons (.call 274 (.cons (.var 0) (.cons (.con (.int 3)) .nil))) (.cons (.con .non) .nil))))
  (.cons (.asg (.name 2) (.tup (.cons (.shut (.lst .nil)) (.cons (.shut (.lst .nil)) .nil))))
  (.cons (.for (.name 3) (.val (.var 1))
    (.cons (.asg (.name 2) (.call 383 (.cons (.var 0) (.cons (.var 2) (.cons (.var 3) .nil)))))
    .nil))
  (.cons (.asg (.name 4) (.ix (.shut (.lst (.cons (.con (.str "2")) (.cons (.con (.str "-2")) (.cons (.con (.str "1")) .nil))))) (.call 274 (.cons (.var 0) (.cons (.con (.int 3)) .nil)))))
  (.cons (.asg (.name 5) (.shut (.bin .Add (.shut (.lst (.cons (.con (.str "0")) (.cons (.con (.str "(")) (.cons (.con (.str "list")) (.cons (.con (.str ":")) (.cons (.con (.str "7")) (.cons (.con (.str ")")) .nil)))))))) (.ix (.var 2) (.con (.int 1))))))
  (.cons (.ret (.tup (.cons (.shut (.bin .Add (.ix (.var 2) (.con (.int 0))) (.shut (.lst (.cons (.con (.str "moved")) .nil))))) (.cons (.ix (.shut (.lst (.cons (.con (.str "3")) (.cons (.con (.str "-3")) (.cons (.con (.str "20")) .nil))))) (.call 274 (.cons (.var 0) (.cons (.con (.int 3)) .nil)))) (.cons (.var 4) (.cons (.var 5) .nil))))))
  .nil)))))))
def D430 : Df := ⟨1, 6, b_law_products⟩
def b_law_levels : Ss := (.cons (.asg (.name 1) (.tup (.cons (.shut (.lst .nil)) (.cons (.shut (.lst .nil)) .nil))))
  (.cons (.for (.name 2) (.rng (.con (.int 5)))
    (.cons (.asg (.name 1) (.call 383 (.cons (.var 0) (.cons (.var 1) (.cons (.con .non) .nil)))))
    .nil))
  (.cons (.ret (.tup (.cons (.ix (.var 1) (.con (.int 0))) (.cons (.ix (.shut (.lst (.cons (.con (.str "moved")) (.cons (.con (.str "either")) .nil)))) (.call 274 (.cons (.var 0) (.cons (.con (.int 2)) .nil)))) (.cons (.con (.str "list")) (.cons (.shut (.bin .Add (.shut (.lst (.cons (.con (.str ":")) (.cons (.con (.str "9")) .nil)))) (.ix (.var 1) (.con (.int 1))))) .nil))))))
  .nil)))
def D384 : Df := ⟨1, 3, b_law_levels⟩
def b_law_tuples_2 : Ss := (.cons (.asg (.name 1) (.shut (.lst (.cons (.con (.str "(")) (.cons (.con (.str "list")) (.cons (.con (.str ":")) (.cons (.blt .str (.cons (.call 274 (.cons (.var 0) (.cons (.con (.int 9)) .nil))) .nil)) (.cons (.con (.str ")")) .nil))))))))
  (.cons (.asg (.name 2) (.shut (.bin .Add (.shut (.bin .Add (.shut (.bin .Add (.shut (.lst (.cons (.con (.str "(")) (.cons (.con (.str "either")) .nil)))) (.var 1))) (.var 1))) (.shut (.lst (.cons (.con (.str ")")) .nil))))))
  (.cons (.asg (.name 3) (.shut (.lst (.cons (.var 2) (.cons (.var 2) (.cons (.var 1) .nil))))))
  (.cons (.asg (.name 4) (.call 274 (.cons (.var 0) (.cons (.con (.int 3)) .nil))))
  (.cons (.asg (.name 3) (.shut (.bin .Add (.shut (.sl (.var 3) (.som (.var 4)) .non)) (.shut (.sl (.var 3) .non (.som (.var 4)))))))
  (.cons (.asg (.name 5) (.shut (.lst (.cons (.con (.str "moved")) (.cons (.con (.str "1")) (.cons (.con (.str "0")) (.cons (.con (.str "(")) .nil)))))))
  (.cons (.for (.name 6) (.val (.var 3))
    (.cons (.asg (.name 5) (.shut (.bin .Add (.shut (.bin .Add (.shut (.bin .Add (.var 5) (.shut (.lst (.cons (.con (.str "either")) .nil))))) (.var 6))) (.shut (.lst (.cons (.con (.str "(")) .nil))))))
    .nil))
  (.cons (.asg (.name 7) (.lst (.cons (.tup (.cons (.var 5) (.cons (.ix (.shut (.lst (.cons (.con (.str "moved")) (.cons (.con (.str "either")) .nil)))) (.call 274 (.cons (.var 0) (.cons (.con (.int 2)) .nil)))) (.cons (.con (.str "rests")) (.cons (.shut (.bin .Add (.shut (.lst (.cons (.con (.str "2")) (.cons (.con (.str ":")) (.cons (.con (.str "1")) .nil))))) (.shut (.bin .Mult (.lst (.cons (.con (.str ")")) .nil)) (.con (.int 4)))))) .nil))))) .nil)))
  (.cons (.asg (.name 8) (.shut (.bin .Add (.shut (.bin .Add (.shut (.bin .Add (.shut (.lst (.cons (.con (.str "either")) (.cons (.con (.str "(")) (.cons (.con (.str "either")) (.cons (.con (.str "(")) (.cons (.con (.str "either")) .nil))))))) (.var 2))) (.var 2))) (.shut (.lst (.cons (.con (.str ")")) (.cons (.con (.str "(")) .nil)))))))
  (.cons (.asg (.name 9) (.shut (.lst (.cons (.con (.str "2")) (.cons (.con (.str ":")) (.cons (.con (.str "1")) (.cons (.con (.str ")")) (.cons (.con (.str ")")) (.cons (.con (.str "(")) (.cons (.con (.str "list")) (.cons (.con (.str ":")) (.cons (.con (.str "5")) (.cons (.con (.str ")")) .nil)))))))))))))
  (.cons (.drop (.meth .append (.var 7) (.cons (.tup (.cons (.var 8) (.cons (.con (.str "either")) (.cons (.con (.str "rests")) (.cons (.var 9) .nil))))) .nil)))
  (.cons (.asg (.name 8) (.shut (.bin .Add (.shut (.lst (.cons (.con (.str "moved")) (.cons (.con (.str "-1")) (.cons (.con (.str "3")) (.cons (.con (.str "(")) .nil)))))) (.var 8))))
  (.cons (.drop (.meth .append (.var 7) (.cons (.tup (.cons (.var 8) (.cons (.ix (.shut (.lst (.cons (.con (.str "moved")) (.cons (.con (.str "either")) .nil)))) (.call 274 (.cons (.var 0) (.cons (.con (.int 2)) .nil)))) (.cons (.con (.str "rests")) (.cons (.shut (.bin .Add (.var 9) (.shut (.lst (.cons (.con (.str ")")) .nil))))) .nil))))) .nil)))
  (.cons (.ret (.var 7))
  .nil))))))))))))))
def D385 : Df := ⟨1, 10, b_law_tuples_2⟩
def b_law_place_stays : Ss := (.cons (.asg (.four (.name 2) (.name 3) (.name 4) (.name 5)) (.var 1))
  (.cons (.asg (.name 6) (.join (.con (.str " ")) (.shut (.bin .Add (.shut (.bin .Add (.var 2) (.shut (.lst (.cons (.var 4) .nil))))) (.var 5)))))
  (.cons (.ite (.cmp .NotEq (.call 370 (.cons (.call 379 (.cons (.var 6) .nil)) .nil)) (.var 6))
    (.cons (.ret (.con (.bl false)))
    .nil)
    .nil)
  (.cons (.asg (.name 7) (.ix (.shut (.lst (.cons (.con (.str "x")) (.cons (.con (.str "")) (.cons (.con (.str "01")) (.cons (.con (.str "(")) (.cons (.con (.str ")")) (.cons (.con (.str "rests")) (.cons (.con (.str "1_0")) (.cons (.con (.str "99")) .nil)))))))))) (.call 274 (.cons (.var 0) (.cons (.con (.int 8)) .nil)))))
  (.cons (.asg (.name 8) (.call 274 (.cons (.var 0) (.cons (.bin .Add (.blt .len (.cons (.var 5) .nil)) (.con (.int 1))) .nil))))
  (.cons (.for (.name 9) (.val (.shut (.lst (.cons (.var 5) (.cons (.shut (.lst .nil)) (.cons (.shut (.lst (.cons (.var 7) .nil))) (.cons (.shut (.bin .Add (.shut (.bin .Add (.shut (.sl (.var 5) .non (.som (.var 8)))) (.shut (.lst (.cons (.var 7) .nil))))) (.shut (.sl (.var 5) (.som (.var 8)) .non)))) .nil)))))))
    (.cons (.ite (.cmp .NotEq (.call 420 (.cons (.con (.fn 379)) (.cons (.join (.con (.str " ")) (.shut (.bin .Add (.shut (.bin .Add (.var 2) (.shut (.lst (.cons (.var 3) .nil))))) (.var 9)))) .nil))) (.blt .len (.cons (.var 2) .nil)))
      (.cons (.ret (.con (.bl false)))
      .nil)
      .nil)
    .nil))
  (.cons (.ret (.con (.bl true)))
  .nil)))))))
def D421 : Df := ⟨2, 10, b_law_place_stays⟩
def b_law_right_9 : Ss := (.cons (.asg (.name 1) (.shut (.lc (.call 418 (.cons (.var 0) (.cons (.var 3) .nil))) (.name 3) (.val (.call 382 (.cons (.var 0) .nil))) .non [3])))
  (.cons (.asg (.name 1) (.shut (.bin .Add (.shut (.bin .Add (.var 1) (.shut (.lst (.cons (.call 430 (.cons (.var 0) .nil)) (.cons (.call 384 (.cons (.var 0) .nil)) .nil)))))) (.call 385 (.cons (.var 0) .nil)))))
  (.cons (.ite (.not (.blt .all (.cons (.shut (.lc (.call 421 (.cons (.var 0) (.cons (.var 3) .nil))) (.name 3) (.val (.var 1)) .non [3])) .nil)))
    (.cons (.ret (.con (.bl false)))
    .nil)
    .nil)
  (.cons (.asg (.name 2) (.shut (.bin .Add (.shut (.bin .Add (.shut (.lst (.cons (.con (.str "list")) (.cons (.con (.str ":")) .nil)))) (.shut (.lc (.blt .str (.cons (.bin .Sub (.var 4) (.con (.int 20))) .nil)) (.name 4) (.rng (.con (.int 12))) .non [4])))) (.shut (.lst (.cons (.con (.str "50")) (.cons (.con (.str "60")) .nil)))))))
  (.cons (.ret (.cmp .Eq (.call 420 (.cons (.con (.fn 379)) (.cons (.join (.con (.str " ")) (.var 2)) .nil))) (.con (.int 14))))
  .nil)))))
def D431 : Df := ⟨1, 5, b_law_right_9⟩
def b_law_25 : Ss := (.cons (.for (.name 1) (.rng (.blt .max (.cons (.con (.int 1)) (.cons (.blt .min (.cons (.con (.int 3)) (.cons (.blt .len (.cons (.var 0) .nil)) .nil))) .nil))))
    (.cons (.ite (.not (.call 431 (.cons (.call 100273 (.cons (.var 0) (.cons (.var 1) .nil))) .nil)))
      (.cons (.ret (.con (.bl false)))
      .nil)
      .nil)
    .nil))
  (.cons (.ret (.con (.bl true)))
  .nil))
def D432 : Df := ⟨1, 2, b_law_25⟩
def b_check_number : Ss := (.cons (.ite (.not (.call 7 (.cons (.var 0) (.cons (.var 1) (.cons (.var 2) .nil)))))
    (.cons (.rais 2 .nil)
    .nil)
    .nil)
  .nil)
def D23 : Df := ⟨3, 3, b_check_number⟩
def b_power_by : Ss := (.cons (.asg (.name 3) (.con (.int 1)))
  (.cons (.asg (.name 0) (.bin .Mod (.var 0) (.var 2)))
  (.cons (.whl (.cmp .Gt (.var 1) (.con (.int 0)))
    (.cons (.ite (.cmp .Eq (.bin .Mod (.var 1) (.con (.int 2))) (.con (.int 1)))
      (.cons (.asg (.name 3) (.bin .Mod (.bin .Mult (.var 3) (.var 0)) (.var 2)))
      .nil)
      .nil)
    (.cons (.asg (.name 0) (.bin .Mod (.bin .Mult (.var 0) (.var 0)) (.var 2)))
    (.cons (.asg (.name 1) (.bin .FloorDiv (.var 1) (.con (.int 2))))
    .nil))))
  (.cons (.ret (.var 3))
  .nil))))
def D26 : Df := ⟨3, 4, b_power_by⟩
def b_passes : Ss := (.cons (.asg (.name 2) (.bin .Sub (.var 0) (.con (.int 1))))
  (.cons (.asg (.name 3) (.con (.int 0)))
  (.cons (.whl (.cmp .Eq (.bin .Mod (.var 2) (.con (.int 2))) (.con (.int 0)))
    (.cons (.asg (.name 2) (.bin .FloorDiv (.var 2) (.con (.int 2))))
    (.cons (.asg (.name 3) (.bin .Add (.var 3) (.con (.int 1))))
    .nil)))
  (.cons (.asg (.name 4) (.call 26 (.cons (.var 1) (.cons (.var 2) (.cons (.var 0) .nil)))))
  (.cons (.ite (.or (.cmp .Eq (.var 4) (.con (.int 1))) (.cmp .Eq (.var 4) (.bin .Sub (.var 0) (.con (.int 1)))))
    (.cons (.ret (.con (.bl true)))
    .nil)
    .nil)
  (.cons (.for (.name 5) (.rng (.bin .Sub (.var 3) (.con (.int 1))))
    (.cons (.asg (.name 4) (.bin .Mod (.bin .Mult (.var 4) (.var 4)) (.var 0)))
    (.cons (.ite (.cmp .Eq (.var 4) (.bin .Sub (.var 0) (.con (.int 1))))
      (.cons (.ret (.con (.bl true)))
      .nil)
      .nil)
    .nil)))
  (.cons (.ret (.con (.bl false)))
  .nil)))))))
def D27 : Df := ⟨2, 6, b_passes⟩
def b_is_prime : Ss := (.cons (.ite (.cmp .Lt (.var 0) (.con (.int 2)))
    (.cons (.ret (.con (.bl false)))
    .nil)
    .nil)
  (.cons (.for (.name 1) (.ints [2, 3, 5, 7, 11, 13, 17, 19, 23])
    (.cons (.ite (.cmp .Eq (.bin .Mod (.var 0) (.var 1)) (.con (.int 0)))
      (.cons (.ret (.cmp .Eq (.var 0) (.var 1)))
      .nil)
      .nil)
    .nil))
  (.cons (.ite (.cmp .Lt (.var 0) (.con (.int 841)))
    (.cons (.ret (.con (.bl true)))
    .nil)
    .nil)
  (.cons (.for (.name 1) (.ints [2, 3, 5, 7, 11, 13, 17, 19, 23])
    (.cons (.ite (.not (.call 27 (.cons (.var 0) (.cons (.var 1) .nil))))
      (.cons (.ret (.con (.bl false)))
      .nil)
      .nil)
    .nil))
  (.cons (.ret (.con (.bl true)))
  .nil)))))
def D28 : Df := ⟨1, 2, b_is_prime⟩
def b_finite_numbers : Ss := (.cons (.asg (.name 1) (.ix (.var 0) (.con (.int 0))))
  (.cons (.ite (.cmp .Eq (.var 1) (.con (.str "list")))
    (.cons (.ret (.blt .list (.cons (.ix (.var 0) (.con (.int 1))) .nil)))
    .nil)
    .nil)
  (.cons (.ite (.cmp .Eq (.var 1) (.con (.str "moved")))
    (.cons (.asg (.name 2) (.call 50 (.cons (.ix (.var 0) (.con (.int 1))) .nil)))
    (.cons (.ite (.cmp .Is (.var 2) (.con .non))
      (.cons (.ret (.con .non))
      .nil)
      .nil)
    (.cons (.ret (.blt .sorted (.cons (.shut (.lc (.bin .Add (.bin .Mult (.ix (.var 0) (.con (.int 2))) (.var 5)) (.ix (.var 0) (.con (.int 3)))) (.name 5) (.val (.var 2)) .non [5])) .nil)))
    .nil)))
    .nil)
  (.cons (.ite (.cmp .Eq (.var 1) (.con (.str "either")))
    (.cons (.asg (.name 3) (.call 50 (.cons (.ix (.var 0) (.con (.int 1))) .nil)))
    (.cons (.asg (.name 4) (.call 50 (.cons (.ix (.var 0) (.con (.int 2))) .nil)))
    (.cons (.ite (.or (.cmp .Is (.var 3) (.con .non)) (.cmp .Is (.var 4) (.con .non)))
      (.cons (.ret (.con .non))
      .nil)
      .nil)
    (.cons (.ret (.sset (.bin .Add (.var 3) (.var 4))))
    .nil))))
    .nil)
  (.cons (.ret (.con .non))
  .nil)))))
def D50 : Df := ⟨1, 6, b_finite_numbers⟩
def b_common_divisor : Ss := (.cons (.asg (.name 0) (.blt .abs (.cons (.var 0) .nil)))
  (.cons (.asg (.name 1) (.blt .abs (.cons (.var 1) .nil)))
  (.cons (.whl (.cmp .NotEq (.var 1) (.con (.int 0)))
    (.cons (.par 0 1 (.var 1) (.bin .Mod (.var 0) (.var 1)))
    .nil))
  (.cons (.ret (.var 0))
  .nil))))
def D54 : Df := ⟨2, 2, b_common_divisor⟩
def b_prime_factors : Ss := (.cons (.asg (.name 1) (.lst .nil))
  (.cons (.asg (.name 2) (.con (.int 2)))
  (.cons (.whl (.cmp .LtE (.bin .Mult (.var 2) (.var 2)) (.var 0))
    (.cons (.ite (.cmp .Eq (.bin .Mod (.var 0) (.var 2)) (.con (.int 0)))
      (.cons (.drop (.meth .append (.var 1) (.cons (.var 2) .nil)))
      (.cons (.whl (.cmp .Eq (.bin .Mod (.var 0) (.var 2)) (.con (.int 0)))
        (.cons (.asg (.name 0) (.bin .FloorDiv (.var 0) (.var 2)))
        .nil))
      .nil))
      .nil)
    (.cons (.asg (.name 2) (.bin .Add (.var 2) (.con (.int 1))))
    .nil)))
  (.cons (.ite (.cmp .Gt (.var 0) (.con (.int 1)))
    (.cons (.drop (.meth .append (.var 1) (.cons (.var 0) .nil)))
    .nil)
    .nil)
  (.cons (.ret (.var 1))
  .nil)))))
def D55 : Df := ⟨1, 3, b_prime_factors⟩
def b_is_plain : Ss := (.cons (.ret (.cmp .Gt (.call 11 (.cons (.var 0) (.cons (.con (.int 6)) (.cons (.con (.int 1)) (.cons (.con (.bl true)) .nil))))) (.con (.int 0))))
  .nil)
def D62 : Df := ⟨1, 1, b_is_plain⟩
def b_check_prime : Ss := (.cons (.ite (.or (.not (.call 7 (.cons (.var 0) (.cons (.con (.int 2)) (.cons (.con (.int 1000000)) .nil))))) (.not (.call 28 (.cons (.var 0) .nil))))
    (.cons (.rais 4 .nil)
    .nil)
    .nil)
  .nil)
def D64 : Df := ⟨1, 1, b_check_prime⟩
def b_law_integer : Ss := (.cons (.ret (.and (.isi (.var 0) .int) (.not (.isi (.var 0) .bool))))
  .nil)
def D114 : Df := ⟨1, 1, b_law_integer⟩
def b_is_smooth : Ss := (.cons (.asg (.name 1) (.con (.int 2)))
  (.cons (.whl (.and (.cmp .Gt (.var 0) (.con (.int 1000000))) (.cmp .LtE (.var 1) (.con (.int 1000000))))
    (.cons (.ite (.cmp .Eq (.bin .Mod (.var 0) (.var 1)) (.con (.int 0)))
      (.cons (.asg (.name 0) (.bin .FloorDiv (.var 0) (.var 1)))
      .nil)
      (.cons (.ite (.cmp .Gt (.bin .Mult (.var 1) (.var 1)) (.var 0))
        (.cons (.ret (.con (.bl false)))
        .nil)
        (.cons (.asg (.name 1) (.bin .Add (.bin .Add (.var 1) (.con (.int 1))) (.bin .Mod (.var 1) (.con (.int 2)))))
        .nil))
      .nil))
    .nil))
  (.cons (.ret (.cmp .LtE (.var 0) (.con (.int 1000000))))
  .nil)))
def D125 : Df := ⟨1, 2, b_is_smooth⟩
def b_divisor_of : Ss := (.cons (.asg (.name 2) (.var 0))
  (.cons (.for (.name 3) (.val (.var 1))
    (.cons (.asg (.name 2) (.call 54 (.cons (.var 2) (.cons (.var 3) .nil))))
    .nil))
  (.cons (.ret (.var 2))
  .nil)))
def D126 : Df := ⟨2, 4, b_divisor_of⟩
def b_fits : Ss := (.cons (.ite (.or (.cmp .Gt (.blt .len (.cons (.var 0) .nil)) (.con (.int 11))) (.not (.call 7 (.cons (.var 1) (.cons (.con (.int 1)) (.cons (.con (.int 1000000000000000000000000000000000000000000000000000000000000)) .nil))))))
    (.cons (.ret (.con (.bl false)))
    .nil)
    .nil)
  (.cons (.ret (.blt .all (.cons (.shut (.lc (.call 7 (.cons (.var 2) (.cons (.bin .Sub (.con (.int 1)) (.con (.int 1000000000000000000000000000000000000000000000000000000000000))) (.cons (.bin .Sub (.con (.int 1000000000000000000000000000000000000000000000000000000000000)) (.con (.int 1))) .nil)))) (.name 2) (.val (.var 0)) .non [2])) .nil)))
  .nil))
def D127 : Df := ⟨2, 3, b_fits⟩
def b_is_polynomial : Ss := (.cons (.ite (.or (.not (.isi (.var 0) .tuple)) (.or (.cmp .NotEq (.blt .len (.cons (.var 0) .nil)) (.con (.int 2))) (.not (.isi (.ix (.var 0) (.con (.int 0))) .tuple))))
    (.cons (.ret (.con (.bl false)))
    .nil)
    .nil)
  (.cons (.asg (.pair (.name 1) (.name 2)) (.var 0))
  (.cons (.ite (.or (.not (.call 127 (.cons (.var 1) (.cons (.var 2) .nil)))) (.and (.cmp .Gt (.blt .len (.cons (.var 1) .nil)) (.con (.int 0))) (.cmp .Eq (.ix (.var 1) (.neg (.con (.int 1)))) (.con (.int 0)))))
    (.cons (.ret (.con (.bl false)))
    .nil)
    .nil)
  (.cons (.ret (.and (.cmp .Eq (.call 126 (.cons (.var 2) (.cons (.var 1) .nil))) (.con (.int 1))) (.call 125 (.cons (.var 2) .nil))))
  .nil))))
def D128 : Df := ⟨1, 3, b_is_polynomial⟩
def b_law_open : Ss := (.cons (.asg (.name 2) (.con (.int 0)))
  (.cons (.ite (.cmp .Lt (.var 1) (.blt .len (.cons (.var 0) .nil)))
    (.cons (.asg (.name 2) (.ix (.var 0) (.var 1)))
    .nil)
    .nil)
  (.cons (.asg (.name 3) (.bin .Add (.bin .Add (.bin .Mod (.blt .int (.cons (.bin .Add (.bin .Mult (.con (.int 2)) (.blt .abs (.cons (.var 2) .nil))) (.blt .int (.cons (.cmp .Lt (.var 2) (.con (.int 0))) .nil))) .nil)) (.bin .Add (.bin .Pow (.con (.int 10)) (.con (.int 39))) (.con (.int 3)))) (.bin .Mult (.con (.int 5)) (.var 1))) (.con (.int 1))))
  (.cons (.ret (.lst (.cons (.blt .max (.cons (.con (.int 0)) (.cons (.bin .Sub (.var 2) (.bin .Pow (.con (.int 10)) (.con (.int 18)))) .nil))) (.cons (.var 3) (.cons (.con (.int 0)) .nil)))))
  .nil))))
def D129 : Df := ⟨2, 4, b_law_open⟩
def b_law_draw_2 : Ss := (.cons (.ite (.cmp .Gt (.ix (.var 0) (.con (.int 0))) (.con (.int 0)))
    (.cons (.asg (.name 2) (.bin .Mod (.blt .int (.cons (.ix (.var 0) (.con (.int 0))) .nil)) (.var 1)))
    (.cons (.set (.var 0) (.con (.int 0)) (.bin .FloorDiv (.ix (.var 0) (.con (.int 0))) (.var 1)))
    (.cons (.ret (.var 2))
    .nil)))
    .nil)
  (.cons (.set (.var 0) (.con (.int 2)) (.bin .Add (.ix (.var 0) (.con (.int 2))) (.con (.int 1))))
  (.cons (.asg (.name 3) (.bin .Mod (.blt .int (.cons (.bin .Add (.bin .Mult (.ix (.var 0) (.con (.int 1))) (.bin .Add (.con (.int 48611)) (.bin .Mult (.con (.int 2)) (.ix (.var 0) (.con (.int 2)))))) (.bin .Mult (.bin .Mult (.con (.int 104729)) (.ix (.var 0) (.con (.int 2)))) (.ix (.var 0) (.con (.int 2))))) .nil)) (.con (.int 1000000000000000003))))
  (.cons (.asg (.name 3) (.bin .Mod (.blt .int (.cons (.bin .Add (.bin .Add (.bin .Mult (.var 3) (.var 3)) (.bin .Mult (.con (.int 611953)) (.ix (.var 0) (.con (.int 2))))) (.ix (.var 0) (.con (.int 1)))) .nil)) (.con (.int 2305843009213693951))))
  (.cons (.asg (.name 3) (.bin .Mod (.blt .int (.cons (.bin .Add (.bin .Mult (.bin .Mult (.var 3) (.var 3)) (.var 3)) (.bin .Mult (.con (.int 7368787)) (.ix (.var 0) (.con (.int 2))))) .nil)) (.con (.int 1000000000000000009))))
  (.cons (.ret (.bin .Mod (.blt .int (.cons (.bin .FloorDiv (.var 3) (.con (.int 1031))) .nil)) (.var 1)))
  .nil))))))
def D130 : Df := ⟨2, 4, b_law_draw_2⟩
def b_law_large : Ss := (.cons (.asg (.name 2) (.con (.int 0)))
  (.cons (.for (.name 3) (.rng (.con (.int 5)))
    (.cons (.asg (.name 2) (.bin .Add (.bin .Mult (.var 2) (.bin .Pow (.con (.int 10)) (.con (.int 13)))) (.call 130 (.cons (.var 0) (.cons (.bin .Pow (.con (.int 10)) (.con (.int 13))) .nil)))))
    .nil))
  (.cons (.ret (.bin .Mod (.blt .int (.cons (.var 2) .nil)) (.var 1)))
  .nil)))
def D131 : Df := ⟨2, 4, b_law_large⟩
def b_law_gcd_2 : Ss := (.cons (.asg (.name 0) (.blt .abs (.cons (.var 0) .nil)))
  (.cons (.asg (.name 1) (.blt .abs (.cons (.var 1) .nil)))
  (.cons (.whl (.cmp .Gt (.var 1) (.con (.int 0)))
    (.cons (.par 0 1 (.var 1) (.bin .Mod (.blt .int (.cons (.var 0) .nil)) (.var 1)))
    .nil))
  (.cons (.ret (.var 0))
  .nil))))
def D132 : Df := ⟨2, 2, b_law_gcd_2⟩
def b_law_lowest : Ss := (.cons (.asg (.name 2) (.blt .list (.cons (.var 0) .nil)))
  (.cons (.whl (.and (.cmp .NotEq (.var 2) (.shut (.lst .nil))) (.cmp .Eq (.ix (.var 2) (.neg (.con (.int 1)))) (.con (.int 0))))
    (.cons (.drop (.meth .pop (.var 2) .nil))
    .nil))
  (.cons (.asg (.name 3) (.var 1))
  (.cons (.for (.name 4) (.val (.var 2))
    (.cons (.asg (.name 3) (.call 132 (.cons (.var 3) (.cons (.var 4) .nil))))
    .nil))
  (.cons (.ret (.tup (.cons (.blt .tuple (.cons (.shut (.lc (.bin .FloorDiv (.var 4) (.var 3)) (.name 4) (.val (.var 2)) .non [4])) .nil)) (.cons (.bin .FloorDiv (.var 1) (.var 3)) .nil))))
  .nil)))))
def D133 : Df := ⟨2, 5, b_law_lowest⟩
def b_law_poly : Ss := (.cons (.asg (.name 3) (.shut (.lc (.bin .Sub (.call 131 (.cons (.var 0) (.cons (.bin .Add (.bin .Mult (.con (.int 2)) (.var 2)) (.con (.int 1))) .nil))) (.var 2)) (.name 6) (.rng (.call 130 (.cons (.var 0) (.cons (.bin .Add (.var 1) (.con (.int 1))) .nil)))) .non [6])))
  (.cons (.asg (.name 4) (.con (.int 1)))
  (.cons (.for (.name 5) (.val (.shut (.lst (.cons (.con (.int 2)) (.cons (.con (.int 2)) (.cons (.con (.int 3)) (.cons (.con (.int 3)) (.cons (.con (.int 5)) (.cons (.con (.int 7)) (.cons (.con (.int 101)) (.cons (.con (.int 999983)) .nil)))))))))))
    (.cons (.ite (.cmp .Eq (.call 130 (.cons (.var 0) (.cons (.con (.int 3)) .nil))) (.con (.int 0)))
      (.cons (.asg (.name 4) (.bin .Mult (.var 4) (.var 5)))
      .nil)
      .nil)
    .nil))
  (.cons (.ret (.call 133 (.cons (.var 3) (.cons (.var 4) .nil))))
  .nil))))
def D134 : Df := ⟨3, 7, b_law_poly⟩
def b_check_polynomial : Ss := (.cons (.ite (.not (.call 128 (.cons (.var 0) .nil)))
    (.cons (.rais 7 .nil)
    .nil)
    .nil)
  .nil)
def D138 : Df := ⟨1, 1, b_check_polynomial⟩
def b_top_value : Ss := (.cons (.asg (.name 2) (.con (.int 0)))
  (.cons (.for (.name 3) (.rev (.shut (.blt .list (.cons (.var 0) .nil))))
    (.cons (.asg (.name 2) (.bin .Add (.bin .Mult (.var 2) (.var 1)) (.var 3)))
    .nil))
  (.cons (.ret (.var 2))
  .nil)))
def D139 : Df := ⟨2, 4, b_top_value⟩
def b_value_of : Ss := (.cons (.asg (.name 2) (.call 139 (.cons (.ix (.var 0) (.con (.int 0))) (.cons (.var 1) .nil))))
  (.cons (.asg (.name 3) (.call 54 (.cons (.var 2) (.cons (.ix (.var 0) (.con (.int 1))) .nil))))
  (.cons (.ret (.tup (.cons (.bin .FloorDiv (.var 2) (.var 3)) (.cons (.bin .FloorDiv (.ix (.var 0) (.con (.int 1))) (.var 3)) .nil))))
  .nil)))
def D140 : Df := ⟨2, 4, b_value_of⟩
def b_value_at : Ss := (.cons (.drop (.call 138 (.cons (.var 0) .nil)))
  (.cons (.drop (.call 23 (.cons (.var 1) (.cons (.neg (.con (.int 1000000000000000))) (.cons (.con (.int 1000000000000000)) .nil)))))
  (.cons (.ret (.call 140 (.cons (.var 0) (.cons (.var 1) .nil))))
  .nil)))
def D141 : Df := ⟨2, 2, b_value_at⟩
def b_law_is_int : Ss := (.cons (.ret (.and (.isi (.var 0) .int) (.not (.isi (.var 0) .bool))))
  .nil)
def D142 : Df := ⟨1, 1, b_law_is_int⟩
def b_law_sort : Ss := (.cons (.ite (.cmp .Is (.var 0) (.con .non))
    (.cons (.ret (.con .non))
    .nil)
    .nil)
  (.cons (.asg (.name 1) (.shut (.lst (.cons (.isx (.var 0) (some 1)) (.cons (.isx (.var 0) (some 2)) (.cons (.isx (.var 0) (some 3)) .nil))))))
  (.cons (.asg (.name 1) (.shut (.bin .Add (.var 1) (.shut (.lst (.cons (.isx (.var 0) (some 4)) (.cons (.isx (.var 0) (some 5)) (.cons (.isx (.var 0) (some 6)) .nil))))))))
  (.cons (.asg (.name 1) (.shut (.bin .Add (.var 1) (.shut (.lst (.cons (.isx (.var 0) (some 7)) (.cons (.isx (.var 0) (some 8)) (.cons (.isx (.var 0) (some 9)) .nil))))))))
  (.cons (.asg (.name 1) (.shut (.bin .Add (.var 1) (.shut (.lst (.cons (.isx (.var 0) (some 10)) (.cons (.isx (.var 0) (some 11)) (.cons (.isx (.var 0) (some 12)) .nil))))))))
  (.cons (.asg (.name 1) (.shut (.bin .Add (.var 1) (.shut (.lst (.cons (.isx (.var 0) (some 13)) (.cons (.isx (.var 0) (some 14)) (.cons (.isx (.var 0) (some 15)) .nil))))))))
  (.cons (.asg (.name 1) (.shut (.bin .Add (.var 1) (.shut (.lst (.cons (.isx (.var 0) (some 16)) (.cons (.isx (.var 0) (some 17)) (.cons (.isx (.var 0) (some 18)) .nil))))))))
  (.cons (.asg (.name 1) (.shut (.bin .Add (.var 1) (.shut (.lst (.cons (.isx (.var 0) (some 19)) (.cons (.isx (.var 0) (some 20)) .nil)))))))
  (.cons (.asg (.name 2) (.shut (.lc (.var 3) (.name 3) (.rng (.con (.int 20))) (.som (.ix (.var 1) (.var 3))) [3])))
  (.cons (.ite (.or (.cmp .NotEq (.blt .len (.cons (.var 2) .nil)) (.con (.int 1))) (.or (.not (.isx (.var 0) (some 0))) (.not (.isx (.var 0) none))))
    (.cons (.ret (.neg (.con (.int 1))))
    .nil)
    .nil)
  (.cons (.ret (.ix (.var 2) (.con (.int 0))))
  .nil)))))))))))
def D143 : Df := ⟨1, 4, b_law_sort⟩
def b_law_no_poly : Ss := (.cons (.asg (.name 1) (.shut (.lst (.cons (.tup (.cons (.tup (.cons (.con (.int 1)) (.cons (.con (.int 0)) .nil))) (.cons (.con (.int 1)) .nil))) (.cons (.tup (.cons (.tup (.cons (.con (.int 2)) (.cons (.con (.int 4)) .nil))) (.cons (.con (.int 6)) .nil))) (.cons (.tup (.cons (.tup (.cons (.con (.int 1)) .nil)) (.cons (.con (.int 0)) .nil))) (.cons (.tup (.cons (.tup (.cons (.con (.int 1)) .nil)) (.cons (.neg (.con (.int 3))) .nil))) (.cons (.tup (.cons (.shut (.lst (.cons (.con (.int 1)) .nil))) (.cons (.con (.int 1)) .nil))) (.cons (.tup (.cons (.tup (.cons (.con (.bl true)) .nil)) (.cons (.con (.int 1)) .nil))) (.cons (.tup (.cons (.tup .nil) (.cons (.con (.int 2)) .nil))) (.cons (.con .non) (.cons (.tup (.cons (.tup (.cons (.con (.int 1)) .nil)) (.cons (.con (.int 1000003)) .nil))) (.cons (.con (.int 5)) .nil)))))))))))))
  (.cons (.asg (.name 1) (.shut (.bin .Add (.var 1) (.shut (.lst (.cons (.tup (.cons (.bin .Mult (.tup (.cons (.con (.int 1)) .nil)) (.con (.int 12))) (.cons (.con (.int 1)) .nil))) (.cons (.tup (.cons (.tup (.cons (.bin .Pow (.con (.int 10)) (.con (.int 60))) .nil)) (.cons (.con (.int 1)) .nil))) (.cons (.tup (.cons (.tup (.cons (.con (.int 1)) (.cons (.neg (.bin .Pow (.con (.int 10)) (.con (.int 60)))) .nil))) (.cons (.con (.int 7)) .nil))) (.cons (.tup (.cons (.tup (.cons (.con (.int 1)) .nil)) (.cons (.bin .Mult (.con (.int 2)) (.bin .Pow (.con (.int 10)) (.con (.int 60)))) .nil))) (.cons (.tup (.cons (.tup (.cons (.con (.int 0)) .nil)) (.cons (.con (.int 1)) .nil))) (.cons (.tup (.cons (.tup (.cons (.con (.int 3)) .nil)) (.cons (.con (.bl true)) .nil))) .nil)))))))))))
  (.cons (.ret (.ix (.var 1) (.call 130 (.cons (.var 0) (.cons (.con (.int 16)) .nil)))))
  .nil)))
def D144 : Df := ⟨1, 2, b_law_no_poly⟩
def b_reduced : Ss := (.cons (.asg (.name 2) (.blt .list (.cons (.var 0) .nil)))
  (.cons (.whl (.and (.cmp .Gt (.blt .len (.cons (.var 2) .nil)) (.con (.int 0))) (.cmp .Eq (.ix (.var 2) (.neg (.con (.int 1)))) (.con (.int 0))))
    (.cons (.drop (.meth .pop (.var 2) .nil))
    .nil))
  (.cons (.asg (.name 3) (.call 126 (.cons (.var 1) (.cons (.var 2) .nil))))
  (.cons (.ret (.tup (.cons (.blt .tuple (.cons (.shut (.lc (.bin .FloorDiv (.var 4) (.var 3)) (.name 4) (.val (.var 2)) .non [4])) .nil)) (.cons (.bin .FloorDiv (.var 1) (.var 3)) .nil))))
  .nil))))
def D148 : Df := ⟨2, 5, b_reduced⟩
def b_sized : Ss := (.cons (.ite (.not (.call 127 (.cons (.ix (.var 0) (.con (.int 0))) (.cons (.ix (.var 0) (.con (.int 1))) .nil))))
    (.cons (.rais 18 .nil)
    .nil)
    .nil)
  (.cons (.ret (.var 0))
  .nil))
def D149 : Df := ⟨1, 1, b_sized⟩
def b_product_row : Ss := (.cons (.asg (.name 2) (.bin .Mult (.lst (.cons (.con (.int 0)) .nil)) (.blt .max (.cons (.con (.int 0)) (.cons (.bin .Sub (.bin .Add (.blt .len (.cons (.var 0) .nil)) (.blt .len (.cons (.var 1) .nil))) (.con (.int 1))) .nil)))))
  (.cons (.for (.pair (.name 3) (.name 4)) (.enum (.var 0))
    (.cons (.for (.pair (.name 5) (.name 6)) (.enum (.var 1))
      (.cons (.aug (.var 2) (.bin .Add (.var 3) (.var 5)) (.bin .Mult (.var 4) (.var 6)))
      .nil))
    .nil))
  (.cons (.ret (.var 2))
  .nil)))
def D150 : Df := ⟨2, 7, b_product_row⟩
def b_sum_row : Ss := (.cons (.asg (.name 4) (.bin .Mult (.lst (.cons (.con (.int 0)) .nil)) (.blt .max (.cons (.blt .len (.cons (.var 0) .nil)) (.cons (.blt .len (.cons (.var 2) .nil)) .nil)))))
  (.cons (.for (.pair (.name 5) (.name 6)) (.enum (.var 0))
    (.cons (.aug (.var 4) (.var 5) (.bin .Mult (.var 1) (.var 6)))
    .nil))
  (.cons (.for (.pair (.name 5) (.name 6)) (.enum (.var 2))
    (.cons (.aug (.var 4) (.var 5) (.bin .Mult (.var 3) (.var 6)))
    .nil))
  (.cons (.ret (.var 4))
  .nil))))
def D151 : Df := ⟨4, 7, b_sum_row⟩
def b_sum_of : Ss := (.cons (.asg (.pair (.name 2) (.name 3)) (.var 0))
  (.cons (.asg (.pair (.name 4) (.name 5)) (.var 1))
  (.cons (.ret (.call 148 (.cons (.call 151 (.cons (.var 2) (.cons (.var 5) (.cons (.var 4) (.cons (.var 3) .nil))))) (.cons (.bin .Mult (.var 3) (.var 5)) .nil))))
  .nil)))
def D152 : Df := ⟨2, 6, b_sum_of⟩
def b_added : Ss := (.cons (.drop (.call 138 (.cons (.var 0) .nil)))
  (.cons (.drop (.call 138 (.cons (.var 1) .nil)))
  (.cons (.ret (.call 149 (.cons (.call 152 (.cons (.var 0) (.cons (.var 1) .nil))) .nil)))
  .nil)))
def D153 : Df := ⟨2, 2, b_added⟩
def b_times : Ss := (.cons (.drop (.call 138 (.cons (.var 0) .nil)))
  (.cons (.drop (.call 138 (.cons (.var 1) .nil)))
  (.cons (.ret (.call 149 (.cons (.call 148 (.cons (.call 150 (.cons (.ix (.var 0) (.con (.int 0))) (.cons (.ix (.var 1) (.con (.int 0))) .nil))) (.cons (.bin .Mult (.ix (.var 0) (.con (.int 1))) (.ix (.var 1) (.con (.int 1)))) .nil))) .nil)))
  .nil)))
def D154 : Df := ⟨2, 2, b_times⟩
def b_law_value : Ss := (.cons (.asg (.name 2) (.con (.int 0)))
  (.cons (.for (.name 3) (.rng (.blt .len (.cons (.var 0) .nil)))
    (.cons (.asg (.name 2) (.bin .Add (.bin .Mult (.var 2) (.var 1)) (.ix (.var 0) (.bin .Sub (.bin .Sub (.blt .len (.cons (.var 0) .nil)) (.con (.int 1))) (.var 3)))))
    .nil))
  (.cons (.ret (.var 2))
  .nil)))
def D156 : Df := ⟨2, 4, b_law_value⟩
def b_put_in : Ss := (.cons (.drop (.call 138 (.cons (.var 0) .nil)))
  (.cons (.drop (.call 138 (.cons (.var 1) .nil)))
  (.cons (.ite (.cmp .Gt (.bin .Mult (.bin .Sub (.blt .len (.cons (.ix (.var 0) (.con (.int 0))) .nil)) (.con (.int 1))) (.bin .Sub (.blt .len (.cons (.ix (.var 1) (.con (.int 0))) .nil)) (.con (.int 1)))) (.bin .Sub (.con (.int 11)) (.con (.int 1))))
    (.cons (.rais 18 .nil)
    .nil)
    .nil)
  (.cons (.asg (.name 2) (.shut (.lst .nil)))
  (.cons (.asg (.name 3) (.con (.int 1)))
  (.cons (.for (.name 4) (.rev (.shut (.blt .list (.cons (.ix (.var 0) (.con (.int 0))) .nil))))
    (.cons (.asg (.name 2) (.call 151 (.cons (.call 150 (.cons (.var 2) (.cons (.ix (.var 1) (.con (.int 0))) .nil))) (.cons (.con (.int 1)) (.cons (.shut (.lst (.cons (.bin .Mult (.var 3) (.var 4)) .nil))) (.cons (.con (.int 1)) .nil))))))
    (.cons (.asg (.name 3) (.bin .Mult (.var 3) (.ix (.var 1) (.con (.int 1)))))
    .nil)))
  (.cons (.ite (.cmp .Gt (.blt .len (.cons (.ix (.var 0) (.con (.int 0))) .nil)) (.con (.int 0)))
    (.cons (.asg (.name 3) (.bin .FloorDiv (.var 3) (.ix (.var 1) (.con (.int 1)))))
    .nil)
    .nil)
  (.cons (.ret (.call 149 (.cons (.call 148 (.cons (.var 2) (.cons (.bin .Mult (.ix (.var 0) (.con (.int 1))) (.var 3)) .nil))) .nil)))
  .nil))))))))
def D159 : Df := ⟨2, 5, b_put_in⟩
def b_summed : Ss := (.cons (.drop (.call 138 (.cons (.var 0) .nil)))
  (.cons (.asg (.pair (.name 1) (.name 2)) (.var 0))
  (.cons (.asg (.name 3) (.shut (.lc (.call 139 (.cons (.var 1) (.cons (.var 8) .nil))) (.name 8) (.rng (.blt .len (.cons (.var 1) .nil))) .non [8])))
  (.cons (.asg (.name 4) (.shut (.lst .nil)))
  (.cons (.asg (.name 5) (.shut (.lst (.cons (.con (.int 0)) (.cons (.con (.int 1)) .nil)))))
  (.cons (.asg (.name 6) (.con (.int 1)))
  (.cons (.for (.name 7) (.rng (.blt .len (.cons (.var 1) .nil)))
    (.cons (.asg (.name 4) (.call 151 (.cons (.var 4) (.cons (.bin .Add (.var 7) (.con (.int 1))) (.cons (.var 5) (.cons (.ix (.var 3) (.con (.int 0))) .nil))))))
    (.cons (.asg (.name 6) (.bin .Mult (.var 6) (.bin .Add (.var 7) (.con (.int 1)))))
    (.cons (.asg (.name 5) (.call 150 (.cons (.var 5) (.cons (.shut (.lst (.cons (.bin .Sub (.neg (.var 7)) (.con (.int 1))) (.cons (.con (.int 1)) .nil)))) .nil))))
    (.cons (.asg (.name 3) (.shut (.lc (.bin .Sub (.ix (.var 3) (.bin .Add (.var 9) (.con (.int 1)))) (.ix (.var 3) (.var 9))) (.name 9) (.rng (.bin .Sub (.blt .len (.cons (.var 3) .nil)) (.con (.int 1)))) .non [9])))
    .nil)))))
  (.cons (.ret (.call 149 (.cons (.call 148 (.cons (.var 4) (.cons (.bin .Mult (.var 2) (.var 6)) .nil))) .nil)))
  .nil))))))))
def D163 : Df := ⟨1, 10, b_summed⟩
def b_law_small_3 : Ss := (.cons (.asg (.name 3) (.shut (.lc (.bin .Sub (.call 130 (.cons (.var 0) (.cons (.bin .Add (.bin .Mult (.con (.int 2)) (.var 2)) (.con (.int 1))) .nil))) (.var 2)) (.name 4) (.rng (.call 130 (.cons (.var 0) (.cons (.bin .Add (.var 1) (.con (.int 1))) .nil)))) .non [4])))
  (.cons (.ret (.call 133 (.cons (.var 3) (.cons (.bin .Add (.con (.int 1)) (.call 130 (.cons (.var 0) (.cons (.con (.int 12)) .nil)))) .nil))))
  .nil))
def D178 : Df := ⟨3, 5, b_law_small_3⟩
def b_law_same : Ss := (.cons (.ret (.and (.cmp .GtE (.ix (.var 0) (.con (.int 1))) (.con (.int 1))) (.and (.cmp .Eq (.bin .Mult (.ix (.var 0) (.con (.int 0))) (.var 2)) (.bin .Mult (.ix (.var 0) (.con (.int 1))) (.var 1))) (.cmp .Eq (.call 132 (.cons (.ix (.var 0) (.con (.int 0))) (.cons (.ix (.var 0) (.con (.int 1))) .nil))) (.con (.int 1))))))
  .nil)
def D179 : Df := ⟨3, 3, b_law_same⟩
def b_law_rests_set_2 : Ss := (.cons (.asg (.name 2) (.bin .Add (.con (.int 1)) (.call 274 (.cons (.var 0) (.cons (.var 1) .nil)))))
  (.cons (.asg (.name 3) (.shut (.lc (.var 4) (.name 4) (.rng (.var 2)) (.som (.cmp .Eq (.call 274 (.cons (.var 0) (.cons (.con (.int 3)) .nil))) (.con (.int 1)))) [4])))
  (.cons (.ite (.cmp .Eq (.var 3) (.shut (.lst .nil)))
    (.cons (.asg (.name 3) (.shut (.lst (.cons (.call 274 (.cons (.var 0) (.cons (.var 2) .nil))) .nil))))
    .nil)
    .nil)
  (.cons (.ret (.tup (.cons (.con (.str "rests")) (.cons (.var 2) (.cons (.blt .tuple (.cons (.var 3) .nil)) .nil)))))
  .nil))))
def D275 : Df := ⟨2, 5, b_law_rests_set_2⟩
def b_law_list_set_4 : Ss := (.cons (.asg (.name 2) (.shut (.lc (.bin .Sub (.call 274 (.cons (.var 0) (.cons (.con (.int 201)) .nil))) (.con (.int 100))) (.name 3) (.rng (.bin .Add (.con (.int 1)) (.call 274 (.cons (.var 0) (.cons (.var 1) .nil))))) .non [3])))
  (.cons (.ret (.tup (.cons (.con (.str "list")) (.cons (.blt .tuple (.cons (.shut (.sset (.var 2))) .nil)) .nil))))
  .nil))
def D276 : Df := ⟨2, 4, b_law_list_set_4⟩
def b_law_move : Ss := (.cons (.asg (.name 1) (.bin .Add (.con (.int 1)) (.call 274 (.cons (.var 0) (.cons (.ix (.shut (.lst (.cons (.con (.int 3)) (.cons (.con (.int 20)) .nil)))) (.call 274 (.cons (.var 0) (.cons (.con (.int 2)) .nil)))) .nil)))))
  (.cons (.ite (.cmp .Eq (.call 274 (.cons (.var 0) (.cons (.con (.int 2)) .nil))) (.con (.int 1)))
    (.cons (.asg (.name 1) (.neg (.var 1)))
    .nil)
    .nil)
  (.cons (.ret (.tup (.cons (.var 1) (.cons (.bin .Sub (.call 274 (.cons (.var 0) (.cons (.con (.int 401)) .nil))) (.con (.int 200))) .nil))))
  .nil)))
def D277 : Df := ⟨1, 2, b_law_move⟩
def b_law_plain_set : Ss := (.cons (.asg (.name 3) (.call 274 (.cons (.var 0) (.cons (.con (.int 5)) .nil))))
  (.cons (.ite (.and (.cmp .Gt (.var 1) (.con (.int 1))) (.cmp .Eq (.var 3) (.con (.int 3))))
    (.cons (.asg (.pair (.name 4) (.name 5)) (.call 277 (.cons (.var 0) .nil)))
    (.cons (.ret (.tup (.cons (.con (.str "moved")) (.cons (.call 278 (.cons (.var 0) (.cons (.bin .Sub (.var 1) (.con (.int 1))) (.cons (.var 2) .nil)))) (.cons (.var 4) (.cons (.var 5) .nil))))))
    .nil))
    .nil)
  (.cons (.ite (.and (.cmp .Gt (.var 1) (.con (.int 1))) (.cmp .Eq (.var 3) (.con (.int 4))))
    (.cons (.asg (.name 6) (.call 278 (.cons (.var 0) (.cons (.bin .Sub (.var 1) (.con (.int 1))) (.cons (.var 2) .nil)))))
    (.cons (.ret (.tup (.cons (.con (.str "either")) (.cons (.var 6) (.cons (.call 278 (.cons (.var 0) (.cons (.bin .Sub (.var 1) (.con (.int 1))) (.cons (.var 2) .nil)))) .nil)))))
    .nil))
    .nil)
  (.cons (.ite (.cmp .Eq (.var 3) (.con (.int 2)))
    (.cons (.ret (.call 276 (.cons (.var 0) (.cons (.con (.int 12)) .nil))))
    .nil)
    .nil)
  (.cons (.ret (.call 275 (.cons (.var 0) (.cons (.var 2) .nil))))
  .nil)))))
def D278 : Df := ⟨3, 7, b_law_plain_set⟩
def b_is_near : Ss := (.cons (.asg (.name 4) (.ix (.var 0) (.con (.int 0))))
  (.cons (.ite (.cmp .Eq (.var 4) (.con (.str "rests")))
    (.cons (.asg (.name 5) (.con (.int 1)))
    (.cons (.whl (.cmp .Eq (.bin .Mod (.ix (.var 0) (.con (.int 1))) (.bin .Mult (.var 5) (.var 1))) (.con (.int 0)))
      (.cons (.asg (.name 5) (.bin .Mult (.var 5) (.var 1)))
      .nil))
    (.cons (.ret (.blt .any (.cons (.shut (.lc (.cmp .Eq (.bin .Mod (.bin .Sub (.var 2) (.bin .Mult (.var 9) (.var 3))) (.var 5)) (.con (.int 0))) (.name 9) (.val (.ix (.var 0) (.con (.int 2)))) .non [9])) .nil)))
    .nil)))
    .nil)
  (.cons (.ite (.cmp .Eq (.var 4) (.con (.str "list")))
    (.cons (.ret (.blt .any (.cons (.shut (.lc (.cmp .Eq (.var 2) (.bin .Mult (.var 10) (.var 3))) (.name 10) (.val (.ix (.var 0) (.con (.int 1)))) .non [10])) .nil)))
    .nil)
    .nil)
  (.cons (.ite (.cmp .Eq (.var 4) (.con (.str "either")))
    (.cons (.ret (.or (.call 288 (.cons (.ix (.var 0) (.con (.int 1))) (.cons (.var 1) (.cons (.var 2) (.cons (.var 3) .nil))))) (.call 288 (.cons (.ix (.var 0) (.con (.int 2))) (.cons (.var 1) (.cons (.var 2) (.cons (.var 3) .nil)))))))
    .nil)
    .nil)
  (.cons (.asg (.name 6) (.bin .Sub (.var 2) (.bin .Mult (.ix (.var 0) (.con (.int 3))) (.var 3))))
  (.cons (.asg (.name 7) (.bin .Mult (.ix (.var 0) (.con (.int 2))) (.var 3)))
  (.cons (.asg (.name 8) (.call 54 (.cons (.var 6) (.cons (.var 7) .nil))))
  (.cons (.ite (.cmp .Eq (.bin .Mod (.bin .FloorDiv (.var 7) (.var 8)) (.var 1)) (.con (.int 0)))
    (.cons (.ret (.con (.bl false)))
    .nil)
    .nil)
  (.cons (.ret (.call 288 (.cons (.ix (.var 0) (.con (.int 1))) (.cons (.var 1) (.cons (.bin .FloorDiv (.var 6) (.var 8)) (.cons (.bin .FloorDiv (.var 7) (.var 8)) .nil))))))
  .nil)))))))))
def D288 : Df := ⟨4, 11, b_is_near⟩
def b_scale_of : Ss := (.cons (.ite (.cmp .Eq (.ix (.var 0) (.con (.int 0))) (.con (.str "rests")))
    (.cons (.ret (.ix (.var 0) (.con (.int 1))))
    .nil)
    .nil)
  (.cons (.ite (.cmp .Eq (.ix (.var 0) (.con (.int 0))) (.con (.str "list")))
    (.cons (.ret (.con (.int 1)))
    .nil)
    .nil)
  (.cons (.ite (.cmp .Eq (.ix (.var 0) (.con (.int 0))) (.con (.str "either")))
    (.cons (.ret (.bin .Mult (.call 289 (.cons (.ix (.var 0) (.con (.int 1))) .nil)) (.call 289 (.cons (.ix (.var 0) (.con (.int 2))) .nil))))
    .nil)
    .nil)
  (.cons (.ret (.bin .Mult (.blt .abs (.cons (.ix (.var 0) (.con (.int 2))) .nil)) (.call 289 (.cons (.ix (.var 0) (.con (.int 1))) .nil))))
  .nil))))
def D289 : Df := ⟨1, 1, b_scale_of⟩
def b_root_of : Ss := (.cons (.asg (.name 1) (.var 0))
  (.cons (.asg (.name 2) (.bin .FloorDiv (.bin .Add (.var 1) (.con (.int 1))) (.con (.int 2))))
  (.cons (.whl (.cmp .Lt (.var 2) (.var 1))
    (.cons (.asg (.name 1) (.var 2))
    (.cons (.asg (.name 2) (.bin .FloorDiv (.bin .Add (.var 1) (.bin .FloorDiv (.var 0) (.var 1))) (.con (.int 2))))
    .nil)))
  (.cons (.ret (.var 1))
  .nil))))
def D25 : Df := ⟨1, 3, b_root_of⟩
def b_is_power : Ss := (.cons (.ite (.cmp .Lt (.var 0) (.con (.int 1)))
    (.cons (.ret (.con (.bl false)))
    .nil)
    .nil)
  (.cons (.whl (.cmp .Eq (.bin .Mod (.var 0) (.var 1)) (.con (.int 0)))
    (.cons (.asg (.name 0) (.bin .FloorDiv (.var 0) (.var 1)))
    .nil))
  (.cons (.ret (.cmp .Eq (.var 0) (.con (.int 1))))
  .nil)))
def D29 : Df := ⟨2, 2, b_is_power⟩
def b_holds : Ss := (.cons (.asg (.name 2) (.ix (.var 0) (.con (.int 0))))
  (.cons (.ite (.cmp .Eq (.var 2) (.con (.str "rests")))
    (.cons (.ret (.cmp .In (.bin .Mod (.var 1) (.ix (.var 0) (.con (.int 1)))) (.ix (.var 0) (.con (.int 2)))))
    .nil)
    .nil)
  (.cons (.ite (.cmp .Eq (.var 2) (.con (.str "list")))
    (.cons (.ret (.cmp .In (.var 1) (.ix (.var 0) (.con (.int 1)))))
    .nil)
    .nil)
  (.cons (.ite (.cmp .Eq (.var 2) (.con (.str "powers")))
    (.cons (.ret (.call 29 (.cons (.var 1) (.cons (.ix (.var 0) (.con (.int 1))) .nil))))
    .nil)
    .nil)
  (.cons (.ite (.cmp .Eq (.var 2) (.con (.str "squares")))
    (.cons (.ret (.and (.cmp .GtE (.var 1) (.con (.int 0))) (.cmp .Eq (.bin .Pow (.call 25 (.cons (.var 1) .nil)) (.con (.int 2))) (.var 1))))
    .nil)
    .nil)
  (.cons (.ite (.cmp .Eq (.var 2) (.con (.str "primes")))
    (.cons (.ret (.call 28 (.cons (.var 1) .nil)))
    .nil)
    .nil)
  (.cons (.ite (.cmp .Eq (.var 2) (.con (.str "moved")))
    (.cons (.asg (.name 3) (.bin .Sub (.var 1) (.ix (.var 0) (.con (.int 3)))))
    (.cons (.ret (.and (.cmp .Eq (.bin .Mod (.var 3) (.ix (.var 0) (.con (.int 2)))) (.con (.int 0))) (.call 30 (.cons (.ix (.var 0) (.con (.int 1))) (.cons (.bin .FloorDiv (.var 3) (.ix (.var 0) (.con (.int 2)))) .nil)))))
    .nil))
    .nil)
  (.cons (.ret (.or (.call 30 (.cons (.ix (.var 0) (.con (.int 1))) (.cons (.var 1) .nil))) (.call 30 (.cons (.ix (.var 0) (.con (.int 2))) (.cons (.var 1) .nil)))))
  .nil))))))))
def D30 : Df := ⟨2, 4, b_holds⟩
def b_in_hull : Ss := (.cons (.drop (.call 24 (.cons (.var 0) .nil)))
  (.cons (.ite (.not (.call 62 (.cons (.var 0) .nil)))
    (.cons (.rais 13 .nil)
    .nil)
    .nil)
  (.cons (.drop (.call 23 (.cons (.var 1) (.cons (.neg (.con (.int 1000000000000000))) (.cons (.con (.int 1000000000000000)) .nil)))))
  (.cons (.ite (.cmp .IsNot (.call 50 (.cons (.var 0) .nil)) (.con .non))
    (.cons (.ret (.call 30 (.cons (.var 0) (.cons (.var 1) .nil))))
    .nil)
    .nil)
  (.cons (.ret (.blt .all (.cons (.shut (.lc (.call 288 (.cons (.var 0) (.cons (.var 2) (.cons (.var 1) (.cons (.con (.int 1)) .nil))))) (.name 2) (.val (.call 55 (.cons (.call 289 (.cons (.var 0) .nil)) .nil))) .non [2])) .nil)))
  .nil)))))
def D290 : Df := ⟨2, 3, b_in_hull⟩
def b_hull_of : Ss := (.cons (.drop (.call 24 (.cons (.var 0) .nil)))
  (.cons (.ite (.cmp .NotEq (.ix (.var 0) (.con (.int 0))) (.con (.str "rests")))
    (.cons (.rais 13 .nil)
    .nil)
    .nil)
  (.cons (.asg (.name 1) (.call 55 (.cons (.ix (.var 0) (.con (.int 1))) .nil)))
  (.cons (.asg (.name 2) (.shut (.lc (.var 3) (.name 3) (.rng (.ix (.var 0) (.con (.int 1)))) (.som (.blt .all (.cons (.shut (.lc (.call 288 (.cons (.var 0) (.cons (.var 4) (.cons (.var 3) (.cons (.con (.int 1)) .nil))))) (.name 4) (.val (.var 1)) .non [4])) .nil))) [3])))
  (.cons (.ret (.tup (.cons (.con (.str "rests")) (.cons (.ix (.var 0) (.con (.int 1))) (.cons (.blt .tuple (.cons (.var 2) .nil)) .nil)))))
  .nil)))))
def D297 : Df := ⟨1, 5, b_hull_of⟩
def b_law_parts_3 : Ss := (.cons (.asg (.name 1) (.lst .nil))
  (.cons (.asg (.name 2) (.var 0))
  (.cons (.for (.name 3) (.rng2 (.con (.int 2)) (.bin .Add (.var 0) (.con (.int 1))))
    (.cons (.asg (.name 4) (.con (.int 1)))
    (.cons (.for (.name 5) (.rng (.con (.int 6)))
      (.cons (.ite (.cmp .Eq (.bin .Mod (.blt .int (.cons (.var 2) .nil)) (.var 3)) (.con (.int 0)))
        (.cons (.asg (.name 2) (.bin .FloorDiv (.var 2) (.var 3)))
        (.cons (.asg (.name 4) (.bin .Mult (.var 4) (.var 3)))
        .nil))
        .nil)
      .nil))
    (.cons (.ite (.cmp .Gt (.var 4) (.con (.int 1)))
      (.cons (.drop (.meth .append (.var 1) (.cons (.var 4) .nil)))
      .nil)
      .nil)
    .nil))))
  (.cons (.ret (.var 1))
  .nil))))
def D298 : Df := ⟨1, 6, b_law_parts_3⟩
def b_law_due_7 : Ss := (.cons (.asg (.name 2) (.lst .nil))
  (.cons (.for (.name 3) (.rng (.var 0))
    (.cons (.ite (.blt .all (.cons (.shut (.lc (.blt .any (.cons (.shut (.lc (.cmp .Eq (.bin .Mod (.blt .int (.cons (.bin .Sub (.var 3) (.var 5)) .nil)) (.var 4)) (.con (.int 0))) (.name 5) (.val (.var 1)) .non [5])) .nil)) (.name 4) (.val (.call 298 (.cons (.var 0) .nil))) .non [4])) .nil))
      (.cons (.drop (.meth .append (.var 2) (.cons (.var 3) .nil)))
      .nil)
      .nil)
    .nil))
  (.cons (.ret (.blt .tuple (.cons (.var 2) .nil)))
  .nil)))
def D299 : Df := ⟨2, 6, b_law_due_7⟩
def b_check_count : Ss := (.cons (.ite (.not (.call 7 (.cons (.var 0) (.cons (.var 1) (.cons (.var 2) .nil)))))
    (.cons (.rais 3 .nil)
    .nil)
    .nil)
  .nil)
def D42 : Df := ⟨3, 3, b_check_count⟩
def b_check_integer_polynomial : Ss := (.cons (.drop (.call 138 (.cons (.var 0) .nil)))
  (.cons (.ite (.cmp .NotEq (.ix (.var 0) (.con (.int 1))) (.con (.int 1)))
    (.cons (.rais 14 .nil)
    .nil)
    .nil)
  .nil))
def D311 : Df := ⟨1, 1, b_check_integer_polynomial⟩
def b_permutes : Ss := (.cons (.drop (.call 311 (.cons (.var 0) .nil)))
  (.cons (.drop (.call 64 (.cons (.var 1) .nil)))
  (.cons (.drop (.call 42 (.cons (.var 2) (.cons (.con (.int 1)) (.cons (.con (.int 20)) .nil)))))
  (.cons (.ite (.cmp .Gt (.var 1) (.con (.int 2000)))
    (.cons (.rais 18 .nil)
    .nil)
    .nil)
  (.cons (.asg (.name 3) (.shut (.lc (.bin .Mod (.var 5) (.var 1)) (.name 5) (.val (.ix (.var 0) (.con (.int 0)))) .non [5])))
  (.cons (.ite (.cmp .Lt (.blt .len (.cons (.blt .set (.cons (.shut (.lc (.bin .Mod (.call 139 (.cons (.var 3) (.cons (.var 6) .nil))) (.var 1)) (.name 6) (.rng (.var 1)) .non [6])) .nil)) .nil)) (.var 1))
    (.cons (.ret (.con (.bl false)))
    .nil)
    .nil)
  (.cons (.asg (.name 4) (.shut (.lc (.bin .Mod (.bin .Mult (.var 7) (.ix (.var 3) (.var 7))) (.var 1)) (.name 7) (.rng2 (.con (.int 1)) (.blt .len (.cons (.var 3) .nil))) .non [7])))
  (.cons (.ret (.or (.cmp .Eq (.var 2) (.con (.int 1))) (.blt .all (.cons (.shut (.lc (.cmp .NotEq (.bin .Mod (.call 139 (.cons (.var 4) (.cons (.var 6) .nil))) (.var 1)) (.con (.int 0))) (.name 6) (.rng (.var 1)) .non [6])) .nil))))
  .nil))))))))
def D319 : Df := ⟨3, 8, b_permutes⟩
def b_law_unlike : Ss := (.cons (.ret (.cmp .Eq (.blt .len (.cons (.blt .set (.cons (.shut (.lc (.bin .Mod (.blt .int (.cons (.call 156 (.cons (.var 0) (.cons (.var 2) .nil))) .nil)) (.var 1)) (.name 2) (.rng (.var 1)) .non [2])) .nil)) .nil)) (.var 1)))
  .nil)
def D321 : Df := ⟨2, 3, b_law_unlike⟩
def b_law_has_slope : Ss := (.cons (.asg (.name 2) (.shut (.lc (.bin .Mult (.var 3) (.ix (.var 0) (.var 3))) (.name 3) (.rng2 (.con (.int 1)) (.blt .len (.cons (.var 0) .nil))) .non [3])))
  (.cons (.ret (.blt .all (.cons (.shut (.lc (.cmp .NotEq (.bin .Mod (.blt .int (.cons (.call 156 (.cons (.var 2) (.cons (.var 4) .nil))) .nil)) (.var 1)) (.con (.int 0))) (.name 4) (.rng (.var 1)) .non [4])) .nil)))
  .nil))
def D322 : Df := ⟨2, 5, b_law_has_slope⟩
def b_law_bad_polynomial : Ss := (.cons (.asg (.name 1) (.shut (.lst (.cons (.con .non) (.cons (.con (.int 3)) (.cons (.con (.bl true)) (.cons (.con (.str "x")) (.cons (.shut (.lst (.cons (.shut (.lst (.cons (.con (.int 1)) .nil))) (.cons (.con (.int 1)) .nil)))) (.cons (.tup .nil) (.cons (.tup (.cons (.tup (.cons (.con (.int 1)) .nil)) .nil)) (.cons (.tup (.cons (.tup (.cons (.con (.int 1)) .nil)) (.cons (.con (.int 1)) (.cons (.con (.int 1)) .nil)))) (.cons (.tup (.cons (.shut (.lst (.cons (.con (.int 1)) .nil))) (.cons (.con (.int 1)) .nil))) (.cons (.tup (.cons (.tup (.cons (.con (.int 1)) .nil)) (.cons (.con (.int 0)) .nil))) (.cons (.tup (.cons (.tup (.cons (.con (.int 1)) .nil)) (.cons (.neg (.con (.int 1))) .nil))) (.cons (.tup (.cons (.tup (.cons (.con (.int 2)) .nil)) (.cons (.con (.int 2)) .nil))) .nil)))))))))))))))
  (.cons (.asg (.name 1) (.shut (.bin .Add (.var 1) (.shut (.lst (.cons (.tup (.cons (.tup (.cons (.con (.int 0)) .nil)) (.cons (.con (.int 1)) .nil))) (.cons (.tup (.cons (.tup (.cons (.con (.int 1)) (.cons (.con (.int 0)) .nil))) (.cons (.con (.int 1)) .nil))) (.cons (.tup (.cons (.tup (.cons (.con (.bl true)) .nil)) (.cons (.con (.int 1)) .nil))) (.cons (.tup (.cons (.tup (.cons (.con (.int 1)) .nil)) (.cons (.con (.bl true)) .nil))) (.cons (.tup (.cons (.tup .nil) (.cons (.con (.int 2)) .nil))) (.cons (.tup (.cons (.tup .nil) (.cons (.con (.int 0)) .nil))) (.cons (.tup (.cons (.tup (.cons (.con (.int 1)) (.cons (.con .non) .nil))) (.cons (.con (.int 1)) .nil))) (.cons (.tup (.cons (.tup (.cons (.con (.int 6)) (.cons (.con (.int 4)) .nil))) (.cons (.con (.int 2)) .nil))) .nil)))))))))))))
  (.cons (.asg (.name 1) (.shut (.bin .Add (.var 1) (.shut (.lst (.cons (.tup (.cons (.tup (.cons (.con (.int 1)) .nil)) (.cons (.con (.int 1000003)) .nil))) (.cons (.tup (.cons (.blt .tuple (.cons (.shut (.bin .Mult (.lst (.cons (.con (.int 1)) .nil)) (.con (.int 12)))) .nil)) (.cons (.con (.int 1)) .nil))) (.cons (.tup (.cons (.tup (.cons (.bin .Pow (.con (.int 10)) (.con (.int 60))) .nil)) (.cons (.con (.int 1)) .nil))) (.cons (.tup (.cons (.tup (.cons (.neg (.bin .Pow (.con (.int 10)) (.con (.int 60)))) (.cons (.con (.int 1)) .nil))) (.cons (.con (.int 1)) .nil))) (.cons (.tup (.cons (.tup (.cons (.con (.int 1)) .nil)) (.cons (.bin .Mult (.con (.int 2)) (.bin .Pow (.con (.int 10)) (.con (.int 60)))) .nil))) .nil))))))))))
  (.cons (.ret (.ix (.var 1) (.call 274 (.cons (.var 0) (.cons (.blt .len (.cons (.var 1) .nil)) .nil)))))
  .nil))))
def D331 : Df := ⟨1, 2, b_law_bad_polynomial⟩
def b_law_coprime : Ss := (.cons (.asg (.name 2) (.var 0))
  (.cons (.for (.name 3) (.val (.var 1))
    (.cons (.asg (.name 2) (.call 132 (.cons (.var 2) (.cons (.var 3) .nil))))
    .nil))
  (.cons (.ret (.cmp .Eq (.var 2) (.con (.int 1))))
  .nil)))
def D347 : Df := ⟨2, 4, b_law_coprime⟩
def b_law_polynomial_2 : Ss := (.cons (.asg (.name 1) (.con (.int 1)))
  (.cons (.for (.name 2) (.rng (.ix (.shut (.lst (.cons (.con (.int 0)) (.cons (.con (.int 3)) (.cons (.con (.int 40)) .nil))))) (.call 274 (.cons (.var 0) (.cons (.con (.int 3)) .nil)))))
    (.cons (.asg (.name 3) (.bin .Mult (.var 1) (.ix (.shut (.lst (.cons (.con (.int 2)) (.cons (.con (.int 3)) (.cons (.con (.int 5)) (.cons (.con (.int 7)) (.cons (.con (.int 11)) (.cons (.con (.int 997)) (.cons (.con (.int 9973)) .nil))))))))) (.call 274 (.cons (.var 0) (.cons (.con (.int 7)) .nil))))))
    (.cons (.ite (.cmp .LtE (.var 3) (.bin .Pow (.con (.int 10)) (.con (.int 60))))
      (.cons (.asg (.name 1) (.var 3))
      .nil)
      .nil)
    .nil)))
  (.cons (.asg (.name 4) (.lst .nil))
  (.cons (.for (.name 2) (.rng (.call 274 (.cons (.var 0) (.cons (.con (.int 12)) .nil))))
    (.cons (.asg (.name 5) (.call 274 (.cons (.var 0) (.cons (.ix (.shut (.lst (.cons (.con (.int 3)) (.cons (.con (.int 1000)) (.cons (.bin .Pow (.con (.int 10)) (.con (.int 9))) .nil))))) (.call 274 (.cons (.var 0) (.cons (.con (.int 3)) .nil)))) .nil))))
    (.cons (.ite (.cmp .Eq (.call 274 (.cons (.var 0) (.cons (.con (.int 6)) .nil))) (.con (.int 5)))
      (.cons (.for (.name 6) (.rng (.con (.int 6)))
        (.cons (.asg (.name 5) (.bin .Mod (.blt .int (.cons (.bin .Add (.bin .Mult (.var 5) (.bin .Pow (.con (.int 10)) (.con (.int 9)))) (.call 274 (.cons (.var 0) (.cons (.bin .Pow (.con (.int 10)) (.con (.int 9))) .nil)))) .nil)) (.bin .Pow (.con (.int 10)) (.con (.int 60)))))
        .nil))
      .nil)
      .nil)
    (.cons (.drop (.meth .append (.var 4) (.cons (.ix (.shut (.lst (.cons (.var 5) (.cons (.neg (.var 5)) .nil)))) (.call 274 (.cons (.var 0) (.cons (.con (.int 2)) .nil)))) .nil)))
    .nil))))
  (.cons (.ite (.and (.cmp .NotEq (.var 4) (.shut (.lst .nil))) (.cmp .Eq (.ix (.var 4) (.neg (.con (.int 1)))) (.con (.int 0))))
    (.cons (.set (.var 4) (.neg (.con (.int 1))) (.con (.int 1)))
    .nil)
    .nil)
  (.cons (.ite (.cmp .Eq (.var 4) (.shut (.lst .nil)))
    (.cons (.ret (.tup (.cons (.tup .nil) (.cons (.con (.int 1)) .nil))))
    .nil)
    .nil)
  (.cons (.ite (.not (.call 347 (.cons (.var 1) (.cons (.var 4) .nil))))
    (.cons (.set (.var 4) (.con (.int 0)) (.con (.int 1)))
    .nil)
    .nil)
  (.cons (.ite (.or (.cmp .Eq (.ix (.var 4) (.neg (.con (.int 1)))) (.con (.int 0))) (.not (.call 347 (.cons (.var 1) (.cons (.var 4) .nil)))))
    (.cons (.asg (.name 1) (.con (.int 1)))
    .nil)
    .nil)
  (.cons (.ret (.tup (.cons (.blt .tuple (.cons (.var 4) .nil)) (.cons (.var 1) .nil))))
  .nil)))))))))
def D348 : Df := ⟨1, 7, b_law_polynomial_2⟩
def b_law_words : Ss := (.cons (.asg (.name 1) (.ix (.var 0) (.con (.int 0))))
  (.cons (.ite (.cmp .Eq (.var 1) (.con (.str "rests")))
    (.cons (.ret (.bin .Add (.shut (.lst (.cons (.con (.str "rests")) (.cons (.blt .str (.cons (.ix (.var 0) (.con (.int 1))) .nil)) (.cons (.con (.str ":")) .nil))))) (.shut (.lc (.blt .str (.cons (.var 2) .nil)) (.name 2) (.val (.ix (.var 0) (.con (.int 2)))) .non [2]))))
    .nil)
    .nil)
  (.cons (.ite (.cmp .Eq (.var 1) (.con (.str "list")))
    (.cons (.ret (.bin .Add (.shut (.lst (.cons (.con (.str "list")) (.cons (.con (.str ":")) .nil)))) (.shut (.lc (.blt .str (.cons (.var 3) .nil)) (.name 3) (.val (.ix (.var 0) (.con (.int 1)))) .non [3]))))
    .nil)
    .nil)
  (.cons (.ite (.cmp .Eq (.var 1) (.con (.str "powers")))
    (.cons (.ret (.lst (.cons (.con (.str "powers")) (.cons (.blt .str (.cons (.ix (.var 0) (.con (.int 1))) .nil)) .nil))))
    .nil)
    .nil)
  (.cons (.ite (.cmp .Eq (.var 1) (.con (.str "moved")))
    (.cons (.ret (.bin .Add (.shut (.bin .Add (.shut (.lst (.cons (.con (.str "moved")) (.cons (.blt .str (.cons (.ix (.var 0) (.con (.int 2))) .nil)) (.cons (.blt .str (.cons (.ix (.var 0) (.con (.int 3))) .nil)) (.cons (.con (.str "(")) .nil)))))) (.call 380 (.cons (.ix (.var 0) (.con (.int 1))) .nil)))) (.shut (.lst (.cons (.con (.str ")")) .nil)))))
    .nil)
    .nil)
  (.cons (.ite (.cmp .Eq (.var 1) (.con (.str "either")))
    (.cons (.ret (.bin .Add (.shut (.bin .Add (.shut (.bin .Add (.shut (.bin .Add (.shut (.lst (.cons (.con (.str "either")) (.cons (.con (.str "(")) .nil)))) (.call 380 (.cons (.ix (.var 0) (.con (.int 1))) .nil)))) (.shut (.lst (.cons (.con (.str ")")) (.cons (.con (.str "(")) .nil)))))) (.call 380 (.cons (.ix (.var 0) (.con (.int 2))) .nil)))) (.shut (.lst (.cons (.con (.str ")")) .nil)))))
    .nil)
    .nil)
  (.cons (.ret (.lst (.cons (.var 1) .nil)))
  .nil)))))))
def D380 : Df := ⟨1, 4, b_law_words⟩
def b_show_polynomial : Ss := (.cons (.drop (.call 138 (.cons (.var 0) .nil)))
  (.cons (.asg (.pair (.name 1) (.name 2)) (.var 0))
  (.cons (.ite (.cmp .Eq (.var 1) (.tup .nil))
    (.cons (.ret (.con (.str "0 / 1")))
    .nil)
    .nil)
  (.cons (.ret (.bin .Add (.bin .Add (.join (.con (.str " ")) (.shut (.lc (.blt .str (.cons (.var 3) .nil)) (.name 3) (.val (.var 1)) .non [3]))) (.con (.str " / "))) (.blt .str (.cons (.var 2) .nil))))
  .nil))))
def D386 : Df := ⟨1, 4, b_show_polynomial⟩
def b_tops_at : Ss := (.cons (.asg (.name 1) (.lst .nil))
  (.cons (.whl (.or (.cmp .Eq (.blt .len (.cons (.var 1) .nil)) (.con (.int 0))) (.cmp .NotEq (.call 344 (.cons (.var 0) (.cons (.blt .len (.cons (.var 1) .nil)) .nil))) (.con (.str "/"))))
    (.cons (.asg (.name 2) (.call 372 (.cons (.var 0) (.cons (.blt .len (.cons (.var 1) .nil)) (.cons (.neg (.con (.int 999999999999999999999999999999999999999999999999999999999999))) (.cons (.con (.int 999999999999999999999999999999999999999999999999999999999999)) .nil))))))
    (.cons (.ite (.or (.cmp .Eq (.blt .len (.cons (.var 1) .nil)) (.con (.int 11))) (.and (.cmp .Eq (.blt .len (.cons (.var 1) .nil)) (.bin .Sub (.con (.int 11)) (.con (.int 1)))) (.cmp .Eq (.var 2) (.con (.int 0)))))
      (.cons (.rais 19 (.cons (.blt .len (.cons (.var 1) .nil)) .nil))
      .nil)
      .nil)
    (.cons (.drop (.meth .append (.var 1) (.cons (.var 2) .nil)))
    .nil))))
  (.cons (.ite (.and (.cmp .Eq (.ix (.var 1) (.neg (.con (.int 1)))) (.con (.int 0))) (.cmp .Gt (.blt .len (.cons (.var 1) .nil)) (.con (.int 1))))
    (.cons (.rais 19 (.cons (.blt .len (.cons (.var 1) .nil)) .nil))
    .nil)
    .nil)
  (.cons (.ret (.var 1))
  .nil))))
def D387 : Df := ⟨1, 3, b_tops_at⟩
def b_read_polynomial : Ss := (.cons (.ite (.not (.isi (.var 0) .str))
    (.cons (.rais 19 (.cons (.con (.int 0)) .nil))
    .nil)
    .nil)
  (.cons (.asg (.name 1) (.shut (.split (.var 0) (.con (.str " ")))))
  (.cons (.asg (.name 2) (.call 387 (.cons (.var 1) .nil)))
  (.cons (.asg (.name 3) (.bin .Add (.blt .len (.cons (.var 2) .nil)) (.con (.int 1))))
  (.cons (.asg (.name 4) (.call 372 (.cons (.var 1) (.cons (.var 3) (.cons (.con (.int 1)) (.cons (.bin .Add (.con (.int 999999999999999999999999999999999999999999999999999999999999)) (.con (.int 1))) .nil))))))
  (.cons (.ite (.cmp .Eq (.var 2) (.shut (.lst (.cons (.con (.int 0)) .nil))))
    (.cons (.asg (.name 2) (.shut (.lst .nil)))
    .nil)
    .nil)
  (.cons (.ite (.not (.call 128 (.cons (.tup (.cons (.blt .tuple (.cons (.var 2) .nil)) (.cons (.var 4) .nil))) .nil)))
    (.cons (.rais 19 (.cons (.var 3) .nil))
    .nil)
    .nil)
  (.cons (.ite (.cmp .Lt (.bin .Add (.var 3) (.con (.int 1))) (.blt .len (.cons (.var 1) .nil)))
    (.cons (.rais 19 (.cons (.bin .Add (.var 3) (.con (.int 1))) .nil))
    .nil)
    .nil)
  (.cons (.ret (.tup (.cons (.blt .tuple (.cons (.var 2) .nil)) (.cons (.var 4) .nil))))
  .nil)))))))))
def D388 : Df := ⟨1, 5, b_read_polynomial⟩
def b_law_poly_words : Ss := (.cons (.asg (.name 1) (.shut (.blt .list (.cons (.ix (.var 0) (.con (.int 0))) .nil))))
  (.cons (.ite (.cmp .Eq (.var 1) (.shut (.lst .nil)))
    (.cons (.asg (.name 1) (.shut (.lst (.cons (.con (.int 0)) .nil))))
    .nil)
    .nil)
  (.cons (.ret (.bin .Add (.shut (.lc (.blt .str (.cons (.var 2) .nil)) (.name 2) (.val (.var 1)) .non [2])) (.shut (.lst (.cons (.con (.str "/")) (.cons (.blt .str (.cons (.ix (.var 0) (.con (.int 1))) .nil)) .nil))))))
  .nil)))
def D389 : Df := ⟨1, 3, b_law_poly_words⟩
def b_law_back : Ss := (.cons (.asg (.name 1) (.join (.con (.str " ")) (.call 389 (.cons (.var 0) .nil))))
  (.cons (.ite (.cmp .NotEq (.call 386 (.cons (.var 0) .nil)) (.var 1))
    (.cons (.ret (.con (.bl false)))
    .nil)
    .nil)
  (.cons (.asg (.name 2) (.call 388 (.cons (.var 1) .nil)))
  (.cons (.ite (.or (.not (.isi (.var 2) .tuple)) (.or (.cmp .NotEq (.blt .len (.cons (.var 2) .nil)) (.con (.int 2))) (.or (.not (.isi (.ix (.var 2) (.con (.int 0))) .tuple)) (.not (.call 114 (.cons (.ix (.var 2) (.con (.int 1))) .nil))))))
    (.cons (.ret (.con (.bl false)))
    .nil)
    .nil)
  (.cons (.ret (.and (.blt .all (.cons (.shut (.lc (.call 114 (.cons (.var 3) .nil)) (.name 3) (.val (.ix (.var 2) (.con (.int 0)))) .non [3])) .nil)) (.cmp .Eq (.var 2) (.var 0))))
  .nil)))))
def D390 : Df := ⟨1, 4, b_law_back⟩
def b_law_bounds : Ss := (.cons (.asg (.name 1) (.shut (.lc (.blt .str (.cons (.bin .Sub (.call 274 (.cons (.var 0) (.cons (.con (.int 2001)) .nil))) (.con (.int 1000))) .nil)) (.name 8) (.rng (.bin .Add (.con (.int 1)) (.call 274 (.cons (.var 0) (.cons (.con (.int 9)) .nil))))) .non [8])))
  (.cons (.asg (.name 2) (.blt .str (.cons (.bin .Add (.con (.int 1)) (.call 274 (.cons (.var 0) (.cons (.con (.int 9)) .nil)))) .nil)))
  (.cons (.asg (.name 3) (.blt .str (.cons (.bin .Add (.bin .Pow (.con (.int 10)) (.con (.int 60))) (.call 274 (.cons (.var 0) (.cons (.bin .Pow (.con (.int 10)) (.con (.int 18))) .nil)))) .nil)))
  (.cons (.asg (.name 4) (.shut (.lc (.blt .str (.cons (.call 274 (.cons (.var 0) (.cons (.con (.int 9)) .nil))) .nil)) (.name 8) (.rng (.con (.int 10))) .non [8])))
  (.cons (.asg (.name 5) (.lst (.cons (.tup (.cons (.shut (.bin .Add (.var 1) (.shut (.lst (.cons (.con (.str "0")) (.cons (.con (.str "/")) (.cons (.con (.str "1")) .nil))))))) (.cons (.bin .Add (.blt .len (.cons (.var 1) .nil)) (.con (.int 1))) .nil))) (.cons (.tup (.cons (.shut (.lst (.cons (.con (.str "0")) (.cons (.con (.str "0")) (.cons (.con (.str "/")) (.cons (.con (.str "1")) .nil)))))) (.cons (.con (.int 2)) .nil))) (.cons (.tup (.cons (.shut (.bin .Add (.var 4) (.shut (.lst (.cons (.con (.str "0")) (.cons (.con (.str "/")) (.cons (.con (.str "1")) .nil))))))) (.cons (.con (.int 10)) .nil))) .nil)))))
  (.cons (.drop (.meth .append (.var 5) (.cons (.tup (.cons (.shut (.bin .Add (.var 4) (.shut (.lst (.cons (.var 2) (.cons (.con (.str "5")) (.cons (.con (.str "/")) (.cons (.con (.str "1")) .nil)))))))) (.cons (.con (.int 11)) .nil))) .nil)))
  (.cons (.drop (.meth .append (.var 5) (.cons (.tup (.cons (.shut (.bin .Add (.var 1) (.shut (.lst (.cons (.var 3) (.cons (.var 2) (.cons (.con (.str "/")) (.cons (.con (.str "1")) .nil)))))))) (.cons (.blt .len (.cons (.var 1) .nil)) .nil))) .nil)))
  (.cons (.drop (.meth .append (.var 5) (.cons (.tup (.cons (.shut (.bin .Add (.var 1) (.shut (.lst (.cons (.bin .Add (.con (.str "-")) (.var 3)) (.cons (.var 2) (.cons (.con (.str "/")) (.cons (.con (.str "1")) .nil)))))))) (.cons (.blt .len (.cons (.var 1) .nil)) .nil))) .nil)))
  (.cons (.for (.name 6) (.val (.shut (.lst (.cons (.con (.str "0")) (.cons (.con (.str "-1")) (.cons (.blt .str (.cons (.bin .Add (.bin .Add (.bin .Pow (.con (.int 10)) (.con (.int 60))) (.con (.int 1))) (.call 274 (.cons (.var 0) (.cons (.bin .Pow (.con (.int 10)) (.con (.int 18))) .nil)))) .nil)) (.cons (.con (.str "1000003")) (.cons (.con (.str "1000003000000")) (.cons (.con (.str "/")) .nil)))))))))
    (.cons (.drop (.meth .append (.var 5) (.cons (.tup (.cons (.shut (.bin .Add (.var 1) (.shut (.lst (.cons (.var 2) (.cons (.con (.str "/")) (.cons (.var 6) .nil))))))) (.cons (.bin .Add (.blt .len (.cons (.var 1) .nil)) (.con (.int 2))) .nil))) .nil)))
    .nil))
  (.cons (.asg (.name 7) (.bin .Add (.con (.int 2)) (.call 274 (.cons (.var 0) (.cons (.con (.int 9)) .nil)))))
  (.cons (.drop (.meth .append (.var 5) (.cons (.tup (.cons (.shut (.lst (.cons (.blt .str (.cons (.bin .Mult (.var 7) (.con (.int 4))) .nil)) (.cons (.blt .str (.cons (.bin .Mult (.var 7) (.con (.int 3))) .nil)) (.cons (.con (.str "/")) (.cons (.blt .str (.cons (.bin .Mult (.var 7) (.con (.int 5))) .nil)) .nil)))))) (.cons (.con (.int 3)) .nil))) .nil)))
  (.cons (.drop (.meth .append (.var 5) (.cons (.tup (.cons (.shut (.lst (.cons (.con (.str "0")) (.cons (.con (.str "/")) (.cons (.blt .str (.cons (.bin .Add (.con (.int 2)) (.call 274 (.cons (.var 0) (.cons (.con (.int 9)) .nil)))) .nil)) .nil))))) (.cons (.con (.int 2)) .nil))) .nil)))
  (.cons (.drop (.meth .append (.var 5) (.cons (.tup (.cons (.shut (.lst (.cons (.con (.str "/")) (.cons (.con (.str "1")) .nil)))) (.cons (.con (.int 0)) .nil))) .nil)))
  (.cons (.ret (.var 5))
  .nil))))))))))))))
def D392 : Df := ⟨1, 9, b_law_bounds⟩
def b_law_not_shown_2 : Ss := (.cons (.asg (.name 1) (.con (.bl false)))
  (.cons (.tri (.cons (.drop (.call 386 (.cons (.var 0) .nil)))
    .nil)
    [(7, none, (.con 1 (.bl true)))])
  (.cons (.ret (.var 1))
  .nil)))
def D393 : Df := ⟨1, 2, b_law_not_shown_2⟩
def b_law_right_7 : Ss := (.cons (.asg (.name 1) (.call 389 (.cons (.call 348 (.cons (.var 0) .nil)) .nil)))
  (.cons (.asg (.name 2) (.join (.con (.str " ")) (.var 1)))
  (.cons (.asg (.name 3) (.shut (.lst (.cons (.con (.str "x")) (.cons (.con (.str "")) (.cons (.con (.str "01")) (.cons (.con (.str "-0")) (.cons (.con (.str "+1")) (.cons (.con (.str "1.0")) (.cons (.con (.str "00")) (.cons (.con (.str "--1")) (.cons (.con (.str "1\n")) (.cons (.con (.str "//")) (.cons (.con (.str "0x1")) (.cons (.con (.str "-")) (.cons (.con (.str "1_0")) .nil))))))))))))))))
  (.cons (.for (.name 4) (.rng (.con (.int 3)))
    (.cons (.asg (.name 5) (.ix (.var 3) (.call 274 (.cons (.var 0) (.cons (.con (.int 13)) .nil)))))
    (.cons (.asg (.name 6) (.call 274 (.cons (.var 0) (.cons (.blt .len (.cons (.var 1) .nil)) .nil))))
    (.cons (.ite (.cmp .NotEq (.call 420 (.cons (.con (.fn 388)) (.cons (.join (.con (.str " ")) (.shut (.bin .Add (.shut (.bin .Add (.shut (.sl (.var 1) .non (.som (.var 6)))) (.shut (.lst (.cons (.var 5) .nil))))) (.shut (.sl (.var 1) (.som (.bin .Add (.var 6) (.con (.int 1)))) .non))))) .nil))) (.var 6))
      (.cons (.ret (.con (.bl false)))
      .nil)
      .nil)
    (.cons (.ite (.cmp .NotEq (.call 420 (.cons (.con (.fn 388)) (.cons (.join (.con (.str " ")) (.shut (.bin .Add (.shut (.bin .Add (.shut (.sl (.var 1) .non (.som (.var 6)))) (.shut (.lst (.cons (.var 5) .nil))))) (.shut (.sl (.var 1) (.som (.var 6)) .non))))) .nil))) (.var 6))
      (.cons (.ret (.con (.bl false)))
      .nil)
      .nil)
    (.cons (.ite (.cmp .NotEq (.call 420 (.cons (.con (.fn 388)) (.cons (.join (.con (.str " ")) (.shut (.bin .Add (.var 1) (.shut (.lst (.cons (.ix (.shut (.lst (.cons (.var 5) (.cons (.con (.str "1")) (.cons (.con (.str "/")) .nil))))) (.call 274 (.cons (.var 0) (.cons (.con (.int 3)) .nil)))) .nil)))))) .nil))) (.blt .len (.cons (.var 1) .nil)))
      (.cons (.ret (.con (.bl false)))
      .nil)
      .nil)
    (.cons (.ite (.or (.cmp .NotEq (.call 420 (.cons (.con (.fn 388)) (.cons (.join (.con (.str " ")) (.shut (.sl (.var 1) .non (.som (.var 6))))) .nil))) (.var 6)) (.cmp .NotEq (.call 420 (.cons (.con (.fn 388)) (.cons (.var 2) .nil))) (.neg (.con (.int 1)))))
      (.cons (.ret (.con (.bl false)))
      .nil)
      .nil)
    .nil)))))))
  (.cons (.for (.pair (.name 7) (.name 8)) (.val (.call 392 (.cons (.var 0) .nil)))
    (.cons (.asg (.name 9) (.ix (.shut (.lst (.cons (.ix (.var 3) (.call 274 (.cons (.var 0) (.cons (.con (.int 13)) .nil)))) (.cons (.con (.str "/")) (.cons (.con (.str "5")) .nil))))) (.call 274 (.cons (.var 0) (.cons (.con (.int 3)) .nil)))))
    (.cons (.for (.name 10) (.val (.shut (.lst (.cons (.var 7) (.cons (.shut (.sl (.var 7) .non (.som (.bin .Add (.var 8) (.con (.int 1)))))) (.cons (.shut (.bin .Add (.shut (.sl (.var 7) .non (.som (.bin .Add (.var 8) (.con (.int 1)))))) (.shut (.lst (.cons (.var 9) .nil))))) (.cons (.shut (.bin .Add (.shut (.bin .Add (.shut (.sl (.var 7) .non (.som (.bin .Add (.var 8) (.con (.int 1)))))) (.shut (.lst (.cons (.var 9) .nil))))) (.shut (.sl (.var 7) (.som (.bin .Add (.var 8) (.con (.int 1)))) .non)))) (.cons (.shut (.bin .Add (.var 7) (.shut (.lst (.cons (.var 9) .nil))))) .nil))))))))
      (.cons (.ite (.cmp .NotEq (.call 420 (.cons (.con (.fn 388)) (.cons (.join (.con (.str " ")) (.var 10)) .nil))) (.var 8))
        (.cons (.ret (.con (.bl false)))
        .nil)
        .nil)
      .nil))
    .nil)))
  (.cons (.ite (.not (.call 393 (.cons (.call 331 (.cons (.var 0) .nil)) .nil)))
    (.cons (.ret (.con (.bl false)))
    .nil)
    .nil)
  (.cons (.asg (.name 11) (.ix (.shut (.lst (.cons (.con .non) (.cons (.con (.int 5)) (.cons (.con (.bl false)) (.cons (.tup (.cons (.tup (.cons (.con (.int 1)) .nil)) (.cons (.con (.int 1)) .nil))) (.cons (.shut (.lst (.cons (.con (.str "1")) (.cons (.con (.str "/")) (.cons (.con (.str "1")) .nil))))) .nil))))))) (.call 274 (.cons (.var 0) (.cons (.con (.int 5)) .nil)))))
  (.cons (.ret (.and (.cmp .Eq (.call 420 (.cons (.con (.fn 388)) (.cons (.var 11) .nil))) (.con (.int 0))) (.cmp .Eq (.call 420 (.cons (.con (.fn 388)) (.cons (.var 2) .nil))) (.neg (.con (.int 1))))))
  .nil))))))))
def D422 : Df := ⟨1, 12, b_law_right_7⟩
def b_law_23 : Ss := (.cons (.for (.name 1) (.rng (.blt .max (.cons (.con (.int 1)) (.cons (.blt .min (.cons (.con (.int 3)) (.cons (.blt .len (.cons (.var 0) .nil)) .nil))) .nil))))
    (.cons (.ite (.not (.call 422 (.cons (.call 100273 (.cons (.var 0) (.cons (.var 1) .nil))) .nil)))
      (.cons (.ret (.con (.bl false)))
      .nil)
      .nil)
    .nil))
  (.cons (.ret (.con (.bl true)))
  .nil))
def D423 : Df := ⟨1, 2, b_law_23⟩
abbrev U6 (P : Tab) : Prop := P 6 = some D6
abbrev U7 (P : Tab) : Prop := P 7 = some D7 ∧ U6 P
abbrev U8 (P : Tab) : Prop := P 8 = some D8 ∧ U7 P
abbrev U10 (P : Tab) : Prop := P 10 = some D10 ∧ U7 P ∧ U8 P
abbrev U9 (P : Tab) : Prop := P 9 = some D9 ∧ U7 P
abbrev U11 (P : Tab) : Prop := P 11 = some D11 ∧ U9 P ∧ U10 P
abbrev U12 (P : Tab) : Prop := P 12 = some D12 ∧ U11 P
abbrev U24 (P : Tab) : Prop := P 24 = some D24 ∧ U12 P
abbrev U369 (P : Tab) : Prop := P 369 = some D369
abbrev U370 (P : Tab) : Prop := P 370 = some D370 ∧ U24 P ∧ U369 P
abbrev U371 (P : Tab) : Prop := P 371 = some D371
abbrev U344 (P : Tab) : Prop := P 344 = some D344
abbrev U372 (P : Tab) : Prop := P 372 = some D372 ∧ U7 P ∧ U344 P ∧ U371 P
abbrev U345 (P : Tab) : Prop := P 345 = some D345 ∧ U344 P
abbrev U373 (P : Tab) : Prop := P 373 = some D373 ∧ U372 P
abbrev U374 (P : Tab) : Prop := P 374 = some D374 ∧ U345 P ∧ U372 P ∧ U373 P
abbrev U375 (P : Tab) : Prop := P 375 = some D375 ∧ P 376 = some D376 ∧ P 377 = some D377 ∧ P 378 = some D378 ∧ U344 P ∧ U345 P ∧ U372 P ∧ U374 P
abbrev U376 (P : Tab) : Prop := P 375 = some D375 ∧ P 376 = some D376 ∧ P 377 = some D377 ∧ P 378 = some D378 ∧ U344 P ∧ U345 P ∧ U372 P ∧ U374 P
abbrev U377 (P : Tab) : Prop := P 375 = some D375 ∧ P 376 = some D376 ∧ P 377 = some D377 ∧ P 378 = some D378 ∧ U344 P ∧ U345 P ∧ U372 P ∧ U374 P
abbrev U378 (P : Tab) : Prop := P 375 = some D375 ∧ P 376 = some D376 ∧ P 377 = some D377 ∧ P 378 = some D378 ∧ U344 P ∧ U345 P ∧ U372 P ∧ U374 P
abbrev U379 (P : Tab) : Prop := P 379 = some D379 ∧ U378 P
abbrev U273 (P : Tab) : Prop := P 273 = some D273
abbrev U274 (P : Tab) : Prop := P 274 = some D274
abbrev U420 (P : Tab) : Prop := P 420 = some D420
abbrev U382 (P : Tab) : Prop := P 382 = some D382 ∧ U274 P
abbrev U418 (P : Tab) : Prop := P 418 = some D418 ∧ U274 P
abbrev U383 (P : Tab) : Prop := P 383 = some D383 ∧ U274 P
abbrev U430 (P : Tab) : Prop := P 430 = some D430 ∧ U274 P ∧ U383 P
abbrev U384 (P : Tab) : Prop := P 384 = some D384 ∧ U274 P ∧ U383 P
abbrev U385 (P : Tab) : Prop := P 385 = some D385 ∧ U274 P
abbrev U421 (P : Tab) : Prop := P 421 = some D421 ∧ U274 P ∧ U370 P ∧ U379 P ∧ U420 P
abbrev U431 (P : Tab) : Prop := P 431 = some D431 ∧ U379 P ∧ U382 P ∧ U384 P ∧ U385 P ∧ U418 P ∧ U420 P ∧ U421 P ∧ U430 P
abbrev U432 (P : Tab) : Prop := P 432 = some D432 ∧ U273 P ∧ U431 P
abbrev U23 (P : Tab) : Prop := P 23 = some D23 ∧ U7 P
abbrev U26 (P : Tab) : Prop := P 26 = some D26
abbrev U27 (P : Tab) : Prop := P 27 = some D27 ∧ U26 P
abbrev U28 (P : Tab) : Prop := P 28 = some D28 ∧ U27 P
abbrev U50 (P : Tab) : Prop := P 50 = some D50
abbrev U54 (P : Tab) : Prop := P 54 = some D54
abbrev U55 (P : Tab) : Prop := P 55 = some D55
abbrev U62 (P : Tab) : Prop := P 62 = some D62 ∧ U11 P
abbrev U64 (P : Tab) : Prop := P 64 = some D64 ∧ U7 P ∧ U28 P
abbrev U114 (P : Tab) : Prop := P 114 = some D114
abbrev U125 (P : Tab) : Prop := P 125 = some D125
abbrev U126 (P : Tab) : Prop := P 126 = some D126 ∧ U54 P
abbrev U127 (P : Tab) : Prop := P 127 = some D127 ∧ U7 P
abbrev U128 (P : Tab) : Prop := P 128 = some D128 ∧ U125 P ∧ U126 P ∧ U127 P
abbrev U129 (P : Tab) : Prop := P 129 = some D129
abbrev U130 (P : Tab) : Prop := P 130 = some D130
abbrev U131 (P : Tab) : Prop := P 131 = some D131 ∧ U130 P
abbrev U132 (P : Tab) : Prop := P 132 = some D132
abbrev U133 (P : Tab) : Prop := P 133 = some D133 ∧ U132 P
abbrev U134 (P : Tab) : Prop := P 134 = some D134 ∧ U130 P ∧ U131 P ∧ U133 P
abbrev U138 (P : Tab) : Prop := P 138 = some D138 ∧ U128 P
abbrev U139 (P : Tab) : Prop := P 139 = some D139
abbrev U140 (P : Tab) : Prop := P 140 = some D140 ∧ U54 P ∧ U139 P
abbrev U141 (P : Tab) : Prop := P 141 = some D141 ∧ U23 P ∧ U138 P ∧ U140 P
abbrev U142 (P : Tab) : Prop := P 142 = some D142
abbrev U143 (P : Tab) : Prop := P 143 = some D143
abbrev U144 (P : Tab) : Prop := P 144 = some D144 ∧ U130 P
abbrev U148 (P : Tab) : Prop := P 148 = some D148 ∧ U126 P
abbrev U149 (P : Tab) : Prop := P 149 = some D149 ∧ U127 P
abbrev U150 (P : Tab) : Prop := P 150 = some D150
abbrev U151 (P : Tab) : Prop := P 151 = some D151
abbrev U152 (P : Tab) : Prop := P 152 = some D152 ∧ U148 P ∧ U151 P
abbrev U153 (P : Tab) : Prop := P 153 = some D153 ∧ U138 P ∧ U149 P ∧ U152 P
abbrev U154 (P : Tab) : Prop := P 154 = some D154 ∧ U138 P ∧ U148 P ∧ U149 P ∧ U150 P
abbrev U156 (P : Tab) : Prop := P 156 = some D156
abbrev U159 (P : Tab) : Prop := P 159 = some D159 ∧ U138 P ∧ U148 P ∧ U149 P ∧ U150 P ∧ U151 P
abbrev U163 (P : Tab) : Prop := P 163 = some D163 ∧ U138 P ∧ U139 P ∧ U148 P ∧ U149 P ∧ U150 P ∧ U151 P
abbrev U178 (P : Tab) : Prop := P 178 = some D178 ∧ U130 P ∧ U133 P
abbrev U179 (P : Tab) : Prop := P 179 = some D179 ∧ U132 P
abbrev U275 (P : Tab) : Prop := P 275 = some D275 ∧ U274 P
abbrev U276 (P : Tab) : Prop := P 276 = some D276 ∧ U274 P
abbrev U277 (P : Tab) : Prop := P 277 = some D277 ∧ U274 P
abbrev U278 (P : Tab) : Prop := P 278 = some D278 ∧ U274 P ∧ U275 P ∧ U276 P ∧ U277 P
abbrev U288 (P : Tab) : Prop := P 288 = some D288 ∧ U54 P
abbrev U289 (P : Tab) : Prop := P 289 = some D289
abbrev U25 (P : Tab) : Prop := P 25 = some D25
abbrev U29 (P : Tab) : Prop := P 29 = some D29
abbrev U30 (P : Tab) : Prop := P 30 = some D30 ∧ U25 P ∧ U28 P ∧ U29 P
abbrev U290 (P : Tab) : Prop := P 290 = some D290 ∧ U23 P ∧ U24 P ∧ U30 P ∧ U50 P ∧ U55 P ∧ U62 P ∧ U288 P ∧ U289 P
abbrev U297 (P : Tab) : Prop := P 297 = some D297 ∧ U24 P ∧ U55 P ∧ U288 P
abbrev U298 (P : Tab) : Prop := P 298 = some D298
abbrev U299 (P : Tab) : Prop := P 299 = some D299 ∧ U298 P
abbrev U42 (P : Tab) : Prop := P 42 = some D42 ∧ U7 P
abbrev U311 (P : Tab) : Prop := P 311 = some D311 ∧ U138 P
abbrev U319 (P : Tab) : Prop := P 319 = some D319 ∧ U42 P ∧ U64 P ∧ U139 P ∧ U311 P
abbrev U321 (P : Tab) : Prop := P 321 = some D321 ∧ U156 P
abbrev U322 (P : Tab) : Prop := P 322 = some D322 ∧ U156 P
abbrev U331 (P : Tab) : Prop := P 331 = some D331 ∧ U274 P
abbrev U347 (P : Tab) : Prop := P 347 = some D347 ∧ U132 P
abbrev U348 (P : Tab) : Prop := P 348 = some D348 ∧ U274 P ∧ U347 P
abbrev U380 (P : Tab) : Prop := P 380 = some D380
abbrev U386 (P : Tab) : Prop := P 386 = some D386 ∧ U138 P
abbrev U387 (P : Tab) : Prop := P 387 = some D387 ∧ U344 P ∧ U372 P
abbrev U388 (P : Tab) : Prop := P 388 = some D388 ∧ U128 P ∧ U372 P ∧ U387 P
abbrev U389 (P : Tab) : Prop := P 389 = some D389
abbrev U390 (P : Tab) : Prop := P 390 = some D390 ∧ U114 P ∧ U386 P ∧ U388 P ∧ U389 P
abbrev U392 (P : Tab) : Prop := P 392 = some D392 ∧ U274 P
abbrev U393 (P : Tab) : Prop := P 393 = some D393 ∧ U386 P
abbrev U422 (P : Tab) : Prop := P 422 = some D422 ∧ U274 P ∧ U331 P ∧ U348 P ∧ U388 P ∧ U389 P ∧ U392 P ∧ U393 P ∧ U420 P
abbrev U423 (P : Tab) : Prop := P 423 = some D423 ∧ U273 P ∧ U422 P
end Pi
end

section
set_option maxHeartbeats 8000000
namespace Pi
def val (x : Int) : List Int → Int
  | [] => 0
  | t :: r => t + x * val x r
def GG1 (b : Int) (ts : List Int) : Int := ts.foldl (fun c t => (Int.gcd c t : Int)) b
def strip : List Int → List Int
  | [] => []
  | t :: r => match strip r with
    | [] => if t = 0 then [] else [t]
    | s => t :: s
def low (ts : List Int) (b : Int) : List Int × Int := ((strip ts).map (· / GG1 b (strip ts)), b / GG1 b (strip ts))
def Smooth (b : Nat) : Prop := ∃ L : List Nat, (∀ p ∈ L, 1 ≤ p ∧ p ≤ 1000000) ∧ b ∣ L.foldr (· * ·) 1
end Pi
end

section
set_option maxHeartbeats 8000000
namespace Pi
open PySem
section
variable {P : Tab} {k : Nat} {h : IH}
def isI (T : Ty) : IV → Option Bool
  | .non => some false
  | .bl _ => some (decide (T = .int ∨ T = .bool))
  | .int _ => some (decide (T = .int))
  | .str _ => some (decide (T = .str))
  | .tup _ => some (decide (T = .tuple))
  | .lsr true _ => some (decide (T = .list))
  | _ => none
def flat (v : IV) : Prop := (isI .int v).isSome = true
@[simp] theorem flat_int {i : Int} : flat (.int i) := rfl
@[simp] theorem flat_tup {xs : List IV} : flat (.tup xs) := rfl
@[simp] theorem flat_lsr {xs : List IV} : flat (.lsr true xs) := rfl
@[simp] theorem flat_bl {b : Bool} : flat (.bl b) := rfl
@[simp] theorem flat_non : flat .non := rfl
@[simp] theorem flat_str {x : Str} : flat (.str x) := rfl
def intB : IV → Bool
  | .int _ => true
  | _ => false
def rngB (lo hi : Int) : IV → Bool
  | .int i => decide (lo ≤ i) && decide (i ≤ hi)
  | _ => false
theorem is_integer_eq (u : U6 P) {v : IV} (f : flat v) : callF P (k + 1) 6 [v] h = .ok (.bl (intB v)) h := by
  refine W_eq.mp (W_def u (by decide) rfl ?_)
  refine W.step ?_
  cases v with
  | lsr b xs => cases b <;> first | (cases f; done) | simp [intB]
  | ref i => cases f
  | exc c xs => cases f
  | fn _ => cases f
  | _ => simp [intB]
theorem in_range_eq (u : U7 P) {v : IV} {lo hi : Int} (f : flat v) : callF P (k + 2) 7 [v, .int lo, .int hi] h = .ok (.bl (rngB lo hi v)) h := by
  refine W_eq.mp (W_def u.1 (by decide) rfl ?_)
  refine W.step ?_
  simp [is_integer_eq u.2 f]
  cases v with
  | int i =>
    simp [intB, rngB]
    by_cases h1 : lo ≤ i <;> simp [h1]
  | _ => simp [intB, rngB]
@[simp] theorem rngB_int {lo hi i : Int} : rngB lo hi (.int i) = (decide (lo ≤ i) && decide (i ≤ hi)) := rfl
structure GcdI (g : Nat) (h0 : IH) (m : Nat) (σ : Sl) (h : IH) : Prop where
  ex : ∃ x y : Nat, σ = [some (.int x), some (.int y)] ∧ h = h0 ∧ Nat.gcd x y = g ∧ m = y
end
end Pi
end

section
set_option maxHeartbeats 8000000
namespace Pi
open PySem
section
variable {P : Tab} {k : Nat} {h : IH}
abbrev LIMI : Int := 1000000000000000000000000000000000000000000000000000000000000
structure Pol (ts : List Int) (b : Int) : Prop where
  len : ts.length ≤ 11
  sz : ∀ t ∈ ts, t.natAbs < 1000000000000000000000000000000000000000000000000000000000000
  b1 : 1 ≤ b
  b2 : b ≤ 1000000000000000000000000000000000000000000000000000000000000
  last : ts.getLast? ≠ some 0
  one : GG1 b ts = 1
  sm : Smooth b.toNat
def pv (ts : List Int) (b : Int) : IV := .tup [.tup (ts.map .int), .int b]
structure SmI (h0 : IH) (m : Nat) (σ : Sl) (h : IH) : Prop where
  ex : ∃ x d : Nat, σ = [some (.int x), some (.int d)] ∧ h = h0 ∧ 0 < x ∧ Smooth x ∧ 2 ≤ d ∧ d ≤ 1000002 ∧ (d = 2 ∨ d % 2 = 1) ∧ (∀ e, 2 ≤ e → e < d → ¬ e ∣ x) ∧ m = x + (1000003 - d)
end
end Pi
end

section
set_option maxHeartbeats 8000000
namespace Pi
open PySem
section
variable {P : Tab} {k : Nat} {h : IH}
structure StI (ts : List Int) (v : List (Option IV)) (v2 : List (Option IV)) (h0 : IH) (m : Nat) (σ : Sl) (h : IH) : Prop where
  ex : ∃ R : List Int, σ = v ++ [some (.ref h0.length)] ++ v2 ∧ h = h0 ++ [.lst (R.map .int)] ∧ strip R = strip ts ∧ R.length ≤ ts.length ∧ m = R.length
def addR : List Int → List Int → List Int
  | [], m => m
  | a :: l, [] => a :: l
  | a :: l, b :: m => (a + b) :: addR l m
def scR (s : Int) (l : List Int) : List Int := l.map (s * ·)
@[simp] theorem scR_len (s : Int) (l : List Int) : (scR s l).length = l.length := by simp [scR]
def mulR : List Int → List Int → List Int
  | [], us => List.replicate (us.length - 1) 0
  | t :: ts, us => if us = [] then List.replicate ts.length 0 else addR (scR t us) (0 :: mulR ts us)
structure RowV (N : Nat) (f : Int → Int) (row : List Int) : Prop where
  len : row.length = N
  val : ∀ x, val x row = f x
end
end Pi
end

section
set_option maxHeartbeats 8000000
namespace Pi
open PySem
section
variable {P : Tab} {k : Nat} {h : IH}
abbrev two (h : IH) (row : List Int) : IH := h ++ [.lst [.int 0], .lst (row.map .int)]
end
end Pi
end

section
set_option maxHeartbeats 8000000
namespace Pi
def vq (x : Rat) : List Int → Rat
  | [] => 0
  | t :: r => t + x * vq x r
def EV (p : List Int × Int) (x : Rat) : Rat := vq x p.1 / p.2
def putR (us : List Int) (c : Int) : List Int → List Int
  | [] => []
  | t :: ts => addR (mulR (putR us c ts) us) [c ^ ts.length * t]
def putS (us : List Int) (c : Int) : List Int → List Int
  | [] => []
  | [t] => [t]
  | t :: u :: r => addR (mulR (putS us c (u :: r)) us) [c ^ (u :: r).length * t]
def n1 : List Int → Nat
  | [] => 0
  | t :: r => t.natAbs + n1 r
structure Bd (p : List Int × Int) (L A B : Nat) : Prop where
  pos : 0 < p.2
  len : p.1.length ≤ L
  top : n1 p.1 ≤ A
  bot : p.2 ≤ B
  low : low p.1 p.2 = p
  sm : Smooth p.2.toNat
end Pi
end

section
set_option maxHeartbeats 8000000
namespace Pi
open PySem
abbrev LN : Nat := 1000000000000000000000000000000000000000000000000000000000000
abbrev pq (p : List Int × Int) : IV := pv p.1 p.2
section
variable {P : Tab} {k : Nat} {h : IH} {p q : List Int × Int} {L A B M C D : Nat}
def addP (p q : List Int × Int) : List Int × Int := low (addR (scR q.2 p.1) (scR p.2 q.1)) (p.2 * q.2)
def mulP (p q : List Int × Int) : List Int × Int := low (mulR p.1 q.1) (p.2 * q.2)
def putP (p q : List Int × Int) : List Int × Int := low (putR q.1 q.2 p.1) (p.2 * q.2 ^ (p.1.length - 1))
end
end Pi
end

section
set_option maxHeartbeats 8000000
namespace Pi
open PySem
theorem set_same {h : IH} {p : Nat} {o : IO} (e : h[p]? = some o) : h.set p o = h := by
  obtain ⟨l, e⟩ := List.getElem?_eq_some_iff.mp e
  rw [← e]; simp
theorem set_here {h : IH} {p : Nat} {o o' : IO} (e : h[p]? = some o) : (h.set p o')[p]? = some o' := by
  obtain ⟨l, _⟩ := List.getElem?_eq_some_iff.mp e
  exact List.getElem?_set_self l
theorem W_lcD {xs : List IV} {p : Nat} {h : IH} {o : IO} {Q : IV → IH → Prop} {R : Ex → IH → Prop} {body : IV → IH → Out (Option IV)} (I : Nat → IO → List IV → Prop) (hp : p < h.length) (i0 : I 0 o []) (hl : xs.length ≤ LIM)
    (step : ∀ n x o' acc, xs[n]? = some x → I n o' acc → W (body x (h.set p o')) (fun r h2 => ∃ o'' v, r = some v ∧ h2 = h.set p o'' ∧ I (n + 1) o'' (acc ++ [v])) R)
    (nr : ∀ n o' acc, I n o' acc → nrO h.length o' = true ∧ nrVs h.length acc = true)
    (fin : ∀ o' acc, I xs.length o' acc → Q (.lsr true acc) (h.set p o')) :
    W (lcGo (.vals xs) body 0 (wkLen (.vals xs) (h.set p o)) [] (h.set p o)) (fun vs h5 => W (newL vs h5) (fun x h1 => W (sealI h x h1) Q R) R) R := by
  refine W_lcV (fun n acc h' => acc.length ≤ n ∧ ∃ o', h' = h.set p o' ∧ I n o' acc) ⟨Nat.le_refl _, o, rfl, i0⟩ ?_ ?_
  · rintro n x acc h' hx ⟨hl2, o', rfl, hi⟩
    refine (step n x o' acc hx hi).mono fun r h2 q => ?_
    obtain ⟨o'', v, rfl, rfl, hi'⟩ := q
    have := (List.getElem?_eq_some_iff.mp hx).1
    exact ⟨by omega, by simp; omega, o'', rfl, hi'⟩
  · rintro acc h' ⟨hl2, o', rfl, hi⟩
    rw [newL_ok (by omega), W_ok]
    obtain ⟨n1, n2⟩ := nr _ _ _ hi
    rw [seal_setA n1 (u := .lsr true acc) ?_]
    · exact fin o' acc hi
    · unfold fzV
      rw [if_neg (by simp [nrV]), List.length_set]
      have : (h.set p o' ++ [IO.lst acc])[h.length]? = some (.lst acc) := by
        have := new_at (h := h.set p o') (o := IO.lst acc) (l := [])
        rwa [List.length_set] at this
      simp only [this]
      rw [fz_all n2]; rfl
theorem set_at' {h : IH} {p : Nat} {o : IO} (hp : p < h.length) : (h.set p o)[p]? = some o := List.getElem?_set_self hp
theorem seal_setS {h : IH} {p : Nat} {o o' : IO} {v : IV} (m : nrO h.length o' = true) (mv : nrV h.length v = true) : sealI (h.set p o) v (h.set p o') = .ok v (h.set p o') := by
  have := seal_set (h0 := h.set p o) (p := p) (o := o') (v := v) (by simpa using m) (by simpa using mv)
  simpa using this
theorem seal_newS {h : IH} {p : Nat} {o : IO} {xs : List IV} (m : nrVs h.length xs = true) : sealI (h.set p o) (.ref h.length) (h.set p o ++ [.lst xs]) = .ok (.lsr true xs) (h.set p o) := by
  have := seal_new (h0 := h.set p o) (xs := xs) (by simpa using m)
  simpa using this
theorem W_get {α : Type} {x : Out α} {Q : α → IH → Prop} (w : W x Q fun _ _ => False) : ∃ a h', x = .ok a h' ∧ Q a h' := by
  cases x with
  | ok a h => exact ⟨a, h, rfl, w⟩
  | ex e h => exact w.elim
  | stuck => exact w.elim
section
variable {P : Tab} {k : Nat} {h : IH}
structure DkK (B : Nat) (o : IO) : Prop where
  ex : ∃ (a s : Int) (c : Nat), o = .lst [.int a, .int s, .int c] ∧ 0 ≤ a ∧ s.natAbs < 2 ^ 200 ∧ c ≤ B
end
end Pi
end

section
set_option maxHeartbeats 8000000
namespace Pi
open PySem
section
variable {P : Tab} {k : Nat} {h : IH}
theorem seal_bl' {h0 h : IH} {b : Bool} : ∃ h', sealI h0 (.bl b) h = .ok (.bl b) h' := by
  unfold sealI
  have e : fzV h h0.length 6 (.bl b) = some (.bl b) := fz_nr rfl
  rw [e]
  simp only
  split
  · exact ⟨_, rfl⟩
  · exact ⟨_, rfl⟩
end
end Pi
end

section
set_option maxHeartbeats 8000000
namespace Pi
open PySem
def sI (i : Int) : Str := Str.ofString (toString i)
theorem str_I {h : IH} {i : Int} (l : i.natAbs.log2 < 1920) : bltI .str [.int i] h = .ok (.str (sI i)) h := by
  unfold bltI
  simp only [l, if_true]
  rfl
theorem tl_pos {i : Int} (h : 0 ≤ i) : TL.tl (sI i) = TL.numL i.natAbs := by
  obtain ⟨n, rfl⟩ : ∃ n : Nat, i = n := ⟨i.toNat, by omega⟩
  exact TL.tl_num n
theorem tl_neg {i : Int} (h : i < 0) : TL.tl (sI i) = 45 :: TL.numL i.natAbs := by
  obtain ⟨n, rfl⟩ : ∃ n : Nat, i = Int.negSucc n := ⟨(-i - 1).toNat, by omega⟩
  have e : toString (Int.negSucc n) = "-" ++ toString (((n + 1 : Nat)) : Int) := rfl
  unfold sI
  rw [TL.tl_ofString, e, String.toList_append, List.map_append]
  have := TL.tl_num (n + 1)
  rw [TL.tl_ofString] at this
  rw [this]
  rfl
theorem tl_free {i : Int} : 32 ∉ TL.tl (sI i) := by
  by_cases h : 0 ≤ i
  · rw [tl_pos h]; exact TL.numL_free (.inl (by decide))
  · rw [tl_neg (by omega)]
    intro m
    rcases List.mem_cons.mp m with z | z
    · cases z
    · exact TL.numL_free (.inl (by decide)) z
theorem str_ext {x y : Str} (h : TL.tl x = TL.tl y) : x = y := TL.ext_tl h
theorem sl1 (z : Str) : TL.tl (L2.cutS z none (some 1)) = (TL.tl z).take 1 := by
  have hl := TL.len_tl z
  unfold L2.cutS
  show (((TL.tl z).drop _).take _) = _
  have e0 : HT.sIx z.length 0 none = 0 := rfl
  have e1 : HT.sIx z.length z.length (some 1) = min 1 z.length := by
    unfold HT.sIx
    simp
  rw [e0, e1, List.drop_zero, Nat.sub_zero]
  by_cases c : z.length = 0
  · have z : TL.tl z = [] := List.length_eq_zero_iff.mp (by omega)
    rw [z]; simp
  · rw [Nat.min_eq_left (by omega)]
theorem sl2 (z : Str) : TL.tl (L2.cutS z (some 1) none) = (TL.tl z).drop 1 := by
  have hl := TL.len_tl z
  unfold L2.cutS
  show (((TL.tl z).drop _).take _) = _
  have e0 : HT.sIx z.length z.length none = z.length := rfl
  have e1 : HT.sIx z.length 0 (some 1) = min 1 z.length := by
    unfold HT.sIx
    simp
  rw [e0, e1]
  by_cases c : z.length = 0
  · have z : TL.tl z = [] := List.length_eq_zero_iff.mp (by omega)
    rw [z]; simp
  · rw [Nat.min_eq_left (by omega), List.take_of_length_le (by rw [List.length_drop]; omega)]
theorem numL_zero : ∀ {n : Nat} {r : List Nat}, TL.numL n = 48 :: r → n = 0 := by
  intro n
  induction n using Nat.strongRecOn with
  | _ n ih =>
    intro r e
    by_cases h : n < 10
    · rw [TL.numL_lt h] at e
      have := (List.cons.inj e).1
      omega
    · rw [TL.numL_step (by omega)] at e
      cases c : TL.numL (n / 10) with
      | nil => exact absurd c (TL.numL_ne _)
      | cons x xs =>
        rw [c] at e
        have := (List.cons.inj e).1
        subst this
        have := ih (n / 10) (by omega) c
        omega
theorem int_I {i : Int} (hl : (TL.numL i.natAbs).length ≤ 4000) : PySem.intText? (sI i) = some i := by
  by_cases h : 0 ≤ i
  · obtain ⟨n, rfl⟩ : ∃ n : Nat, i = n := ⟨i.toNat, by omega⟩
    exact TL.int_num (by simpa using Nat.le_trans hl (by decide))
  · have e := tl_neg (i := i) (by omega)
    have := intText_neg (x := sI i) (cs := TL.numL i.natAbs) e (TL.numL_digits _) (TL.numL_ne _) (by rw [TL.len_tl, e, List.length_cons]; omega)
    rw [this, TL.numL_val]
    congr 1
    omega
theorem fig60 {n : Nat} (h : n < 10 ^ 61) : (TL.numL n).length ≤ 61 := TL.numL_len (by decide) h
theorem dig_in {c : Nat} : c ∈ (Str.ofString "0123456789").cps.toList ↔ 48 ≤ c ∧ c ≤ 57 := by
  have e : (Str.ofString "0123456789").cps.toList = [48, 49, 50, 51, 52, 53, 54, 55, 56, 57] := by decide +kernel
  rw [e]
  simp
  omega
theorem join_I (xs : List Str) : TL.tl (Txt.join (Str.ofString " ") xs) = TL.joinL [32] (xs.map TL.tl) := by
  rw [TL.join_eq, TL.tl_join]
  rfl
theorem split_I {xs : List Str} (ne : xs ≠ []) (f : ∀ x ∈ xs, 32 ∉ TL.tl x) : Txt.split (Txt.join (Str.ofString " ") xs) (Str.ofString " ") = xs :=
  TL.split_join (s := 32) (S := []) (by decide +kernel) (by decide +kernel) ne f
end Pi
end

section
set_option maxHeartbeats 8000000
namespace Pi
open PySem
section
variable {P : Tab} {k : Nat} {h : IH} {p q : List Int × Int} {L A B M C D : Nat}
@[simp] theorem scR_one (l : List Int) : scR 1 l = l := by simp [scR]
def valP (p : List Int × Int) (n : Int) : Int × Int := (val n p.1 / (Int.gcd (val n p.1) p.2 : Int), p.2 / (Int.gcd (val n p.1) p.2 : Int))
abbrev vq2 (r : Int × Int) : IV := .tup [.int r.1, .int r.2]
end
end Pi
end

section
set_option maxHeartbeats 8000000
namespace Pi
def cb : Nat → Nat → Int
  | _, 0 => 1
  | 0, _ + 1 => 0
  | n + 1, k + 1 => cb n k + cb n (k + 1)
def dlt (g : Nat → Int) : Nat → Int := fun i => g (i + 1) - g i
def dn : Nat → (Nat → Int) → Nat → Int
  | 0, g => g
  | k + 1, g => dn k (dlt g)
def ns (r : Nat) (g : Nat → Int) (n : Nat) : Nat → Int
  | 0 => 0
  | j + 1 => ns r g n j + dn j g 0 * cb n (j + r)
def dT : List Int → List Int
  | [] => []
  | [_] => []
  | _ :: u :: r => addR (u :: r) (addR (dT (u :: r)) (0 :: dT (u :: r)))
def fv (ts : List Int) : Nat → Int := fun n => val n ts
def sumN (f : Nat → Int) : Nat → Int
  | 0 => 0
  | n + 1 => sumN f n + f n
def fct : Nat → Int
  | 0 => 1
  | n + 1 => fct n * (n + 1)
def prt : Nat → List Int
  | 0 => [0, 1]
  | k + 1 => mulR (prt k) [-k - 1, 1]
def sro (g : Nat → Int) : Nat → List Int
  | 0 => []
  | k + 1 => addR (scR (k + 1) (sro g k)) (scR (dn k g 0) (prt k))
def sumP (p : List Int × Int) : List Int × Int := low (sro (fv p.1) p.1.length) (p.2 * fct p.1.length)
def sumQ (f : Nat → Rat) : Nat → Rat
  | 0 => 0
  | n + 1 => sumQ f n + f n
end Pi
end

section
set_option maxHeartbeats 8000000
namespace Pi
open PySem
section
variable {P : Tab} {k : Nat} {h : IH} {p q : List Int × Int} {L A B M C D : Nat}
def vrow (f : Nat → Int) (n : Nat) : List Int := (List.range n).map f
@[simp] theorem vrow_len (f : Nat → Int) (n : Nat) : (vrow f n).length = n := by simp [vrow]
def fac2 : Nat → Nat
  | 0 => 1
  | k + 1 => fac2 k * (k + 2)
abbrev SG : Nat := 2 ^ 120
end
end Pi
end

section
set_option maxHeartbeats 8000000
namespace Pi
open PySem
theorem data_ints (h : IH) (n : Nat) : ∀ xs : List Int, allM (dataOf h n) (xs.map .int) = some (xs.map PyData.int)
  | [] => by simp [allM]
  | x :: xs => by
    rw [List.map_cons, allM]
    have e : dataOf h n (.int x) = some (.int x) := by cases n <;> rfl
    simp only [e, data_ints h n xs, Option.map_some]; rfl
theorem eqv_ints : ∀ xs ys : List Int, PyData.eqvAll (xs.map .int) (ys.map .int) = decide (xs = ys)
  | [], [] => by simp [PyData.eqvAll]
  | [], y :: ys => by simp [PyData.eqvAll]
  | x :: xs, [] => by simp [PyData.eqvAll]
  | x :: xs, y :: ys => by
    rw [List.map_cons, List.map_cons, PyData.eqvAll, eqv_ints xs ys]
    simp [PyData.eqv]
    by_cases e : x = y <;> simp [e]
inductive LsV (h : IH) : IV → List Int → Prop where
  | ref {p : Nat} {xs : List Int} (e : h[p]? = some (.lst (xs.map .int))) : LsV h (.ref p) xs
  | lsr (xs : List Int) : LsV h (.lsr true (xs.map .int)) xs
theorem data_pv (h : IH) (ts : List Int) (b : Int) : dataOf h 32 (pv ts b) = some (.tuple [.tuple (ts.map .int), .int b]) := by
  simp [pv, dataOf, allM, data_ints]
theorem eq_pv {h : IH} {p q : List Int × Int} : eqH h (pq p) (pq q) = some (decide (p = q)) := by
  unfold eqH
  have e : Pi.eqI (pq p) (pq q) = none := rfl
  simp only [e, DEEP, data_pv]
  simp [PyData.eqv, PyData.eqvAll, eqv_ints]
  obtain ⟨a, b⟩ := p
  obtain ⟨c, d⟩ := q
  rw [Bool.eq_iff_iff]
  simp
theorem eq_vq2 {h : IH} {p q : Int × Int} : eqH h (vq2 p) (vq2 q) = some (decide (p = q)) := by
  unfold eqH
  have e : Pi.eqI (vq2 p) (vq2 q) = none := rfl
  have d : ∀ p : Int × Int, dataOf h 32 (vq2 p) = some (.tuple [.int p.1, .int p.2]) := fun p => by simp [dataOf, allM]
  simp only [e, DEEP, d]
  simp [PyData.eqv, PyData.eqvAll]
  obtain ⟨a, b⟩ := p
  obtain ⟨c, d⟩ := q
  rw [Bool.eq_iff_iff]
  simp
section
variable {P : Tab} {k : Nat} {h : IH}
end
end Pi
end

section
set_option maxHeartbeats 8000000
namespace Pi
open PySem
@[simp] theorem nrVs_rep {n m : Nat} {i : Int} : nrVs n (List.replicate m (IV.int i)) = true := nrVs_all fun x hx => by rw [List.eq_of_mem_replicate hx]; rfl
@[simp] theorem nrVs_app {n : Nat} {xs ys : List IV} : nrVs n (xs ++ ys) = (nrVs n xs && nrVs n ys) := nrVs_append
@[simp] theorem seal_nrS {h0 : IH} {v : IV} (m : nrV h0.length v = true) : sealI h0 v h0 = .ok v h0 := seal_nr0 m
@[simp] theorem nrV_pq {n : Nat} {p : List Int × Int} : nrV n (pq p) = true := by simp [pv]
def Ext (h h1 : IH) : Prop := ∃ g, h1 = h ++ g
section
variable {h : IH} {a b : IV} {xs ys : List Int}
end
theorem set_app {h : IH} {p : Nat} {o : IO} {l : IH} (hp : p < h.length) : h.set p o ++ l = (h ++ l).set p o := by
  rw [List.set_append_left _ _ hp]
theorem set_app' {h : IH} {p : Nat} {o o' : IO} {l : IH} : (h.set p o ++ o' :: l)[h.length]? = some o' := by
  have := new_at (h := h.set p o) (o := o') (l := l)
  rwa [List.length_set] at this
theorem seal_newS2 {h : IH} {p : Nat} {o o' : IO} {xs : List IV} (m : nrO h.length o' = true) (mv : nrVs h.length xs = true) : sealI (h.set p o) (.ref h.length) (h.set p o' ++ [.lst xs]) = .ok (.lsr true xs) (h.set p o') := by
  have e : fzV ((h.set p o).set p o' ++ [.lst xs]) (h.set p o).length 6 (.ref h.length) = some (.lsr true xs) := by
    rw [List.set_set, List.length_set]
    unfold fzV
    rw [if_neg (by simp [nrV])]
    simp only [set_app']
    rw [fz_all mv]; rfl
  have := seal_setA (h0 := h.set p o) (p := p) (o := o') (v := .ref h.length) (by simpa using m) e
  rw [List.set_set] at this
  exact this
theorem seal_setG {h : IH} {p : Nat} {o o' : IO} {g : IH} {v : IV} (m : nrO h.length o' = true) (mv : nrV h.length v = true) : sealI (h.set p o) v (h.set p o' ++ g) = .ok v (h.set p o') := by
  have := seal_setA (h0 := h.set p o) (p := p) (o := o') (g := g) (v := v) (u := v) (by simpa using m) (fz_nr (by simpa using mv))
  rwa [List.set_set] at this
end Pi
end

section
set_option maxHeartbeats 8000000
namespace Pi
open PySem
section
variable {P : Tab} {k : Nat} {h : IH}
theorem sl_s {z : Str} {lo hi : Option Int} (l : z.length ≤ LIM) : slI (.str z) lo hi h = .ok (.str (L2.cutS z lo hi)) h := by
  unfold slI
  simp only [lstOf, l, if_true]
theorem notIn_s {c : Nat} {z : Str} : cmpI .NotIn (.str ⟨#[c]⟩) (.str z) h = .ok (.bl !decide (c ∈ z.cps.toList)) h := by
  unfold cmpI
  have : inI h (.str ⟨#[c]⟩) (.str z) = some (decide (c ∈ z.cps.toList)) := by
    unfold inI
    rfl
  simp only [this]
theorem ix_s {z : Str} {c : Nat} {r : List Nat} (l : z.length ≤ LIM) (e : TL.tl z = c :: r) : ixI (.str z) (.int 0) h = .ok (.str ⟨#[c]⟩) h := by
  have e' : z.cps.toList = c :: r := e
  unfold ixI
  have : L2.atI (c :: r) 0 = some c := by simp [L2.atI, L2.ixN]
  simp only [seqOf, lstOf, l, if_true, e', this]
theorem len_s {z : Str} (l : z.length ≤ LIM) : bltI .len [.str z] h = .ok (.int z.length) h := by
  unfold bltI
  simp only [l, if_true]
theorem int_s {z : Str} {n : Int} (e : PySem.intText? z = some n) (l : z.length ≤ 640) : bltI .int [.str z] h = .ok (.int n) h := by
  unfold bltI
  simp only [e, l, if_true]
theorem len_I {i : Int} (hi : (TL.numL i.natAbs).length ≤ 61) : (sI i).length ≤ 62 := by
  rw [TL.len_tl]
  by_cases c : 0 ≤ i
  · rw [tl_pos c]; omega
  · rw [tl_neg (by omega), List.length_cons]; omega
theorem integer_of_eq (u : U371 P) {i : Int} (hi : (TL.numL i.natAbs).length ≤ 61) : callF P (k + 1) 371 [.str (sI i)] h = .ok (.int i) h := by
  have ll := len_I hi
  have li : (sI i).length ≤ LIM := by unfold LIM; omega
  refine W_eq.mp (W_def u (by decide) rfl ?_)
  refine W.step ?_
  simp [D371]
  refine Nxt.go ?_
  obtain ⟨G, hG⟩ : ∃ G : Fl → IH → Prop, ∀ fl h1, G fl h1 ↔ (∃ F : Str, fl = .nx [some (.str (sI i)), some (.str F), none] ∧ h1 = h ∧ TL.tl F = TL.numL i.natAbs) := ⟨_, fun _ _ => Iff.rfl⟩
  refine WS.mono (Q := G) ?_ ?_
  · simp
    rw [sl_s li]
    simp
    by_cases c : 0 ≤ i
    · have ne : ¬ L2.cutS (sI i) none (some 1) = Str.ofString "-" := fun z => by
        have := congrArg TL.tl z
        rw [sl1, tl_pos c] at this
        have e2 : TL.tl (Str.ofString "-") = [45] := by decide +kernel
        rw [e2] at this
        have m : 45 ∈ TL.numL i.natAbs := List.mem_of_mem_take (this ▸ List.mem_singleton.mpr rfl)
        exact TL.numL_free (.inl (by decide)) m
      simp [ne]
      exact (hG _ _).mpr ⟨sI i, rfl, rfl, tl_pos c⟩
    · have eq : L2.cutS (sI i) none (some 1) = Str.ofString "-" := str_ext (by
        rw [sl1, tl_neg (by omega), show TL.tl (Str.ofString "-") = [45] by decide +kernel]
        rfl)
      simp [eq]
      refine W.step ?_
      simp
      rw [sl_s li]
      simp
      exact (hG _ _).mpr ⟨_, rfl, rfl, by rw [sl2, tl_neg (by omega)]; rfl⟩
  · intro fl h1 hg
    obtain ⟨F, rfl, rfl, eF⟩ := (hG _ _).mp hg
    have lf : F.length ≤ 61 := by rw [TL.len_tl, eF]; exact hi
    have lF : F.length ≤ LIM := by unfold LIM; omega
    refine Nxt.go ?_
    have ne : ¬ F = Str.ofString "" := fun z => by
      have := congrArg TL.tl z
      rw [eF] at this
      exact TL.numL_ne _ (this.trans (by decide +kernel))
    simp [ne]
    rw [len_s lF]
    have l2 : ¬ (61 : Int) < F.length := by omega
    simp [l2]
    refine Nxt.go ?_
    simp
    rw [show valI (.str F) h1 = .ok (.vals (F.cps.toList.map fun c => .str ⟨#[c]⟩)) h1 from rfl]
    simp
    obtain ⟨J, hJ⟩ : ∃ J : Nat → Sl → IH → Prop, ∀ n σ h2, J n σ h2 ↔ (∃ c2 : Option IV, σ = [some (.str (sI i)), some (.str F), c2] ∧ h2 = h1) := ⟨_, fun _ _ _ => Iff.rfl⟩
    refine W_forM J ((hJ _ _ _).mpr ⟨none, rfl, rfl⟩) ?_ ?_
    · intro n t σ h2 hn hj
      obtain ⟨c2, rfl, rfl⟩ := (hJ _ _ _).mp hj
      have mt : t ∈ TL.numL i.natAbs := by rw [← eF]; exact List.mem_of_getElem? hn
      have dt := dig_in.mpr (TL.numL_digits _ t mt)
      simp
      refine W.step ?_
      simp
      rw [notIn_s]
      simp only [dt]
      simp
      exact (hJ _ _ _).mpr ⟨_, rfl, rfl⟩
    · intro σ h2 hj
      obtain ⟨c2, rfl, rfl⟩ := (hJ _ _ _).mp hj
      obtain ⟨a, r, ea⟩ : ∃ a r, TL.numL i.natAbs = a :: r := by
        cases c : TL.numL i.natAbs with
        | nil => exact absurd c (TL.numL_ne _)
        | cons a r => exact ⟨a, r, rfl⟩
      refine Nxt.go ?_
      simp
      rw [ix_s lF (eF.trans ea)]
      simp
      have e10 : bltI .int [.str (sI i)] h2 = .ok (.int i) h2 := int_s (int_I (by omega)) (by omega)
      by_cases q : (⟨#[a]⟩ : Str) = Str.ofString "0"
      · have ea2 : a = 48 := by
          have := congrArg TL.tl q
          rw [show TL.tl (Str.ofString "0") = [48] by decide +kernel] at this
          have this : [a] = [48] := this
          simpa using this
        subst ea2
        have n0 := numL_zero ea
        have i0 : sI i = Str.ofString "0" := by
          have : i = 0 := by omega
          subst this
          decide +kernel
        simp only [q]
        simp [i0]
        refine Nxt.go ?_
        simp
        rw [i0] at e10
        rw [e10]
        simp
      · simp [q]
        refine Nxt.go ?_
        simp
        rw [e10]
        simp
theorem word_at_eq (u : U344 P) {ws : List Str} {n : Nat} (hn : n < ws.length) : callF P (k + 1) 344 [.lsr true (ws.map .str), .int n] h = .ok (.str ws[n]) h := by
  refine W_eq.mp (W_def u (by decide) rfl ?_)
  refine W.step ?_
  have l : ¬ ((ws.length : Int) ≤ n) := by omega
  simp [D344, l]
  refine Nxt.go ?_
  simp
  rw [ix_of (xs := ws.map .str) rfl (by simpa using hn)]
  simp
theorem number_at_eq (u : U372 P) {ws : List Str} {n : Nat} {i lo hi : Int} (hn : ws[n]? = some (sI i)) (l : (TL.numL i.natAbs).length ≤ 61) (h1 : lo ≤ i) (h2 : i ≤ hi) : callF P (k + 3) 372 [.lsr true (ws.map .str), .int n, .int lo, .int hi] h = .ok (.int i) h := by
  obtain ⟨u372, u7, u344, u371⟩ := u
  obtain ⟨l1, e1⟩ := List.getElem?_eq_some_iff.mp hn
  refine W_eq.mp (W_def u372 (by decide) rfl ?_)
  refine W.step ?_
  simp [D372]
  rw [word_at_eq u344 l1, e1]
  simp
  rw [integer_of_eq u371 l]
  simp
  refine Nxt.go ?_
  simp
  rw [in_range_eq u7 flat_int]
  simp [h1, h2]
  refine Nxt.go ?_
  simp
def topw (ts : List Int) : List Int := if ts = [] then [0] else ts
def wd (ts : List Int) (b : Int) : List Str := (topw ts).map sI ++ [Str.ofString "/", sI b]
def txt (ts : List Int) (b : Int) : Str := Txt.join (Str.ofString " ") (wd ts b)
theorem joinL_len : ∀ {ps : List (List Nat)}, (∀ p ∈ ps, p.length ≤ 62) → (TL.joinL [32] ps).length ≤ 63 * ps.length
  | [], _ => by simp [TL.joinL]
  | [p], h => by
    have := h p (List.mem_singleton.mpr rfl)
    simp [TL.joinL]
    omega
  | p :: q :: r, h => by
    have h1 := h p List.mem_cons_self
    have h2 := joinL_len (ps := q :: r) fun x m => h x (List.mem_cons_of_mem _ m)
    show (p ++ ([32] ++ TL.joinL [32] (q :: r))).length ≤ _
    rw [List.length_append, List.length_append]
    simp only [List.length_cons, List.length_nil] at *
    omega
theorem split_s {s z : Str} (c : (z.length == 0) = false) (l : s.length ≤ LIM) : splitI s (.str z) h = .ok (.ref h.length) (h ++ [.lst ((Txt.split s z).map .str)]) := if_pos ⟨c, l⟩
end
end Pi
end

section
set_option maxHeartbeats 8000000
namespace Pi
open PySem
section
variable {P : Tab} {k : Nat} {h : IH}
structure DkD (B : Nat) (o : IO) : Prop where
  ex : ∃ (a s : Int) (c : Nat), o = .lst [.int a, .int s, .int c] ∧ 0 ≤ a ∧ c ≤ B
theorem DkD.mono {B C : Nat} {o : IO} (d : DkD B o) (l : B ≤ C) : DkD C o := by
  obtain ⟨a, s, c, e, h1, h2⟩ := d.ex
  exact ⟨a, s, c, e, h1, Nat.le_trans h2 l⟩
theorem DkD.nr {B n : Nat} {o : IO} (d : DkD B o) : nrO n o = true := by
  obtain ⟨a, s, c, rfl, _⟩ := d.ex
  simp [nrO]
theorem draw_D (u : U274 P) {p B : Nat} {o : IO} (e : h[p]? = some o) (d : DkD B o) (hB : B < 1000000000) {m : Int} (h1 : 1 ≤ m) (h2 : mid m = true) :
    ∃ (r : Int) (o' : IO), 0 ≤ r ∧ r < m ∧ DkD (B + 1) o' ∧ callF P (k + 1) 274 [.ref p, .int m] h = .ok (.int r) (h.set p o') := by
  obtain ⟨a, s, c, rfl, a0, c0⟩ := d.ex
  have hm : 0 < m := by omega
  by_cases ha : 0 < a
  · refine ⟨a % m, .lst [.int (a / m), .int s, .int c], Int.emod_nonneg _ (by omega), Int.emod_lt_of_pos _ hm, ⟨a / m, s, c, rfl, Int.ediv_nonneg a0 (by omega), by omega⟩, ?_⟩
    refine W_eq.mp (W_def u (by decide) rfl ?_)
    refine W.step ?_
    simp [D274]
    rw [ix_at0 (ref_seq e) (v := .int a) rfl]
    simp [ha]
    refine W.step ?_
    simp
    rw [ix_at0 (ref_seq e) (v := .int a) rfl]
    simp [b_mod hm]
    refine Nxt.go ?_
    simp
    rw [ix_at0 (ref_seq e) (v := .int a) rfl]
    simp [b_div hm h2]
    have := ref_set (n := 0) (v := .int (a / m)) e (by simp)
    simp at this
    rw [this]
    simp
    refine Nxt.go ?_
    simp
    rw [seal_set (by simp [nrO]) (by simp)]
    simp
  · have ea : a = 0 := by omega
    subst ea
    have e2 : (h.set p (.lst [.int 0, .int s, .int (c + 1 : Nat)]))[p]? = some (.lst [.int 0, .int s, .int (c + 1 : Nat)]) := set_here e
    obtain ⟨r, hr0, hr1, hr⟩ : ∃ r : Int, 0 ≤ r ∧ r < m ∧ callF P (k + 1) 274 [.ref p, .int m] h = .ok (.int r) (h.set p (.lst [.int 0, .int s, .int (c + 1 : Nat)])) := by
      have w : W (callF P (k + 1) 274 [.ref p, .int m] h) (fun v h' => ∃ r : Int, v = .int r ∧ 0 ≤ r ∧ r < m ∧ h' = h.set p (.lst [.int 0, .int s, .int (c + 1 : Nat)])) (fun _ _ => False) := by
        refine W_def u (by decide) rfl ?_
        refine W.step ?_
        simp [D274]
        rw [ix_at0 (ref_seq e) (v := .int 0) rfl]
        simp
        refine Nxt.go ?_
        simp
        have i2 : ixI (.ref p) (.int 2) h = .ok (.int c) h := ix_at (n := 2) (ref_seq e) rfl
        rw [i2]
        simp
        have := ref_set (n := 2) (v := .int (c + 1 : Nat)) e (by simp)
        simp at this
        simp [this]
        refine Nxt.go ?_
        have j1 : ixI (.ref p) (.int 1) (h.set p (.lst [.int 0, .int s, .int ((c : Int) + 1)])) = .ok (.int s) _ := ix_at (n := 1) (ref_seq e2) rfl
        have j2 : ixI (.ref p) (.int 2) (h.set p (.lst [.int 0, .int s, .int ((c : Int) + 1)])) = .ok (.int ((c : Int) + 1)) _ := ix_at (n := 2) (ref_seq e2) rfl
        generalize hH : h.set p (.lst [.int 0, .int s, .int ((c : Int) + 1)]) = H at j1 j2 ⊢
        simp [j1]
        rw [b_mulR (by decide)]
        simp [j2]
        rw [b_mulR (by decide)]
        simp
        rw [b_mod (by decide)]
        simp
        refine Nxt.go ?_
        have q1 := Int.emod_nonneg (s * 40503 + ((c : Int) + 1) * 69069 + 7) (show (4294967291 : Int) ≠ 0 by decide)
        have q2 := Int.emod_lt_of_pos (s * 40503 + ((c : Int) + 1) * 69069 + 7) (show (0 : Int) < 4294967291 by decide)
        generalize (s * 40503 + ((c : Int) + 1) * 69069 + 7) % 4294967291 = x at q1 q2
        simp
        rw [b_mulL (by omega)]
        simp [j2]
        rw [b_mulL (by decide)]
        simp [j1]
        rw [b_mod (by decide)]
        simp
        refine Nxt.go ?_
        have q3 := Int.emod_nonneg (x * x + 17 * ((c : Int) + 1) + s) (show (4294967279 : Int) ≠ 0 by decide)
        have q4 := Int.emod_lt_of_pos (x * x + 17 * ((c : Int) + 1) + s) (show (0 : Int) < 4294967279 by decide)
        generalize (x * x + 17 * ((c : Int) + 1) + s) % 4294967279 = y at q3 q4
        simp [j2]
        rw [b_mulL (by omega)]
        simp
        rw [b_mod (by decide)]
        simp
        refine Nxt.go ?_
        have q5 := Int.emod_nonneg (y * (y + ((c : Int) + 1)) + 3) (show (4294967231 : Int) ≠ 0 by decide)
        have q6 := Int.emod_lt_of_pos (y * (y + ((c : Int) + 1)) + 3) (show (0 : Int) < 4294967231 by decide)
        generalize (y * (y + ((c : Int) + 1)) + 3) % 4294967231 = z at q5 q6
        simp
        rw [b_div64 (by omega) (by omega)]
        simp
        rw [b_mod hm]
        simp
        rw [← hH, seal_set (by simp [nrO]) (by simp)]
        simp
        exact ⟨Int.emod_nonneg _ (by omega), Int.emod_lt_of_pos _ hm⟩
      obtain ⟨v, h', e1, r, rfl, q1, q2, rfl⟩ := W_get w
      exact ⟨r, q1, q2, e1⟩
    exact ⟨r, _, hr0, hr1, ⟨0, s, c + 1, rfl, by omega, by omega⟩, hr⟩
theorem drawD (u : U274 P) {p B : Nat} {o : IO} (hp : p < h.length) (d : DkD B o) (hB : B < 1000000000) {m : Int} (h1 : 1 ≤ m) (h2 : mid m = true) :
    ∃ (r : Int) (o' : IO), 0 ≤ r ∧ r < m ∧ DkD (B + 1) o' ∧ callF P (k + 1) 274 [.ref p, .int m] (h.set p o) = .ok (.int r) (h.set p o') := by
  obtain ⟨r, o', r0, r1, d', e⟩ := draw_D (k := k) u (set_at' hp) d hB h1 h2
  rw [List.set_set] at e
  exact ⟨r, o', r0, r1, d', e⟩
theorem deck_D (u : U273 P) {ns : List Int} {i : Nat} (hi : i < 1000) : ∃ o, DkD 1000 o ∧ callF P (k + 1) 100273 [.lsr false (ns.map .int), .int i] h = .ok (.ref h.length) (h ++ [o]) := by
  have w : W (callF P (k + 1) 100273 [.lsr false (ns.map .int), .int i] h) (fun v h' => ∃ o, DkD 1000 o ∧ v = .ref h.length ∧ h' = h ++ [o]) (fun _ _ => False) := by
    refine W_defG (f := 273) (by decide) u rfl ?_
    have fin : ∀ cell : Int, WS (jSs (callF P k) (.cons (.ret (.lst (.cons (.blt .max (.cons (.con (.int 0)) (.cons (.bin .Sub (.var 2) (.bin .Pow (.con (.int 10)) (.con (.int 18)))) .nil))) (.cons (.bin .Add (.bin .Mult (.blt .abs (.cons (.var 2) .nil)) (.con (.int 2))) (.blt .int (.cons (.cmp .Lt (.var 2) (.con (.int 0))) .nil))) (.cons (.var 1) .nil))))) .nil) [some (.lsr false (ns.map .int)), some (.int i), some (.int cell)] h) (fun fl h1 => match fl with
          | .nx _ => False
          | .ret v => ∃ o, DkD 1000 o ∧ v = .ref h.length ∧ h1 = h ++ [o]
          | .rs e _ => False
          | _ => False) := by
      intro cell
      refine W.step ?_
      simp
      rw [b_pow (by decide) (by decide) (by decide)]
      simp
      rw [b_mulR (by decide)]
      simp
      exact ⟨⟨_, _, i, rfl, Int.le_max_left _ _, by omega⟩⟩
    refine W.step ?_
    simp [D273]
    rw [b_mulL (by decide)]
    simp
    refine Nxt.go ?_
    simp
    by_cases c : i < ns.length
    · simp [c]
      refine W.step ?_
      simp
      rw [ix_of (xs := ns.map .int) rfl (by simpa using c)]
      simp
      exact fin _
    · simp [c]
      exact fin _
  obtain ⟨v, h', e1, o, d, rfl, rfl⟩ := W_get w
  exact ⟨o, d, e1⟩
end
end Pi
end

section
set_option maxHeartbeats 8000000
namespace Pi
open PySem
inductive NS where
  | rests (m : Int) (rs : List Int) | list (ns : List Int) | powers (g : Int) | squares | primes | moved (s : NS) (a b : Int) | either (s t : NS)
def sv : NS → IV
  | .rests m rs => .tup [.str "rests", .int m, .tup (rs.map .int)]
  | .list ns => .tup [.str "list", .tup (ns.map .int)]
  | .powers g => .tup [.str "powers", .int g]
  | .squares => .tup [.str "squares"]
  | .primes => .tup [.str "primes"]
  | .moved s a b => .tup [.str "moved", sv s, .int a, .int b]
  | .either s t => .tup [.str "either", sv s, sv t]
structure Asc (lo hi : Int) (ns : List Int) : Prop where
  ne : ns ≠ []
  rg : ∀ t ∈ ns, lo ≤ t ∧ t ≤ hi
  up : ns.Pairwise (· < ·)
def NS.plain : NS → Bool
  | .rests _ _ => true
  | .list _ => true
  | .moved s _ _ => s.plain
  | .either s t => s.plain && t.plain
  | _ => false
def NS.n : NS → Nat
  | .moved s _ _ => s.n + 1
  | .either s t => s.n + t.n + 1
  | _ => 1
def NS.ok : Nat → Int → NS → Prop
  | 0, _, _ => False
  | _ + 1, _, .rests m rs => 1 ≤ m ∧ m ≤ 60 ∧ Asc 0 (m - 1) rs
  | _ + 1, _, .list ns => Asc (-100) 100 ns ∧ ns.length ≤ 12
  | _ + 1, _, .powers g => 2 ≤ g ∧ g ≤ 10
  | _ + 1, _, .squares => True
  | _ + 1, _, .primes => True
  | l + 1, f, .moved s a b => -20 ≤ a ∧ a ≤ 20 ∧ a ≠ 0 ∧ -200 ≤ b ∧ b ≤ 200 ∧ (f * a).natAbs ≤ 400 ∧ s.ok l (f * a)
  | l + 1, f, .either s t => s.ok l f ∧ t.ok l f ∧ s.plain = true ∧ t.plain = true
theorem NS.n_pos : ∀ s : NS, 1 ≤ s.n
  | .rests _ _ => Nat.le_refl _
  | .list _ => Nat.le_refl _
  | .powers _ => Nat.le_refl _
  | .squares => Nat.le_refl _
  | .primes => Nat.le_refl _
  | .moved s _ _ => by rw [NS.n]; omega
  | .either s t => by rw [NS.n]; omega
section
variable {P : Tab} {k : Nat} {h : IH}
theorem ascends_ok (u : U8 P) {lo hi : Int} {ns : List Int} (a : Asc lo hi ns) (hl : ns.length ≤ 1000) : callF P (k + 3) 8 [.tup (ns.map .int), .int lo, .int hi] h = .ok (.bl true) h := by
  have hp := List.length_pos_iff.mpr a.ne
  refine W_eq.mp (W_def u.1 (by decide) rfl ?_)
  refine W.step ?_
  have l0 : ¬ (ns.length : Int) = 0 := by omega
  simp [D8, a.ne]
  refine Nxt.go ?_
  simp
  rw [rng_int (by omega)]
  simp
  obtain ⟨J, hJ⟩ : ∃ J : Nat → Sl → IH → Prop, ∀ n σ h1, J n σ h1 ↔ (∃ c3, σ = [some (.tup (ns.map .int)), some (.int lo), some (.int hi), c3] ∧ h1 = h) := ⟨_, fun _ _ _ => Iff.rfl⟩
  refine W_forM J ((hJ _ _ _).mpr ⟨none, rfl, rfl⟩) ?_ ?_
  · intro n t σ h1 hn hi'
    obtain ⟨c3, rfl, rfl⟩ := (hJ _ _ _).mp hi'
    have hl := at_lt hn
    simp at hl
    have et : t = n := by simp [hl] at hn; exact hn.symm
    subst et
    simp
    refine W.step ?_
    simp
    have r := a.rg _ (List.getElem_mem hl)
    rw [ix_of (xs := ns.map .int) rfl (by simpa using hl)]
    simp
    rw [in_range_eq u.2 flat_int]
    simp [r.1, r.2]
    refine Nxt.go ?_
    simp
    by_cases z : 0 < t
    · have z' : (0 : Int) < t := by omega
      simp [z, z']
      rw [show ((t : Int) - 1) = ((t - 1 : Nat) : Int) by omega, ix_of (xs := ns.map .int) rfl (by simp; omega)]
      simp
      rw [ix_of (xs := ns.map .int) rfl (by simpa using hl)]
      simp
      have up := List.pairwise_iff_getElem.mp a.up (t - 1) t (by omega) hl (by omega)
      have : ¬ ns[t] ≤ ns[t - 1] := by omega
      simp [this]
      exact (hJ _ _ _).mpr ⟨_, rfl, rfl⟩
    · have z' : ¬ (0 : Int) < t := by omega
      simp [z, z']
      exact (hJ _ _ _).mpr ⟨_, rfl, rfl⟩
  · intro σ h1 hi'
    obtain ⟨c3, rfl, rfl⟩ := (hJ _ _ _).mp hi'
    refine Nxt.go ?_
    simp
theorem up_ge : ∀ (l : List Int) (x : Int), (x :: l).Pairwise (· < ·) → ∀ y ∈ x :: l, x + (l.length : Int) ≤ (x :: l).getLast (by simp)
  | [], x, _, y, _ => by simp
  | z :: l, x, h, y, _ => by
    have h1 := (List.pairwise_cons.mp h).1 z List.mem_cons_self
    have := up_ge l z (List.pairwise_cons.mp h).2 z List.mem_cons_self
    rw [List.getLast_cons (by simp)]
    simp at this ⊢
    omega
theorem asc_len {lo hi : Int} {ns : List Int} (a : Asc lo hi ns) : (ns.length : Int) ≤ hi - lo + 1 := by
  cases ns with
  | nil => exact absurd rfl a.ne
  | cons x l =>
    have h1 := up_ge l x a.up x List.mem_cons_self
    have h2 := a.rg x List.mem_cons_self
    have h3 := a.rg _ (List.getLast_mem (l := x :: l) (by simp))
    simp
    omega
theorem in_range_i (u : U7 P) {i lo hi : Int} (h1 : lo ≤ i) (h2 : i ≤ hi) : callF P (k + 2) 7 [.int i, .int lo, .int hi] h = .ok (.bl true) h := by
  rw [in_range_eq u flat_int]; simp [h1, h2]
theorem leaf_ok (u : U10 P) {l : Nat} {f : Int} {s : NS} (o : s.ok (l + 1) f) (hm : ∀ t a b, s ≠ .moved t a b) (he : ∀ t r, s ≠ .either t r) : callF P (k + 4) 10 [sv s] h = .ok (.bl true) h := by
  refine W_eq.mp (W_def u.1 (by decide) rfl ?_)
  refine W.step ?_
  cases s with
  | moved t a b => exact absurd rfl (hm t a b)
  | either t r => exact absurd rfl (he t r)
  | rests m rs =>
    obtain ⟨h1, h2, a⟩ := o
    have hl : rs.length ≤ 1000 := by
      have := asc_len a
      omega
    simp [D10, sv]
    refine Nxt.go ?_
    simp
    refine W.step ?_
    simp
    rw [in_range_i u.2.1 h1 h2]
    simp
    rw [ascends_ok u.2.2 a hl]
    simp
  | list ns =>
    obtain ⟨a, h2⟩ := o
    simp [D10, sv]
    refine Nxt.go ?_
    simp
    refine Nxt.go ?_
    simp
    refine W.step ?_
    simp
    rw [ascends_ok u.2.2 a (by omega)]
    simp
    omega
  | powers g =>
    obtain ⟨h1, h2⟩ := o
    simp [D10, sv]
    refine Nxt.go ?_
    simp
    refine Nxt.go ?_
    simp
    refine Nxt.go ?_
    simp
    refine W.step ?_
    simp
    rw [in_range_i u.2.1 h1 h2]
    simp
  | squares =>
    simp [D10, sv]
    refine Nxt.go ?_
    simp
    refine Nxt.go ?_
    simp
    refine Nxt.go ?_
    simp
    refine Nxt.go ?_
    simp
  | primes =>
    simp [D10, sv]
    refine Nxt.go ?_
    simp
    refine Nxt.go ?_
    simp
    refine Nxt.go ?_
    simp
    refine Nxt.go ?_
    simp
    rw [show decide (("primes" : Str) = ("squares" : Str)) = false by decide +kernel]
    simp
theorem move_fits_ok (u : U9 P) {a b : Int} (h1 : -20 ≤ a) (h2 : a ≤ 20) (h0 : a ≠ 0) (h3 : -200 ≤ b) (h4 : b ≤ 200) : callF P (k + 3) 9 [.int a, .int b] h = .ok (.bl true) h := by
  refine W_eq.mp (W_def u.1 (by decide) rfl ?_)
  refine W.step ?_
  simp [D9]
  rw [in_range_i u.2 h1 h2]
  simp [h0]
  rw [in_range_i u.2 h3 h4]
  simp
def NS.cnt (s : NS) (p : Bool) : Nat := if p = true then (if s.plain = true then s.n else 0) else s.n
theorem cnt_moved {s : NS} {a b : Int} {p : Bool} : (NS.moved s a b).cnt p = if s.cnt p = 0 then 0 else s.cnt p + 1 := by
  have := s.n_pos
  unfold NS.cnt
  cases p with
  | false =>
    simp [NS.n]
    intro z; omega
  | true =>
    by_cases c : s.plain = true
    · simp [NS.plain, NS.n, c]
      intro z; omega
    · simp [NS.plain, c]
theorem tuples_in_eq (u : U11 P) : ∀ (l : Nat) (f : Int) (s : NS) (p : Bool), s.ok l f → f.natAbs ≤ 400 → callF P (k + l + 6) 11 [sv s, .int l, .int f, .bl p] h = .ok (.int (s.cnt p)) h
  | 0, f, s, p, o, _ => by cases s <;> exact o.elim
  | l + 1, f, s, p, o, hf => by
    have ih := tuples_in_eq u l
    rw [show k + (l + 1) + 6 = (k + l + 6) + 1 by omega]
    refine W_eq.mp (W_def u.1 (by decide) rfl ?_)
    have hl : ¬ ((l : Int) + 1 = 0) := by omega
    have hl2 : ((l : Int) + 1 - 1) = l := by omega
    have leaf : (∀ t a b, s ≠ .moved t a b) → (∀ t r, s ≠ .either t r) → ∀ kind : Str, (s.cnt p = if (p = true ∧ kind ≠ "rests" ∧ kind ≠ "list") then 0 else 1) → WS (jSs (callF P (k + l + 6)) (.cons (.ite (.or (.not (.call 10 (.cons (.var 0) .nil))) (.and (.var 3) (.and (.cmp .NotEq (.var 4) (.con (.str "rests"))) (.cmp .NotEq (.var 4) (.con (.str "list"))))))
    (.cons (.ret (.con (.int 0)))
    .nil)
    .nil)
  (.cons (.ret (.con (.int 1)))
  .nil)) [some (sv s), some (.int ((l : Int) + 1)), some (.int f), some (.bl p), some (.str kind), none, none, none] h) (fun fl h1 => match fl with
        | .nx _ => W (sealI h .non h1) (fun a h' => a = .int (s.cnt p) ∧ h' = h) fun _ _ => False
        | .ret v => W (sealI h v h1) (fun a h' => a = .int (s.cnt p) ∧ h' = h) fun _ _ => False
        | .rs e _ => W (cutX h e h1) (fun a h' => a = .int (s.cnt p) ∧ h' = h) fun _ _ => False
        | _ => False) := by
      intro hm he kind hc
      refine W.step ?_
      simp
      rw [leaf_ok (k := k + l + 2) u.2.2 o hm he]
      simp
      cases p with
      | false =>
        simp at hc
        simp
        refine Nxt.go ?_
        simp [hc]
      | true =>
        simp at hc
        simp
        by_cases c1 : kind = "rests"
        · subst c1
          simp at hc
          simp
          refine Nxt.go ?_
          simp [hc]
        · by_cases c2 : kind = "list"
          · subst c2
            simp at hc
            rw [show decide ((Str.ofString "list") = (Str.ofString "rests")) = false by decide +kernel]
            simp
            refine Nxt.go ?_
            simp [hc]
          · simp [c1, c2] at hc
            try simp [c1, c2]
            refine W.step ?_
            simp [hc]
    cases s with
    | moved t a b =>
      obtain ⟨h1, h2, h0, h3, h4, h5, ot⟩ := o
      refine W.step ?_
      simp [D11, sv, hl]
      refine Nxt.go ?_
      simp
      refine Nxt.go ?_
      simp
      refine W.step ?_
      simp
      rw [move_fits_ok (k := k + l + 3) u.2.1 h1 h2 h0 h3 h4]
      simp
      rw [b_mul64 (by omega) (by omega)]
      have h5' : ¬ (400 : Int) < (f * a).natAbs := by omega
      simp [h5']
      refine Nxt.go ?_
      simp [hl2]
      rw [b_mul64 (by omega) (by omega)]
      simp
      rw [ih (f * a) t p ot h5]
      simp
      refine Nxt.go ?_
      simp
      rw [cnt_moved]
      by_cases c : t.cnt p = 0
      · have c' : (t.cnt p : Int) = 0 := by omega
        simp [c]
      · have c' : ¬ (t.cnt p : Int) = 0 := by omega
        simp [c]
    | either t r =>
      obtain ⟨o1, o2, p1, p2⟩ := o
      have n1 := t.n_pos
      have n2 := r.n_pos
      have e1 : t.cnt true = t.n := by simp [NS.cnt, p1]
      have e2 : r.cnt true = r.n := by simp [NS.cnt, p2]
      have e3 : (NS.either t r).cnt p = t.n + r.n + 1 := by cases p <;> simp [NS.cnt, NS.plain, p1, p2, NS.n]
      refine W.step ?_
      simp [D11, sv, hl]
      refine Nxt.go ?_
      simp
      refine Nxt.go ?_
      simp
      refine Nxt.go ?_
      simp
      refine W.step ?_
      simp
      refine Nxt.go ?_
      simp [hl2]
      rw [ih f t true o1 hf]
      simp
      refine Nxt.go ?_
      simp [hl2]
      rw [ih f r true o2 hf]
      simp
      refine Nxt.go ?_
      have z1 : ¬ (t.n : Int) = 0 := by omega
      have z2 : ¬ (r.n : Int) = 0 := by omega
      have z1' : ¬ t.n = 0 := by omega
      have z2' : ¬ r.n = 0 := by omega
      simp [e1, e2, e3, z1, z2, z1', z2']
    | rests m rs =>
      refine W.step ?_
      simp [D11, sv, hl]
      refine Nxt.go ?_
      simp
      refine Nxt.go ?_
      simp
      refine Nxt.go ?_
      simp
      exact leaf (fun _ _ _ z => nomatch z) (fun _ _ z => nomatch z) "rests" (by cases p <;> simp [NS.cnt, NS.plain, NS.n])
    | list ns =>
      refine W.step ?_
      simp [D11, sv, hl]
      refine Nxt.go ?_
      simp
      refine Nxt.go ?_
      simp
      refine Nxt.go ?_
      simp
      exact leaf (fun _ _ _ z => nomatch z) (fun _ _ z => nomatch z) "list" (by cases p <;> simp [NS.cnt, NS.plain, NS.n])
    | powers g =>
      refine W.step ?_
      simp [D11, sv, hl]
      refine Nxt.go ?_
      simp
      refine Nxt.go ?_
      simp
      refine Nxt.go ?_
      simp
      exact leaf (fun _ _ _ z => nomatch z) (fun _ _ z => nomatch z) "powers" (by rw [show (NS.powers g).cnt p = (if p = true then 0 else 1) by cases p <;> simp [NS.cnt, NS.plain, NS.n]]; cases p <;> decide +kernel)
    | squares =>
      refine W.step ?_
      simp [D11, sv, hl]
      refine Nxt.go ?_
      simp
      refine Nxt.go ?_
      simp
      refine Nxt.go ?_
      simp
      exact leaf (fun _ _ _ z => nomatch z) (fun _ _ z => nomatch z) "squares" (by rw [show (NS.squares).cnt p = (if p = true then 0 else 1) by cases p <;> simp [NS.cnt, NS.plain, NS.n]]; cases p <;> decide +kernel)
    | primes =>
      refine W.step ?_
      simp [D11, sv, hl]
      refine Nxt.go ?_
      simp
      refine Nxt.go ?_
      simp
      refine Nxt.go ?_
      simp
      exact leaf (fun _ _ _ z => nomatch z) (fun _ _ z => nomatch z) "primes" (by rw [show (NS.primes).cnt p = (if p = true then 0 else 1) by cases p <;> simp [NS.cnt, NS.plain, NS.n]]; cases p <;> decide +kernel)
structure IsS (s : NS) : Prop where
  ok : s.ok 6 1
  n : s.n ≤ 12
theorem is_set_ok (u : U12 P) {s : NS} (o : IsS s) : callF P (k + 13) 12 [sv s] h = .ok (.bl true) h := by
  refine W_eq.mp (W_def u.1 (by decide) rfl ?_)
  refine W.step ?_
  simp [D12]
  have := tuples_in_eq (k := k) (h := h) u.2 6 1 s false o.ok (by decide)
  rw [show ((6 : Nat) : Int) = 6 from rfl] at this
  rw [this]
  have n0 := s.n_pos
  have n1 := o.n
  have z1 : 0 < s.n := by omega
  have z2 : (0 : Int) < s.n := by omega
  have z3 : (s.n : Int) ≤ 12 := by omega
  simp [NS.cnt, z1, z2, n1, z3]
theorem check_set_ok (u : U24 P) {s : NS} (o : IsS s) : callF P (k + 14) 24 [sv s] h = .ok .non h := by
  refine W_eq.mp (W_def u.1 (by decide) rfl ?_)
  refine W.step ?_
  simp [D24]
  rw [is_set_ok u.2 o]
  simp
end
end Pi
end

section
set_option maxHeartbeats 8000000
namespace Pi
open PySem
structure IsP (p : Nat) : Prop where
  two : 2 ≤ p
  only : ∀ q, 2 ≤ q → q ∣ p → q = p
structure PFs (n : Nat) (L : List Nat) : Prop where
  ok : ∀ p ∈ L, IsP p ∧ p ∣ n
  all : ∀ p, IsP p → p ∣ n → p ∈ L
  len : 2 ^ L.length ≤ n
structure PFi (n d : Nat) (F : List Nat) (x : Nat) : Prop where
  x1 : 1 ≤ x
  d2 : 2 ≤ d
  low : ∀ q, 2 ≤ q → q ∣ x → d ≤ q
  ok : ∀ q ∈ F, IsP q ∧ q ∣ n
  all : ∀ q, IsP q → q ∣ n → q ∈ F ∨ q ∣ x
  dv : x ∣ n
  len : 2 ^ F.length * x ≤ n
structure Di (d x y : Nat) : Prop where
  y1 : 1 ≤ y
  yx : y ∣ x
  all : ∀ q, IsP q → q ∣ x → q = d ∨ q ∣ y
  half : y = x ∨ 2 * y ≤ x
section
variable {P : Tab} {k : Nat} {h : IH}
end
end Pi
end

section
set_option maxHeartbeats 8000000
namespace Pi
open PySem
def IsPart (p m q : Nat) : Prop := ∃ e, q = p ^ e ∧ q ∣ m ∧ ¬ q * p ∣ m
def partF (p : Nat) : Nat → Nat → Nat
  | 0, _ => 1
  | f + 1, m => if m % p = 0 then p * partF p f (m / p) else 1
def part (p m : Nat) : Nat := partF p m m
def NS.near (p : Nat) : NS → Int → Int → Bool
  | .rests m rs, t, b => rs.any fun r => decide ((t - r * b) % (part p m.toNat : Nat) = 0)
  | .list ns, t, b => ns.any fun n => decide (t = n * b)
  | .either s r, t, b => s.near p t b || r.near p t b
  | .moved s a c, t, b => if (a * b / Int.gcd (t - c * b) (a * b)) % p = 0 then false else s.near p ((t - c * b) / Int.gcd (t - c * b) (a * b)) (a * b / Int.gcd (t - c * b) (a * b))
  | _, _, _ => false
section
variable {P : Tab} {k : Nat} {h : IH}
end
end Pi
end

section
set_option maxHeartbeats 8000000
namespace Pi
open PySem
def primeQ (p : Nat) : Bool := decide (2 ≤ p) && (List.range p).all fun d => decide (d < 2) || decide (p % d ≠ 0)
def plist (m : Nat) : List Nat := (List.range (m + 1)).filter fun p => primeQ p && decide (m % p = 0)
def hullB (m : Nat) (rs : List Int) (n : Int) : Bool := (plist m).all fun p => rs.any fun r => decide ((n - r) % (part p m : Nat) = 0)
def hset (m : Nat) (rs : List Int) : List Int := ((List.range m).filter fun k : Nat => hullB m rs k).map Int.ofNat
end Pi
end

section
set_option maxHeartbeats 8000000
namespace Pi
open PySem
section
variable {P : Tab} {k : Nat} {h : IH}
structure RS (m : Nat) (rs : List Int) : Prop where
  m1 : 1 ≤ m
  m2 : m ≤ 60
  a : Asc 0 (m - 1) rs
end
end Pi
end

section
set_option maxHeartbeats 8000000
namespace Pi
open PySem
def pst (d : Nat) (x : Nat × Nat) : Nat × Nat := if x.1 % d = 0 then (x.1 / d, x.2 * d) else x
def pit (d : Nat) (x : Nat × Nat) : Nat → Nat × Nat
  | 0 => x
  | n + 1 => pst d (pit d x n)
def pout (d : Nat) (s : Nat × List Nat) : Nat × List Nat := ((pit d (s.1, 1) 6).1, if 1 < (pit d (s.1, 1) 6).2 then s.2 ++ [(pit d (s.1, 1) 6).2] else s.2)
def pall (m : Nat) : Nat → Nat × List Nat
  | 0 => (m, [])
  | n + 1 => pout (n + 2) (pall m n)
def partsL (m : Nat) : List Nat := (pall m (m - 1)).2
section
variable {P : Tab} {k : Nat} {h : IH}
end
end Pi
end

section
set_option maxHeartbeats 8000000
namespace Pi
open PySem
section
variable {P : Tab} {k : Nat} {h : IH}
end
end Pi
end

section
set_option maxHeartbeats 8000000
namespace Pi
open PySem
section
variable {P : Tab} {k : Nat} {h : IH}
def split2 : Nat → Nat → Nat × Nat
  | 0, x => (x, 0)
  | f + 1, x => if x % 2 = 0 then ((split2 f (x / 2)).1, (split2 f (x / 2)).2 + 1) else (x, 0)
def sqLoop (n : Nat) : Nat → Nat → Bool
  | 0, _ => false
  | k + 1, v => if v * v % n = n - 1 then true else sqLoop n k (v * v % n)
def passB (n w : Nat) : Bool :=
  let s := split2 64 (n - 1)
  let v := w ^ s.1 % n
  v == 1 || v == n - 1 || sqLoop n (s.2 - 1) v
def WIT : List Nat := [2, 3, 5, 7, 11, 13, 17, 19, 23]
def primeB (n : Nat) : Bool := decide (2 ≤ n) && (match WIT.find? (fun w => n % w == 0) with
  | some w => n == w
  | none => decide (n < 841) || WIT.all (passB n))
end
end Pi
end

section
set_option maxHeartbeats 8000000
namespace Pi
open PySem
inductive SqI (h : IH) : IV → List Int → Prop where
  | tup (xs : List Int) : SqI h (.tup (xs.map .int)) xs
  | ls {a : IV} {xs : List Int} (s : LsV h a xs) : SqI h a xs
section
variable {P : Tab} {k : Nat} {h : IH} {a : IV} {xs : List Int}
end
end Pi
end

section
set_option maxHeartbeats 8000000
namespace Pi
open PySem
section
variable {P : Tab} {k : Nat} {h : IH} {p q r : List Int × Int} {L A B M C D : Nat}
end
end Pi
end

section
set_option maxHeartbeats 8000000
namespace Pi
open PySem
section
variable {P : Tab} {k : Nat} {h : IH}
def plL : List Int := [2, 2, 3, 3, 5, 7, 101, 999983]
def prL : List Int → Int
  | [] => 1
  | p :: l => prL l * p
end
end Pi
end

section
set_option maxHeartbeats 8000000
namespace Pi
open PySem
section
variable {P : Tab} {k : Nat} {h : IH}
structure SmJ (n : Nat) (h0 : IH) (m : Nat) (σ : Sl) (h : IH) : Prop where
  ex : ∃ x d : Nat, σ = [some (.int x), some (.int d)] ∧ h = h0 ∧ 0 < x ∧ (Smooth n ↔ Smooth x) ∧ 2 ≤ d ∧ d ≤ 1000002 ∧ (d = 2 ∨ d % 2 = 1) ∧ (∀ e, 2 ≤ e → e < d → ¬ e ∣ x) ∧ m = x + (1000003 - d)
def PolyV (v : IV) : Prop := ∃ p : List Int × Int, v = pq p ∧ Pol p.1 p.2
def Fl2 (v : IV) : Prop := flat v ∧ ∀ xs, v = .tup xs → ∀ x ∈ xs, flat x ∧ ∀ ys, x = .tup ys → ∀ y ∈ ys, flat y
end
end Pi
end

section
set_option maxHeartbeats 8000000
namespace Pi
open PySem
section
variable {P : Tab} {k : Nat} {h : IH} {p q : List Int × Int}
theorem cat_eq {h : IH} {xs ys : List IV} (l : xs.length + ys.length ≤ LIM) : binI .Add (.lsr true xs) (.lsr true ys) h = .ok (.ref h.length) (h ++ [.lst (xs ++ ys)]) := by
  unfold binI
  simp only
  rw [newL_ok (by simpa using l)]
def flatB (v : IV) : Bool := (isI .int v).isSome
def fl2B : IV → Bool
  | .tup xs => xs.all fun x => flatB x && (match x with | .tup ys => ys.all flatB | _ => true)
  | v => flatB v
def badL : List IV := [.tup [.tup [.int 1, .int 0], .int 1], .tup [.tup [.int 2, .int 4], .int 6], .tup [.tup [.int 1], .int 0], .tup [.tup [.int 1], .int (-3)], .tup [.lsr true [.int 1], .int 1], .tup [.tup [.bl true], .int 1], .tup [.tup [], .int 2], .non, .tup [.tup [.int 1], .int 1000003], .int 5,
  .tup [.tup (List.replicate 12 (.int 1)), .int 1], .tup [.tup [.int 1000000000000000000000000000000000000000000000000000000000000], .int 1], .tup [.tup [.int 1, .int (-1000000000000000000000000000000000000000000000000000000000000)], .int 7], .tup [.tup [.int 1], .int 2000000000000000000000000000000000000000000000000000000000000], .tup [.tup [.int 0], .int 1], .tup [.tup [.int 3], .bl true]]
end
end Pi
end

section
set_option maxHeartbeats 8000000
namespace Pi
open PySem
def dv (x : Int) : List Int → Int
  | [] => 0
  | _ :: ts => val x ts + x * dv x ts
def dl (j : Int) : List Int → List Int
  | [] => []
  | t :: ts => j * t :: dl (j + 1) ts
theorem dl_val (x : Int) : ∀ (ts : List Int) (j : Int), val x (dl j ts) = j * val x ts + x * dv x ts
  | [], j => by simp [dl, val, dv]
  | t :: ts, j => by
    rw [dl, val, val, dv, dl_val x ts (j + 1)]
    grind
@[simp] theorem dl_len : ∀ (ts : List Int) (j : Int), (dl j ts).length = ts.length
  | [], j => rfl
  | t :: ts, j => by simp [dl, dl_len ts]
def vmod (ts : List Int) (n : Nat) : List Int := (List.range n).map fun x : Nat => val x ts % n
section
variable {P : Tab} {k : Nat} {h : IH}
def perB (ts : List Int) (p : Nat) (power : Nat) : Bool := decide (vmod ts p).Nodup && (decide (power = 1) || (List.range p).all fun x => !decide (dv x ts % p = 0))
end
end Pi
end

section
set_option maxHeartbeats 8000000
namespace Pi
open PySem
structure Pl (n : Nat) (s : NS) : Prop where
  pl : s.plain = true
  cn : s.n + 1 ≤ 2 ^ n
  ok : ∀ f : Int, f.natAbs * 20 ^ (n - 1) ≤ 400 → s.ok n f
section
variable {P : Tab} {k : Nat} {h : IH}
theorem nrV_sv {n : Nat} : ∀ s : NS, nrV n (sv s) = true
  | .rests m rs => by simp [sv]
  | .list ns => by simp [sv]
  | .powers g => by simp [sv]
  | .squares => by simp [sv]
  | .primes => by simp [sv]
  | .moved s a b => by simp [sv, nrV_sv s]
  | .either s t => by simp [sv, nrV_sv s, nrV_sv t]
end
end Pi
end

section
set_option maxHeartbeats 8000000
namespace Pi
open PySem
def wds : NS → List Str
  | .rests m rs => Str.ofString "rests" :: sI m :: Str.ofString ":" :: rs.map sI
  | .list ns => Str.ofString "list" :: Str.ofString ":" :: ns.map sI
  | .powers g => [Str.ofString "powers", sI g]
  | .squares => [Str.ofString "squares"]
  | .primes => [Str.ofString "primes"]
  | .moved s a b => Str.ofString "moved" :: sI a :: sI b :: Str.ofString "(" :: (wds s ++ [Str.ofString ")"])
  | .either s t => Str.ofString "either" :: Str.ofString "(" :: (wds s ++ (Str.ofString ")" :: Str.ofString "(" :: (wds t ++ [Str.ofString ")"])))
theorem fig_s {i : Int} (h : i.natAbs ≤ 1000) : (TL.numL i.natAbs).length ≤ 61 := fig60 (Nat.lt_of_le_of_lt h (by decide))
theorem log_s {i : Int} (h : i.natAbs ≤ 1000) : i.natAbs.log2 < 1920 := by
  by_cases z : i.natAbs = 0
  · rw [z]; decide
  · exact (Nat.log2_lt z (k := 1920)).mpr (Nat.lt_of_le_of_lt h (by decide +kernel))
theorem wds_len : ∀ (l : Nat) (f : Int) (s : NS), s.ok l f → (wds s).length ≤ 70 * s.n
  | 0, _, s, o => by cases s <;> exact o.elim
  | l + 1, f, .rests m rs, o => by
    have := asc_len o.2.2
    have := o.2.1
    simp [wds, NS.n]; omega
  | l + 1, f, .list ns, o => by
    have := o.2
    simp [wds, NS.n]; omega
  | l + 1, f, .powers g, o => by simp [wds, NS.n]
  | l + 1, f, .squares, o => by simp [wds, NS.n]
  | l + 1, f, .primes, o => by simp [wds, NS.n]
  | l + 1, f, .moved s a b, o => by
    have := wds_len l _ s o.2.2.2.2.2.2
    simp [wds, NS.n]; omega
  | l + 1, f, .either s t, o => by
    have := wds_len l _ s o.1
    have := wds_len l _ t o.2.1
    simp [wds, NS.n]; omega
structure Wok (w : Str) : Prop where
  l : w.length ≤ 62
  f : 32 ∉ TL.tl w
theorem wok_I {i : Int} (h : i.natAbs ≤ 1000) : Wok (sI i) := ⟨len_I (fig_s h), tl_free⟩
theorem wds_ok : ∀ (l : Nat) (f : Int) (s : NS), s.ok l f → ∀ w ∈ wds s, Wok w
  | 0, _, s, o => by cases s <;> exact o.elim
  | l + 1, f, .rests m rs, o => by
    intro w mw
    obtain ⟨m1, m2, a⟩ := o
    simp [wds] at mw
    rcases mw with rfl | rfl | rfl | ⟨t, mt, rfl⟩
    · exact ⟨by decide +kernel, by decide +kernel⟩
    · exact wok_I (by omega)
    · exact ⟨by decide +kernel, by decide +kernel⟩
    · have := a.rg t mt
      exact wok_I (by omega)
  | l + 1, f, .list ns, o => by
    intro w mw
    simp [wds] at mw
    rcases mw with rfl | rfl | ⟨t, mt, rfl⟩
    · exact ⟨by decide +kernel, by decide +kernel⟩
    · exact ⟨by decide +kernel, by decide +kernel⟩
    · have := o.1.rg t mt
      exact wok_I (by omega)
  | l + 1, f, .powers g, o => by
    intro w mw
    obtain ⟨g1, g2⟩ := o
    simp [wds] at mw
    rcases mw with rfl | rfl
    · exact ⟨by decide +kernel, by decide +kernel⟩
    · exact wok_I (by omega)
  | l + 1, f, .squares, o => by
    intro w mw
    simp [wds] at mw
    subst mw
    exact ⟨by decide +kernel, by decide +kernel⟩
  | l + 1, f, .primes, o => by
    intro w mw
    simp [wds] at mw
    subst mw
    exact ⟨by decide +kernel, by decide +kernel⟩
  | l + 1, f, .moved s a b, o => by
    have ih := wds_ok l _ s o.2.2.2.2.2.2
    obtain ⟨a1, a2, a0, b1, b2, _⟩ := o
    intro w mw
    simp [wds] at mw
    rcases mw with rfl | rfl | rfl | rfl | mw | rfl
    · exact ⟨by decide +kernel, by decide +kernel⟩
    · exact wok_I (by omega)
    · exact wok_I (by omega)
    · exact ⟨by decide +kernel, by decide +kernel⟩
    · exact ih w mw
    · exact ⟨by decide +kernel, by decide +kernel⟩
  | l + 1, f, .either s t, o => by
    have ih := wds_ok l _ s o.1
    have ih2 := wds_ok l _ t o.2.1
    intro w mw
    simp [wds] at mw
    rcases mw with rfl | rfl | mw | rfl | rfl | mw | rfl
    · exact ⟨by decide +kernel, by decide +kernel⟩
    · exact ⟨by decide +kernel, by decide +kernel⟩
    · exact ih w mw
    · exact ⟨by decide +kernel, by decide +kernel⟩
    · exact ⟨by decide +kernel, by decide +kernel⟩
    · exact ih2 w mw
    · exact ⟨by decide +kernel, by decide +kernel⟩
section
variable {P : Tab} {k : Nat} {h : IH}
theorem addLL {xs ys : List IV} : binI .Add (.lsr true xs) (.lsr true ys) h = newL (xs ++ ys) h := rfl
theorem W_strs {ts : List Int} (a : ∀ t ∈ ts, t.natAbs ≤ 1000) {σ : Sl} {i : Nat} (hi : i < σ.length) {Φ : Calls} (l : ts.length ≤ 100) {Q : IV → IH → Prop} {R : Ex → IH → Prop} (fin : Q (.lsr true ((ts.map sI).map .str)) h) :
    W (lcGo (.vals (ts.map .int)) (lcB Φ (.blt .str (.cons (.var i) .nil)) (.name i) .non [i] σ) 0 (wkLen (.vals (ts.map .int)) h) [] h) (fun vs h5 => W (newL vs h5) (fun x h1 => W (sealI h x h1) Q R) R) R := by
  refine W_lcM (ts := ts) (u := .int) (fun t => .str (sI t)) (by unfold LIM; omega) ?_ (fun t mt => rfl) ?_
  · intro t mt
    rw [W_lcB]
    simp [wipeI, hi]
    rw [str_I (log_s (a t mt))]
    simp
  · rw [List.map_map] at fin
    exact fin
end
end Pi
end

section
set_option maxHeartbeats 8000000
namespace Pi
open PySem
section
variable {P : Tab} {k : Nat} {h : IH}
@[simp] theorem nrVs_strs {n : Nat} {ws : List Str} : nrVs n (ws.map .str) = true := nrVs_map fun _ _ => rfl
theorem seal_w {ws : List Str} : sealI h (.ref h.length) (h ++ [.lst (ws.map .str)]) = .ok (.lsr true (ws.map .str)) h := seal_new nrVs_strs
theorem words_of_eq (u : U369 P) : ∀ (l : Nat) (f : Int) (s : NS), s.ok l f → s.n ≤ 100 → callF P (k + l) 369 [sv s] h = .ok (.lsr true ((wds s).map .str)) h := by
  intro l
  induction l with
  | zero => intro f s o; cases s <;> exact o.elim
  | succ l ih =>
    intro f s o sn
    have wl := wds_len _ _ s o
    refine W_eq.mp (W_def u (by decide) rfl ?_)
    refine W.step ?_
    cases s with
    | rests m rs =>
      obtain ⟨m1, m2, a⟩ := o
      have al := asc_len a
      simp [D369, sv]
      refine Nxt.go ?_
      simp
      refine W.step ?_
      simp
      rw [str_I (log_s (by omega))]
      simp
      rw [seal_new (by simp)]
      simp
      refine W_strs (fun t mt => by have := a.rg t mt; omega) (by simp) (by omega) ?_
      simp only [addLL]
      rw [newL_ok (by simp [LIM]; omega)]
      simp
      rw [show IV.str (Str.ofString "rests") :: IV.str (sI m) :: IV.str (Str.ofString ":") :: rs.map (IV.str ∘ sI) = (wds (.rests m rs)).map .str by simp [wds], seal_w]
      simp
    | list ns =>
      obtain ⟨a, nl⟩ := o
      simp [D369, sv]
      refine Nxt.go ?_
      simp
      refine Nxt.go ?_
      simp
      refine W.step ?_
      simp
      rw [seal_new (by simp)]
      simp
      refine W_strs (fun t mt => by have := a.rg t mt; omega) (by simp) (by omega) ?_
      simp only [addLL]
      rw [newL_ok (by simp [LIM]; omega)]
      simp
      rw [show IV.str (Str.ofString "list") :: IV.str (Str.ofString ":") :: ns.map (IV.str ∘ sI) = (wds (.list ns)).map .str by simp [wds], seal_w]
      simp
    | powers g =>
      obtain ⟨g1, g2⟩ := o
      simp [D369, sv]
      refine Nxt.go ?_
      simp
      refine Nxt.go ?_
      simp
      refine Nxt.go ?_
      simp
      refine W.step ?_
      simp
      rw [str_I (log_s (by omega))]
      simp
      rw [show [IV.str (Str.ofString "powers"), IV.str (sI g)] = (wds (.powers g)).map .str by simp [wds], seal_w]
      simp
    | squares =>
      simp [D369, sv]
      refine Nxt.go ?_
      simp
      refine Nxt.go ?_
      simp
      refine Nxt.go ?_
      simp
      refine Nxt.go ?_
      simp
      refine Nxt.go ?_
      simp
      refine Nxt.go ?_
      simp
      rw [show [IV.str (Str.ofString "squares")] = (wds .squares).map .str by simp [wds], seal_w]
      simp
    | primes =>
      simp [D369, sv]
      refine Nxt.go ?_
      simp
      refine Nxt.go ?_
      simp
      refine Nxt.go ?_
      simp
      refine Nxt.go ?_
      simp
      refine Nxt.go ?_
      simp
      refine Nxt.go ?_
      simp
      rw [show [IV.str (Str.ofString "primes")] = (wds .primes).map .str by simp [wds], seal_w]
      simp
    | moved s a b =>
      rw [NS.n] at sn
      have e := ih _ s o.2.2.2.2.2.2 (by omega)
      have el := wds_len _ _ s o.2.2.2.2.2.2
      obtain ⟨a1, a2, a0, b1, b2, _⟩ := o
      simp [D369, sv]
      refine Nxt.go ?_
      simp
      refine Nxt.go ?_
      simp
      refine Nxt.go ?_
      simp
      refine Nxt.go ?_
      simp
      refine W.step ?_
      simp
      rw [str_I (log_s (by omega))]
      simp
      rw [str_I (log_s (by omega))]
      simp
      try rw [newL_ok (by simp [LIM])]
      try simp
      rw [seal_new (by simp)]
      simp
      rw [e]
      simp only [W_ok, addLL]
      rw [newL_ok (by simp [LIM]; omega)]
      simp
      rw [seal_new (by simp)]
      simp
      rw [seal_new (by simp)]
      simp only [W_ok, addLL]
      rw [newL_ok (by simp [LIM]; omega)]
      simp
      rw [show IV.str (Str.ofString "moved") :: IV.str (sI a) :: IV.str (sI b) :: IV.str (Str.ofString "(") :: ((wds s).map .str ++ [IV.str (Str.ofString ")")]) = (wds (.moved s a b)).map .str by simp [wds], seal_w]
      simp
    | either s t =>
      rw [NS.n] at sn
      have e := ih _ s o.1 (by omega)
      have e2 := ih _ t o.2.1 (by omega)
      have el := wds_len _ _ s o.1
      have el2 := wds_len _ _ t o.2.1
      simp [D369, sv]
      refine Nxt.go ?_
      simp
      refine Nxt.go ?_
      simp
      refine Nxt.go ?_
      simp
      refine Nxt.go ?_
      simp
      refine Nxt.go ?_
      simp
      refine W.step ?_
      simp
      rw [seal_new (by simp)]
      simp
      rw [e]
      simp only [W_ok, addLL]
      rw [newL_ok (by simp [LIM]; omega)]
      simp
      rw [seal_new (by simp)]
      simp
      rw [seal_new (by simp)]
      simp only [W_ok, addLL]
      rw [newL_ok (by simp [LIM]; omega)]
      simp
      rw [seal_new (by simp)]
      simp
      rw [e2]
      simp only [W_ok, addLL]
      rw [newL_ok (by simp [LIM]; omega)]
      simp
      rw [seal_new (by simp)]
      simp
      rw [seal_new (by simp)]
      simp only [W_ok, addLL]
      rw [newL_ok (by simp [LIM]; omega)]
      simp
      rw [show IV.str (Str.ofString "either") :: IV.str (Str.ofString "(") :: ((wds s).map .str ++ IV.str (Str.ofString ")") :: IV.str (Str.ofString "(") :: ((wds t).map .str ++ [IV.str (Str.ofString ")")])) = (wds (.either s t)).map .str by simp [wds], seal_w]
      simp
end
end Pi
end

section
set_option maxHeartbeats 8000000
namespace Pi
open PySem
section
variable {P : Tab} {k : Nat} {h : IH}
theorem no_brack {i : Int} : ¬ sI i = Str.ofString ")" := fun z => by
  have := congrArg TL.tl z
  rw [show TL.tl (Str.ofString ")") = [41] by decide +kernel] at this
  have m : 41 ∈ TL.tl (sI i) := this ▸ List.mem_singleton.mpr rfl
  by_cases c : 0 ≤ i
  · rw [tl_pos c] at m; exact TL.numL_free (.inl (by decide)) m
  · rw [tl_neg (by omega)] at m
    rcases List.mem_cons.mp m with z | z
    · cases z
    · exact TL.numL_free (.inl (by decide)) z
def Beh (lev : Int) (rest : List Str) : Prop := rest = [] ∨ (lev ≠ 1 ∧ ∃ r, rest = Str.ofString ")" :: r)
theorem drop_at {ws A : List Str} {p n : Nat} (e : ws.drop p = A) : ws[p + n]? = A[n]? := by rw [← e, List.getElem?_drop]
theorem ix_w {ws : List Str} {p : Nat} {w : Str} (e : ws[p]? = some w) : ixI (.lsr true (ws.map .str)) (.int p) h = .ok (.str w) h := ix_at (n := p) rfl (by rw [List.getElem?_map, e]; rfl)
theorem row_at_eq (u : U373 P) {ws rest : List Str} {p : Nat} {rs : List Int} {lo hi most lev : Int} (e : ws.drop p = rs.map sI ++ rest) (a : Asc lo hi rs) (lm : (rs.length : Int) ≤ most) (l1 : -1000 ≤ lo) (l2 : hi ≤ 1000) (b : Beh lev rest) :
    callF P (k + 4) 373 [.lsr true (ws.map .str), .int p, .int lo, .int hi, .int most, .int lev] h = .ok (.tup [.tup (rs.map .int), .int (p + rs.length)]) h := by
  obtain ⟨u373, u372⟩ := u
  have np := List.length_pos_iff.mpr a.ne
  have w1 : ∀ n (hn : n < rs.length), ws[p + n]? = some (sI rs[n]) := fun n hn => by
    rw [drop_at e, List.getElem?_append_left (by simpa using hn), List.getElem?_map, List.getElem?_eq_getElem hn]
    rfl
  have wl : ws.length = p + rs.length + rest.length := by
    have := congrArg List.length e
    rw [List.length_drop, List.length_append, List.length_map] at this
    omega
  have sm : ∀ n (hn : n < rs.length), (TL.numL (rs[n]).natAbs).length ≤ 61 := fun n hn => by
    have := a.rg _ (List.getElem_mem hn)
    exact fig_s (by omega)
  refine W_eq.mp (W_def u373 (by decide) rfl ?_)
  refine W.step ?_
  simp [D373]
  have r0 := a.rg _ (List.getElem_mem np)
  have e0 := w1 0 np
  rw [Nat.add_zero] at e0
  rw [number_at_eq u372 e0 (sm 0 np) r0.1 r0.2]
  simp
  refine Nxt.go ?_
  simp
  refine Nxt.go ?_
  obtain ⟨J, hJ⟩ : ∃ J : Nat → Sl → IH → Prop, ∀ m σ h1, J m σ h1 ↔ (∃ (n : Nat) (tn : List Int) (pl : Int), m + n = rs.length ∧ 1 ≤ n ∧ tn = rs.take n ∧ pl = (p + n : Nat) ∧ σ = [some (.lsr true (ws.map .str)), some (.int pl), some (.int lo), some (.int hi), some (.int most), some (.int lev), some (.ref h.length)] ∧ h1 = h ++ [.lst (tn.map .int)]) := ⟨_, fun _ _ _ => Iff.rfl⟩
  have t1 : [rs[0]] = rs.take 1 := by
    cases rs with
    | nil => simp at np
    | cons x xs => rfl
  simp only [W_whl]
  refine W_while J (m := rs.length - 1) ((hJ _ _ _).mpr ⟨1, [rs[0]], _, by omega, by omega, t1, rfl, by push_cast; rfl, rfl⟩) ?_
  intro m σ h1 hj
  obtain ⟨n, tn, pl, mn, n1, etn, epl, rfl, rfl⟩ := (hJ _ _ _).mp hj
  have tl : tn.length = n := by rw [etn, List.length_take]; omega
  have go : n < rs.length → WS (jSs (callF P (k + 3)) (.cons (.ite (.cmp .Eq (.blt .len (.cons (.var 6) .nil)) (.var 4)) (.cons (.rais 19 (.cons (.var 1) .nil)) .nil) .nil) (.cons (.drop (.meth .append (.var 6) (.cons (.call 372 (.cons (.var 0) (.cons (.var 1) (.cons (.bin .Add (.ix (.var 6) (.neg (.con (.int 1)))) (.con (.int 1))) (.cons (.var 3) .nil))))) .nil))) (.cons (.asg (.name 1) (.bin .Add (.var 1) (.con (.int 1)))) .nil))) [some (.lsr true (ws.map .str)), some (.int pl), some (.int lo), some (.int hi), some (.int most), some (.int lev), some (.ref h.length)] (h ++ [.lst (tn.map .int)])) (LpQ (fun σ2 h2 => ∃ m', m' < m ∧ J m' σ2 h2) (Nxt (callF P (k + 3)) (.cons (.ret (.tup (.cons (.blt .tuple (.cons (.var 6) .nil)) (.cons (.var 1) .nil)))) .nil) (fun fl h1 =>
      match fl with
      | .nx σ => W (sealI h .non h1) (fun a h' => a = .tup [.tup (rs.map .int), .int (p + rs.length)] ∧ h' = h) fun _ _ => False
      | .ret v => W (sealI h v h1) (fun a h' => a = .tup [.tup (rs.map .int), .int (p + rs.length)] ∧ h' = h) fun _ _ => False
      | .rs e σ => W (cutX h e h1) (fun a h' => a = .tup [.tup (rs.map .int), .int (p + rs.length)] ∧ h' = h) fun _ _ => False
      | _ => False))) := fun hn => by
    have rn := a.rg _ (List.getElem_mem hn)
    have ne : tn ≠ [] := fun z => by rw [z] at tl; simp at tl; omega
    have nm : tn.map IV.int ≠ [] := by simpa using ne
    have last : tn.getLast ne = rs[n - 1] := by
      have e1 : tn.getLast? = some (tn.getLast ne) := List.getLast?_eq_some_getLast ne
      rw [List.getLast?_eq_getElem?, tl] at e1
      have e2 : tn[n - 1]? = rs[n - 1]? := by rw [etn, List.getElem?_take_of_lt (by omega)]
      rw [e2, List.getElem?_eq_getElem (by omega)] at e1
      exact (Option.some.inj e1).symm
    have lt : rs[n - 1] < rs[n] := List.pairwise_iff_getElem.mp a.up (n - 1) n (by omega) hn (by omega)
    refine W.step ?_
    simp
    rw [ref_len new_at]
    have nm2 : ¬ (n : Int) = most := by omega
    simp [tl, nm2]
    refine Nxt.go ?_
    simp
    refine ⟨ref_isLst new_at, ?_⟩
    rw [ix_neg1 (ref_seq new_at) nm, List.getLast_map]
    simp
    rw [last, epl, number_at_eq u372 (w1 n hn) (sm n hn) (by omega) rn.2]
    simp
    rw [ref_app new_at (by simp [LIM]; have := asc_len a; omega), new_set]
    simp
    refine Nxt.go ?_
    simp
    refine ⟨m - 1, by omega, (hJ _ _ _).mpr ⟨n + 1, tn ++ [rs[n]], _, by omega, by omega, ?_, ?_, rfl, by simp⟩⟩
    · rw [etn, List.take_succ, List.getElem?_eq_getElem hn]
      rfl
    · push_cast; omega
  have stop : n = rs.length → Nxt (callF P (k + 3)) (.cons (.ret (.tup (.cons (.blt .tuple (.cons (.var 6) .nil)) (.cons (.var 1) .nil)))) .nil) (fun fl h1 =>
      match fl with
      | .nx σ => W (sealI h .non h1) (fun a h' => a = .tup [.tup (rs.map .int), .int (p + rs.length)] ∧ h' = h) fun _ _ => False
      | .ret v => W (sealI h v h1) (fun a h' => a = .tup [.tup (rs.map .int), .int (p + rs.length)] ∧ h' = h) fun _ _ => False
      | .rs e σ => W (cutX h e h1) (fun a h' => a = .tup [.tup (rs.map .int), .int (p + rs.length)] ∧ h' = h) fun _ _ => False
      | _ => False) (.nx [some (.lsr true (ws.map .str)), some (.int pl), some (.int lo), some (.int hi), some (.int most), some (.int lev), some (.ref h.length)]) (h ++ [.lst (tn.map .int)]) := fun hn => by
    have et : tn = rs := by rw [etn, hn, List.take_length]
    refine Nxt.go ?_
    simp
    rw [ref_tuple new_at]
    simp
    rw [et, epl, hn]
    rw [seal_nr (by simp)]
    simp
  simp
  by_cases hn : n < rs.length
  · have l1 : pl < ws.length := by omega
    simp [l1]
    by_cases z : lev = 1
    · simp [z]
      subst z
      exact go hn
    · simp [z]
      have ex : ixI (.lsr true (ws.map .str)) (.int pl) (h ++ [.lst (tn.map .int)]) = .ok (.str (sI rs[n])) (h ++ [.lst (tn.map .int)]) := by rw [epl]; exact ix_w (w1 n hn)
      rw [ex]
      simp [no_brack]
      exact go hn
  · have hn' : n = rs.length := by omega
    rcases b with er | ⟨z, r, er⟩
    · have l1 : ¬ pl < ws.length := by rw [wl, er]; simp; omega
      simp [l1]
      exact stop hn'
    · have l1 : pl < ws.length := by rw [wl, er]; simp; omega
      have ew : ws[p + n]? = some (Str.ofString ")") := by
        rw [drop_at e, List.getElem?_append_right (by simp; omega), er]
        simp [hn']
      simp [l1, z]
      have ex : ixI (.lsr true (ws.map .str)) (.int pl) (h ++ [.lst (tn.map .int)]) = .ok (.str (Str.ofString ")")) (h ++ [.lst (tn.map .int)]) := by rw [epl]; exact ix_w ew
      rw [ex]
      simp
      exact stop hn'
theorem number_q (u : U372 P) {ws : List Str} {n : Nat} {q i lo hi : Int} (eq : q = (n : Nat)) (hn : ws[n]? = some (sI i)) (l : i.natAbs ≤ 1000) (h1 : lo ≤ i) (h2 : i ≤ hi) : callF P (k + 3) 372 [.lsr true (ws.map .str), .int q, .int lo, .int hi] h = .ok (.int i) h := by
  subst eq
  exact number_at_eq u hn (fig_s l) h1 h2
theorem word_q (u : U344 P) {ws : List Str} {n : Nat} {q : Int} {w : Str} (eq : q = (n : Nat)) (hn : ws[n]? = some w) : callF P (k + 1) 344 [.lsr true (ws.map .str), .int q] h = .ok (.str w) h := by
  subst eq
  obtain ⟨l1, e1⟩ := List.getElem?_eq_some_iff.mp hn
  rw [word_at_eq u l1, e1]
theorem check_q (u : U345 P) {ws : List Str} {n : Nat} {q : Int} {w : Str} (eq : q = (n : Nat)) (hn : ws[n]? = some w) : callF P (k + 2) 345 [.lsr true (ws.map .str), .int q, .str w] h = .ok .non h := by
  refine W_eq.mp (W_def u.1 (by decide) rfl ?_)
  refine W.step ?_
  simp [D345]
  rw [word_q u.2 eq hn]
  simp
theorem row_q (u : U373 P) {ws rest : List Str} {p : Nat} {q : Int} {rs : List Int} {lo hi most lev : Int} (eq : q = (p : Nat)) (e : ws.drop p = rs.map sI ++ rest) (a : Asc lo hi rs) (lm : (rs.length : Int) ≤ most) (l1 : -1000 ≤ lo) (l2 : hi ≤ 1000) (b : Beh lev rest) :
    callF P (k + 4) 373 [.lsr true (ws.map .str), .int q, .int lo, .int hi, .int most, .int lev] h = .ok (.tup [.tup (rs.map .int), .int (q + rs.length)]) h := by
  subst eq
  exact row_at_eq u e a lm l1 l2 b
theorem ix_q {ws : List Str} {p : Nat} {q : Int} {w : Str} (eq : q = (p : Nat)) (e : ws[p]? = some w) : ixI (.lsr true (ws.map .str)) (.int q) h = .ok (.str w) h := by
  subst eq
  exact ix_w e
theorem drop_drop {ws A : List Str} {p n : Nat} (e : ws.drop p = A) : ws.drop (p + n) = A.drop n := by rw [← e, List.drop_drop]
def NS.row : NS → Bool
  | .rests _ _ => true
  | .list _ => true
  | _ => false
theorem leaf_q (u : U374 P) {ws rest : List Str} {p l : Nat} {q lev f : Int} {s : NS} (eq : q = (p : Nat)) (o : s.ok (l + 1) f) (n1 : s.n = 1) (e : ws.drop p = wds s ++ rest) (b : s.row = true → Beh lev rest) :
    callF P (k + 5) 374 [.lsr true (ws.map .str), .int q, .int lev] h = .ok (.tup [sv s, .int (q + (wds s).length)]) h := by
  obtain ⟨u374, u345, u372, u373⟩ := u
  refine W_eq.mp (W_def u374 (by decide) rfl ?_)
  refine W.step ?_
  cases s with
  | moved s a b => rw [NS.n] at n1; have := s.n_pos; omega
  | either s t => rw [NS.n] at n1; have := s.n_pos; omega
  | rests m rs =>
    obtain ⟨m1, m2, a⟩ := o
    have al := asc_len a
    have e0 : ws[p]? = some (Str.ofString "rests") := by have := drop_at (n := 0) e; simpa [wds] using this
    have e1 : ws[p + 1]? = some (sI m) := by have := drop_at (n := 1) e; simpa [wds] using this
    have e2 : ws[p + 2]? = some (Str.ofString ":") := by have := drop_at (n := 2) e; simpa [wds] using this
    have e3 : ws.drop (p + 3) = rs.map sI ++ rest := by have := drop_drop (n := 3) e; simpa [wds] using this
    simp [D374]
    rw [ix_q eq e0]
    simp
    refine Nxt.go ?_
    simp
    refine W.step ?_
    simp
    rw [number_q (q := q + 1) (n := p + 1) u372 (by omega) e1 (by omega) m1 m2]
    simp
    refine Nxt.go ?_
    simp
    rw [check_q (q := q + 2) (n := p + 2) u345 (by omega) e2]
    simp
    refine Nxt.go ?_
    simp
    rw [row_q (q := q + 3) (p := p + 3) u373 (by omega) e3 a (by omega) (by omega) (by omega) (b rfl)]
    simp
    refine Nxt.go ?_
    simp
    simp [sv, wds]
    omega
  | list ns =>
    obtain ⟨a, nl⟩ := o
    have e0 : ws[p]? = some (Str.ofString "list") := by have := drop_at (n := 0) e; simpa [wds] using this
    have e2 : ws[p + 1]? = some (Str.ofString ":") := by have := drop_at (n := 1) e; simpa [wds] using this
    have e3 : ws.drop (p + 2) = ns.map sI ++ rest := by have := drop_drop (n := 2) e; simpa [wds] using this
    simp [D374]
    rw [ix_q eq e0]
    simp
    refine Nxt.go ?_
    simp
    refine Nxt.go ?_
    simp
    refine W.step ?_
    simp
    rw [check_q (q := q + 1) (n := p + 1) u345 (by omega) e2]
    simp
    refine Nxt.go ?_
    simp
    rw [row_q (q := q + 2) (p := p + 2) u373 (by omega) e3 a (by omega) (by omega) (by omega) (b rfl)]
    simp
    refine Nxt.go ?_
    simp
    simp [sv, wds]
    omega
  | powers g =>
    obtain ⟨g1, g2⟩ := o
    have e0 : ws[p]? = some (Str.ofString "powers") := by have := drop_at (n := 0) e; simpa [wds] using this
    have e1 : ws[p + 1]? = some (sI g) := by have := drop_at (n := 1) e; simpa [wds] using this
    simp [D374]
    rw [ix_q eq e0]
    simp
    refine Nxt.go ?_
    simp
    refine Nxt.go ?_
    simp
    refine Nxt.go ?_
    simp
    refine W.step ?_
    simp
    rw [number_q (q := q + 1) (n := p + 1) u372 (by omega) e1 (by omega) g1 g2]
    simp [sv, wds]
  | squares =>
    have e0 : ws[p]? = some (Str.ofString "squares") := by have := drop_at (n := 0) e; simpa [wds] using this
    simp [D374]
    rw [ix_q eq e0]
    simp
    refine Nxt.go ?_
    simp
    refine Nxt.go ?_
    simp
    refine Nxt.go ?_
    simp
    refine Nxt.go ?_
    simp
    simp [sv, wds]
  | primes =>
    have e0 : ws[p]? = some (Str.ofString "primes") := by have := drop_at (n := 0) e; simpa [wds] using this
    simp [D374]
    rw [ix_q eq e0]
    simp
    refine Nxt.go ?_
    simp
    refine Nxt.go ?_
    simp
    refine Nxt.go ?_
    simp
    refine Nxt.go ?_
    simp
    simp [sv, wds]
end
end Pi
end

section
set_option maxHeartbeats 8000000
namespace Pi
open PySem
section
variable {P : Tab} {k : Nat} {h : IH}
theorem inner_of (u : U378 P) {ws rest : List Str} {p : Nat} {q lev room f : Int} {pl : Bool} {s : NS} (eq : q = (p : Nat)) (e : ws.drop p = Str.ofString "(" :: (wds s ++ Str.ofString ")" :: rest))
    (S : callF P (k + 2) 378 [.lsr true (ws.map .str), .int (q + 1), .int lev, .int room, .int f, .bl pl] h = .ok (.tup [sv s, .int (q + 1 + (wds s).length), .int s.n]) h) :
    callF P (k + 3) 376 [.lsr true (ws.map .str), .int q, .int lev, .int room, .int f, .bl pl] h = .ok (.tup [sv s, .int (q + 1 + (wds s).length + 1), .int s.n]) h := by
  obtain ⟨u375, u376, u377, u378, u344, u345, u372, u374⟩ := u
  have e0 : ws[p]? = some (Str.ofString "(") := by have := drop_at (n := 0) e; simpa using this
  have e1 : ws[p + (1 + (wds s).length)]? = some (Str.ofString ")") := by
    have := drop_at (n := 1 + (wds s).length) e
    rw [this, show 1 + (wds s).length = (wds s).length + 1 by omega, List.getElem?_cons_succ, List.getElem?_append_right (Nat.le_refl _)]
    simp
  refine W_eq.mp (W_def u376 (by decide) rfl ?_)
  refine W.step ?_
  simp [D376]
  rw [check_q u345 eq e0]
  simp
  refine Nxt.go ?_
  simp
  rw [S]
  simp
  refine Nxt.go ?_
  simp
  rw [check_q (q := q + 1 + (wds s).length) (n := p + (1 + (wds s).length)) u345 (by push_cast; omega) e1]
  simp
  refine Nxt.go ?_
  simp
  rw [seal_nrS (by simp [nrV, nrVs, nrV_sv])]
  simp
theorem inT {w : Str} (m : w ∈ [Str.ofString "powers", Str.ofString "squares", Str.ofString "primes"]) : cmpI .In (.str w) (.tup [.str (Str.ofString "powers"), .str (Str.ofString "squares"), .str (Str.ofString "primes")]) h = .ok (.bl true) h := by
  have : inI h (.str w) (.tup [.str (Str.ofString "powers"), .str (Str.ofString "squares"), .str (Str.ofString "primes")]) = some true := by
    unfold inI
    simp only [dataOf, allM, Option.map_some]
    simp at m
    rcases m with rfl | rfl | rfl <;> decide +kernel
  unfold cmpI
  simp only [this]
theorem inT_powers : cmpI .In (.str (Str.ofString "powers")) (.tup [.str (Str.ofString "powers"), .str (Str.ofString "squares"), .str (Str.ofString "primes")]) h = .ok (.bl true) h := inT (by simp)
theorem inT_squares : cmpI .In (.str (Str.ofString "squares")) (.tup [.str (Str.ofString "powers"), .str (Str.ofString "squares"), .str (Str.ofString "primes")]) h = .ok (.bl true) h := inT (by simp)
theorem inT_primes : cmpI .In (.str (Str.ofString "primes")) (.tup [.str (Str.ofString "powers"), .str (Str.ofString "squares"), .str (Str.ofString "primes")]) h = .ok (.bl true) h := inT (by simp)
theorem set_q (u : U378 P) {ws : List Str} : ∀ (l : Nat) (q : Int) (p : Nat) (s : NS) (lev room f : Int) (pl : Bool) (rest : List Str), q = (p : Nat) → s.ok l f → lev + l = 7 → 1 ≤ lev → (s.n : Int) ≤ room → (pl = true → s.plain = true) → ws.drop p = wds s ++ rest → (s.row = true → Beh lev rest) →
    callF P (k + 3 * l + 3) 378 [.lsr true (ws.map .str), .int q, .int lev, .int room, .int f, .bl pl] h = .ok (.tup [sv s, .int (q + (wds s).length), .int s.n]) h := by
  have uu := u
  obtain ⟨u375, u376, u377, u378, u344, u345, u372, u374⟩ := u
  intro l
  induction l with
  | zero => intro q p s lev room f pl rest eq o; cases s <;> exact o.elim
  | succ l ih =>
    intro q p s lev room f pl rest eq o hl h1 hr hp e b
    have leaf : s.n = 1 → callF P (k + 3 * (l + 1) + 2) 374 [.lsr true (ws.map .str), .int q, .int lev] h = .ok (.tup [sv s, .int (q + (wds s).length)]) h := fun n1 => by
      have := leaf_q (k := k + 3 * l) (h := h) u374 eq o n1 e b
      rw [show k + 3 * (l + 1) + 2 = k + 3 * l + 5 by omega]
      exact this
    rw [show k + 3 * (l + 1) + 3 = (k + 3 * (l + 1) + 2) + 1 by omega]
    refine W_eq.mp (W_def u378 (by decide) rfl ?_)
    refine W.step ?_
    cases s with
    | rests m rs =>
      have e0 : ws[p]? = some (Str.ofString "rests") := by have := drop_at (n := 0) e; simpa [wds] using this
      have lf := leaf rfl
      simp [D378]
      rw [word_q u344 eq e0]
      simp
      refine Nxt.go ?_
      simp
      refine Nxt.go ?_
      simp
      refine Nxt.go ?_
      simp
      refine W.step ?_
      simp
      rw [lf]
      simp
      refine Nxt.go ?_
      simp
      rw [seal_nrS (by simp [nrV, nrVs, nrV_sv])]
      simp [NS.n]
    | list ns =>
      have e0 : ws[p]? = some (Str.ofString "list") := by have := drop_at (n := 0) e; simpa [wds] using this
      have lf := leaf rfl
      simp [D378]
      rw [word_q u344 eq e0]
      simp
      refine Nxt.go ?_
      simp
      refine Nxt.go ?_
      simp
      refine Nxt.go ?_
      simp
      rw [show decide (Str.ofString "list" = Str.ofString "rests") = false by decide +kernel]
      simp
      refine W.step ?_
      simp
      rw [lf]
      simp
      refine Nxt.go ?_
      simp
      rw [seal_nrS (by simp [nrV, nrVs, nrV_sv])]
      simp [NS.n]
    | powers g =>
      have e0 : ws[p]? = some (Str.ofString "powers") := by have := drop_at (n := 0) e; simpa [wds] using this
      have lf := leaf rfl
      have pf : pl = false := by cases pl with | false => rfl | true => exact absurd (hp rfl) (by simp [NS.plain])
      subst pf
      simp [D378]
      rw [word_q u344 eq e0]
      simp
      refine Nxt.go ?_
      simp
      refine Nxt.go ?_
      simp
      refine Nxt.go ?_
      simp
      rw [show decide (Str.ofString "powers" = Str.ofString "rests") = false by decide +kernel]
      simp
      rw [show decide (Str.ofString "powers" = Str.ofString "list") = false by decide +kernel]
      simp
      rw [inT_powers]
      simp
      refine W.step ?_
      simp
      rw [lf]
      simp
      refine Nxt.go ?_
      simp
      rw [seal_nrS (by simp [nrV, nrVs, nrV_sv])]
      simp [NS.n]
    | squares =>
      have e0 : ws[p]? = some (Str.ofString "squares") := by have := drop_at (n := 0) e; simpa [wds] using this
      have lf := leaf rfl
      have pf : pl = false := by cases pl with | false => rfl | true => exact absurd (hp rfl) (by simp [NS.plain])
      subst pf
      simp [D378]
      rw [word_q u344 eq e0]
      simp
      refine Nxt.go ?_
      simp
      refine Nxt.go ?_
      simp
      refine Nxt.go ?_
      simp
      rw [show decide (Str.ofString "squares" = Str.ofString "rests") = false by decide +kernel]
      simp
      rw [show decide (Str.ofString "squares" = Str.ofString "list") = false by decide +kernel]
      simp
      rw [inT_squares]
      simp
      refine W.step ?_
      simp
      rw [lf]
      simp
      refine Nxt.go ?_
      simp
      rw [seal_nrS (by simp [nrV, nrVs, nrV_sv])]
      simp [NS.n]
    | primes =>
      have e0 : ws[p]? = some (Str.ofString "primes") := by have := drop_at (n := 0) e; simpa [wds] using this
      have lf := leaf rfl
      have pf : pl = false := by cases pl with | false => rfl | true => exact absurd (hp rfl) (by simp [NS.plain])
      subst pf
      simp [D378]
      rw [word_q u344 eq e0]
      simp
      refine Nxt.go ?_
      simp
      refine Nxt.go ?_
      simp
      refine Nxt.go ?_
      simp
      rw [show decide (Str.ofString "primes" = Str.ofString "rests") = false by decide +kernel]
      simp
      rw [show decide (Str.ofString "primes" = Str.ofString "list") = false by decide +kernel]
      simp
      rw [inT_primes]
      simp
      refine W.step ?_
      simp
      rw [lf]
      simp
      refine Nxt.go ?_
      simp
      rw [seal_nrS (by simp [nrV, nrVs, nrV_sv])]
      simp [NS.n]
    | moved s a b0 =>
      have e0 : ws[p]? = some (Str.ofString "moved") := by have := drop_at (n := 0) e; simpa [wds] using this
      have e1 : ws[p + 1]? = some (sI a) := by have := drop_at (n := 1) e; simpa [wds] using this
      have e2 : ws[p + 2]? = some (sI b0) := by have := drop_at (n := 2) e; simpa [wds] using this
      have e3 : ws.drop (p + 3) = Str.ofString "(" :: (wds s ++ Str.ofString ")" :: rest) := by have := drop_drop (n := 3) e; simpa [wds] using this
      have e4 : ws.drop (p + 4) = wds s ++ Str.ofString ")" :: rest := by have := drop_drop (n := 4) e; simpa [wds] using this
      obtain ⟨a1, a2, a0, b1, b2, c, o⟩ := o
      rw [NS.n] at hr
      have np := s.n_pos
      have l1 : 1 ≤ l := by
        cases l with
        | zero => cases s <;> exact o.elim
        | succ l => omega
      rw [Int.mul_comm] at o c
      have S := ih (q + 3 + 1) (p + 4) s (lev + 1) (room - 1) (a * f) pl (Str.ofString ")" :: rest) (by push_cast; omega) o (by omega) (by omega) (by omega) hp e4 (fun _ => .inr ⟨by omega, rest, rfl⟩)
      have I := inner_of (k := k + 3 * l + 1) uu (q := q + 3) (p := p + 3) (by push_cast; omega) e3 (by rw [show k + 3 * l + 1 + 2 = k + 3 * l + 3 by omega]; exact S)
      have M : callF P (k + 3 * (l + 1) + 2) 377 [.lsr true (ws.map .str), .int q, .int lev, .int room, .int f, .bl pl] h = .ok (.tup [sv (.moved s a b0), .int (q + 3 + 1 + (wds s).length + 1), .int (s.n + 1)]) h := by
        rw [show k + 3 * (l + 1) + 2 = (k + 3 * l + 4) + 1 by omega]
        refine W_eq.mp (W_def u377 (by decide) rfl ?_)
        refine W.step ?_
        simp [D377]
        rw [number_q (k := k + 3 * l + 1) (q := q + 1) (n := p + 1) u372 (by push_cast; omega) e1 (by omega) a1 a2]
        simp
        refine Nxt.go ?_
        simp
        simp [a0]
        rw [b_mulL (by omega)]
        have c4 : ¬ (400 : Int) < (a * f).natAbs := by omega
        simp [c4]
        refine Nxt.go ?_
        simp
        rw [number_q (k := k + 3 * l + 1) (q := q + 2) (n := p + 2) u372 (by push_cast; omega) e2 (by omega) b1 b2]
        simp
        refine Nxt.go ?_
        simp
        rw [b_mulL (by omega)]
        simp
        rw [I]
        simp
        refine Nxt.go ?_
        simp
        rw [seal_nrS (by simp [nrV, nrVs, nrV_sv])]
        simp [sv]
      simp [D378]
      rw [word_q u344 eq e0]
      simp
      refine Nxt.go ?_
      simp
      have l6 : lev < 6 := by omega
      have r2 : (2 : Int) ≤ room := by omega
      simp [l6, r2]
      refine W.step ?_
      simp
      rw [M]
      simp
      rw [seal_nrS (by simp [nrV, nrVs, nrV_sv])]
      simp [NS.n, wds]
      omega
    | either s t =>
      have e0 : ws[p]? = some (Str.ofString "either") := by have := drop_at (n := 0) e; simpa [wds] using this
      have e1 : ws.drop (p + 1) = Str.ofString "(" :: (wds s ++ Str.ofString ")" :: (Str.ofString "(" :: (wds t ++ Str.ofString ")" :: rest))) := by have := drop_drop (n := 1) e; simpa [wds] using this
      have e2 : ws.drop (p + 2) = wds s ++ Str.ofString ")" :: (Str.ofString "(" :: (wds t ++ Str.ofString ")" :: rest)) := by have := drop_drop (n := 2) e; simpa [wds] using this
      have e3 : ws.drop (p + 2 + ((wds s).length + 1)) = Str.ofString "(" :: (wds t ++ Str.ofString ")" :: rest) := by
        rw [drop_drop (n := (wds s).length + 1) e2, ← List.drop_drop, List.drop_left]
        rfl
      have e4 : ws.drop (p + 2 + ((wds s).length + 1) + 1) = wds t ++ Str.ofString ")" :: rest := by
        rw [drop_drop (n := 1) e3]
        rfl
      obtain ⟨o1, o2, q1, q2⟩ := o
      rw [NS.n] at hr
      have np := s.n_pos
      have np2 := t.n_pos
      have l1 : 1 ≤ l := by
        cases l with
        | zero => cases s <;> exact o1.elim
        | succ l => omega
      have S := ih (q + 1 + 1) (p + 2) s (lev + 1) (room - 2) f true (Str.ofString ")" :: (Str.ofString "(" :: (wds t ++ Str.ofString ")" :: rest))) (by push_cast; omega) o1 (by omega) (by omega) (by omega) (fun _ => q1) e2 (fun _ => .inr ⟨by omega, _, rfl⟩)
      have I := inner_of (k := k + 3 * l + 1) uu (q := q + 1) (p := p + 1) (by push_cast; omega) e1 (by rw [show k + 3 * l + 1 + 2 = k + 3 * l + 3 by omega]; exact S)
      have S2 := ih (q + 1 + 1 + (wds s).length + 1 + 1) (p + 2 + ((wds s).length + 1) + 1) t (lev + 1) (room - 1 - s.n) f true (Str.ofString ")" :: rest) (by push_cast; omega) o2 (by omega) (by omega) (by omega) (fun _ => q2) e4 (fun _ => .inr ⟨by omega, _, rfl⟩)
      have I2 := inner_of (k := k + 3 * l + 1) uu (q := q + 1 + 1 + (wds s).length + 1) (p := p + 2 + ((wds s).length + 1)) (by push_cast; omega) e3 (by rw [show k + 3 * l + 1 + 2 = k + 3 * l + 3 by omega]; exact S2)
      have M : callF P (k + 3 * (l + 1) + 2) 375 [.lsr true (ws.map .str), .int q, .int lev, .int room, .int f] h = .ok (.tup [sv (.either s t), .int (q + 1 + 1 + (wds s).length + 1 + 1 + (wds t).length + 1), .int (s.n + t.n + 1)]) h := by
        rw [show k + 3 * (l + 1) + 2 = (k + 3 * l + 4) + 1 by omega]
        refine W_eq.mp (W_def u375 (by decide) rfl ?_)
        refine W.step ?_
        simp [D375]
        rw [I]
        simp
        refine Nxt.go ?_
        simp
        rw [I2]
        simp
        refine Nxt.go ?_
        simp
        rw [seal_nrS (by simp [nrV, nrVs, nrV_sv])]
        simp [sv]
      simp [D378]
      rw [word_q u344 eq e0]
      simp
      refine Nxt.go ?_
      simp
      refine Nxt.go ?_
      simp
      have l6 : lev < 6 := by omega
      have r3 : (3 : Int) ≤ room := by omega
      simp [l6, r3]
      refine W.step ?_
      simp
      rw [M]
      simp
      rw [seal_nrS (by simp [nrV, nrVs, nrV_sv])]
      simp [NS.n, wds]
      omega
end
end Pi
end

section
set_option maxHeartbeats 8000000
namespace Pi
open PySem
theorem cut_1 {h0 g : IH} {c : Nat} {n : Int} : cutX h0 ⟨c, [.int n]⟩ (h0 ++ g) = .ex ⟨c, [.int n]⟩ h0 := by
  unfold cutX
  rw [if_pos ⟨old_app, rfl⟩, List.take_left]
theorem cut_10 {h0 : IH} {c : Nat} {n : Int} : cutX h0 ⟨c, [.int n]⟩ h0 = .ex ⟨c, [.int n]⟩ h0 := by
  have := cut_1 (h0 := h0) (g := []) (c := c) (n := n)
  rwa [List.append_nil] at this
def fgs (w : Str) : List Nat := if (TL.tl w).take 1 = [45] then (TL.tl w).drop 1 else TL.tl w
def badW (w : Str) : Bool := decide (fgs w = []) || decide (61 < (fgs w).length) || (fgs w).any (fun c => !decide (48 ≤ c ∧ c ≤ 57)) || (decide ((fgs w).head? = some 48) && decide (w ≠ Str.ofString "0"))
theorem fgs_len {w : Str} : (fgs w).length ≤ w.length := by
  unfold fgs
  rw [TL.len_tl]
  split
  · rw [List.length_drop]; omega
  · exact Nat.le_refl _
section
variable {P : Tab} {k : Nat} {h : IH}
theorem integer_bad (u : U371 P) {w : Str} (l : w.length ≤ 1000) (b : badW w = true) : callF P (k + 1) 371 [.str w] h = .ok .non h := by
  have li : w.length ≤ LIM := by unfold LIM; omega
  refine W_eq.mp (W_def u (by decide) rfl ?_)
  refine W.step ?_
  simp [D371]
  refine Nxt.go ?_
  obtain ⟨G, hG⟩ : ∃ G : Fl → IH → Prop, ∀ fl h1, G fl h1 ↔ (∃ F : Str, fl = .nx [some (.str w), some (.str F), none] ∧ h1 = h ∧ TL.tl F = fgs w) := ⟨_, fun _ _ => Iff.rfl⟩
  refine WS.mono (Q := G) ?_ ?_
  · simp
    rw [sl_s li]
    simp
    by_cases c : L2.cutS w none (some 1) = Str.ofString "-"
    · have t : (TL.tl w).take 1 = [45] := by rw [← sl1, c]; decide +kernel
      simp [c]
      refine W.step ?_
      simp
      rw [sl_s li]
      simp
      exact (hG _ _).mpr ⟨_, rfl, rfl, by rw [sl2, fgs, if_pos t]⟩
    · have t : ¬ (TL.tl w).take 1 = [45] := fun z => c (str_ext (by rw [sl1, z]; decide +kernel))
      simp [c]
      exact (hG _ _).mpr ⟨w, rfl, rfl, by rw [fgs, if_neg t]⟩
  · intro fl h1 hg
    obtain ⟨F, rfl, rfl, eF⟩ := (hG _ _).mp hg
    have lf : F.length ≤ 1000 := by
      rw [TL.len_tl, eF]
      have := fgs_len (w := w)
      omega
    have lF : F.length ≤ LIM := by unfold LIM; omega
    refine Nxt.go ?_
    by_cases e0 : F = Str.ofString ""
    · simp [e0]
      refine W.step ?_
      simp
    · simp [e0]
      rw [len_s lF]
      have f0 : fgs w ≠ [] := fun z => e0 (str_ext (by rw [eF, z]; decide +kernel))
      by_cases l2 : (61 : Int) < F.length
      · simp [l2]
        refine W.step ?_
        simp
      · have l3 : ¬ 61 < (fgs w).length := by rw [← eF, ← TL.len_tl]; omega
        simp [l2]
        refine Nxt.go ?_
        simp
        rw [show valI (.str F) h1 = .ok (.vals (F.cps.toList.map fun c => .str ⟨#[c]⟩)) h1 from rfl]
        simp
        obtain ⟨J, hJ⟩ : ∃ J : Nat → Sl → IH → Prop, ∀ n σ h2, J n σ h2 ↔ (∃ c2 : Option IV, σ = [some (.str w), some (.str F), c2] ∧ h2 = h1 ∧ ∀ c ∈ (fgs w).take n, 48 ≤ c ∧ c ≤ 57) := ⟨_, fun _ _ _ => Iff.rfl⟩
        refine W_forM J ((hJ _ _ _).mpr ⟨none, rfl, rfl, by simp⟩) ?_ ?_
        · intro n t σ h2 hn hj
          obtain ⟨c2, rfl, rfl, hd⟩ := (hJ _ _ _).mp hj
          have hn' : (fgs w)[n]? = some t := by rw [← eF]; exact hn
          simp
          refine W.step ?_
          simp
          rw [notIn_s]
          by_cases dt : 48 ≤ t ∧ t ≤ 57
          · have dm := dig_in.mpr dt
            simp only [dm]
            simp
            refine (hJ _ _ _).mpr ⟨_, rfl, rfl, ?_⟩
            rw [List.take_succ, hn']
            intro c m
            rcases List.mem_append.mp m with m | m
            · exact hd c m
            · have : c = t := by simpa using m
              rw [this]; exact dt
          · have dm : ¬ t ∈ (Str.ofString "0123456789").cps.toList := fun z => dt (dig_in.mp z)
            simp only [dm]
            simp
            refine W.step ?_
            simp
        · intro σ h2 hj
          obtain ⟨c2, rfl, rfl, hd⟩ := (hJ _ _ _).mp hj
          have hl : (fgs w).take (F.cps.toList).length = fgs w := by
            rw [show F.cps.toList = TL.tl F from rfl, eF, List.take_length]
          rw [hl] at hd
          have ha : (fgs w).any (fun c => !decide (48 ≤ c ∧ c ≤ 57)) = false := by
            rw [List.any_eq_false]
            intro c m
            simp [hd c m]
          unfold badW at b
          rw [ha, decide_eq_false f0, decide_eq_false l3] at b
          simp at b
          obtain ⟨b1, b2⟩ := b
          obtain ⟨r, er⟩ : ∃ r, fgs w = 48 :: r := by
            cases q : fgs w with
            | nil => exact absurd q f0
            | cons a r => rw [q] at b1; simp at b1; exact ⟨r, by rw [b1]⟩
          have ez : (⟨#[48]⟩ : Str) = Str.ofString "0" := by decide +kernel
          refine Nxt.go ?_
          simp
          rw [ix_s lF (eF.trans er)]
          simp [ez, b2]
          refine W.step ?_
          simp
theorem word_out (u : U344 P) {ws : List Str} {n : Nat} (hn : ws.length ≤ n) : callF P (k + 1) 344 [.lsr true (ws.map .str), .int n] h = .ex ⟨19, [.int ws.length]⟩ h := by
  refine W_eqX.mp (W_def u (by decide) rfl ?_)
  refine W.step ?_
  have l : ((ws.length : Int) ≤ n) := by omega
  simp [D344, l]
  refine W.step ?_
  simp [cut_10]
inductive Tok (w : Str) : Option Int → Prop where
  | num {i : Int} (e : w = sI i) (l : (TL.numL i.natAbs).length ≤ 61) : Tok w (some i)
  | bad (l : w.length ≤ 1000) (b : badW w = true) : Tok w none
def tokV : Option Int → IV
  | some i => .int i
  | none => .non
theorem integer_tok (u : U371 P) {w : Str} {o : Option Int} (t : Tok w o) : callF P (k + 1) 371 [.str w] h = .ok (tokV o) h := by
  cases t with
  | num e l => subst e; exact integer_of_eq u l
  | bad l b => exact integer_bad u l b
theorem number_x (u : U372 P) {ws : List Str} {n : Nat} {w : Str} {o : Option Int} {lo hi : Int} (hn : ws[n]? = some w) (t : Tok w o) (no : ∀ i, o = some i → ¬ (lo ≤ i ∧ i ≤ hi)) : callF P (k + 3) 372 [.lsr true (ws.map .str), .int n, .int lo, .int hi] h = .ex ⟨19, [.int n]⟩ h := by
  obtain ⟨u372, u7, u344, u371⟩ := u
  obtain ⟨l1, e1⟩ := List.getElem?_eq_some_iff.mp hn
  refine W_eqX.mp (W_def u372 (by decide) rfl ?_)
  refine W.step ?_
  simp [D372]
  rw [word_at_eq u344 l1, e1]
  simp
  rw [integer_tok u371 t]
  simp
  refine Nxt.go ?_
  simp
  have r : rngB lo hi (tokV o) = false := by
    cases o with
    | none => rfl
    | some i =>
      have := no i rfl
      simp [tokV, rngB]
      omega
  rw [in_range_eq u7 (by cases o <;> rfl), r]
  simp
  refine W.step ?_
  simp [cut_10]
theorem number_out (u : U372 P) {ws : List Str} {n : Nat} {lo hi : Int} (hn : ws.length ≤ n) : callF P (k + 3) 372 [.lsr true (ws.map .str), .int n, .int lo, .int hi] h = .ex ⟨19, [.int ws.length]⟩ h := by
  obtain ⟨u372, u7, u344, u371⟩ := u
  refine W_eqX.mp (W_def u372 (by decide) rfl ?_)
  refine W.step ?_
  simp [D372]
  rw [word_out u344 hn]
  simp [cut_10]
structure TopOK (ts : List Int) : Prop where
  l11 : ts.length ≤ 11
  sz : ∀ t ∈ ts, t.natAbs < 1000000000000000000000000000000000000000000000000000000000000
  nz : ∀ x, ts[10]? = some x → x ≠ 0
inductive TopEnd (ts : List Int) : List Str → Prop where
  | out (ne : ts ≠ []) : TopEnd ts []
  | bad {w : Str} {o : Option Int} {r : List Str} (t : Tok w o) (no : ∀ i, o = some i → 1000000000000000000000000000000000000000000000000000000000000 ≤ i.natAbs) (s : ts = [] ∨ w ≠ Str.ofString "/") : TopEnd ts (w :: r)
  | full {i : Int} {r : List Str} (l : ts.length = 11) (z : i.natAbs < 1000000000000000000000000000000000000000000000000000000000000) : TopEnd ts (sI i :: r)
  | zero {r : List Str} (l : ts.length = 10) : TopEnd ts (sI 0 :: r)
  | last {r : List Str} (l : 1 < ts.length) (z : ts.getLast? = some 0) : TopEnd ts (Str.ofString "/" :: r)
end
end Pi
end

section
set_option maxHeartbeats 8000000
namespace Pi
open PySem
def NB (X : List Str) (lo hi : Int) : Prop := X = [] ∨ ∃ w o r, X = w :: r ∧ Tok w o ∧ ∀ i, o = some i → ¬ (lo ≤ i ∧ i ≤ hi)
def CB (X : List Str) (w : Str) : Prop := X = [] ∨ ∃ w' r, X = w' :: r ∧ w' ≠ w
inductive RB (lev lo hi most : Int) : List Str → Nat → Prop where
  | first {X : List Str} (b : NB X lo hi) : RB lev lo hi most X 0
  | more {rs : List Int} {w : Str} {r : List Str} {x : Int} (a : Asc lo hi rs) (l : (rs.length : Int) ≤ most) (x0 : rs.getLast? = some x) (c : lev = 1 ∨ w ≠ Str.ofString ")") (b : (rs.length : Int) = most ∨ ∃ o, Tok w o ∧ ∀ i, o = some i → ¬ (x + 1 ≤ i ∧ i ≤ hi)) : RB lev lo hi most (rs.map sI ++ w :: r) rs.length
theorem drop_len {ws X : List Str} {p : Nat} (e : ws.drop p = X) (hp : p ≤ ws.length) : ws.length = p + X.length := by
  rw [← e, List.length_drop]; omega
section
variable {P : Tab} {k : Nat} {h : IH}
theorem number_nb (u : U372 P) {ws X : List Str} {p : Nat} {q lo hi : Int} (eq : q = (p : Nat)) (e : ws.drop p = X) (hp : p ≤ ws.length) (b : NB X lo hi) : callF P (k + 3) 372 [.lsr true (ws.map .str), .int q, .int lo, .int hi] h = .ex ⟨19, [.int q]⟩ h := by
  subst eq
  have l := drop_len e hp
  rcases b with rfl | ⟨w, o, r, rfl, t, no⟩
  · simp at l
    have := number_out (k := k) (h := h) u (ws := ws) (n := p) (lo := lo) (hi := hi) (by omega)
    rw [l] at this
    exact this
  · have e0 : ws[p]? = some w := by have := drop_at (n := 0) e; simpa using this
    exact number_x u e0 t no
theorem check_cb (u : U345 P) {ws X : List Str} {p : Nat} {q : Int} {w : Str} (eq : q = (p : Nat)) (e : ws.drop p = X) (hp : p ≤ ws.length) (b : CB X w) : callF P (k + 2) 345 [.lsr true (ws.map .str), .int q, .str w] h = .ex ⟨19, [.int q]⟩ h := by
  subst eq
  have l := drop_len e hp
  refine W_eqX.mp (W_def u.1 (by decide) rfl ?_)
  refine W.step ?_
  simp [D345]
  rcases b with rfl | ⟨w', r, rfl, no⟩
  · simp at l
    rw [word_out u.2 (by omega), l]
    simp [cut_10]
  · have e0 : ws[p]? = some w' := by have := drop_at (n := 0) e; simpa using this
    rw [word_q u.2 rfl e0]
    simp [no]
    refine W.step ?_
    simp [cut_10]
theorem row_bad (u : U373 P) {ws X : List Str} {p n : Nat} {q lo hi most lev : Int} (eq : q = (p : Nat)) (e : ws.drop p = X) (hp : p ≤ ws.length) (l1 : -1000 ≤ lo) (l2 : hi ≤ 1000) (b : RB lev lo hi most X n) :
    callF P (k + 4) 373 [.lsr true (ws.map .str), .int q, .int lo, .int hi, .int most, .int lev] h = .ex ⟨19, [.int (q + n)]⟩ h := by
  obtain ⟨u373, u372⟩ := u
  cases b with
  | first b =>
    refine W_eqX.mp (W_def u373 (by decide) rfl ?_)
    refine W.step ?_
    simp [D373]
    rw [number_nb u372 eq e hp b]
    simp [cut_10]
  | @more rs w r x a lm x0 cc bb =>
    subst eq
    have np := List.length_pos_iff.mpr a.ne
    have w1 : ∀ n (hn : n < rs.length), ws[p + n]? = some (sI rs[n]) := fun n hn => by
      rw [drop_at e, List.getElem?_append_left (by simpa using hn), List.getElem?_map, List.getElem?_eq_getElem hn]
      rfl
    have w2 : ws[p + rs.length]? = some w := by
      rw [drop_at e, List.getElem?_append_right (by simp)]
      simp
    have wl := drop_len e hp
    rw [List.length_append, List.length_map, List.length_cons] at wl
    have sm : ∀ n (hn : n < rs.length), (TL.numL (rs[n]).natAbs).length ≤ 61 := fun n hn => by
      have := a.rg _ (List.getElem_mem hn)
      exact fig_s (by omega)
    refine W_eqX.mp (W_def u373 (by decide) rfl ?_)
    refine W.step ?_
    simp [D373]
    have r0 := a.rg _ (List.getElem_mem np)
    have e0 := w1 0 np
    rw [Nat.add_zero] at e0
    rw [number_at_eq u372 e0 (sm 0 np) r0.1 r0.2]
    simp
    refine Nxt.go ?_
    simp
    refine Nxt.go ?_
    generalize hQ : Nxt (callF P (k + 3)) (.cons (.ret (.tup (.cons (.blt .tuple (.cons (.var 6) .nil)) (.cons (.var 1) .nil)))) .nil) _ = Q
    have qq : ∀ σ g, Q (.rs ⟨19, [.int (p + rs.length)]⟩ σ) (h ++ g) := fun σ g => by
      rw [← hQ]
      show W (cutX h ⟨19, [.int (p + rs.length)]⟩ (h ++ g)) _ _
      rw [cut_1]
      exact ⟨rfl, rfl⟩
    clear hQ
    obtain ⟨J, hJ⟩ : ∃ J : Nat → Sl → IH → Prop, ∀ m σ h1, J m σ h1 ↔ (∃ (n : Nat) (tn : List Int) (pl : Int), m + n = rs.length ∧ 1 ≤ n ∧ tn = rs.take n ∧ pl = (p + n : Nat) ∧ σ = [some (.lsr true (ws.map .str)), some (.int pl), some (.int lo), some (.int hi), some (.int most), some (.int lev), some (.ref h.length)] ∧ h1 = h ++ [.lst (tn.map .int)]) := ⟨_, fun _ _ _ => Iff.rfl⟩
    have t1 : [rs[0]] = rs.take 1 := by
      cases rs with
      | nil => simp at np
      | cons x xs => rfl
    simp only [W_whl]
    refine W_while J (m := rs.length - 1) ((hJ _ _ _).mpr ⟨1, [rs[0]], _, by omega, by omega, t1, rfl, by push_cast; rfl, rfl⟩) ?_
    intro m σ h1 hj
    obtain ⟨n, tn, pl, mn, n1, etn, epl, rfl, rfl⟩ := (hJ _ _ _).mp hj
    have tl : tn.length = n := by rw [etn, List.length_take]; omega
    have ne : tn ≠ [] := fun z => by rw [z] at tl; simp at tl; omega
    have nm : tn.map IV.int ≠ [] := by simpa using ne
    have last : ∀ (hn : n ≤ rs.length), tn.getLast ne = rs[n - 1]'(by omega) := fun hn => by
      have e1 : tn.getLast? = some (tn.getLast ne) := List.getLast?_eq_some_getLast ne
      rw [List.getLast?_eq_getElem?, tl] at e1
      have e2 : tn[n - 1]? = rs[n - 1]? := by rw [etn, List.getElem?_take_of_lt (by omega)]
      rw [e2, List.getElem?_eq_getElem (by omega)] at e1
      exact (Option.some.inj e1).symm
    have body : WS (jSs (callF P (k + 3)) (.cons (.ite (.cmp .Eq (.blt .len (.cons (.var 6) .nil)) (.var 4)) (.cons (.rais 19 (.cons (.var 1) .nil)) .nil) .nil) (.cons (.drop (.meth .append (.var 6) (.cons (.call 372 (.cons (.var 0) (.cons (.var 1) (.cons (.bin .Add (.ix (.var 6) (.neg (.con (.int 1)))) (.con (.int 1))) (.cons (.var 3) .nil))))) .nil))) (.cons (.asg (.name 1) (.bin .Add (.var 1) (.con (.int 1)))) .nil))) [some (.lsr true (ws.map .str)), some (.int pl), some (.int lo), some (.int hi), some (.int most), some (.int lev), some (.ref h.length)] (h ++ [.lst (tn.map .int)])) (LpQ (fun σ2 h2 => ∃ m', m' < m ∧ J m' σ2 h2) Q) := by
      by_cases hn : n < rs.length
      · have rn := a.rg _ (List.getElem_mem hn)
        have lt : rs[n - 1] < rs[n] := List.pairwise_iff_getElem.mp a.up (n - 1) n (by omega) hn (by omega)
        refine W.step ?_
        simp
        rw [ref_len new_at]
        have nm2 : ¬ (n : Int) = most := by omega
        simp [tl, nm2]
        refine Nxt.go ?_
        simp
        refine ⟨ref_isLst new_at, ?_⟩
        rw [ix_neg1 (ref_seq new_at) nm, List.getLast_map]
        simp
        rw [last (by omega), epl, number_at_eq u372 (w1 n hn) (sm n hn) (by omega) rn.2]
        simp
        rw [ref_app new_at (by simp [LIM]; have := asc_len a; omega), new_set]
        simp
        refine Nxt.go ?_
        simp
        refine ⟨m - 1, by omega, (hJ _ _ _).mpr ⟨n + 1, tn ++ [rs[n]], _, by omega, by omega, ?_, ?_, rfl, by simp⟩⟩
        · rw [etn, List.take_succ, List.getElem?_eq_getElem hn]
          rfl
        · push_cast; omega
      · have hn' : n = rs.length := by omega
        refine W.step ?_
        simp
        rw [ref_len new_at]
        by_cases full : (rs.length : Int) = most
        · have nm2 : (n : Int) = most := by omega
          simp [tl, nm2]
          refine W.step ?_
          simp
          have := qq [some (.lsr true (ws.map .str)), some (.int pl), some (.int lo), some (.int hi), some (.int most), some (.int lev), some (.ref h.length)] [.lst (tn.map .int)]
          rw [show pl = (p : Int) + rs.length by rw [epl, hn']; push_cast; rfl]
          rw [show pl = (p : Int) + rs.length by rw [epl, hn']; push_cast; rfl] at this
          exact this
        · rcases bb with z | ⟨o, t, no⟩
          · exact absurd z full
          have nm2 : ¬ (n : Int) = most := by omega
          simp [tl, nm2]
          refine Nxt.go ?_
          simp
          refine ⟨ref_isLst new_at, ?_⟩
          rw [ix_neg1 (ref_seq new_at) nm, List.getLast_map]
          simp
          have ex : rs[n - 1]'(by omega) = x := by
            rw [List.getLast?_eq_getElem?, ← hn', List.getElem?_eq_getElem (by omega)] at x0
            exact Option.some.inj x0
          rw [last (by omega), ex, epl, number_x u372 (n := p + n) (by rw [hn']; exact w2) t no]
          simp
          have := qq [some (.lsr true (ws.map .str)), some (.int (p + n : Nat)), some (.int lo), some (.int hi), some (.int most), some (.int lev), some (.ref h.length)] [.lst (tn.map .int)]
          rw [← hn'] at this
          simpa using this
    have l1 : pl < ws.length := by omega
    simp
    simp [l1]
    by_cases z : lev = 1
    · simp [z]
      subst z
      exact body
    · simp [z]
      have nb : ∃ v, ws[p + n]? = some v ∧ v ≠ Str.ofString ")" := by
        by_cases hn : n < rs.length
        · exact ⟨_, w1 n hn, no_brack⟩
        · have hn' : n = rs.length := by omega
          refine ⟨w, by rw [hn']; exact w2, ?_⟩
          rcases cc with c | c
          · exact absurd c z
          · exact c
      obtain ⟨v, ev, nv⟩ := nb
      have ex : ixI (.lsr true (ws.map .str)) (.int pl) (h ++ [.lst (tn.map .int)]) = .ok (.str v) (h ++ [.lst (tn.map .int)]) := by rw [epl]; exact ix_w ev
      rw [ex]
      simp [nv]
      exact body
inductive LB (lev : Int) : List Str → Nat → Prop where
  | rests_m {Y : List Str} (b : NB Y 1 60) : LB lev (Str.ofString "rests" :: Y) 1
  | rests_c {m : Int} {Y : List Str} (m1 : 1 ≤ m) (m2 : m ≤ 60) (b : CB Y (Str.ofString ":")) : LB lev (Str.ofString "rests" :: sI m :: Y) 2
  | rests_r {m : Int} {Y : List Str} {n : Nat} (m1 : 1 ≤ m) (m2 : m ≤ 60) (b : RB lev 0 (m - 1) m Y n) : LB lev (Str.ofString "rests" :: sI m :: Str.ofString ":" :: Y) (3 + n)
  | list_c {Y : List Str} (b : CB Y (Str.ofString ":")) : LB lev (Str.ofString "list" :: Y) 1
  | list_r {Y : List Str} {n : Nat} (b : RB lev (-100) 100 12 Y n) : LB lev (Str.ofString "list" :: Str.ofString ":" :: Y) (2 + n)
  | powers {Y : List Str} (b : NB Y 2 10) : LB lev (Str.ofString "powers" :: Y) 1
theorem leaf_bad (u : U374 P) {ws X : List Str} {p n : Nat} {q lev : Int} (eq : q = (p : Nat)) (e : ws.drop p = X) (hp : p ≤ ws.length) (b : LB lev X n) : callF P (k + 5) 374 [.lsr true (ws.map .str), .int q, .int lev] h = .ex ⟨19, [.int (q + n)]⟩ h := by
  obtain ⟨u374, u345, u372, u373⟩ := u
  have wl := drop_len e hp
  refine W_eqX.mp (W_def u374 (by decide) rfl ?_)
  refine W.step ?_
  simp [D374]
  cases b with
  | rests_m b =>
    have e0 : ws[p]? = some (Str.ofString "rests") := by have := drop_at (n := 0) e; simpa using this
    have e1 := drop_drop (n := 1) e
    simp at wl
    rw [ix_q eq e0]
    simp
    refine Nxt.go ?_
    simp
    refine W.step ?_
    simp
    rw [number_nb (q := q + 1) (p := p + 1) u372 (by omega) e1 (by omega) b]
    simp [cut_10]
  | rests_c m1 m2 b =>
    have e0 : ws[p]? = some (Str.ofString "rests") := by have := drop_at (n := 0) e; simpa using this
    have e1 : ws[p + 1]? = some _ := drop_at (n := 1) e
    have e2 := drop_drop (n := 2) e
    simp at wl
    rw [ix_q eq e0]
    simp
    refine Nxt.go ?_
    simp
    refine W.step ?_
    simp
    rw [number_q (q := q + 1) (n := p + 1) u372 (by omega) e1 (by omega) m1 m2]
    simp
    refine Nxt.go ?_
    simp
    rw [check_cb (q := q + 2) (p := p + 2) u345 (by omega) e2 (by omega) b]
    simp [cut_10]
  | @rests_r m Y n m1 m2 b =>
    have e0 : ws[p]? = some (Str.ofString "rests") := by have := drop_at (n := 0) e; simpa using this
    have e1 : ws[p + 1]? = some _ := drop_at (n := 1) e
    have e2 : ws[p + 2]? = some _ := drop_at (n := 2) e
    have e3 := drop_drop (n := 3) e
    simp at wl
    rw [ix_q eq e0]
    simp
    refine Nxt.go ?_
    simp
    refine W.step ?_
    simp
    rw [number_q (q := q + 1) (n := p + 1) u372 (by omega) e1 (by omega) m1 m2]
    simp
    refine Nxt.go ?_
    simp
    rw [check_q (q := q + 2) (n := p + 2) u345 (by omega) e2]
    simp
    refine Nxt.go ?_
    simp
    rw [row_bad (q := q + 3) (p := p + 3) u373 (by omega) e3 (by omega) (by omega) (by omega) b]
    simp [cut_10]
    omega
  | list_c b =>
    have e0 : ws[p]? = some (Str.ofString "list") := by have := drop_at (n := 0) e; simpa using this
    have e1 := drop_drop (n := 1) e
    simp at wl
    rw [ix_q eq e0]
    simp
    refine Nxt.go ?_
    simp
    refine Nxt.go ?_
    simp
    refine W.step ?_
    simp
    rw [check_cb (q := q + 1) (p := p + 1) u345 (by omega) e1 (by omega) b]
    simp [cut_10]
  | @list_r Y n b =>
    have e0 : ws[p]? = some (Str.ofString "list") := by have := drop_at (n := 0) e; simpa using this
    have e1 : ws[p + 1]? = some _ := drop_at (n := 1) e
    have e2 := drop_drop (n := 2) e
    simp at wl
    rw [ix_q eq e0]
    simp
    refine Nxt.go ?_
    simp
    refine Nxt.go ?_
    simp
    refine W.step ?_
    simp
    rw [check_q (q := q + 1) (n := p + 1) u345 (by omega) e1]
    simp
    refine Nxt.go ?_
    simp
    rw [row_bad (q := q + 2) (p := p + 2) u373 (by omega) e2 (by omega) (by omega) (by omega) b]
    simp [cut_10]
    omega
  | powers b =>
    have e0 : ws[p]? = some (Str.ofString "powers") := by have := drop_at (n := 0) e; simpa using this
    have e1 := drop_drop (n := 1) e
    simp at wl
    rw [ix_q eq e0]
    simp
    refine Nxt.go ?_
    simp
    refine Nxt.go ?_
    simp
    refine Nxt.go ?_
    simp
    refine W.step ?_
    simp
    rw [number_nb (q := q + 1) (p := p + 1) u372 (by omega) e1 (by omega) b]
    simp [cut_10]
end
end Pi
end

section
set_option maxHeartbeats 8000000
namespace Pi
open PySem
def IB (S : List Str → Nat → Prop) (G : NS → Prop) (X : List Str) (n : Nat) : Prop :=
  (CB X (Str.ofString "(") ∧ n = 0) ∨ (∃ Z m, X = Str.ofString "(" :: Z ∧ S Z m ∧ n = 1 + m) ∨ (∃ s Z, X = Str.ofString "(" :: (wds s ++ Z) ∧ G s ∧ (s.row = true → Z = []) ∧ CB Z (Str.ofString ")") ∧ n = 1 + (wds s).length)
def KB (l : Nat) (room : Int) (pl : Bool) (w : Str) : Prop := (w = Str.ofString "moved" → ¬ (1 ≤ l ∧ 2 ≤ room)) ∧ (w = Str.ofString "either" → ¬ (1 ≤ l ∧ 3 ≤ room)) ∧ w ≠ Str.ofString "rests" ∧ w ≠ Str.ofString "list" ∧ (pl = true ∨ w ∉ [Str.ofString "powers", Str.ofString "squares", Str.ofString "primes"])
def GdS (l : Nat) (room f : Int) (pl : Bool) (s : NS) : Prop := s.ok l f ∧ (s.n : Int) ≤ room ∧ (pl = true → s.plain = true)
def SB : Nat → Int → Int → Bool → List Str → Nat → Prop
  | 0, _, _, _, _, _ => False
  | l + 1, room, f, pl, X, n =>
    (X = [] ∧ n = 0) ∨ (∃ w r, X = w :: r ∧ KB l room pl w ∧ n = 0) ∨ (LB (6 - l) X n ∧ (X.head? = some (Str.ofString "powers") → pl = false)) ∨
    (1 ≤ l ∧ 2 ≤ room ∧ ∃ r, X = Str.ofString "moved" :: r ∧ ((NB r (-20) 20 ∧ n = 1) ∨ ∃ a r', r = sI a :: r' ∧ -20 ≤ a ∧ a ≤ 20 ∧ (((a = 0 ∨ 400 < (a * f).natAbs) ∧ n = 1) ∨ (a ≠ 0 ∧ (a * f).natAbs ≤ 400 ∧ ((NB r' (-200) 200 ∧ n = 2) ∨
      ∃ b r'' m, r' = sI b :: r'' ∧ -200 ≤ b ∧ b ≤ 200 ∧ IB (SB l (room - 1) (a * f) pl) (GdS l (room - 1) (a * f) pl) r'' m ∧ n = 3 + m))))) ∨
    (1 ≤ l ∧ 3 ≤ room ∧ ∃ r, X = Str.ofString "either" :: r ∧ ((∃ m, IB (SB l (room - 2) f true) (GdS l (room - 2) f true) r m ∧ n = 1 + m) ∨
      ∃ s r' m, r = Str.ofString "(" :: (wds s ++ Str.ofString ")" :: r') ∧ GdS l (room - 2) f true s ∧ IB (SB l (room - 1 - s.n) f true) (GdS l (room - 1 - s.n) f true) r' m ∧ n = 1 + ((wds s).length + 2) + m))
section
variable {P : Tab} {k : Nat} {h : IH}
theorem inner_bad (u : U378 P) {ws X : List Str} {p n l : Nat} {q lev room f : Int} {pl : Bool} {S : List Str → Nat → Prop} (eq : q = (p : Nat)) (e : ws.drop p = X) (hp : p ≤ ws.length) (hl : lev + l = 7) (h2 : 2 ≤ lev) (l1 : 1 ≤ l)
    (ih : ∀ Z m, S Z m → ws.drop (p + 1) = Z → p + 1 ≤ ws.length → callF P (k + 3 * l + 3) 378 [.lsr true (ws.map .str), .int (q + 1), .int lev, .int room, .int f, .bl pl] h = .ex ⟨19, [.int (q + 1 + m)]⟩ h)
    (b : IB S (GdS l room f pl) X n) : callF P (k + 3 * l + 4) 376 [.lsr true (ws.map .str), .int q, .int lev, .int room, .int f, .bl pl] h = .ex ⟨19, [.int (q + n)]⟩ h := by
  have uu := u
  obtain ⟨u375, u376, u377, u378, u344, u345, u372, u374⟩ := u
  have wl := drop_len e hp
  refine W_eqX.mp (W_def u376 (by decide) rfl ?_)
  refine W.step ?_
  simp [D376]
  rcases b with ⟨c, rfl⟩ | ⟨Z, m, rfl, sb, rfl⟩ | ⟨s, Z, rfl, g, hz, c, rfl⟩
  · rw [check_cb u345 eq e hp c]
    simp [cut_10]
  · have e0 : ws[p]? = some (Str.ofString "(") := by have := drop_at (n := 0) e; simpa using this
    have e1 : ws.drop (p + 1) = Z := by have := drop_drop (n := 1) e; simpa using this
    simp at wl
    rw [check_q u345 eq e0]
    simp
    refine Nxt.go ?_
    simp
    rw [ih Z m sb e1 (by omega)]
    simp [cut_10]
    omega
  · have e0 : ws[p]? = some (Str.ofString "(") := by have := drop_at (n := 0) e; simpa using this
    have e1 : ws.drop (p + 1) = wds s ++ Z := by have := drop_drop (n := 1) e; simpa using this
    have e2 : ws.drop (p + 1 + (wds s).length) = Z := by rw [drop_drop (n := (wds s).length) e1, List.drop_left]
    simp at wl
    rw [check_q u345 eq e0]
    simp
    refine Nxt.go ?_
    simp
    have R := set_q (k := k) (h := h) uu (ws := ws) l (q + 1) (p + 1) s lev room f pl Z (by push_cast; omega) g.1 hl (by omega) g.2.1 g.2.2 e1 (fun z => .inl (hz z))
    rw [R]
    simp
    refine Nxt.go ?_
    simp
    rw [check_cb (q := q + 1 + (wds s).length) (p := p + 1 + (wds s).length) u345 (by push_cast; omega) e2 (by omega) c]
    simp [cut_10]
    omega
theorem inF {w : Str} (m : w ∉ [Str.ofString "powers", Str.ofString "squares", Str.ofString "primes"]) : cmpI .In (.str w) (.tup [.str (Str.ofString "powers"), .str (Str.ofString "squares"), .str (Str.ofString "primes")]) h = .ok (.bl false) h := by
  have : inI h (.str w) (.tup [.str (Str.ofString "powers"), .str (Str.ofString "squares"), .str (Str.ofString "primes")]) = some false := by
    unfold inI
    simp only [dataOf, allM, Option.map_some]
    simp at m
    obtain ⟨m1, m2, m3⟩ := m
    have e : ∀ a : Str, ¬ w = a → PyData.eqv (.str a) (.str w) = false := fun a ne => by
      simp [PyData.eqv]
      exact fun z => ne z.symm
    simp [e _ m1, e _ m2, e _ m3]
  unfold cmpI
  simp only [this]
theorem tst_mv {Φ : Calls} {v0 v1 v4 v5 v7 v8 : Option IV} {lev room n : Int} {w z : Str} : jE Φ (.and (.cmp .Eq (.var 6) (.con (.str z))) (.and (.cmp .Lt (.var 2) (.con (.int 6))) (.cmp .GtE (.var 3) (.con (.int n))))) [v0, v1, some (.int lev), some (.int room), v4, v5, some (.str w), v7, v8] h = .ok (.bl (decide (w = z ∧ lev < 6 ∧ n ≤ room))) h := by
  refine W_eq.mp ?_
  by_cases a : w = z <;> by_cases b : lev < 6 <;> by_cases c : n ≤ room <;> simp [a, b, c]
theorem tst_lf {Φ : Calls} {v0 v1 v2 v3 v4 v7 v8 : Option IV} {w : Str} {pl b : Bool} (hb : b = true ↔ (w = Str.ofString "rests" ∨ w = Str.ofString "list" ∨ (pl = false ∧ w ∈ [Str.ofString "powers", Str.ofString "squares", Str.ofString "primes"]))) :
    jE Φ (.or (.cmp .Eq (.var 6) (.con (.str (Str.ofString "rests")))) (.or (.cmp .Eq (.var 6) (.con (.str (Str.ofString "list")))) (.and (.not (.var 5)) (.cmp .In (.var 6) (.tup (.cons (.con (.str (Str.ofString "powers"))) (.cons (.con (.str (Str.ofString "squares"))) (.cons (.con (.str (Str.ofString "primes"))) .nil)))))))) [v0, v1, v2, v3, v4, some (.bl pl), some (.str w), v7, v8] h = .ok (.bl b) h := by
  refine W_eq.mp ?_
  by_cases a : w = Str.ofString "rests"
  · have : b = true := hb.mpr (.inl a)
    simp [a, this]
  · simp [a]
    by_cases c : w = Str.ofString "list"
    · have : b = true := hb.mpr (.inr (.inl c))
      simp [c, this]
    · simp [c]
      cases pl with
      | true =>
        have : b = false := by
          cases b with
          | false => rfl
          | true => rcases hb.mp rfl with z | z | ⟨z, _⟩ <;> first | exact absurd z a | exact absurd z c | cases z
        simp [this]
      | false =>
        simp
        by_cases m : w ∈ [Str.ofString "powers", Str.ofString "squares", Str.ofString "primes"]
        · have : b = true := hb.mpr (.inr (.inr ⟨rfl, m⟩))
          rw [inT m]
          simp [this]
        · have : b = false := by
            cases b with
            | false => rfl
            | true => rcases hb.mp rfl with z | z | ⟨_, z⟩ <;> first | exact absurd z a | exact absurd z c | exact absurd z m
          rw [inF m]
          simp [this]
theorem set_bad (u : U378 P) {ws : List Str} : ∀ (l : Nat) (q : Int) (p n : Nat) (lev room f : Int) (pl : Bool) (X : List Str), q = (p : Nat) → lev + l = 7 → 1 ≤ lev → ws.drop p = X → p ≤ ws.length → SB l room f pl X n →
    callF P (k + 3 * l + 3) 378 [.lsr true (ws.map .str), .int q, .int lev, .int room, .int f, .bl pl] h = .ex ⟨19, [.int (q + n)]⟩ h := by
  have uu := u
  obtain ⟨u375, u376, u377, u378, u344, u345, u372, u374⟩ := u
  intro l
  induction l with
  | zero => intro q p n lev room f pl X _ _ _ _ _ sb; exact sb.elim
  | succ l ih =>
    intro q p n lev room f pl X eq hl h1 e hp sb
    have wl := drop_len e hp
    have lev6 : lev = 6 - (l : Int) := by omega
    rw [show k + 3 * (l + 1) + 3 = (k + 3 * (l + 1) + 2) + 1 by omega]
    refine W_eqX.mp (W_def u378 (by decide) rfl ?_)
    refine W.step ?_
    simp [D378]
    have w0 : ∀ {w : Str} {r : List Str}, X = w :: r → ws[p]? = some w := fun {w r} z => by
      have := drop_at (n := 0) e
      rw [z] at this
      simpa using this
    rcases sb with ⟨rfl, rfl⟩ | ⟨w, r, rfl, kb, rfl⟩ | ⟨lb, hpl⟩ | ⟨l1, r2, r, rfl, sb⟩ | ⟨l1, r3, r, rfl, sb⟩
    · simp at wl
      have := word_out (k := k + 3 * (l + 1) + 1) (h := h) u344 (ws := ws) (n := p) (by omega)
      rw [show k + 3 * (l + 1) + 1 + 1 = k + 3 * (l + 1) + 2 by omega, ← eq, show ((ws.length : Nat) : Int) = q by omega] at this
      rw [this]
      simp [cut_10]
    · obtain ⟨k1, k2, k3, k4, k5⟩ := kb
      rw [word_q u344 eq (w0 rfl)]
      simp
      have c1 : ¬ (w = Str.ofString "moved" ∧ lev < 6 ∧ 2 ≤ room) := fun ⟨z, a, b⟩ => k1 z ⟨by omega, b⟩
      have c2 : ¬ (w = Str.ofString "either" ∧ lev < 6 ∧ 3 ≤ room) := fun ⟨z, a, b⟩ => k2 z ⟨by omega, b⟩
      refine Nxt.go ?_
      rw [W_if, tst_mv, W_tst, W_ok]
      simp [c1]
      refine Nxt.go ?_
      rw [W_if, tst_mv, W_tst, W_ok]
      simp [c2]
      refine Nxt.go ?_
      rw [W_if, tst_lf (b := false) (by
        simp only [Bool.false_eq_true, false_iff]
        rintro (z | z | ⟨z, z2⟩)
        · exact k3 z
        · exact k4 z
        · rcases k5 with y | y
          · rw [z] at y; cases y
          · exact y z2), W_tst, W_ok]
      simp
      refine Nxt.go ?_
      simp [cut_10]
    · have lf := leaf_bad (k := k + 3 * l) (h := h) u374 (q := q) (lev := lev) eq e hp (by rw [lev6]; exact lb)
      rw [show k + 3 * l + 5 = k + 3 * (l + 1) + 2 by omega] at lf
      have kd : ∃ w r, X = w :: r ∧ w ≠ Str.ofString "moved" ∧ w ≠ Str.ofString "either" ∧ (w = Str.ofString "rests" ∨ w = Str.ofString "list" ∨ (pl = false ∧ w ∈ [Str.ofString "powers", Str.ofString "squares", Str.ofString "primes"])) := by
        cases lb with
        | rests_m b => exact ⟨_, _, rfl, by decide +kernel, by decide +kernel, .inl rfl⟩
        | rests_c a b c => exact ⟨_, _, rfl, by decide +kernel, by decide +kernel, .inl rfl⟩
        | rests_r a b c => exact ⟨_, _, rfl, by decide +kernel, by decide +kernel, .inl rfl⟩
        | list_c b => exact ⟨_, _, rfl, by decide +kernel, by decide +kernel, .inr (.inl rfl)⟩
        | list_r b => exact ⟨_, _, rfl, by decide +kernel, by decide +kernel, .inr (.inl rfl)⟩
        | powers b => exact ⟨_, _, rfl, by decide +kernel, by decide +kernel, .inr (.inr ⟨hpl rfl, by simp⟩)⟩
      obtain ⟨w, r, rfl, n1, n2, kd⟩ := kd
      rw [word_q u344 eq (w0 rfl)]
      simp
      have c1 : ¬ (w = Str.ofString "moved" ∧ lev < 6 ∧ 2 ≤ room) := fun z => n1 z.1
      have c2 : ¬ (w = Str.ofString "either" ∧ lev < 6 ∧ 3 ≤ room) := fun z => n2 z.1
      refine Nxt.go ?_
      rw [W_if, tst_mv, W_tst, W_ok]
      simp [c1]
      refine Nxt.go ?_
      rw [W_if, tst_mv, W_tst, W_ok]
      simp [c2]
      refine Nxt.go ?_
      rw [W_if, tst_lf (b := true) (by simpa using kd), W_tst, W_ok]
      simp
      refine W.step ?_
      simp
      rw [lf]
      simp [cut_10]
    · have e1 : ws.drop (p + 1) = r := by have := drop_drop (n := 1) e; simpa using this
      simp at wl
      have M : callF P (k + 3 * (l + 1) + 2) 377 [.lsr true (ws.map .str), .int q, .int lev, .int room, .int f, .bl pl] h = .ex ⟨19, [.int (q + n)]⟩ h := by
        rw [show k + 3 * (l + 1) + 2 = (k + 3 * l + 4) + 1 by omega]
        refine W_eqX.mp (W_def u377 (by decide) rfl ?_)
        refine W.step ?_
        simp [D377]
        rcases sb with ⟨nb, rfl⟩ | ⟨a, r', rfl, a1, a2, sb⟩
        · rw [number_nb (k := k + 3 * l + 1) u372 (q := q + 1) (p := p + 1) (by push_cast; omega) e1 (by omega) nb]
          simp [cut_10]
        have e1a : ws[p + 1]? = some (sI a) := by have := drop_at (n := 1) e; simpa using this
        have e2 : ws.drop (p + 2) = r' := by have := drop_drop (n := 2) e; simpa using this
        simp at wl
        rw [number_q (k := k + 3 * l + 1) (q := q + 1) (n := p + 1) u372 (by push_cast; omega) e1a (by omega) a1 a2]
        simp
        refine Nxt.go ?_
        rcases sb with ⟨big, rfl⟩ | ⟨a0, c, sb⟩
        · by_cases a0 : a = 0
          · subst a0
            simp
            refine W.step ?_
            simp [cut_10]
          · have c4 : (400 : Int) < (a * f).natAbs := by rcases big with z | z <;> first | exact absurd z a0 | omega
            simp [a0]
            rw [b_mulL (by omega)]
            simp [c4]
            refine W.step ?_
            simp [cut_10]
        simp [a0]
        rw [b_mulL (by omega)]
        have c4 : ¬ (400 : Int) < (a * f).natAbs := by omega
        simp [c4]
        refine Nxt.go ?_
        simp
        rcases sb with ⟨nb, rfl⟩ | ⟨b, r'', m, rfl, b1, b2, ib, rfl⟩
        · rw [number_nb (k := k + 3 * l + 1) u372 (q := q + 2) (p := p + 2) (by push_cast; omega) e2 (by omega) nb]
          simp [cut_10]
        have e2a : ws[p + 2]? = some (sI b) := by have := drop_at (n := 2) e; simpa using this
        have e3 : ws.drop (p + 3) = r'' := by have := drop_drop (n := 3) e; simpa using this
        simp at wl
        rw [number_q (k := k + 3 * l + 1) (q := q + 2) (n := p + 2) u372 (by push_cast; omega) e2a (by omega) b1 b2]
        simp
        refine Nxt.go ?_
        simp
        rw [b_mulL (by omega)]
        simp
        have I := inner_bad (k := k) (h := h) uu (l := l) (q := q + 3) (p := p + 3) (lev := lev + 1) (room := room - 1) (f := a * f) (pl := pl) (by push_cast; omega) e3 (by omega) (by omega) (by omega) l1
          (fun Z m sz ez hz => ih (q + 3 + 1) (p + 3 + 1) m (lev + 1) (room - 1) (a * f) pl Z (by push_cast; omega) (by omega) (by omega) ez hz sz) ib
        rw [I]
        simp [cut_10]
        omega
      rw [word_q u344 eq (w0 rfl)]
      simp
      have c1 : Str.ofString "moved" = Str.ofString "moved" ∧ lev < 6 ∧ 2 ≤ room := ⟨rfl, by omega, r2⟩
      refine Nxt.go ?_
      rw [W_if, tst_mv, W_tst, W_ok]
      simp [c1.2.1, c1.2.2]
      refine W.step ?_
      simp
      rw [M]
      simp [cut_10]
    · have e1 : ws.drop (p + 1) = r := by have := drop_drop (n := 1) e; simpa using this
      simp at wl
      have M : callF P (k + 3 * (l + 1) + 2) 375 [.lsr true (ws.map .str), .int q, .int lev, .int room, .int f] h = .ex ⟨19, [.int (q + n)]⟩ h := by
        rw [show k + 3 * (l + 1) + 2 = (k + 3 * l + 4) + 1 by omega]
        refine W_eqX.mp (W_def u375 (by decide) rfl ?_)
        refine W.step ?_
        simp [D375]
        rcases sb with ⟨m, ib, rfl⟩ | ⟨s, r', m, rfl, g, ib, rfl⟩
        · have I := inner_bad (k := k) (h := h) uu (l := l) (q := q + 1) (p := p + 1) (lev := lev + 1) (room := room - 2) (f := f) (pl := true) (by push_cast; omega) e1 (by omega) (by omega) (by omega) l1
            (fun Z m sz ez hz => ih (q + 1 + 1) (p + 1 + 1) m (lev + 1) (room - 2) f true Z (by push_cast; omega) (by omega) (by omega) ez hz sz) ib
          rw [I]
          simp [cut_10]
          omega
        · have e2 : ws.drop (p + 2) = wds s ++ Str.ofString ")" :: r' := by have := drop_drop (n := 2) e; simpa using this
          have e3 : ws.drop (p + 2 + ((wds s).length + 1)) = r' := by
            rw [drop_drop (n := (wds s).length + 1) e2, ← List.drop_drop, List.drop_left]
            rfl
          simp at wl
          have S := set_q (k := k) (h := h) uu (ws := ws) l (q + 1 + 1) (p + 2) s (lev + 1) (room - 2) f true (Str.ofString ")" :: r') (by push_cast; omega) g.1 (by omega) (by omega) g.2.1 g.2.2 e2 (fun _ => .inr ⟨by omega, _, rfl⟩)
          have I := inner_of (k := k + 3 * l + 1) uu (q := q + 1) (p := p + 1) (by push_cast; omega) e1 (by rw [show k + 3 * l + 1 + 2 = k + 3 * l + 3 by omega]; exact S)
          rw [show k + 3 * l + 1 + 3 = k + 3 * l + 4 by omega] at I
          rw [I]
          simp
          refine Nxt.go ?_
          simp
          have I2 := inner_bad (k := k) (h := h) uu (l := l) (q := q + 1 + 1 + (wds s).length + 1) (p := p + 2 + ((wds s).length + 1)) (lev := lev + 1) (room := room - 1 - s.n) (f := f) (pl := true) (by push_cast; omega) e3 (by omega) (by omega) (by omega) l1
            (fun Z m sz ez hz => ih (q + 1 + 1 + (wds s).length + 1 + 1) (p + 2 + ((wds s).length + 1) + 1) m (lev + 1) (room - 1 - s.n) f true Z (by push_cast; omega) (by omega) (by omega) ez hz sz) ib
          rw [I2]
          simp [cut_10]
          omega
      rw [word_q u344 eq (w0 rfl)]
      simp
      have c0 : ¬ (Str.ofString "either" = Str.ofString "moved" ∧ lev < 6 ∧ 2 ≤ room) := fun z => absurd z.1 (by decide +kernel)
      refine Nxt.go ?_
      rw [W_if, tst_mv, W_tst, W_ok]
      simp [c0]
      refine Nxt.go ?_
      rw [W_if, tst_mv, W_tst, W_ok]
      have l6 : lev < 6 := by omega
      simp [l6, r3]
      refine W.step ?_
      simp
      rw [M]
      simp [cut_10]
end
end Pi
end

section
set_option maxHeartbeats 8000000
namespace Pi
open PySem
def kinds : List Str := [Str.ofString "moved", Str.ofString "either", Str.ofString "rests", Str.ofString "list", Str.ofString "powers", Str.ofString "squares", Str.ofString "primes"]
structure BadJ (w : Str) : Prop where
  tok : Tok w none
  kd : w ∉ kinds
  col : w ≠ Str.ofString ":"
  opn : w ≠ Str.ofString "("
  cls : w ≠ Str.ofString ")"
def BT (Z : List Str) : Prop := Z = [] ∨ ∃ w r, Z = w :: r ∧ BadJ w
def rowAt : NS → Nat
  | .rests _ _ => 3
  | .list _ => 2
  | _ => 0
def Mid (s : NS) (at_ : Nat) : Prop := s.row = true ∧ rowAt s < at_
def PlB (s : NS) (at_ : Nat) (Z : List Str) : Prop := (at_ < (wds s).length ∨ (at_ = (wds s).length ∧ s.row = true)) ∧ (Z ≠ [] ∨ ¬ Mid s at_)
def cutN (s : NS) (at_ : Nat) : NS := match s with
  | .rests m rs => .rests m (rs.take (at_ - 3))
  | .list ns => .list (ns.take (at_ - 2))
  | s => s
end Pi
end

section
set_option maxHeartbeats 8000000
namespace Pi
open PySem
def dsv : NS → PyData
  | .rests m rs => .tuple [.str (Str.ofString "rests"), .int m, .tuple (rs.map .int)]
  | .list ns => .tuple [.str (Str.ofString "list"), .tuple (ns.map .int)]
  | .powers g => .tuple [.str (Str.ofString "powers"), .int g]
  | .squares => .tuple [.str (Str.ofString "squares")]
  | .primes => .tuple [.str (Str.ofString "primes")]
  | .moved s a b => .tuple [.str (Str.ofString "moved"), dsv s, .int a, .int b]
  | .either s t => .tuple [.str (Str.ofString "either"), dsv s, dsv t]
def stx (s : NS) : Str := Txt.join (Str.ofString " ") (wds s)
theorem stx_len {s : NS} (i : IsS s) : (stx s).length ≤ 60000 := by
  unfold stx
  rw [TL.len_tl, join_I]
  have := joinL_len (ps := (wds s).map TL.tl) fun q m => by
    obtain ⟨w, mw, rfl⟩ := List.mem_map.mp m
    rw [← TL.len_tl]
    exact (wds_ok _ _ s i.ok w mw).l
  rw [List.length_map] at this
  have := wds_len _ _ s i.ok
  have := i.n
  omega
theorem wds_ne {s : NS} : wds s ≠ [] := by cases s <;> simp [wds]
section
variable {P : Tab} {k : Nat} {h : IH}
theorem strs_map' : ∀ ws : List Str, strsOf (ws.map .str) = some ws
  | [] => rfl
  | w :: ws => by
    show (strsOf (ws.map .str)).map (w :: ·) = _
    rw [strs_map' ws]
    rfl
theorem sum62' : ∀ {ws : List Str}, (∀ w ∈ ws, w.length ≤ 62) → (ws.map (·.length)).sum ≤ 62 * ws.length
  | [], _ => by simp
  | w :: ws, h => by
    have := h w List.mem_cons_self
    have := sum62' (ws := ws) fun x m => h x (List.mem_cons_of_mem _ m)
    simp only [List.map_cons, List.sum_cons, List.length_cons]
    omega
theorem join_w {s : NS} (i : IsS s) : joinI (Str.ofString " ") (.lsr true ((wds s).map .str)) h = .ok (.str (stx s)) h := by
  unfold joinI
  have e : (seqOf h (.lsr true ((wds s).map .str))).bind strsOf = some (wds s) := strs_map' _
  simp only [e]
  have := sum62' (ws := wds s) fun w m => (wds_ok _ _ s i.ok w m).l
  have := wds_len _ _ s i.ok
  have := i.n
  have l1 : (Str.ofString " ").length = 1 := by decide +kernel
  rw [if_pos (by rw [l1]; omega)]
  rfl
theorem show_set_eq (u : U370 P) {s : NS} (i : IsS s) : callF P (k + 16) 370 [sv s] h = .ok (.str (stx s)) h := by
  obtain ⟨u370, u24, u369⟩ := u
  have n := i.n
  refine W_eq.mp (W_def u370 (by decide) rfl ?_)
  refine W.step ?_
  simp [D370]
  rw [check_set_ok (k := k + 1) u24 i]
  simp
  refine Nxt.go ?_
  simp
  have e := words_of_eq (k := k + 9) (h := h) u369 6 1 s i.ok (by omega)
  rw [show k + 9 + 6 = k + 15 by omega] at e
  rw [e]
  simp
  rw [join_w i]
  simp
theorem read_set_eq (u : U379 P) {s : NS} (i : IsS s) : callF P (k + 22) 379 [.str (stx s)] h = .ok (sv s) h := by
  obtain ⟨u379, u378⟩ := u
  have n := i.n
  have sl := stx_len i
  refine W_eq.mp (W_def u379 (by decide) rfl ?_)
  refine W.step ?_
  simp [D379]
  refine Nxt.go ?_
  simp
  rw [split_s (by decide +kernel) (by unfold LIM; omega), show Txt.split (stx s) (Str.ofString " ") = wds s from split_I wds_ne fun w m => (wds_ok _ _ s i.ok w m).f]
  simp
  rw [seal_w]
  simp
  refine Nxt.go ?_
  simp
  have S := set_q (k := k) (h := h) u378 (ws := wds s) 6 0 0 s 1 12 1 false [] rfl i.ok (by decide) (by decide) (by omega) (fun z => by cases z) (by simp) (fun _ => .inl rfl)
  rw [show k + 3 * 6 + 3 = k + 21 by omega] at S
  rw [S]
  simp
  refine Nxt.go ?_
  simp
  refine Nxt.go ?_
  simp
  rw [seal_nrS (by simp [nrV_sv])]
  simp
end
end Pi
end

section
set_option maxHeartbeats 8000000
namespace Pi
open PySem
section
variable {P : Tab} {k : Nat} {h : IH}
theorem eq_tnil {ts : List Int} : cmpI .Eq (.tup (ts.map .int)) (.tup []) h = .ok (.bl (decide (ts = []))) h := by
  have e : Pi.eqI (.tup (ts.map .int)) (.tup []) = none := rfl
  have d1 : dataOf h 32 (.tup (ts.map .int)) = some (.tuple (ts.map .int)) := by simp [dataOf, data_ints]
  have d2 : dataOf h 32 (.tup []) = some (.tuple ([].map .int)) := by simp [dataOf, allM]
  have : eqH h (.tup (ts.map .int)) (.tup []) = some (decide (ts = [])) := by
    unfold eqH
    simp only [e, DEEP, d1, d2]
    simp only [PyData.eqv, eqv_ints]
  unfold cmpI
  simp only [this]
end
end Pi
end

section
set_option maxHeartbeats 8000000
namespace Pi
open PySem
structure WOk (ws : List Str) : Prop where
  ne : ws ≠ []
  free : ∀ w ∈ ws, 32 ∉ TL.tl w
  len : ∀ w ∈ ws, w.length ≤ 62
  n : ws.length ≤ 100
structure TopG (ts : List Int) : Prop where
  ne : ts ≠ []
  l11 : ts.length ≤ 11
  sz : ∀ t ∈ ts, t.natAbs < 1000000000000000000000000000000000000000000000000000000000000
  last : ts.getLast? = some 0 → ts.length = 1
def nzt (ts : List Int) : List Int := if ts = [0] then [] else ts
inductive BotEnd (ts : List Int) : List Str → Nat → Prop where
  | out : BotEnd ts [] 0
  | bad {w : Str} {o : Option Int} {r : List Str} (t : Tok w o) (no : ∀ i, o = some i → ¬ (1 ≤ i ∧ i ≤ 1000000000000000000000000000000000000000000000000000000000000)) : BotEnd ts (w :: r) 0
  | poly {b : Int} {r : List Str} (b1 : 1 ≤ b) (b2 : b ≤ 1000000000000000000000000000000000000000000000000000000000000) (np : ¬ Pol (nzt ts) b) : BotEnd ts (sI b :: r) 0
  | more {b : Int} {r : List Str} (b1 : 1 ≤ b) (b2 : b ≤ 1000000000000000000000000000000000000000000000000000000000000) (p : Pol (nzt ts) b) (ne : r ≠ []) : BotEnd ts (sI b :: r) 1
section
variable {P : Tab} {k : Nat} {h : IH}
inductive RBad : List Str → Nat → Prop where
  | top {ts : List Int} {rest : List Str} (ok : TopOK ts) (te : TopEnd ts rest) : RBad (ts.map sI ++ rest) ts.length
  | bot {ts : List Int} {rest : List Str} {x : Nat} (g : TopG ts) (be : BotEnd ts rest x) : RBad (ts.map sI ++ Str.ofString "/" :: rest) (ts.length + 1 + x)
theorem place_bad (u : U420 P) {f : Nat} {v : IV} {n : Nat} (e : callF P (k + 1) f [v] h = .ex ⟨19, [.int n]⟩ h) : callF P (k + 2) 420 [.fn f, v] h = .ok (.int n) h := by
  refine W_eq.mp (W_def u (by decide) rfl ?_)
  refine W.step ?_
  simp [D420]
  refine Nxt.go ?_
  simp
  refine Nxt.go ?_
  simp
  refine W.step ?_
  simp
  rw [e]
  simp [hdI, sxI]
  refine Nxt.go ?_
  simp
  refine Nxt.go ?_
  simp [isxI]
  refine Nxt.go ?_
  simp
end
end Pi
end

section
set_option maxHeartbeats 8000000
namespace Pi
open PySem
structure WsK (ws : List Str) : Prop where
  ne : ws ≠ []
  fr : ∀ w ∈ ws, 32 ∉ TL.tl w
  len : ∀ w ∈ ws, w.length ≤ 62
  n : ws.length ≤ 900
section
variable {P : Tab} {k : Nat} {h : IH}
theorem joinK_len {ws : List Str} (o : WsK ws) : (Txt.join (Str.ofString " ") ws).length ≤ 60000 := by
  rw [TL.len_tl, join_I]
  have := joinL_len (ps := ws.map TL.tl) fun q m => by
    obtain ⟨w, mw, rfl⟩ := List.mem_map.mp m
    rw [← TL.len_tl]
    exact o.len w mw
  rw [List.length_map] at this
  have := o.n
  omega
theorem read_go (u : U379 P) {ws : List Str} (o : WsK ws) {Q : IV → IH → Prop} {R : Ex → IH → Prop}
    (q : WS (jSs (callF P (k + 21)) (.cons (.asg (.three (.name 2) (.name 3) (.name 4)) (.call 378 (.cons (.var 1) (.cons (.con (.int 0)) (.cons (.con (.int 1)) (.cons (.con (.int 12)) (.cons (.con (.int 1)) (.cons (.con (.bl false)) .nil)))))))) (.cons (.ite (.cmp .Lt (.var 3) (.blt .len (.cons (.var 1) .nil))) (.cons (.rais 19 (.cons (.var 3) .nil)) .nil) .nil) (.cons (.ret (.var 2)) .nil))) [some (.str (Txt.join (Str.ofString " ") ws)), some (.lsr true (ws.map .str)), none, none, none] h) fun fl h1 => match fl with
      | .nx _ => W (sealI h .non h1) Q R
      | .ret v => W (sealI h v h1) Q R
      | .rs e _ => W (cutX h e h1) Q R
      | _ => False) : W (callF P (k + 22) 379 [.str (Txt.join (Str.ofString " ") ws)] h) Q R := by
  have sl := joinK_len o
  refine W_def u.1 (by decide) rfl ?_
  refine W.step ?_
  simp [D379]
  refine Nxt.go ?_
  simp
  rw [split_s (by decide +kernel) (by unfold LIM; omega), show Txt.split (Txt.join (Str.ofString " ") ws) (Str.ofString " ") = ws from split_I o.ne o.fr]
  simp
  rw [seal_w]
  simp
  exact q
theorem read_bad_set (u : U379 P) {ws : List Str} (o : WsK ws) {n : Nat} (sb : SB 6 12 1 false ws n) : callF P (k + 22) 379 [.str (Txt.join (Str.ofString " ") ws)] h = .ex ⟨19, [.int n]⟩ h := by
  refine W_eqX.mp (read_go u o ?_)
  refine W.step ?_
  simp
  have S := set_bad (k := k) (h := h) u.2 (ws := ws) 6 0 0 n 1 12 1 false ws rfl (by decide) (by decide) rfl (by omega) sb
  rw [show k + 3 * 6 + 3 = k + 21 by omega] at S
  rw [S]
  simp [cut_10]
end
end Pi
end

section
set_option maxHeartbeats 8000000
namespace Pi
open PySem
structure RowL (l : Nat) (room : Int) (F : Nat) (pl : Bool) (A : List Str) (w g : Str) (B : List Str) : Prop where
  good : ∀ f : Int, f.natAbs = F → ∃ s, GdS l room f pl s ∧ wds s = A ++ g :: B
  bad : ∀ f : Int, f.natAbs = F → ∀ R, SB l room f pl (A ++ w :: R) A.length
variable {l F : Nat} {room : Int} {pl : Bool} {A B : List Str} {w g : Str}
theorem RowL.l1 (r : RowL l room F pl A w g B) : 1 ≤ l := by
  cases l with
  | zero => exact (r.bad F (by simp) []).elim
  | succ l => omega
theorem RowL.room1 (r : RowL l room F pl A w g B) : 1 ≤ room := by
  obtain ⟨s, g, _⟩ := r.good F (by simp)
  have := s.n_pos
  have := g.2.1
  omega
theorem RowL.mv {a b : Int} (a1 : -20 ≤ a) (a2 : a ≤ 20) (a0 : a ≠ 0) (b1 : -200 ≤ b) (b2 : b ≤ 200) (p : a.natAbs * F ≤ 400) (r : RowL l room (a.natAbs * F) pl A w g B) :
    RowL (l + 1) (room + 1) F pl (Str.ofString "moved" :: sI a :: sI b :: Str.ofString "(" :: A) w g (B ++ [Str.ofString ")"]) := by
  have l1 := r.l1
  have r1 := r.room1
  refine ⟨fun f hf => ?_, fun f hf R => ?_⟩
  · obtain ⟨s, gd, e⟩ := r.good (f * a) (by rw [Int.natAbs_mul, hf, Nat.mul_comm])
    refine ⟨.moved s a b, ⟨⟨a1, a2, a0, b1, b2, by rw [Int.natAbs_mul, hf, Nat.mul_comm]; exact p, gd.1⟩, by rw [NS.n]; have := gd.2.1; omega, fun z => by have := gd.2.2 z; simpa [NS.plain] using this⟩, ?_⟩
    show _ :: _ :: _ :: _ :: (wds s ++ _) = _
    rw [e]
    simp
  · have ib := r.bad (a * f) (by rw [Int.natAbs_mul, hf]) R
    refine .inr (.inr (.inr (.inl ⟨l1, by omega, _, rfl, .inr ⟨a, _, rfl, a1, a2, .inr ⟨a0, by rw [Int.natAbs_mul, hf]; exact p, .inr ⟨b, _, 1 + A.length, rfl, b1, b2, .inr (.inl ⟨_, _, rfl, ?_, rfl⟩), by simp; omega⟩⟩⟩⟩)))
    rw [show room + 1 - 1 = room by omega]
    exact ib
theorem RowL.fst {t : NS} (ht : ∀ f, f.natAbs = F → t.ok l f) (tn : t.n = 1) (tp : t.plain = true) (r : RowL l room F true A w g B) :
    RowL (l + 1) (room + 2) F pl (Str.ofString "either" :: Str.ofString "(" :: A) w g (B ++ (Str.ofString ")" :: Str.ofString "(" :: (wds t ++ [Str.ofString ")"]))) := by
  have l1 := r.l1
  have r1 := r.room1
  refine ⟨fun f hf => ?_, fun f hf R => ?_⟩
  · obtain ⟨s, gd, e⟩ := r.good f hf
    refine ⟨.either s t, ⟨⟨gd.1, ht f hf, gd.2.2 rfl, tp⟩, by rw [NS.n]; have := gd.2.1; omega, fun z => by simp [NS.plain, gd.2.2 rfl, tp]⟩, ?_⟩
    show _ :: _ :: (wds s ++ _) = _
    rw [e]
    simp
  · have ib := r.bad f hf R
    refine .inr (.inr (.inr (.inr ⟨l1, by omega, _, rfl, .inl ⟨1 + A.length, .inr (.inl ⟨_, _, rfl, ?_, rfl⟩), by simp; omega⟩⟩)))
    rw [show room + 2 - 2 = room by omega]
    exact ib
theorem RowL.snd {t : NS} (ht : ∀ f, f.natAbs = F → t.ok l f) (tp : t.plain = true) (r : RowL l room F true A w g B) :
    RowL (l + 1) (room + 1 + t.n) F pl (Str.ofString "either" :: Str.ofString "(" :: (wds t ++ Str.ofString ")" :: Str.ofString "(" :: A)) w g (B ++ [Str.ofString ")"]) := by
  have l1 := r.l1
  have r1 := r.room1
  have np := t.n_pos
  refine ⟨fun f hf => ?_, fun f hf R => ?_⟩
  · obtain ⟨s, gd, e⟩ := r.good f hf
    refine ⟨.either t s, ⟨⟨ht f hf, gd.1, tp, gd.2.2 rfl⟩, by rw [NS.n]; have := gd.2.1; omega, fun z => by simp [NS.plain, gd.2.2 rfl, tp]⟩, ?_⟩
    show _ :: _ :: (wds t ++ (_ :: _ :: (wds s ++ _))) = _
    rw [e]
    simp
  · have ib := r.bad f hf R
    refine .inr (.inr (.inr (.inr ⟨l1, by omega, _, rfl, .inr ⟨t, Str.ofString "(" :: (A ++ w :: R), 1 + A.length, by simp, ⟨ht f hf, by omega, fun _ => tp⟩, .inr (.inl ⟨_, _, rfl, ?_, rfl⟩), by simp; omega⟩⟩)))
    rw [show room + 1 + (t.n : Int) - 1 - t.n = room by omega]
    exact ib
def RowA (l : Nat) (room : Int) (F : Nat) (A : List Str) (w g : Str) (B : List Str) : Prop := ∀ pl, RowL l room F pl A w g B
def Ctx (X Y : List Str) (l : Nat) (room : Int) (F : Nat) : Prop := ∀ A w g B, RowA l room F A w g B → RowA 6 12 1 (X ++ A) w g (B ++ Y)
theorem Ctx.nil : Ctx [] [] 6 12 1 := fun A w g B r => by simpa using r
theorem Ctx.mv {X Y : List Str} {a b : Int} (a1 : -20 ≤ a) (a2 : a ≤ 20) (a0 : a ≠ 0) (b1 : -200 ≤ b) (b2 : b ≤ 200) (p : a.natAbs * F ≤ 400) (c : Ctx X Y (l + 1) (room + 1) F) : Ctx (X ++ [Str.ofString "moved", sI a, sI b, Str.ofString "("]) ([Str.ofString ")"] ++ Y) l room (a.natAbs * F) := fun A w g B r => by
  have := c _ w g _ (fun pl => (r pl).mv a1 a2 a0 b1 b2 p)
  simpa using this
theorem Ctx.fst {X Y : List Str} {t : NS} (ht : ∀ f, f.natAbs = F → t.ok l f) (tn : t.n = 1) (tp : t.plain = true) (c : Ctx X Y (l + 1) (room + 2) F) : Ctx (X ++ [Str.ofString "either", Str.ofString "("]) (Str.ofString ")" :: Str.ofString "(" :: (wds t ++ [Str.ofString ")"]) ++ Y) l room F := fun A w g B r => by
  have := c _ w g _ (fun pl => (r true).fst (pl := pl) ht tn tp)
  simpa using this
theorem Ctx.snd {X Y : List Str} {t : NS} (ht : ∀ f, f.natAbs = F → t.ok l f) (tp : t.plain = true) (c : Ctx X Y (l + 1) (room + 1 + t.n) F) : Ctx (X ++ (Str.ofString "either" :: Str.ofString "(" :: (wds t ++ [Str.ofString ")", Str.ofString "("]))) ([Str.ofString ")"] ++ Y) l room F := fun A w g B r => by
  have := c _ w g _ (fun pl => (r true).snd (pl := pl) ht tp)
  simpa using this
theorem row_kind {s : NS} (l1 : 1 ≤ l) {rest : List Str} (ok : ∀ f, s.ok l f) (sn : s.n = 1) (sp : s.plain = true) (e : wds s = g :: rest) (kb : KB (l - 1) room true w ∧ KB (l - 1) room false w) (r1 : 1 ≤ room) : RowA l room F [] w g rest := fun pl =>
  ⟨fun f _ => ⟨s, ⟨ok f, by omega, fun _ => sp⟩, by simpa using e⟩, fun f _ R => by
    obtain ⟨m, rfl⟩ : ∃ m, l = m + 1 := ⟨l - 1, by omega⟩
    refine .inr (.inl ⟨w, R, rfl, ?_, rfl⟩)
    cases pl with
    | true => exact kb.1
    | false => exact kb.2⟩
end Pi
end

section
set_option maxHeartbeats 8000000
namespace Pi
open PySem
theorem tokI {i : Int} (h : i.natAbs < 10000000000000) : Tok (sI i) (some i) := .num rfl (fig60 (Nat.lt_of_lt_of_le h (by decide)))
theorem nbI {i lo hi : Int} {R : List Str} (h : i.natAbs < 10000000000000) (no : ¬ (lo ≤ i ∧ i ≤ hi)) : NB (sI i :: R) lo hi := .inr ⟨_, _, _, rfl, tokI h, fun j e => by cases e; exact no⟩
theorem asc1 {lo hi x : Int} (h1 : lo ≤ x) (h2 : x ≤ hi) : Asc lo hi [x] := ⟨by simp, by simp; omega, by simp⟩
theorem asc2 {lo hi x y : Int} (h1 : lo ≤ x) (h2 : y ≤ hi) (h : x < y) : Asc lo hi [x, y] := ⟨by simp, by simp; omega, by simpa using h⟩
variable {l : Nat} {room : Int} {pl : Bool}
theorem row_leaf {A B : List Str} {w g : Str} {s : NS} {F : Nat} (ok : ∀ f, s.ok (l + 1) f) (sn : s.n = 1) (sp : pl = true → s.plain = true) (e : wds s = A ++ g :: B) (r1 : 1 ≤ room) (lb : ∀ R, LB (6 - l) (A ++ w :: R) A.length) (h : (A ++ [w]).head? = some (Str.ofString "powers") → pl = false) : RowL (l + 1) room F pl A w g B :=
  ⟨fun f _ => ⟨s, ⟨ok f, by omega, sp⟩, e⟩, fun f _ R => .inr (.inr (.inl ⟨lb R, fun z => h (by cases A <;> simpa using z)⟩))⟩
theorem no_pw {w : Str} {A : List Str} {x : Str} (h : x ≠ Str.ofString "powers") : (x :: A ++ [w]).head? = some (Str.ofString "powers") → pl = false := fun z => absurd (by simpa using z) h
theorem rw1 {m i : Int} (m1 : 1 ≤ m) (m2 : m ≤ 60) (h : i.natAbs < 10000000000000) (no : ¬ (1 ≤ i ∧ i ≤ 60)) (r1 : 1 ≤ room) {F : Nat} : RowL (l + 1) room F pl [Str.ofString "rests"] (sI i) (sI m) [Str.ofString ":", sI 0] :=
  row_leaf (s := .rests m [0]) (fun f => ⟨m1, m2, asc1 (by omega) (by omega)⟩) rfl (fun _ => rfl) rfl r1 (fun R => .rests_m (nbI h no)) (no_pw (by decide +kernel))
theorem rw2 {m r i : Int} (m2 : m ≤ 60) (r0 : 0 ≤ r) (rm : r + 1 ≤ m - 1) (h : i.natAbs < 10000000000000) (no : ¬ (r + 1 ≤ i ∧ i ≤ m - 1)) (r1 : 1 ≤ room) {F : Nat} : RowL (l + 1) room F pl [Str.ofString "rests", sI m, Str.ofString ":", sI r] (sI i) (sI (r + 1)) [] :=
  row_leaf (s := .rests m [r, r + 1]) (fun f => ⟨by omega, m2, asc2 r0 rm (by omega)⟩) rfl (fun _ => rfl) rfl r1 (fun R => .rests_r (n := 1) (by omega) m2 (RB.more (rs := [r]) (x := r) (asc1 r0 (by omega)) (by simp; omega) rfl (.inr no_brack) (.inr ⟨_, tokI h, fun j e => by cases e; exact no⟩))) (no_pw (by decide +kernel))
theorem rw3 {i : Int} (h : i.natAbs < 10000000000000) (no : i ≠ 0) (r1 : 1 ≤ room) {F : Nat} : RowL (l + 1) room F pl [Str.ofString "rests", sI 1, Str.ofString ":"] (sI i) (sI 0) [] :=
  row_leaf (s := .rests 1 [0]) (fun f => ⟨by omega, by omega, asc1 (by omega) (by omega)⟩) rfl (fun _ => rfl) rfl r1 (fun R => .rests_r (n := 0) (by omega) (by omega) (.first (nbI h (by omega)))) (no_pw (by decide +kernel))
theorem rw4 {n i : Int} (n1 : -100 ≤ n) (n2 : n ≤ 100) (h : i.natAbs < 10000000000000) (no : ¬ (-100 ≤ i ∧ i ≤ 100)) (r1 : 1 ≤ room) {F : Nat} : RowL (l + 1) room F pl [Str.ofString "list", Str.ofString ":"] (sI i) (sI n) [] :=
  row_leaf (s := .list [n]) (fun f => ⟨asc1 n1 n2, by simp⟩) rfl (fun _ => rfl) rfl r1 (fun R => .list_r (n := 0) (.first (nbI h no))) (no_pw (by decide +kernel))
theorem rw5 {n i : Int} (n1 : -100 ≤ n) (n2 : n + 1 ≤ 100) (h : i.natAbs < 10000000000000) (no : ¬ (n + 1 ≤ i ∧ i ≤ 100)) (r1 : 1 ≤ room) {F : Nat} : RowL (l + 1) room F pl [Str.ofString "list", Str.ofString ":", sI n] (sI i) (sI (n + 1)) [] :=
  row_leaf (s := .list [n, n + 1]) (fun f => ⟨asc2 n1 n2 (by omega), by simp⟩) rfl (fun _ => rfl) rfl r1 (fun R => .list_r (n := 1) (RB.more (rs := [n]) (x := n) (asc1 n1 (by omega)) (by simp) rfl (.inr no_brack) (.inr ⟨_, tokI h, fun j e => by cases e; exact no⟩))) (no_pw (by decide +kernel))
def l11 : List Int := [-6, -5, -4, -3, -2, -1, 0, 1, 2, 3, 4]
theorem asc11 : Asc (-100) 100 l11 := ⟨by decide, by decide, by decide⟩
theorem asc12 : Asc (-100) 100 (l11 ++ [5]) := ⟨by decide, by decide, by decide⟩
theorem rw6 {i : Int} (h : i.natAbs < 10000000000000) (no : ¬ (5 ≤ i ∧ i ≤ 100)) (r1 : 1 ≤ room) {F : Nat} : RowL (l + 1) room F pl (Str.ofString "list" :: Str.ofString ":" :: l11.map sI) (sI i) (sI 5) [] :=
  row_leaf (s := .list (l11 ++ [5])) (fun f => ⟨asc12, by decide⟩) rfl (fun _ => rfl) (by simp [wds]) r1 (fun R => .list_r (n := 11) (RB.more (rs := l11) (x := 4) asc11 (by decide) rfl (.inr no_brack) (.inr ⟨_, tokI h, fun j e => by cases e; exact no⟩))) (no_pw (by decide +kernel))
theorem rw7 {n i : Int} (n1 : 2 ≤ n) (n2 : n ≤ 10) (h : i.natAbs < 10000000000000) (no : ¬ (2 ≤ i ∧ i ≤ 10)) (r1 : 1 ≤ room) {F : Nat} : RowL (l + 1) room F false [Str.ofString "powers"] (sI i) (sI n) [] :=
  row_leaf (s := .powers n) (fun f => ⟨n1, n2⟩) rfl (fun z => by cases z) rfl r1 (fun R => .powers (nbI h no)) (fun _ => rfl)
def tl2 : NS := .list [-3, 4]
theorem tl2_ok {f : Int} : tl2.ok (l + 1) f := ⟨asc2 (by decide) (by decide) (by decide), by decide⟩
def inn : List Str := [Str.ofString "(", Str.ofString "list", Str.ofString ":", sI (-3), sI 4, Str.ofString ")"]
theorem rw8 {a b i : Int} (a1 : -20 ≤ a) (a2 : a ≤ 20) (a0 : a ≠ 0) (b1 : -200 ≤ b) (b2 : b ≤ 200) (h : i.natAbs < 10000000000000) (no : i = 0 ∨ ¬ (-20 ≤ i ∧ i ≤ 20)) (r2 : 2 ≤ room) : RowL (l + 2) room 1 pl [Str.ofString "moved"] (sI i) (sI a) (sI b :: inn) :=
  ⟨fun f hf => ⟨.moved tl2 a b, ⟨⟨a1, a2, a0, b1, b2, by rw [Int.natAbs_mul, hf]; omega, tl2_ok⟩, by simp [NS.n, tl2]; omega, fun _ => rfl⟩, rfl⟩, fun f hf R => by
    refine .inr (.inr (.inr (.inl ⟨by omega, r2, _, rfl, ?_⟩)))
    by_cases z : -20 ≤ i ∧ i ≤ 20
    · exact .inr ⟨i, R, rfl, z.1, z.2, .inl ⟨.inl (no.resolve_right fun n => n z), rfl⟩⟩
    · exact .inl ⟨nbI h z, rfl⟩⟩
theorem rw9 {a b i : Int} (a1 : -20 ≤ a) (a2 : a ≤ 20) (a0 : a ≠ 0) (b1 : -200 ≤ b) (b2 : b ≤ 200) (h : i.natAbs < 10000000000000) (no : ¬ (-200 ≤ i ∧ i ≤ 200)) (r2 : 2 ≤ room) : RowL (l + 2) room 1 pl [Str.ofString "moved", sI a] (sI i) (sI b) inn :=
  ⟨fun f hf => ⟨.moved tl2 a b, ⟨⟨a1, a2, a0, b1, b2, by rw [Int.natAbs_mul, hf]; omega, tl2_ok⟩, by simp [NS.n, tl2]; omega, fun _ => rfl⟩, rfl⟩, fun f hf R =>
    .inr (.inr (.inr (.inl ⟨by omega, r2, _, rfl, .inr ⟨a, _, rfl, a1, a2, .inr ⟨a0, by rw [Int.natAbs_mul, hf]; omega, .inl ⟨nbI h no, rfl⟩⟩⟩⟩)))⟩
def far3 : List Str := [Str.ofString "squares", Str.ofString "primes", Str.ofString "powers"]
theorem far_kb {w : Str} (m : w ∈ far3) {l : Nat} {room : Int} : KB l room true w := by
  have : ∀ w ∈ far3, w ≠ Str.ofString "moved" ∧ w ≠ Str.ofString "either" ∧ w ≠ Str.ofString "rests" ∧ w ≠ Str.ofString "list" := by decide +kernel
  obtain ⟨a, b, c, d⟩ := this w m
  exact ⟨fun z => absurd z a, fun z => absurd z b, c, d, .inl rfl⟩
theorem row_far {w g : Str} {rest : List Str} {s : NS} {F : Nat} (m : w ∈ far3) (ok : ∀ f, s.ok (l + 1) f) (sn : s.n = 1) (sp : s.plain = true) (e : wds s = g :: rest) (r1 : 1 ≤ room) : RowL (l + 1) room F true [] w g rest :=
  ⟨fun f _ => ⟨s, ⟨ok f, by omega, fun _ => sp⟩, by simpa using e⟩, fun f _ R => .inr (.inl ⟨w, R, rfl, far_kb m, rfl⟩)⟩
theorem rw10 {w : Str} (m : w ∈ far3) (r3 : 3 ≤ room) : RowL (l + 2) room 1 pl [Str.ofString "either", Str.ofString "("] w (Str.ofString "list") (Str.ofString ":" :: sI 5 :: Str.ofString ")" :: inn) := by
  have := RowL.fst (pl := pl) (F := 1) (l := l + 1) (room := room - 2) (t := tl2) (fun f _ => tl2_ok) rfl rfl (row_far (s := .list [5]) (g := Str.ofString "list") (rest := [Str.ofString ":", sI 5]) m (fun f => ⟨asc1 (by decide) (by decide), by decide⟩) rfl rfl rfl (by omega))
  rw [show room - 2 + 2 = room by omega] at this
  exact this
theorem rw11 {w : Str} (m : w ∈ far3) (r4 : 4 ≤ room) : RowL (l + 3) room 1 pl (Str.ofString "either" :: (inn ++ [Str.ofString "(", Str.ofString "moved", sI 2, sI 1, Str.ofString "("])) w (Str.ofString "rests") [sI 3, Str.ofString ":", sI 0, Str.ofString ")", Str.ofString ")"] := by
  have a := RowL.mv (pl := true) (F := 1) (l := l + 1) (room := room - 3) (a := 2) (b := 1) (by decide) (by decide) (by decide) (by decide) (by decide) (by decide) (row_far (s := .rests 3 [0]) (g := Str.ofString "rests") (rest := [sI 3, Str.ofString ":", sI 0]) m (fun f => ⟨by decide, by decide, asc1 (by decide) (by decide)⟩) rfl rfl rfl (by omega))
  have := RowL.snd (pl := pl) (F := 1) (l := l + 2) (t := tl2) (fun f _ => tl2_ok) rfl a
  rw [show room - 3 + 1 + 1 + ((tl2.n : Nat) : Int) = room by show room - 3 + 1 + 1 + 1 = room; omega] at this
  exact this
end Pi
end

section
set_option maxHeartbeats 8000000
namespace Pi
open PySem
structure Jk (w : Str) : Prop where
  bad : badW w = true
  ns : w ≠ Str.ofString "/"
  free : 32 ∉ TL.tl w
  len : w.length ≤ 62
structure RowOK (ws : List Str) (n : Nat) : Prop where
  lt : n < ws.length
  bad : ∀ r, RBad (ws.take (n + 1) ++ r) n
  free : ∀ w ∈ ws, 32 ∉ TL.tl w
  len : ∀ w ∈ ws, w.length ≤ 62
  n20 : ws.length ≤ 20
abbrev Wzr : Str := Str.ofString "0"
abbrev Wsl : Str := Str.ofString "/"
abbrev Won : Str := Str.ofString "1"
structure Few (xs : List Int) : Prop where
  sz : ∀ x ∈ xs, x.natAbs < 1000000
variable {xs ys : List Int} {l : Int}
end Pi
end

section
set_option maxHeartbeats 8000000
namespace Pi
open PySem
section
variable {P : Tab} {k : Nat} {h : IH}
structure Bt1 (b : Int) : Prop where
  b1 : 1 ≤ b
  b2 : b ≤ 1000000000000000000000000000000000000000000000000000000000000
  sm : Smooth b.toNat
abbrev SZ (t : Int) : Prop := t.natAbs < 1000000000000000000000000000000000000000000000000000000000000
end
end Pi
end

section
set_option maxHeartbeats 8000000
namespace Pi
open PySem
section
variable {P : Tab} {k : Nat} {h : IH}
def badM : List IV := [.non, .int 3, .bl true, .str (Str.ofString "x"), .lsr true [.lsr true [.int 1], .int 1], .tup [], .tup [.tup [.int 1]], .tup [.tup [.int 1], .int 1, .int 1], .tup [.lsr true [.int 1], .int 1], .tup [.tup [.int 1], .int 0], .tup [.tup [.int 1], .int (-1)], .tup [.tup [.int 2], .int 2]]
def badM2 : List IV := [.tup [.tup [.int 0], .int 1], .tup [.tup [.int 1, .int 0], .int 1], .tup [.tup [.bl true], .int 1], .tup [.tup [.int 1], .bl true], .tup [.tup [], .int 2], .tup [.tup [], .int 0], .tup [.tup [.int 1, .non], .int 1], .tup [.tup [.int 6, .int 4], .int 2]]
def badM3 : List IV := [.tup [.tup [.int 1], .int 1000003], .tup [.tup (List.replicate 12 (.int 1)), .int 1], .tup [.tup [.int 1000000000000000000000000000000000000000000000000000000000000], .int 1], .tup [.tup [.int (-1000000000000000000000000000000000000000000000000000000000000), .int 1], .int 1], .tup [.tup [.int 1], .int 2000000000000000000000000000000000000000000000000000000000000]]
def badN : List IV := badM ++ (badM2 ++ badM3)
theorem seal_2 {w : IO} {xs : List IV} (m : nrVs h.length xs = true) : sealI h (.ref (h.length + 1)) (h ++ [w, .lst xs]) = .ok (.lsr true xs) h := seal_lst (by omega) (by
  rw [List.getElem?_append_right (by omega), show h.length + 1 - h.length = 1 by omega]
  rfl) m
end
end Pi
end

section
set_option maxHeartbeats 8000000
namespace Pi
open PySem
def rowV (r : List Str × Nat) : IV := .tup [.lsr true (r.1.map .str), .int r.2]
structure Rws (rows : List (List Str × Nat)) (c : Nat) : Prop where
  ok : ∀ r ∈ rows, RowOK r.1 r.2
  n : rows.length = c
@[simp] theorem nr_strs {α : Type} {n : Nat} {f : α → Str} {xs : List α} : nrVs n (List.map (IV.str ∘ f) xs) = true := nrVs_map fun _ _ => rfl
section
variable {P : Tab} {k : Nat} {h : IH}
end
end Pi
end

section
set_option maxHeartbeats 8000000
namespace Pi
open PySem
theorem cutS_take (ws : List Str) (n : Nat) : cutI (ws.map IV.str) none (some (n : Int)) = (ws.take n).map .str := by
  unfold cutI
  rw [HT.sIx_none, HT.sIx_nat, List.drop_zero, Nat.sub_zero, List.map_take, List.take_eq_take_iff]
  omega
theorem cutS_drop (ws : List Str) (n : Nat) : cutI (ws.map IV.str) (some (n : Int)) none = (ws.drop n).map .str := by
  unfold cutI
  rw [HT.sIx_none, HT.sIx_nat, List.map_drop]
  by_cases hn : n ≤ (ws.map IV.str).length
  · rw [Nat.min_eq_left hn, List.take_of_length_le (by simp)]
  · rw [Nat.min_eq_right (by omega), List.drop_of_length_le (Nat.le_refl _), List.drop_of_length_le (by omega)]; simp
section
variable {P : Tab} {k : Nat} {h K : IH} {Φ : Calls} {σ : Sl} {ws : List Str}
theorem nr_s {n : Nat} {ws : List Str} : nrVs n (ws.map IV.str) = true := nrVs_map fun _ _ => rfl
theorem sl_take {n : Nat} : slI (.lsr true (ws.map .str)) none (some (n : Int)) K = .ok (.ref K.length) (K ++ [.lst ((ws.take n).map .str)]) := by
  rw [← cutS_take]; rfl
theorem sl_drop {n : Nat} : slI (.lsr true (ws.map .str)) (some (n : Int)) none K = .ok (.ref K.length) (K ++ [.lst ((ws.drop n).map .str)]) := by
  rw [← cutS_drop]; rfl
theorem cat_ss {a b : List Str} (l : a.length + b.length ≤ 1000) : binI .Add (.lsr true (a.map .str)) (.lsr true (b.map .str)) K = .ok (.ref K.length) (K ++ [.lst ((a ++ b).map .str)]) := by
  rw [cat_eq (by simp [LIM]; omega), ← List.map_append]
def SE (Φ : Calls) (σ : Sl) (A : E) (ws : List Str) : Prop := ∀ K, jE Φ A σ K = .ok (.lsr true (ws.map .str)) K
theorem SE.var {i : Nat} (s : σ[i]? = some (some (.lsr true (ws.map .str)))) : SE Φ σ (.var i) ws := fun K => W_eq.mp (by simp [s])
theorem SE.take {A B : E} {n : Nat} (a : SE Φ σ A ws) (b : ∀ K, jE Φ B σ K = .ok (.int n) K) : SE Φ σ (.shut (.sl A .non (.som B))) (ws.take n) := fun K => W_eq.mp (by
  simp [a K, b K, sl_take]
  rw [← List.map_take, seal_new nr_s]
  simp)
theorem SE.drop {A B : E} {n : Nat} (a : SE Φ σ A ws) (b : ∀ K, jE Φ B σ K = .ok (.int n) K) : SE Φ σ (.shut (.sl A (.som B) .non)) (ws.drop n) := fun K => W_eq.mp (by
  simp [a K, b K, sl_drop]
  rw [← List.map_drop, seal_new nr_s]
  simp)
theorem SE.one {B : E} {w : Str} (b : ∀ K, jE Φ B σ K = .ok (.str w) K) : SE Φ σ (.shut (.lst (.cons B .nil))) [w] := fun K => W_eq.mp (by
  simp [b K]
  rw [seal_new (by simp)]
  simp)
theorem SE.cat {A B : E} {a b : List Str} (l : a.length + b.length ≤ 1000) (ea : SE Φ σ A a) (eb : SE Φ σ B b) : SE Φ σ (.shut (.bin .Add A B)) (a ++ b) := fun K => W_eq.mp (by
  simp [ea K, eb K]
  rw [cat_ss l]
  simp only [W_ok]
  rw [seal_new nr_s]
  simp)
theorem int_var {i : Nat} {n : Int} (s : σ[i]? = some (some (.int n))) : ∀ K, jE Φ (.var i) σ K = .ok (.int n) K := fun K => W_eq.mp (by simp [s])
theorem str_var {i : Nat} {w : Str} (s : σ[i]? = some (some (.str w))) : ∀ K, jE Φ (.var i) σ K = .ok (.str w) K := fun K => W_eq.mp (by simp [s])
structure Mw (w : Str) : Prop where
  free : 32 ∉ TL.tl w
  len : w.length ≤ 62
def junk : List Str := [Str.ofString "x", Str.ofString "", Str.ofString "01", Str.ofString "-0", Str.ofString "+1", Str.ofString "1.0", Str.ofString "00", Str.ofString "--1", Str.ofString "1\n", Str.ofString "//", Str.ofString "0x1", Str.ofString "-", Str.ofString "1_0"]
def odd5 : List IV := [.non, .int 5, .bl false, .tup [.tup [.int 1], .int 1], .lsr true [.str (Str.ofString "1"), .str (Str.ofString "/"), .str (Str.ofString "1")]]
end
end Pi
end

section
set_option maxHeartbeats 8000000
namespace Pi
open PySem
section
variable {P : Tab} {k : Nat} {h : IH} {Φ : Calls} {σ : Sl} {p : Nat}
def DV (Φ : Calls) (σ : Sl) (h : IH) (p : Nat) (n : Nat) (A : E) (S : IV → Prop) : Prop := ∀ (o : IO) (B : Nat), DkD B o → B + n < 900000000 → ∃ (v : IV) (o' : IO), S v ∧ DkD (B + n) o' ∧ jE Φ A σ (h.set p o) = .ok v (h.set p o')
def InZ (lo hi : Int) (v : IV) : Prop := ∃ r : Int, lo ≤ r ∧ r ≤ hi ∧ v = .int r
theorem DV.mono {n : Nat} {A : E} {S T : IV → Prop} (d : DV Φ σ h p n A S) (m : ∀ v, S v → T v) : DV Φ σ h p n A T := fun o B dk hB => by
  obtain ⟨v, o', s, d', e⟩ := d o B dk hB
  exact ⟨v, o', m v s, d', e⟩
theorem DV.pure {A : E} {v : IV} (e : ∀ K, jE Φ A σ K = .ok v K) : DV Φ σ h p 0 A (· = v) := fun o B dk hB => ⟨v, o, rfl, dk, e _⟩
theorem DV.con {i : Int} {lo hi : Int} (a : lo ≤ i) (b : i ≤ hi) : DV Φ σ h p 0 (.con (.int i)) (InZ lo hi) := (DV.pure (v := .int i) fun K => W_eq.mp (by simp)).mono fun v e => ⟨i, a, b, e⟩
theorem DV.draw (u : U274 P) (hp : p < h.length) (s0 : σ[0]? = some (some (.ref p))) {M : E} {m : Int} (e : ∀ K, jE (callF P (k + 1)) M σ K = .ok (.int m) K) (h1 : 1 ≤ m) (h2 : mid m = true) : DV (callF P (k + 1)) σ h p 1 (.call 274 (.cons (.var 0) (.cons M .nil))) (InZ 0 (m - 1)) := fun o B dk hB => by
  obtain ⟨r, o', r0, r1, d', e1⟩ := drawD (k := k) u hp dk (by omega) h1 h2
  exact ⟨.int r, o', ⟨r, r0, by omega, rfl⟩, d', W_eq.mp (by
    simp [s0, e]
    rw [e1]
    simp)⟩
theorem DV.drawC (u : U274 P) (hp : p < h.length) (s0 : σ[0]? = some (some (.ref p))) {m : Int} (h1 : 1 ≤ m) (h2 : mid m = true) : DV (callF P (k + 1)) σ h p 1 (.call 274 (.cons (.var 0) (.cons (.con (.int m)) .nil))) (InZ 0 (m - 1)) := DV.draw u hp s0 (fun K => W_eq.mp (by simp)) h1 h2
theorem DV.add {n m : Nat} {A B : E} {a b c d : Int} (x : DV Φ σ h p n A (InZ a b)) (y : DV Φ σ h p m B (InZ c d)) : DV Φ σ h p (n + m) (.bin .Add A B) (InZ (a + c) (b + d)) := fun o N dk hN => by
  obtain ⟨_, o1, ⟨r, r1, r2, rfl⟩, d1, e1⟩ := x o N dk (by omega)
  obtain ⟨_, o2, ⟨t, t1, t2, rfl⟩, d2, e2⟩ := y o1 _ d1 (by omega)
  exact ⟨.int (r + t), o2, ⟨_, by omega, by omega, rfl⟩, by rw [← Nat.add_assoc]; exact d2, W_eq.mp (by simp [e1, e2])⟩
theorem DV.sub {n m : Nat} {A B : E} {a b c d : Int} (x : DV Φ σ h p n A (InZ a b)) (y : DV Φ σ h p m B (InZ c d)) : DV Φ σ h p (n + m) (.bin .Sub A B) (InZ (a - d) (b - c)) := fun o N dk hN => by
  obtain ⟨_, o1, ⟨r, r1, r2, rfl⟩, d1, e1⟩ := x o N dk (by omega)
  obtain ⟨_, o2, ⟨t, t1, t2, rfl⟩, d2, e2⟩ := y o1 _ d1 (by omega)
  exact ⟨.int (r - t), o2, ⟨_, by omega, by omega, rfl⟩, by rw [← Nat.add_assoc]; exact d2, W_eq.mp (by simp [e1, e2])⟩
theorem DV.neg {n : Nat} {A : E} {a b : Int} (x : DV Φ σ h p n A (InZ a b)) : DV Φ σ h p n (.neg A) (InZ (-b) (-a)) := fun o N dk hN => by
  obtain ⟨_, o1, ⟨r, r1, r2, rfl⟩, d1, e1⟩ := x o N dk (by omega)
  exact ⟨.int (-r), o1, ⟨_, by omega, by omega, rfl⟩, d1, W_eq.mp (by simp [e1])⟩
theorem log13 {i : Int} (l : i.natAbs < 10000000000000) : i.natAbs.log2 < 1920 := by
  by_cases z : i.natAbs = 0
  · rw [z]; decide
  · exact (Nat.log2_lt z).mpr (Nat.lt_of_lt_of_le l (by decide +kernel))
theorem DV.str {n : Nat} {A : E} {a b : Int} (x : DV Φ σ h p n A (InZ a b)) (l : -10000000000000 < a) (l2 : b < 10000000000000) : DV Φ σ h p n (.blt .str (.cons A .nil)) (fun v => ∃ r : Int, a ≤ r ∧ r ≤ b ∧ v = .str (sI r)) := fun o N dk hN => by
  obtain ⟨_, o1, ⟨r, r1, r2, rfl⟩, d1, e1⟩ := x o N dk (by omega)
  exact ⟨.str (sI r), o1, ⟨_, by omega, by omega, rfl⟩, d1, W_eq.mp (by
    simp [e1]
    rw [str_I (log13 (by omega))]
    simp)⟩
theorem DV.pick {n : Nat} {es : Es} {vs : List IV} {A : E} {m : Int} (e : ∀ K, jEs Φ es σ K = .ok vs K) (nr : ∀ N, nrVs N vs = true) (l : vs.length ≤ 1000) (x : DV Φ σ h p n A (InZ 0 m)) (hm : m < vs.length) : DV Φ σ h p n (.ix (.shut (.lst es)) A) (· ∈ vs) := fun o N dk hN => by
  obtain ⟨_, o1, ⟨r, r1, r2, rfl⟩, d1, e1⟩ := x o N dk hN
  have hr : r.toNat < vs.length := by omega
  refine ⟨vs[r.toNat], o1, List.getElem_mem _, d1, W_eq.mp ?_⟩
  simp [e]
  rw [newL_ok (by simp [LIM]; omega), W_ok, List.length_set, seal_newS (nr _)]
  simp [e1]
  rw [ix_i (xs := vs) rfl r1 hr]
  simp
theorem DV.tup4 {n1 n2 n3 n4 : Nat} {A1 A2 A3 A4 : E} {S1 S2 S3 S4 : IV → Prop} (x1 : DV Φ σ h p n1 A1 S1) (x2 : DV Φ σ h p n2 A2 S2) (x3 : DV Φ σ h p n3 A3 S3) (x4 : DV Φ σ h p n4 A4 S4) : DV Φ σ h p (n1 + n2 + n3 + n4) (.tup (.cons A1 (.cons A2 (.cons A3 (.cons A4 .nil))))) (fun v => ∃ a b c d, v = .tup [a, b, c, d] ∧ S1 a ∧ S2 b ∧ S3 c ∧ S4 d) := fun o N dk hN => by
  obtain ⟨v1, o1, s1, d1, e1⟩ := x1 o N dk (by omega)
  obtain ⟨v2, o2, s2, d2, e2⟩ := x2 o1 _ d1 (by omega)
  obtain ⟨v3, o3, s3, d3, e3⟩ := x3 o2 _ d2 (by omega)
  obtain ⟨v4, o4, s4, d4, e4⟩ := x4 o3 _ d3 (by omega)
  exact ⟨_, o4, ⟨v1, v2, v3, v4, rfl, s1, s2, s3, s4⟩, by rw [show N + (n1 + n2 + n3 + n4) = N + n1 + n2 + n3 + n4 by omega]; exact d4, W_eq.mp (by simp [e1, e2, e3, e4])⟩
theorem DV.lst4 {n1 n2 n3 n4 : Nat} {A1 A2 A3 A4 : E} {S1 S2 S3 S4 : IV → Prop} (x1 : DV Φ σ h p n1 A1 S1) (x2 : DV Φ σ h p n2 A2 S2) (x3 : DV Φ σ h p n3 A3 S3) (x4 : DV Φ σ h p n4 A4 S4) (nr : ∀ v, S1 v ∨ S2 v ∨ S3 v ∨ S4 v → ∃ w, v = .str w) : DV Φ σ h p (n1 + n2 + n3 + n4) (.shut (.lst (.cons A1 (.cons A2 (.cons A3 (.cons A4 .nil)))))) (fun v => ∃ a b c d, v = .lsr true ([a, b, c, d].map .str) ∧ S1 (.str a) ∧ S2 (.str b) ∧ S3 (.str c) ∧ S4 (.str d)) := fun o N dk hN => by
  obtain ⟨v1, o1, s1, d1, e1⟩ := x1 o N dk (by omega)
  obtain ⟨v2, o2, s2, d2, e2⟩ := x2 o1 _ d1 (by omega)
  obtain ⟨v3, o3, s3, d3, e3⟩ := x3 o2 _ d2 (by omega)
  obtain ⟨v4, o4, s4, d4, e4⟩ := x4 o3 _ d3 (by omega)
  obtain ⟨w1, rfl⟩ := nr v1 (.inl s1)
  obtain ⟨w2, rfl⟩ := nr v2 (.inr (.inl s2))
  obtain ⟨w3, rfl⟩ := nr v3 (.inr (.inr (.inl s3)))
  obtain ⟨w4, rfl⟩ := nr v4 (.inr (.inr (.inr s4)))
  refine ⟨_, o4, ⟨w1, w2, w3, w4, rfl, s1, s2, s3, s4⟩, by rw [show N + (n1 + n2 + n3 + n4) = N + n1 + n2 + n3 + n4 by omega]; exact d4, W_eq.mp ?_⟩
  simp [e1, e2, e3, e4]
  rw [newL_ok (by simp [LIM]), W_ok, List.length_set, seal_newS2 d4.nr (by simp)]
  simp
theorem DV.asg {n i : Nat} {A : E} {S : IV → Prop} (x : DV Φ σ h p n A S) {o : IO} {B : Nat} (d : DkD B o) (hB : B + n < 900000000) {Q : Fl → IH → Prop} (hi : i < σ.length) (q : ∀ v o', S v → DkD (B + n) o' → Q (.nx (σ.set i (some v))) (h.set p o')) : WS (jS Φ (.asg (.name i) A) σ (h.set p o)) Q := by
  obtain ⟨v, o', s, d', e⟩ := x o B d hB
  rw [W_asg, e, W_ok]
  have : tgI (.name i) v σ = some (σ.set i (some v)) := by unfold tgI; rfl
  rw [this]
  exact q v o' s d'
theorem DV.ret {n : Nat} {A : E} {S : IV → Prop} (x : DV Φ σ h p n A S) {o : IO} {B : Nat} (d : DkD B o) (hB : B + n < 900000000) {Q : Fl → IH → Prop} (q : ∀ v o', S v → DkD (B + n) o' → Q (.ret v) (h.set p o')) : WS (jS Φ (.ret A) σ (h.set p o)) Q := by
  obtain ⟨v, o', s, d', e⟩ := x o B d hB
  simp [e]
  exact q v o' s d'
theorem DV.app {n i p7 : Nat} {A : E} {S : IV → Prop} (x : DV Φ σ h p n A S) {o : IO} {B : Nat} (d : DkD B o) (hB : B + n < 900000000) {Q : Fl → IH → Prop} (si : σ[i]? = some (some (.ref p7))) {xs : List IV} (e7 : h[p7]? = some (.lst xs)) (l : xs.length < 1000) (ne : p7 ≠ p) (q : ∀ v o', S v → DkD (B + n) o' → Q (.nx σ) ((h.set p7 (.lst (xs ++ [v]))).set p o')) : WS (jS Φ (.drop (.meth .append (.var i) (.cons A .nil))) σ (h.set p o)) Q := by
  obtain ⟨v, o', s, d', e⟩ := x o B d hB
  have a7 : (h.set p o')[p7]? = some (.lst xs) := by rw [List.getElem?_set_ne (fun z => ne z.symm)]; exact e7
  have b7 : (h.set p o)[p7]? = some (.lst xs) := by rw [List.getElem?_set_ne (fun z => ne z.symm)]; exact e7
  simp [si, e]
  refine ⟨ref_isLst b7, ?_⟩
  rw [ref_app a7 (by simp [LIM]; omega), List.set_comm _ _ (fun z => ne z.symm)]
  simp
  exact q v o' s d'
end
end Pi
end

section
set_option maxHeartbeats 8000000
namespace Pi
open PySem
section
variable {P : Tab} {k : Nat} {h : IH} {Φ : Calls} {σ : Sl} {p : Nat}
def EsE (Φ : Calls) (σ : Sl) (es : Es) (vs : List IV) : Prop := ∀ K, jEs Φ es σ K = .ok vs K
theorem EsE.nil : EsE Φ σ .nil [] := fun K => W_eq.mp (by simp)
theorem EsE.cons {A : E} {v : IV} {es : Es} {vs : List IV} (a : ∀ K, jE Φ A σ K = .ok v K) (b : EsE Φ σ es vs) : EsE Φ σ (.cons A es) (v :: vs) := fun K => W_eq.mp (by simp [a K, b K])
theorem strC {w : Str} : ∀ K, jE Φ (.con (.str w)) σ K = .ok (.str w) K := fun K => W_eq.mp (by simp)
theorem strE {A : E} {i : Int} (a : ∀ K, jE Φ A σ K = .ok (.int i) K) (l : i.natAbs < 10000000000000) : ∀ K, jE Φ (.blt .str (.cons A .nil)) σ K = .ok (.str (sI i)) K := fun K => W_eq.mp (by
  simp [a K]
  rw [str_I (log13 l)]
  simp)
theorem intC {i : Int} : ∀ K, jE Φ (.con (.int i)) σ K = .ok (.int i) K := fun K => W_eq.mp (by simp)
theorem intA {A B : E} {i j : Int} (a : ∀ K, jE Φ A σ K = .ok (.int i) K) (b : ∀ K, jE Φ B σ K = .ok (.int j) K) : ∀ K, jE Φ (.bin .Add A B) σ K = .ok (.int (i + j)) K := fun K => W_eq.mp (by simp [a K, b K])
theorem intS {A B : E} {i j : Int} (a : ∀ K, jE Φ A σ K = .ok (.int i) K) (b : ∀ K, jE Φ B σ K = .ok (.int j) K) : ∀ K, jE Φ (.bin .Sub A B) σ K = .ok (.int (i - j)) K := fun K => W_eq.mp (by simp [a K, b K])
theorem SE.lst {es : Es} {ws : List Str} (e : EsE Φ σ es (ws.map .str)) (l : ws.length ≤ 1000) : SE Φ σ (.shut (.lst es)) ws := fun K => W_eq.mp (by
  simp [e K]
  rw [newL_ok (by simp [LIM]; omega), W_ok, seal_new nr_s]
  simp)
def RwV (v : IV) : Prop := ∃ A w g B, v = .tup [.lsr true (A.map .str), .str w, .str g, .lsr true (B.map .str)] ∧ Mw w ∧ ∀ (l : Nat) (room : Int), 9 ≤ room → RowL (l + 3) room 1 false A w g B
theorem RwV.nr {v : IV} (r : RwV v) {N : Nat} : nrV N v = true := by
  obtain ⟨A, w, g, B, rfl, _⟩ := r
  have a : nrVs N (A.map IV.str) = true := nr_s
  have b : nrVs N (B.map IV.str) = true := nr_s
  simp [nrV, nrVs, a, b]
theorem nr_rows {vs : List IV} (a : ∀ v ∈ vs, RwV v) {N : Nat} : nrVs N vs = true := by
  induction vs with
  | nil => rfl
  | cons v vs ih =>
    have := (a v (by simp)).nr (N := N)
    have := ih fun x m => a x (by simp [m])
    simp [*]
theorem mw_I {i : Int} (l : i.natAbs < 10000000000000) : Mw (sI i) := ⟨tl_free, len_I (fig60 (Nat.lt_of_lt_of_le l (by decide)))⟩
def l12 : List Str := (l11 ++ [5]).map sI
theorem row12 (l : σ.length = 13) : SE Φ σ (.shut (.lc (.blt .str (.cons (.bin .Sub (.var 12) (.con (.int 6))) .nil)) (.name 12) (.rng (.con (.int 12))) .non [12])) l12 := fun K => W_eq.mp (by
  simp
  rw [rng_i (by omega)]
  simp only [W_ok]
  refine W_lcM (ts := List.range 12) (u := fun k : Nat => .int k) (fun k : Nat => .str (sI ((k : Int) - 6))) (by simp [LIM]) (fun t ht => ?_) (fun _ _ => by simp) ?_
  · rw [List.mem_range] at ht
    rw [W_lcB]
    have : tgI (.name 12) (.int (t : Int)) (wipeI σ [12]) = some ((wipeI σ [12]).set 12 (some (.int (t : Int)))) := rfl
    rw [this]
    have l13 : (wipeI σ [12]).length = 13 := by simp [wipeI, l]
    have : ((wipeI σ [12]).set 12 (some (.int (t : Int))))[12]? = some (some (.int (t : Int))) := List.getElem?_set_self (by omega)
    simp [this]
    rw [str_I (log13 (by omega))]
    simp
  · refine ⟨?_, rfl⟩
    rw [show (List.range 12).map (fun k : Nat => IV.str (sI ((k : Int) - 6))) = l12.map .str from rfl])
theorem app7 {n i : Nat} {A : E} {S : IV → Prop} {xs : List IV} (x : DV Φ σ (h ++ [IO.lst xs]) p n A S) {o : IO} {B : Nat} (d : DkD B o) (hp : p < h.length) (hB : B + n < 900000000) {Q : Fl → IH → Prop} (si : σ[i]? = some (some (.ref h.length))) (l : xs.length < 1000) (q : ∀ v o', S v → DkD (B + n) o' → Q (.nx σ) ((h ++ [IO.lst (xs ++ [v])]).set p o')) : WS (jS Φ (.drop (.meth .append (.var i) (.cons A .nil))) σ ((h ++ [IO.lst xs]).set p o)) Q := by
  refine DV.app x d hB si new_at l (by omega) fun v o' s d' => ?_
  have : (h ++ [IO.lst xs]).set h.length (.lst (xs ++ [v])) = h ++ [IO.lst (xs ++ [v])] := by simp
  rw [this]
  exact q v o' s d'
theorem lst1 {n i : Nat} {A : E} {S : IV → Prop} (x : DV Φ σ h p n A S) {o : IO} {B : Nat} (d : DkD B o) (hp : p < h.length) (hB : B + n < 900000000) {Q : Fl → IH → Prop} (q : ∀ v o', S v → DkD (B + n) o' → Q (.nx (σ.set i (some (.ref h.length)))) ((h ++ [IO.lst [v]]).set p o')) : WS (jS Φ (.asg (.name i) (.lst (.cons A .nil))) σ (h.set p o)) Q := by
  obtain ⟨v, o', s, d', e⟩ := x o B d hB
  simp [e]
  rw [set_app hp]
  exact q v o' s d'
theorem DV.one {A : E} {w : Str} (e : ∀ K, jE Φ A σ K = .ok (.str w) K) : DV Φ σ h p 0 A (fun v => ∃ x, v = .str x ∧ x = w) := (DV.pure e).mono fun v z => ⟨w, z, rfl⟩
theorem DV.words {n : Nat} {es : Es} {ws : List Str} {A : E} {m : Int} (e : EsE Φ σ es (ws.map .str)) (x : DV Φ σ h p n A (InZ 0 m)) (hm : m < ws.length) (l : ws.length ≤ 1000) : DV Φ σ h p n (.ix (.shut (.lst es)) A) (fun v => ∃ w, v = .str w ∧ w ∈ ws) := (DV.pick e (fun N => nr_s) (by simpa using l) x (by simpa using hm)).mono fun v z => by
  obtain ⟨w, m, rfl⟩ := List.mem_map.mp z
  exact ⟨w, rfl, m⟩
theorem rowG {n2 n3 : Nat} {A1 A2 A3 A4 : E} {A B : List Str} {GW GG : Str → Prop} (a : SE Φ σ A1 A) (b : DV Φ σ h p n2 A2 (fun v => ∃ w, v = .str w ∧ GW w)) (c : DV Φ σ h p n3 A3 (fun v => ∃ w, v = .str w ∧ GG w)) (d : SE Φ σ A4 B) (r : ∀ w g, GW w → GG g → Mw w ∧ ∀ (l : Nat) (room : Int), 9 ≤ room → RowL (l + 3) room 1 false A w g B) : DV Φ σ h p (0 + n2 + n3 + 0) (.tup (.cons A1 (.cons A2 (.cons A3 (.cons A4 .nil))))) RwV := (DV.tup4 (DV.pure a) b c (DV.pure d)).mono fun v z => by
  obtain ⟨_, _, _, _, rfl, rfl, ⟨w, rfl, gw⟩, ⟨g, rfl, gg⟩, rfl⟩ := z
  obtain ⟨r1, r2⟩ := r w g gw gg
  exact ⟨A, w, g, B, rfl, r1, r2⟩
theorem sk {w g : Str} {A B : List Str} {i : Int} (e : w = sI i) (l : i.natAbs < 10000000000000) (r : ∀ (l : Nat) (room : Int), 9 ≤ room → RowL (l + 3) room 1 false A (sI i) g B) : Mw w ∧ ∀ (l : Nat) (room : Int), 9 ≤ room → RowL (l + 3) room 1 false A w g B := by
  subst e
  exact ⟨mw_I l, r⟩
theorem DV.pick2 {n1 n2 n3 : Nat} {A B C : E} {a b c d : Int} (x : DV Φ σ h p n1 A (InZ a b)) (y : DV Φ σ h p n2 B (InZ c d)) (z : DV Φ σ h p n3 C (InZ 0 1)) : DV Φ σ h p (n1 + n2 + n3) (.ix (.shut (.lst (.cons A (.cons B .nil)))) C) (fun v => InZ a b v ∨ InZ c d v) := fun o N dk hN => by
  obtain ⟨_, o1, ⟨r, r1, r2, rfl⟩, d1, e1⟩ := x o N dk (by omega)
  obtain ⟨_, o2, ⟨t, t1, t2, rfl⟩, d2, e2⟩ := y o1 _ d1 (by omega)
  obtain ⟨_, o3, ⟨j, j1, j2, rfl⟩, d3, e3⟩ := z o2 _ d2 (by omega)
  rw [show N + n1 + n2 + n3 = N + (n1 + n2 + n3) by omega] at d3
  have c : j = 0 ∨ j = 1 := by omega
  rcases c with rfl | rfl
  · refine ⟨.int r, o3, .inl ⟨r, r1, r2, rfl⟩, d3, W_eq.mp ?_⟩
    simp [e1, e2]
    rw [seal_newS2 d2.nr rfl]
    simp [e3]
  · refine ⟨.int t, o3, .inr ⟨t, t1, t2, rfl⟩, d3, W_eq.mp ?_⟩
    simp [e1, e2]
    rw [seal_newS2 d2.nr rfl]
    simp [e3]
theorem sl12 (s : σ[5]? = some (some (.lsr true (l12.map .str)))) : SE Φ σ (.shut (.sl (.var 5) .non (.som (.neg (.con (.int 1)))))) (l11.map sI) := fun K => W_eq.mp (by
  simp [s]
  rw [show slI (.lsr true (l12.map .str)) none (some (-1)) K = .ok (.ref K.length) (K ++ [.lst ((l11.map sI).map .str)]) from rfl]
  simp only [W_ok]
  rw [seal_new nr_s]
  simp)
theorem l12_4 (s : σ[5]? = some (some (.lsr true (l12.map .str)))) : ∀ K, jE Φ (.ix (.var 5) (.neg (.con (.int 2)))) σ K = .ok (.str (sI 4)) K := fun K => W_eq.mp (by
  simp [s]
  rw [show ixI (.lsr true (l12.map .str)) (.int (-2)) K = .ok (.str (sI 4)) K from rfl]
  simp)
theorem l12_5 (s : σ[5]? = some (some (.lsr true (l12.map .str)))) : ∀ K, jE Φ (.ix (.var 5) (.neg (.con (.int 1)))) σ K = .ok (.str (sI 5)) K := fun K => W_eq.mp (by
  simp [s]
  rw [show ixI (.lsr true (l12.map .str)) (.int (-1)) K = .ok (.str (sI 5)) K from rfl]
  simp)
theorem s1' : Str.ofString "1" = sI 1 := by decide +kernel
theorem s0 : Str.ofString "0" = sI 0 := by decide +kernel
theorem s3 : Str.ofString "3" = sI 3 := by decide +kernel
theorem s5 : Str.ofString "5" = sI 5 := by decide +kernel
theorem sn3 : Str.ofString "-3" = sI (-3) := by decide +kernel
theorem s4 : Str.ofString "4" = sI 4 := by decide +kernel
theorem cIs {a : Str} {i : Int} (e : a = sI i) : IV.str a = .str (sI i) := by rw [e]
theorem rows_eq (u : U382 P) {o : IO} {B : Nat} (hp : p < h.length) (d : DkD B o) (hB : B < 800000000) : ∃ (o' : IO) (rows : List IV), DkD (B + 40) o' ∧ (∀ v ∈ rows, RwV v) ∧ rows.length = 11 ∧ callF P (k + 2) 382 [.ref p] (h.set p o) = .ok (.lsr true rows) (h.set p o') := by
  have u2 := u.2
  have w : W (callF P (k + 2) 382 [.ref p] (h.set p o)) (fun v h' => ∃ (o' : IO) (rows : List IV), DkD (B + 40) o' ∧ (∀ v ∈ rows, RwV v) ∧ rows.length = 11 ∧ v = .lsr true rows ∧ h' = h.set p o') (fun _ _ => False) := by
    refine W_def u.1 (by decide) rfl ?_
    show WS (jSs (callF P (k + 1)) b_law_rows [some (.ref p), none, none, none, none, none, none, none, none, none, none, none, none] (h.set p o)) _
    unfold b_law_rows
    refine W.step ?_
    refine DV.asg (DV.add (DV.con (lo := 2) (hi := 2) (by omega) (by omega)) (DV.drawC u2 hp rfl (by omega) (by decide +kernel))) d (by omega) (by simp) ?_
    rintro _ o1 ⟨m, m1, m2, rfl⟩ d1
    refine Nxt.go ?_
    refine DV.asg (DV.draw (m := m - 1) u2 hp rfl (intS (int_var rfl) intC) (by omega) (mid64 (by omega))) d1 (by omega) (by simp) ?_
    rintro _ o2 ⟨r, r1, r2, rfl⟩ d2
    refine Nxt.go ?_
    refine DV.asg (DV.draw (m := 1000000000000) u2 hp rfl (fun K => W_eq.mp (by simp; rw [b_pow (by decide) (by decide) (by decide)]; simp)) (by omega) (by decide +kernel)) d2 (by omega) (by simp) ?_
    rintro _ o3 ⟨f, f1, f2, rfl⟩ d3
    refine Nxt.go ?_
    refine DV.asg (DV.sub (DV.drawC u2 hp rfl (by omega) (by decide +kernel)) (DV.con (lo := 99) (hi := 99) (by omega) (by omega))) d3 (by omega) (by simp) ?_
    rintro _ o4 ⟨n, n1, n2, rfl⟩ d4
    refine Nxt.go ?_
    refine DV.asg (DV.pure (row12 (by simp))) d4 (by omega) (by simp) ?_
    rintro _ o5 rfl d5
    refine Nxt.go ?_
    refine DV.asg (DV.pick (EsE.cons (strE (intA (int_var rfl) (int_var rfl)) (by omega)) (.cons (strE (int_var rfl) (by omega)) (.cons strC .nil))) (fun N => by simp) (by simp) (DV.drawC u2 hp rfl (by omega) (by decide +kernel)) (by simp)) d5 (by omega) (by simp) ?_
    intro v6 o6 mv d6
    obtain ⟨i6, rfl, l6, no6⟩ : ∃ i : Int, v6 = .str (sI i) ∧ i.natAbs < 10000000000000 ∧ ¬ (r + 1 ≤ i ∧ i ≤ m - 1) := by
      simp at mv
      rcases mv with rfl | rfl | rfl
      · exact ⟨_, rfl, by omega, by omega⟩
      · exact ⟨_, rfl, by omega, by omega⟩
      · exact ⟨-1, cIs (by decide +kernel), by omega, by omega⟩
    have hq : p < (h ++ [IO.lst ([] : List IV)]).length := by simp; omega
    have hx : ∀ xs : List IV, p < (h ++ [IO.lst xs]).length := fun xs => by simp; omega
    refine Nxt.go ?_
    refine lst1 (rowG (B := [Str.ofString ":", Str.ofString "0"]) (SE.lst (ws := [Str.ofString "rests"]) (.cons strC .nil) (by simp)) (DV.words (ws := [Str.ofString "0", Str.ofString "61", Str.ofString "-1", sI (61 + f)]) (.cons strC (.cons strC (.cons strC (.cons (strE (intA intC (int_var rfl)) (by omega)) .nil)))) (DV.drawC u2 hp rfl (by omega) (by decide +kernel)) (by simp) (by simp)) (DV.one (strE (int_var rfl) (by omega))) (SE.lst (.cons strC (.cons strC .nil)) (by simp)) ?_) d6 hp (by omega) ?_
    · rintro w g mw rfl
      rw [s0]
      simp only [List.mem_cons, List.not_mem_nil, or_false] at mw
      rcases mw with rfl | rfl | rfl | rfl
      · exact sk (i := 0) (by decide +kernel) (by omega) fun l room hr => rw1 (by omega) (by omega) (by omega) (by omega) (by omega)
      · exact sk (i := 61) (by decide +kernel) (by omega) fun l room hr => rw1 (by omega) (by omega) (by omega) (by omega) (by omega)
      · exact sk (i := -1) (by decide +kernel) (by omega) fun l room hr => rw1 (by omega) (by omega) (by omega) (by omega) (by omega)
      · exact sk rfl (by omega) fun l room hr => rw1 (by omega) (by omega) (by omega) (by omega) (by omega)
    intro v1 o7 a1 d7
    refine Nxt.go ?_
    refine app7 (rowG (B := []) (SE.lst (ws := [Str.ofString "rests", sI m, Str.ofString ":", sI r]) (.cons strC (.cons (strE (int_var rfl) (by omega)) (.cons strC (.cons (strE (int_var rfl) (by omega)) .nil)))) (by simp)) (DV.one (str_var rfl)) (DV.one (strE (intA (int_var rfl) intC) (by omega))) (SE.lst .nil (by simp)) ?_) d7 hp (by omega) rfl (by simp) ?_
    · rintro w g rfl rfl
      exact sk rfl l6 fun l room hr => rw2 (by omega) (by omega) (by omega) l6 no6 (by omega)
    intro v2 o8 a2 d8
    refine Nxt.go ?_
    refine app7 (rowG (B := []) (SE.lst (ws := [Str.ofString "rests", sI 1, Str.ofString ":"]) (.cons strC (.cons (by rw [← s1']; exact strC) (.cons strC .nil))) (by simp)) (DV.words (ws := [Str.ofString "1", Str.ofString "-1", sI (1 + f)]) (.cons strC (.cons strC (.cons (strE (intA intC (int_var rfl)) (by omega)) .nil))) (DV.drawC u2 (hx _) rfl (by omega) (by decide +kernel)) (by simp) (by simp)) (DV.one strC) (SE.lst .nil (by simp)) ?_) d8 hp (by omega) rfl (by simp) ?_
    · rintro w g mw rfl
      rw [s0]
      simp only [List.mem_cons, List.not_mem_nil, or_false] at mw
      rcases mw with rfl | rfl | rfl
      · exact sk (i := 1) (by decide +kernel) (by omega) fun l room hr => rw3 (by omega) (by omega) (by omega)
      · exact sk (i := -1) (by decide +kernel) (by omega) fun l room hr => rw3 (by omega) (by omega) (by omega)
      · exact sk rfl (by omega) fun l room hr => rw3 (by omega) (by omega) (by omega)
    intro v3 o9 a3 d9
    refine Nxt.go ?_
    refine app7 (rowG (B := []) (SE.lst (ws := [Str.ofString "list", Str.ofString ":"]) (.cons strC (.cons strC .nil)) (by simp)) (DV.words (ws := [Str.ofString "101", Str.ofString "-101", sI (101 + f)]) (.cons strC (.cons strC (.cons (strE (intA intC (int_var rfl)) (by omega)) .nil))) (DV.drawC u2 (hx _) rfl (by omega) (by decide +kernel)) (by simp) (by simp)) (DV.one (strE (int_var rfl) (by omega))) (SE.lst .nil (by simp)) ?_) d9 hp (by omega) rfl (by simp) ?_
    · rintro w g mw rfl
      simp only [List.mem_cons, List.not_mem_nil, or_false] at mw
      rcases mw with rfl | rfl | rfl
      · exact sk (i := 101) (by decide +kernel) (by omega) fun l room hr => rw4 (by omega) (by omega) (by omega) (by omega) (by omega)
      · exact sk (i := -101) (by decide +kernel) (by omega) fun l room hr => rw4 (by omega) (by omega) (by omega) (by omega) (by omega)
      · exact sk rfl (by omega) fun l room hr => rw4 (by omega) (by omega) (by omega) (by omega) (by omega)
    intro v4 o10 a4 d10
    refine Nxt.go ?_
    refine app7 (rowG (B := []) (SE.lst (ws := [Str.ofString "list", Str.ofString ":", sI n]) (.cons strC (.cons strC (.cons (strE (int_var rfl) (by omega)) .nil))) (by simp)) (DV.words (ws := [sI n, sI (n - 1), Str.ofString "101"]) (.cons (strE (int_var rfl) (by omega)) (.cons (strE (intS (int_var rfl) intC) (by omega)) (.cons strC .nil))) (DV.drawC u2 (hx _) rfl (by omega) (by decide +kernel)) (by simp) (by simp)) (DV.one (strE (intA (int_var rfl) intC) (by omega))) (SE.lst .nil (by simp)) ?_) d10 hp (by omega) rfl (by simp) ?_
    · rintro w g mw rfl
      simp only [List.mem_cons, List.not_mem_nil, or_false] at mw
      rcases mw with rfl | rfl | rfl
      · exact sk rfl (by omega) fun l room hr => rw5 (by omega) (by omega) (by omega) (by omega) (by omega)
      · exact sk rfl (by omega) fun l room hr => rw5 (by omega) (by omega) (by omega) (by omega) (by omega)
      · exact sk (i := 101) (by decide +kernel) (by omega) fun l room hr => rw5 (by omega) (by omega) (by omega) (by omega) (by omega)
    intro v5 o11 a5 d11
    refine Nxt.go ?_
    refine app7 (rowG (B := []) (SE.cat (a := [Str.ofString "list", Str.ofString ":"]) (b := l11.map sI) (by simp [l11]) (SE.lst (.cons strC (.cons strC .nil)) (by simp)) (sl12 rfl)) (DV.words (ws := [sI 4, Str.ofString "101"]) (.cons (l12_4 rfl) (.cons strC .nil)) (DV.drawC u2 (hx _) rfl (by omega) (by decide +kernel)) (by simp) (by simp)) (DV.one (l12_5 rfl)) (SE.lst .nil (by simp)) ?_) d11 hp (by omega) rfl (by simp) ?_
    · rintro w g mw rfl
      simp only [List.mem_cons, List.not_mem_nil, or_false] at mw
      rcases mw with rfl | rfl
      · exact sk rfl (by omega) fun l room hr => rw6 (by omega) (by omega) (by omega)
      · exact sk (i := 101) (by decide +kernel) (by omega) fun l room hr => rw6 (by omega) (by omega) (by omega)
    intro v6 o12 a6 d12
    refine Nxt.go ?_
    refine app7 (rowG (B := []) (GG := fun w => ∃ r : Int, 2 + 0 ≤ r ∧ r ≤ 2 + (9 - 1) ∧ w = sI r) (SE.lst (ws := [Str.ofString "powers"]) (.cons strC .nil) (by simp)) (DV.words (ws := [Str.ofString "1", Str.ofString "0", Str.ofString "11", Str.ofString "-2", sI (11 + f)]) (.cons strC (.cons strC (.cons strC (.cons strC (.cons (strE (intA intC (int_var rfl)) (by omega)) .nil))))) (DV.drawC u2 (hx _) rfl (by omega) (by decide +kernel)) (by simp) (by simp)) ((DV.str (DV.add (DV.con (lo := 2) (hi := 2) (by omega) (by omega)) (DV.drawC u2 (hx _) rfl (by omega) (by decide +kernel))) (by omega) (by omega)).mono fun v ⟨r, r1, r2, e⟩ => ⟨_, e, r, r1, r2, rfl⟩) (SE.lst .nil (by simp)) ?_) d12 hp (by omega) rfl (by simp) ?_
    · rintro w g mw ⟨q, q1, q2, rfl⟩
      simp only [List.mem_cons, List.not_mem_nil, or_false] at mw
      rcases mw with rfl | rfl | rfl | rfl | rfl
      · exact sk (i := 1) (by decide +kernel) (by omega) fun l room hr => rw7 (by omega) (by omega) (by omega) (by omega) (by omega)
      · exact sk (i := 0) (by decide +kernel) (by omega) fun l room hr => rw7 (by omega) (by omega) (by omega) (by omega) (by omega)
      · exact sk (i := 11) (by decide +kernel) (by omega) fun l room hr => rw7 (by omega) (by omega) (by omega) (by omega) (by omega)
      · exact sk (i := -2) (by decide +kernel) (by omega) fun l room hr => rw7 (by omega) (by omega) (by omega) (by omega) (by omega)
      · exact sk rfl (by omega) fun l room hr => rw7 (by omega) (by omega) (by omega) (by omega) (by omega)
    intro v7 o13 a7 d13
    refine Nxt.go ?_
    refine DV.asg (DV.pick2 (DV.add (DV.con (lo := 1) (hi := 1) (by omega) (by omega)) (DV.drawC u2 (hx _) rfl (by omega) (by decide +kernel))) (DV.sub (DV.neg (DV.con (lo := 1) (hi := 1) (by omega) (by omega))) (DV.drawC u2 (hx _) rfl (by omega) (by decide +kernel))) (DV.drawC u2 (hx _) rfl (by omega) (by decide +kernel))) d13 (by omega) (by simp) ?_
    intro v8 o14 iv8 d14
    obtain ⟨a, ha1, ha2, ha0, rfl⟩ : ∃ a : Int, -20 ≤ a ∧ a ≤ 20 ∧ a ≠ 0 ∧ v8 = .int a := by
      rcases iv8 with ⟨r, r1, r2, rfl⟩ | ⟨r, r1, r2, rfl⟩
      · exact ⟨r, by omega, by omega, by omega, rfl⟩
      · exact ⟨r, by omega, by omega, by omega, rfl⟩
    refine Nxt.go ?_
    refine DV.asg (DV.sub (DV.drawC u2 (hx _) rfl (by omega) (by decide +kernel)) (DV.con (lo := 200) (hi := 200) (by omega) (by omega))) d14 (by omega) (by simp) ?_
    rintro _ o15 ⟨b, hb1, hb2, rfl⟩ d15
    refine Nxt.go ?_
    refine DV.asg (DV.pure (SE.lst (ws := [Str.ofString "(", Str.ofString "list", Str.ofString ":", Str.ofString "-3", Str.ofString "4", Str.ofString ")"]) (.cons strC (.cons strC (.cons strC (.cons strC (.cons strC (.cons strC .nil)))))) (by simp))) d15 (by omega) (by simp) ?_
    rw [sn3, s4]
    change ∀ v o', v = IV.lsr true (inn.map .str) → _
    rintro _ o16 rfl d16
    refine Nxt.go ?_
    refine app7 (rowG (SE.lst (ws := [Str.ofString "moved"]) (.cons strC .nil) (by simp)) (DV.words (ws := [Str.ofString "0", Str.ofString "21", Str.ofString "-21", sI (21 + f)]) (.cons strC (.cons strC (.cons strC (.cons (strE (intA intC (int_var rfl)) (by omega)) .nil)))) (DV.drawC u2 (hx _) rfl (by omega) (by decide +kernel)) (by simp) (by simp)) (DV.one (strE (int_var rfl) (by omega))) (SE.cat (a := [sI b]) (b := inn) (by simp [inn]) (SE.one (strE (int_var rfl) (by omega))) (SE.var rfl)) ?_) d16 hp (by omega) rfl (by simp) ?_
    · rintro w g mw rfl
      simp only [List.mem_cons, List.not_mem_nil, or_false] at mw
      rcases mw with rfl | rfl | rfl | rfl
      · exact sk (i := 0) (by decide +kernel) (by omega) fun l room hr => rw8 (by omega) (by omega) (by omega) (by omega) (by omega) (by omega) (by omega) (by omega)
      · exact sk (i := 21) (by decide +kernel) (by omega) fun l room hr => rw8 (by omega) (by omega) (by omega) (by omega) (by omega) (by omega) (by omega) (by omega)
      · exact sk (i := -21) (by decide +kernel) (by omega) fun l room hr => rw8 (by omega) (by omega) (by omega) (by omega) (by omega) (by omega) (by omega) (by omega)
      · exact sk rfl (by omega) fun l room hr => rw8 (by omega) (by omega) (by omega) (by omega) (by omega) (by omega) (by omega) (by omega)
    intro v9 o17 a9 d17
    refine Nxt.go ?_
    refine app7 (rowG (SE.lst (ws := [Str.ofString "moved", sI a]) (.cons strC (.cons (strE (int_var rfl) (by omega)) .nil)) (by simp)) (DV.words (ws := [Str.ofString "201", Str.ofString "-201", sI (201 + f)]) (.cons strC (.cons strC (.cons (strE (intA intC (int_var rfl)) (by omega)) .nil))) (DV.drawC u2 (hx _) rfl (by omega) (by decide +kernel)) (by simp) (by simp)) (DV.one (strE (int_var rfl) (by omega))) (SE.var (ws := inn) rfl) ?_) d17 hp (by omega) rfl (by simp) ?_
    · rintro w g mw rfl
      simp only [List.mem_cons, List.not_mem_nil, or_false] at mw
      rcases mw with rfl | rfl | rfl
      · exact sk (i := 201) (by decide +kernel) (by omega) fun l room hr => rw9 (by omega) (by omega) (by omega) (by omega) (by omega) (by omega) (by omega) (by omega)
      · exact sk (i := -201) (by decide +kernel) (by omega) fun l room hr => rw9 (by omega) (by omega) (by omega) (by omega) (by omega) (by omega) (by omega) (by omega)
      · exact sk rfl (by omega) fun l room hr => rw9 (by omega) (by omega) (by omega) (by omega) (by omega) (by omega) (by omega) (by omega)
    intro v10 o18 a10 d18
    refine Nxt.go ?_
    refine DV.asg (DV.pick (EsE.cons (SE.lst (ws := [Str.ofString "squares"]) (.cons strC .nil) (by simp)) (EsE.cons (SE.lst (ws := [Str.ofString "primes"]) (.cons strC .nil) (by simp)) (EsE.cons (SE.lst (ws := [Str.ofString "powers", Str.ofString "3"]) (.cons strC (.cons strC .nil)) (by simp)) .nil))) (fun N => by simp [nrVs, nrV]) (by simp) (DV.drawC u2 (hx _) rfl (by omega) (by decide +kernel)) (by simp)) d18 (by omega) (by simp) ?_
    intro v11 o19 m11 d19
    obtain ⟨w0, ws0, rfl, mf, mw0⟩ : ∃ w0 ws0, v11 = .lsr true ((w0 :: ws0).map .str) ∧ w0 ∈ far3 ∧ Mw w0 := by
      simp only [List.mem_cons, List.not_mem_nil, or_false] at m11
      rcases m11 with rfl | rfl | rfl
      · exact ⟨_, [], rfl, by simp [far3], ⟨by decide +kernel, by decide +kernel⟩⟩
      · exact ⟨_, [], rfl, by simp [far3], ⟨by decide +kernel, by decide +kernel⟩⟩
      · exact ⟨_, [_], rfl, by simp [far3], ⟨by decide +kernel, by decide +kernel⟩⟩
    refine Nxt.go ?_
    refine app7 (rowG (SE.lst (ws := [Str.ofString "either", Str.ofString "("]) (.cons strC (.cons strC .nil)) (by simp)) (DV.one (w := w0) (fun K => W_eq.mp (by simp))) (DV.one strC) (SE.cat (a := [Str.ofString ":", Str.ofString "5", Str.ofString ")"]) (b := inn) (by simp [inn]) (SE.lst (.cons strC (.cons strC (.cons strC .nil))) (by simp)) (SE.var rfl)) ?_) d19 hp (by omega) rfl (by simp) ?_
    · rintro w g rfl rfl
      rw [s5]
      exact ⟨mw0, fun l room hr => rw10 mf (by omega)⟩
    intro v12 o20 a12 d20
    refine Nxt.go ?_
    refine app7 (rowG (SE.cat (a := [Str.ofString "either"] ++ inn) (b := [Str.ofString "(", Str.ofString "moved", Str.ofString "2", Str.ofString "1", Str.ofString "("]) (by simp [inn]) (SE.cat (by simp [inn]) (SE.one strC) (SE.var rfl)) (SE.lst (.cons strC (.cons strC (.cons strC (.cons strC (.cons strC .nil))))) (by simp))) (DV.one (w := w0) (fun K => W_eq.mp (by simp))) (DV.one strC) (SE.lst (ws := [Str.ofString "3", Str.ofString ":", Str.ofString "0", Str.ofString ")", Str.ofString ")"]) (.cons strC (.cons strC (.cons strC (.cons strC (.cons strC .nil))))) (by simp)) ?_) d20 hp (by omega) rfl (by simp) ?_
    · rintro w g rfl rfl
      rw [s3, s0, show Str.ofString "2" = sI 2 by decide +kernel, show Str.ofString "1" = sI 1 by decide +kernel]
      exact ⟨mw0, fun l room hr => by simpa using rw11 (l := l) mf (by omega)⟩
    intro v13 o21 a13 d21
    refine Nxt.go ?_
    have ar : ∀ v ∈ [v1, v2, v3, v4, v5, v6, v7, v9, v10, v12, v13], RwV v := by simp [a1, a2, a3, a4, a5, a6, a7, a9, a10, a12, a13]
    simp
    rw [← set_app hp, seal_newS2 d21.nr (nr_rows ar), W_ok]
    exact ⟨o21, d21.mono (by omega), _, ar, rfl, rfl, rfl⟩
  obtain ⟨v, h', e, o', rows, d', a, l, rfl, rfl⟩ := W_get w
  exact ⟨o', rows, d', a, l, e⟩
end
end Pi
end

section
set_option maxHeartbeats 8000000
namespace Pi
open PySem
section
variable {P : Tab} {k : Nat} {h : IH} {Φ : Calls} {σ : Sl} {p : Nat}
theorem RowL.len {l F : Nat} {room : Int} {pl : Bool} {A B : List Str} {w g : Str} (r : RowL l room F pl A w g B) (hr : room ≤ 12) : A.length + B.length ≤ 839 := by
  obtain ⟨s, gd, e⟩ := r.good F (by simp)
  have := wds_len _ _ s gd.1
  have := gd.2.1
  have := congrArg List.length e
  simp at this
  omega
theorem RowL.mv1 {l : Nat} {room a b : Int} {pl : Bool} {A B : List Str} {w g : Str} (ha : a = 1 ∨ a = -1) (b1 : -200 ≤ b) (b2 : b ≤ 200) (r : RowL l room 1 pl A w g B) : RowL (l + 1) (room + 1) 1 pl (Str.ofString "moved" :: sI a :: sI b :: Str.ofString "(" :: A) w g (B ++ [Str.ofString ")"]) := by
  rcases ha with rfl | rfl
  · exact RowL.mv (by omega) (by omega) (by omega) b1 b2 (by decide) r
  · exact RowL.mv (by omega) (by omega) (by omega) b1 b2 (by decide) r
theorem DV.cat {n : Nat} {A B : E} {b : List Str} {G : List Str → Prop} (x : DV Φ σ h p n A (fun v => ∃ ws, v = .lsr true (ws.map .str) ∧ G ws)) (gl : ∀ ws, G ws → ws.length + b.length ≤ 1000) (y : SE Φ σ B b) : DV Φ σ h p n (.shut (.bin .Add A B)) (fun v => ∃ ws, v = .lsr true ((ws ++ b).map .str) ∧ G ws) := fun o N dk hN => by
  obtain ⟨_, o1, ⟨ws, rfl, g⟩, d1, e1⟩ := x o N dk hN
  refine ⟨_, o1, ⟨ws, rfl, g⟩, d1, W_eq.mp ?_⟩
  simp [e1, y _]
  rw [cat_ss (gl ws g), W_ok, List.length_set, seal_newS2 d1.nr nr_s]
  simp
def RwF (v : IV) : Prop := ∃ A w g B, v = .tup [.lsr true (A.map .str), .str w, .str g, .lsr true (B.map .str)] ∧ Mw w ∧ RowL 6 12 1 false A w g B
theorem RwF.nr {v : IV} (r : RwF v) {N : Nat} : nrV N v = true := by
  obtain ⟨A, w, g, B, rfl, _⟩ := r
  have a : nrVs N (A.map IV.str) = true := nr_s
  have b : nrVs N (B.map IV.str) = true := nr_s
  simp [nrV, nrVs, a, b]
theorem move1 (u : U274 P) (hp : p < h.length) (s0 : σ[0]? = some (some (.ref p))) : DV (callF P (k + 1)) σ h p (0 + (1) + (1 + 0) + 0) (.shut (.lst (.cons (.con (.str "moved")) (.cons (.ix (.shut (.lst (.cons (.con (.str "1")) (.cons (.con (.str "-1")) .nil)))) (.call 274 (.cons (.var 0) (.cons (.con (.int 2)) .nil)))) (.cons (.blt .str (.cons (.bin .Sub (.call 274 (.cons (.var 0) (.cons (.con (.int 401)) .nil))) (.con (.int 200))) .nil)) (.cons (.con (.str "(")) .nil)))))) (fun v => ∃ ws, v = .lsr true (ws.map .str) ∧ ∃ a b : Int, (a = 1 ∨ a = -1) ∧ -200 ≤ b ∧ b ≤ 200 ∧ ws = [Str.ofString "moved", sI a, sI b, Str.ofString "("]) := by
  refine (DV.lst4 (DV.one strC) (DV.words (ws := [Str.ofString "1", Str.ofString "-1"]) (.cons strC (.cons strC .nil)) (DV.drawC u hp s0 (by omega) (by decide +kernel)) (by simp) (by simp)) ((DV.str (DV.sub (DV.drawC u hp s0 (by omega) (by decide +kernel)) (DV.con (lo := 200) (hi := 200) (by omega) (by omega))) (by omega) (by omega))) (DV.one strC) ?_).mono ?_
  · rintro v (⟨w, rfl, _⟩ | ⟨w, rfl, _⟩ | ⟨w, _, _, rfl⟩ | ⟨w, rfl, _⟩) <;> exact ⟨_, rfl⟩
  · rintro v ⟨_, _, _, _, rfl, ⟨_, e1, rfl⟩, ⟨w2, e2, m2⟩, ⟨b, b1, b2, e3⟩, ⟨_, e4, rfl⟩⟩
    cases e1
    cases e2
    cases e3
    cases e4
    simp only [List.mem_cons, List.not_mem_nil, or_false] at m2
    rcases m2 with rfl | rfl
    · exact ⟨_, rfl, 1, b, .inl rfl, by omega, by omega, by rw [show Str.ofString "1" = sI 1 by decide +kernel]⟩
    · exact ⟨_, rfl, -1, b, .inr rfl, by omega, by omega, by rw [show Str.ofString "-1" = sI (-1) by decide +kernel]⟩
theorem wrapped_eq (u : U418 P) {v : IV} (rv : RwV v) {o : IO} {N : Nat} (hp : p < h.length) (d : DkD N o) (hN : N < 800000000) : ∃ (o' : IO) (v' : IV), DkD (N + 10) o' ∧ RwF v' ∧ callF P (k + 2) 418 [.ref p, v] (h.set p o) = .ok v' (h.set p o') := by
  have u2 := u.2
  obtain ⟨A0, w, g, B0, rfl, mw, r⟩ := rv
  have wk : W (callF P (k + 2) 418 [.ref p, .tup [.lsr true (A0.map .str), .str w, .str g, .lsr true (B0.map .str)]] (h.set p o)) (fun v' h' => ∃ (o' : IO), DkD (N + 10) o' ∧ RwF v' ∧ h' = h.set p o') (fun _ _ => False) := by
    refine W_def u.1 (by decide) rfl ?_
    show WS (jSs (callF P (k + 1)) b_law_wrapped [some (.ref p), some (.tup [.lsr true (A0.map .str), .str w, .str g, .lsr true (B0.map .str)]), none, none, none, none, none] (h.set p o)) _
    unfold b_law_wrapped
    refine W.step ?_
    simp
    refine Nxt.go ?_
    simp
    obtain ⟨r1, o1, r10, r1l, d1, e1⟩ := drawD (h := h) (k := k) u2 hp d (by omega) (m := 4) (by omega) (by decide +kernel)
    rw [e1]
    simp
    rw [rng_i (by omega)]
    simp only [W_ok]
    let J : Nat → Sl → IH → Prop := fun n σ h' => ∃ (A B : List Str) (o' : IO) (c6 : Option IV), σ = [some (.ref p), some (.tup [.lsr true (A0.map .str), .str w, .str g, .lsr true (B0.map .str)]), some (.lsr true (A.map .str)), some (.str w), some (.str g), some (.lsr true (B.map .str)), c6] ∧ h' = h.set p o' ∧ DkD (N + 1 + 2 * n) o' ∧ ∀ (l : Nat) (room : Int), 9 + n ≤ room → RowL (l + 3 + n) room 1 false A w g B
    refine W_forM (ts := List.range r1.toNat) (u := fun k : Nat => .int k) J ⟨A0, B0, o1, none, rfl, rfl, by simpa using d1, fun l room hr => r l room (by omega)⟩ ?_ ?_
    · rintro n t σ h1 ht ⟨A, B, o', c6, rfl, rfl, d', r'⟩
      have hn := (List.getElem?_eq_some_iff.mp ht).1
      simp at hn
      have len := (r' 0 (9 + n) (by omega)).len (by omega)
      simp only [tgI, List.set, OptQ_some]
      refine W.step ?_
      refine DV.asg (DV.cat (move1 (k := k) u2 hp rfl) (fun ws ⟨a, b, _, _, _, e⟩ => by rw [e]; show 4 + A.length ≤ 1000; omega) (SE.var rfl)) d' (by omega) (by simp) ?_
      rintro _ o2 ⟨_, rfl, a, b, ha, b1, b2, rfl⟩ d2
      refine Nxt.go ?_
      refine DV.asg (DV.pure (SE.cat (a := B) (b := [Str.ofString ")"]) (by simp; omega) (SE.var rfl) (SE.one strC))) d2 (by omega) (by simp) ?_
      rintro _ o3 rfl d3
      simp
      refine ⟨Str.ofString "moved" :: sI a :: sI b :: Str.ofString "(" :: A, B ++ [Str.ofString ")"], o3, _, by simp; rfl, rfl, d3.mono (by omega), fun l room hr => ?_⟩
      have := (r' l (room - 1) (by omega)).mv1 ha b1 b2
      rw [show room - 1 + 1 = room by omega] at this
      exact this
    · rintro σ h1 ⟨A, B, o', c6, rfl, rfl, d', r'⟩
      rw [List.length_range] at d' r'
      refine Nxt.go ?_
      simp
      have rf : RwF (.tup [.lsr true (A.map .str), .str w, .str g, .lsr true (B.map .str)]) := ⟨A, w, g, B, rfl, mw, by
        have := r' (3 - r1.toNat) 12 (by omega)
        rw [show 3 - r1.toNat + 3 + r1.toNat = 6 by omega] at this
        exact this⟩
      rw [seal_setS d'.nr rf.nr, W_ok]
      exact ⟨o', d'.mono (by omega), rf, rfl⟩
  obtain ⟨v', h', e, o', d', a, rfl⟩ := W_get wk
  exact ⟨o', v', d', a, e⟩
end
end Pi
end

section
set_option maxHeartbeats 8000000
namespace Pi
open PySem
section
variable {P : Tab} {k : Nat} {h : IH} {Φ : Calls} {σ : Sl} {p : Nat}
theorem s7 : Str.ofString "7" = sI 7 := by decide +kernel
def t7 : NS := .list [7]
theorem t7_ok {l : Nat} {f : Int} : t7.ok (l + 1) f := ⟨asc1 (by decide) (by decide), by decide⟩
def lk (X Y : List Str) : IV := .tup [.lsr true (X.map .str), .lsr true (Y.map .str)]
theorem cat_lr {q : Nat} {xs ys : List IV} (e : h[q]? = some (.lst ys)) (l : xs.length + ys.length ≤ 1000000) : binI .Add (.lsr true xs) (.ref q) h = .ok (.ref h.length) (h ++ [.lst (xs ++ ys)]) := by
  unfold binI
  simp only [e]
  rw [newL_ok (by simp [LIM]; omega)]
theorem gy1 {g : IH} {a b : IO} : (g ++ [a, b])[g.length + 1]? = some b := by simp
theorem seal_t1 {dp : Nat} {o o' w : IO} {xs ys : List IV} (m : nrO h.length o' = true) (mx : nrVs h.length xs = true) (my : nrVs h.length ys = true) : sealI (h.set dp o) (.tup [.ref (h.length + 1), .lsr true ys]) (h.set dp o' ++ [w, .lst xs]) = .ok (.tup [.lsr true xs, .lsr true ys]) (h.set dp o') := by
  have e : fzV ((h.set dp o).set dp o' ++ [w, .lst xs]) (h.set dp o).length 6 (.tup [.ref (h.length + 1), .lsr true ys]) = some (.tup [.lsr true xs, .lsr true ys]) := by
    rw [List.set_set, List.length_set]
    have f1 : fzV (h.set dp o' ++ [w, .lst xs]) h.length 5 (.ref (h.length + 1)) = some (.lsr true xs) := by
      unfold fzV
      rw [if_neg (by simp [nrV])]
      have : (h.set dp o' ++ [w, .lst xs])[h.length + 1]? = some (.lst xs) := by
        have := gy1 (g := h.set dp o') (a := w) (b := .lst xs)
        rwa [List.length_set] at this
      simp only [this]
      rw [fz_all mx]; rfl
    have f2 : fzV (h.set dp o' ++ [w, .lst xs]) h.length 5 (.lsr true ys) = some (.lsr true ys) := by
      unfold fzV
      rw [if_pos (by simpa [nrV] using my)]
    unfold fzV
    rw [if_neg (by simp [nrV, nrVs]; intro z; omega)]
    simp [allM, f1, f2]
  have := seal_setA (h0 := h.set dp o) (g := [w, .lst xs]) (p := dp) (o := o') (by rw [List.length_set]; exact m) e
  rwa [List.set_set] at this
def LkOk (a : IV) (X Y : List Str) (v : IV) : Prop := ∃ X' Y', v = lk X' Y' ∧ X'.length ≤ X.length + 10 ∧ Y'.length ≤ Y.length + 10 ∧ ((∃ i b : Int, (a = .int i ∨ (a = .non ∧ (i = 1 ∨ i = -1))) ∧ -200 ≤ b ∧ b ≤ 200 ∧ X' = X ++ [Str.ofString "moved", sI i, sI b, Str.ofString "("] ∧ Y' = [Str.ofString ")"] ++ Y) ∨ (a = .non ∧ ((X' = X ++ [Str.ofString "either", Str.ofString "("] ∧ Y' = Str.ofString ")" :: Str.ofString "(" :: (wds t7 ++ [Str.ofString ")"]) ++ Y) ∨ (X' = X ++ (Str.ofString "either" :: Str.ofString "(" :: (wds t7 ++ [Str.ofString ")", Str.ofString "("])) ∧ Y' = [Str.ofString ")"] ++ Y))))
theorem nr_lk {X Y : List Str} {N : Nat} : nrV N (lk X Y) = true := by
  have a : nrVs N (X.map IV.str) = true := nr_s
  have b : nrVs N (Y.map IV.str) = true := nr_s
  simp [lk, nrV, nrVs, a, b]
theorem bw (v : IV) (z : ∃ r : Int, 0 - 200 ≤ r ∧ r ≤ 401 - 1 - 200 ∧ v = .str (sI r)) : ∃ w, v = .str w ∧ ∃ r : Int, -200 ≤ r ∧ r ≤ 200 ∧ w = sI r := by
  obtain ⟨r, r1, r2, e⟩ := z
  exact ⟨_, e, r, by omega, by omega, rfl⟩
theorem str_non {i : Nat} (s : σ[i]? = some (some .non)) : ∀ K, jE Φ (.blt .str (.cons (.var i) .nil)) σ K = .ok (.str (Str.ofString "None")) K := fun K => W_eq.mp (by
  simp [s]
  unfold bltI
  simp)
theorem SE.tup2 {A B : E} {X Y : List Str} (a : SE Φ σ A X) (b : SE Φ σ B Y) : ∀ K, jE Φ (.tup (.cons A (.cons B .nil))) σ K = .ok (lk X Y) K := fun K => W_eq.mp (by
  simp [a K, b K]
  rfl)
theorem lst4H {n1 n2 n3 n4 i : Nat} {A1 A2 A3 A4 : E} {S1 S2 S3 S4 : Str → Prop} (x1 : DV Φ σ h p n1 A1 (fun v => ∃ w, v = .str w ∧ S1 w)) (x2 : DV Φ σ h p n2 A2 (fun v => ∃ w, v = .str w ∧ S2 w)) (x3 : DV Φ σ h p n3 A3 (fun v => ∃ w, v = .str w ∧ S3 w)) (x4 : DV Φ σ h p n4 A4 (fun v => ∃ w, v = .str w ∧ S4 w)) {o : IO} {N : Nat} (dk : DkD N o) (hp : p < h.length) (hN : N + (n1 + n2 + n3 + n4) < 900000000) {Q : Fl → IH → Prop} (q : ∀ w1 w2 w3 w4 o', S1 w1 → S2 w2 → S3 w3 → S4 w4 → DkD (N + (n1 + n2 + n3 + n4)) o' → Q (.nx (σ.set i (some (.ref h.length)))) ((h ++ [IO.lst ([w1, w2, w3, w4].map .str)]).set p o')) : WS (jS Φ (.asg (.name i) (.lst (.cons A1 (.cons A2 (.cons A3 (.cons A4 .nil)))))) σ (h.set p o)) Q := by
  obtain ⟨_, o1, ⟨w1, rfl, s1⟩, d1, e1⟩ := x1 o N dk (by omega)
  obtain ⟨_, o2, ⟨w2, rfl, s2⟩, d2, e2⟩ := x2 o1 _ d1 (by omega)
  obtain ⟨_, o3, ⟨w3, rfl, s3⟩, d3, e3⟩ := x3 o2 _ d2 (by omega)
  obtain ⟨_, o4, ⟨w4, rfl, s4⟩, d4, e4⟩ := x4 o3 _ d3 (by omega)
  simp [e1, e2, e3, e4]
  rw [newL_ok (by simp [LIM]), W_ok, List.length_set, set_app hp]
  refine q w1 w2 w3 w4 o4 s1 s2 s3 s4 ?_
  rw [show N + (n1 + n2 + n3 + n4) = N + n1 + n2 + n3 + n4 by omega]
  exact d4
theorem set1 {n i : Nat} {A : E} {m1 m2 m3 m4 : Str} {S : Str → Prop} (x : DV Φ σ (h ++ [IO.lst ([m1, m2, m3, m4].map .str)]) p n A (fun v => ∃ w, v = .str w ∧ S w)) {o : IO} {N : Nat} (dk : DkD N o) (hp : p < h.length) (hN : N + n < 900000000) (si : σ[i]? = some (some (.ref h.length))) {Q : Fl → IH → Prop} (q : ∀ w o', S w → DkD (N + n) o' → Q (.nx σ) ((h ++ [IO.lst ([m1, w, m3, m4].map .str)]).set p o')) : WS (jS Φ (.set (.var i) (.con (.int 1)) A) σ ((h ++ [IO.lst ([m1, m2, m3, m4].map .str)]).set p o)) Q := by
  obtain ⟨_, o1, ⟨w, rfl, s⟩, d1, e⟩ := x o N dk hN
  have a : ∀ o, ((h ++ [IO.lst ([m1, m2, m3, m4].map .str)]).set p o)[h.length]? = some (.lst ([m1, m2, m3, m4].map .str)) := fun o => by
    rw [List.getElem?_set_ne (by omega)]; exact new_at
  have b := ref_set (n := 1) (v := .str w) (a o1) (by simp)
  simp at b e
  simp [si, e, b]
  rw [List.set_comm _ _ (by omega)]
  have := q w o1 s d1
  simpa using this
theorem mvRet {X Y : List Str} {M : List Str} {By : E} {o o' : IO} {R : Ss} {N : Nat} (sy : SE Φ σ By Y) (dk : DkD N o') (hp : p < h.length) (lX : X.length ≤ 200) (lM : M.length = 4) (s3 : σ[3]? = some (some (.lsr true (X.map .str)))) (s6 : σ[6]? = some (some (.ref h.length))) {Q : IV → IH → Prop} {Z : Fl → IH → Prop} (z : ∀ v h1, Z (.ret v) h1 = W (sealI (h.set p o) v h1) Q (fun _ _ => False)) (q : Q (lk (X ++ M) Y) (h.set p o')) :
    WS (jS Φ (.ret (.tup (.cons (.bin .Add (.var 3) (.var 6)) (.cons By .nil)))) σ ((h ++ [IO.lst (M.map .str)]).set p o')) (Nxt Φ R Z) := by
  simp [s3, s6]
  rw [cat_lr (ys := M.map .str) (by rw [List.getElem?_set_ne (by omega)]; exact new_at) (by simp; omega)]
  simp [sy _]
  rw [z, ← set_app hp, List.append_assoc, ← List.map_append]
  rw [show [IO.lst (M.map IV.str)] ++ [IO.lst ((X ++ M).map IV.str)] = [IO.lst (M.map IV.str), IO.lst ((X ++ M).map IV.str)] from rfl]
  rw [seal_t1 (h := h) (dp := p) (o := o) (w := IO.lst (M.map IV.str)) (xs := (X ++ M).map IV.str) (ys := Y.map IV.str) dk.nr nr_s nr_s]
  exact q
theorem link_eq (u : U383 P) {X Y : List Str} {a : IV} (ha : a = .non ∨ ∃ i : Int, i.natAbs ≤ 100 ∧ a = .int i) (lX : X.length ≤ 200) (lY : Y.length ≤ 200) {o : IO} {N : Nat} (hp : p < h.length) (d : DkD N o) (hN : N < 800000000) : ∃ (o' : IO) (v' : IV), DkD (N + 3) o' ∧ LkOk a X Y v' ∧ callF P (k + 2) 383 [.ref p, lk X Y, a] (h.set p o) = .ok v' (h.set p o') := by
  have u2 := u.2
  have wk : W (callF P (k + 2) 383 [.ref p, lk X Y, a] (h.set p o)) (fun v' h' => ∃ (o' : IO), DkD (N + 3) o' ∧ LkOk a X Y v' ∧ h' = h.set p o') (fun _ _ => False) := by
    refine W_def u.1 (by decide) rfl ?_
    show WS (jSs (callF P (k + 1)) b_law_link [some (.ref p), some (lk X Y), some a, none, none, none, none] (h.set p o)) _
    unfold b_law_link
    refine W.step ?_
    simp [lk]
    refine Nxt.go ?_
    refine DV.asg (DV.drawC u2 hp rfl (by omega) (by decide +kernel)) d (by omega) (by simp) ?_
    rintro _ o1 ⟨r, r1, r2, rfl⟩ d1
    refine Nxt.go ?_
    rcases ha with rfl | ⟨i, hi, rfl⟩
    · by_cases c : r = 0
      · subst c
        simp
        refine W.step ?_
        refine lst4H (DV.one strC) (DV.one (w := Str.ofString "None") (str_non rfl)) ((DV.str (DV.sub (DV.drawC u2 hp rfl (by omega) (by decide +kernel)) (DV.con (lo := 200) (hi := 200) (by omega) (by omega))) (by omega) (by omega)).mono bw) (DV.one strC) d1 hp (by omega) ?_
        rintro _ _ _ _ o2 rfl rfl ⟨b, b1, b2, rfl⟩ rfl d2
        refine Nxt.go ?_
        simp
        refine W.step ?_
        refine set1 (DV.words (ws := [Str.ofString "1", Str.ofString "-1"]) (.cons strC (.cons strC .nil)) (DV.drawC u2 (by simp; omega) rfl (by omega) (by decide +kernel)) (by simp) (by simp)) d2 hp (by omega) rfl ?_
        rintro w o3 mw d3
        simp
        refine Nxt.go ?_
        have wi : ∃ i : Int, (i = 1 ∨ i = -1) ∧ w = sI i := by
          simp only [List.mem_cons, List.not_mem_nil, or_false] at mw
          rcases mw with rfl | rfl
          · exact ⟨1, .inl rfl, by decide +kernel⟩
          · exact ⟨-1, .inr rfl, by decide +kernel⟩
        obtain ⟨i, hi, rfl⟩ := wi
        refine mvRet (o := o) (M := [Str.ofString "moved", sI i, sI b, Str.ofString "("]) (Y := [Str.ofString ")"] ++ Y) (SE.cat (by simp; omega) (SE.one strC) (SE.var rfl)) d3 hp lX rfl rfl rfl (by intro v h1; rfl) ?_
        exact ⟨o3, d3.mono (by omega), ⟨_, _, rfl, by simp, by simp, .inl ⟨i, b, .inr ⟨rfl, hi⟩, by omega, by omega, rfl, rfl⟩⟩, rfl⟩
      · simp [c]
        refine Nxt.go ?_
        by_cases c1 : r = 1
        · subst c1
          simp
          refine W.step ?_
          refine DV.ret (DV.pure (SE.tup2 (SE.cat (a := X) (b := [Str.ofString "either", Str.ofString "("]) (by simp; omega) (SE.var rfl) (SE.lst (.cons strC (.cons strC .nil)) (by simp))) (SE.cat (a := [Str.ofString ")", Str.ofString "(", Str.ofString "list", Str.ofString ":", Str.ofString "7", Str.ofString ")"]) (b := Y) (by simp; omega) (SE.lst (.cons strC (.cons strC (.cons strC (.cons strC (.cons strC (.cons strC .nil)))))) (by simp)) (SE.var rfl)))) d1 (by omega) ?_
          rintro _ o2 rfl d2
          show W (sealI _ _ _) _ _
          rw [seal_setS d2.nr nr_lk, W_ok]
          refine ⟨o2, d2.mono (by omega), ⟨_, _, rfl, by simp, by simp, .inr ⟨rfl, .inl ⟨rfl, ?_⟩⟩⟩, rfl⟩
          rw [s7]
          rfl
        · simp [c1]
          refine Nxt.go ?_
          refine DV.ret (DV.pure (SE.tup2 (SE.cat (a := X) (b := [Str.ofString "either", Str.ofString "(", Str.ofString "list", Str.ofString ":", Str.ofString "7", Str.ofString ")", Str.ofString "("]) (by simp; omega) (SE.var rfl) (SE.lst (.cons strC (.cons strC (.cons strC (.cons strC (.cons strC (.cons strC (.cons strC .nil))))))) (by simp))) (SE.cat (a := [Str.ofString ")"]) (b := Y) (by simp; omega) (SE.one strC) (SE.var rfl)))) d1 (by omega) ?_
          rintro _ o2 rfl d2
          show W (sealI _ _ _) _ _
          rw [seal_setS d2.nr nr_lk, W_ok]
          refine ⟨o2, d2.mono (by omega), ⟨_, _, rfl, by simp, by simp, .inr ⟨rfl, .inr ⟨?_, rfl⟩⟩⟩, rfl⟩
          rw [s7]
          rfl
    · simp
      refine W.step ?_
      refine lst4H (DV.one strC) (DV.one (strE (int_var rfl) (by omega))) ((DV.str (DV.sub (DV.drawC u2 hp rfl (by omega) (by decide +kernel)) (DV.con (lo := 200) (hi := 200) (by omega) (by omega))) (by omega) (by omega)).mono bw) (DV.one strC) d1 hp (by omega) ?_
      rintro _ _ _ _ o2 rfl rfl ⟨b, b1, b2, rfl⟩ rfl d2
      refine Nxt.go ?_
      simp
      refine Nxt.go ?_
      refine mvRet (o := o) (M := [Str.ofString "moved", sI i, sI b, Str.ofString "("]) (Y := [Str.ofString ")"] ++ Y) (SE.cat (by simp; omega) (SE.one strC) (SE.var rfl)) d2 hp lX rfl rfl rfl (by intro v h1; rfl) ?_
      exact ⟨o2, d2.mono (by omega), ⟨_, _, rfl, by simp, by simp, .inl ⟨i, b, .inl rfl, by omega, by omega, rfl, rfl⟩⟩, rfl⟩
  obtain ⟨v', h', e, o', d', a, rfl⟩ := W_get wk
  exact ⟨o', v', d', a, e⟩
end
end Pi
end

section
set_option maxHeartbeats 8000000
namespace Pi
open PySem
section
variable {P : Tab} {k : Nat} {h : IH} {Φ : Calls} {σ : Sl} {p : Nat}
variable {X Y : List Str} {l F : Nat} {room : Int} {v : IV}
theorem LkOk.ctxN (c : Ctx X Y (l + 2) room F) (hF : F ≤ 400) (k : LkOk .non X Y v) : ∃ X' Y' room', v = lk X' Y' ∧ X'.length ≤ X.length + 10 ∧ Y'.length ≤ Y.length + 10 ∧ room - 2 ≤ room' ∧ Ctx X' Y' (l + 1) room' F := by
  obtain ⟨X', Y', rfl, lx, ly, q⟩ := k
  rcases q with ⟨i, b, hi, b1, b2, rfl, rfl⟩ | ⟨-, ⟨rfl, rfl⟩ | ⟨rfl, rfl⟩⟩
  · rcases hi with hi | ⟨-, hi⟩
    · cases hi
    · have e : i.natAbs * F = F := by rcases hi with rfl | rfl <;> simp
      refine ⟨_, _, room - 1, rfl, lx, ly, by omega, ?_⟩
      rw [← show room - 1 + 1 = room by omega] at c
      have := Ctx.mv (a := i) (b := b) (by omega) (by omega) (by omega) b1 b2 (by omega) c
      rw [e] at this
      exact this
  · refine ⟨_, _, room - 2, rfl, lx, ly, by omega, ?_⟩
    rw [← show room - 2 + 2 = room by omega] at c
    exact Ctx.fst (t := t7) (fun f _ => t7_ok) rfl rfl c
  · refine ⟨_, _, room - 2, rfl, lx, ly, by omega, ?_⟩
    rw [← show room - 2 + 1 + ((t7.n : Nat) : Int) = room by show room - 2 + 1 + 1 = room; omega] at c
    exact Ctx.snd (t := t7) (fun f _ => t7_ok) rfl c
theorem LkOk.ctxI {i : Int} (c : Ctx X Y (l + 2) room F) (i1 : -20 ≤ i) (i2 : i ≤ 20) (i0 : i ≠ 0) (hF : i.natAbs * F ≤ 400) (k : LkOk (.int i) X Y v) : ∃ X' Y' room', v = lk X' Y' ∧ X'.length ≤ X.length + 10 ∧ Y'.length ≤ Y.length + 10 ∧ room - 2 ≤ room' ∧ Ctx X' Y' (l + 1) room' (i.natAbs * F) := by
  obtain ⟨X', Y', rfl, lx, ly, q⟩ := k
  rcases q with ⟨j, b, hj, b1, b2, rfl, rfl⟩ | ⟨z, _⟩
  · rcases hj with hj | ⟨z, _⟩
    · cases hj
      refine ⟨_, _, room - 1, rfl, lx, ly, by omega, ?_⟩
      rw [← show room - 1 + 1 = room by omega] at c
      exact Ctx.mv (a := i) (b := b) i1 i2 i0 b1 b2 hF c
    · cases z
  · cases z
theorem s9 : Str.ofString "9" = sI 9 := by decide +kernel
theorem mw_kind {w : Str} (m : w ∈ [Str.ofString "moved", Str.ofString "either"]) : Mw w := by
  simp only [List.mem_cons, List.not_mem_nil, or_false] at m
  rcases m with rfl | rfl
  · exact ⟨by decide +kernel, by decide +kernel⟩
  · exact ⟨by decide +kernel, by decide +kernel⟩
theorem kb_kind {w : Str} {pl : Bool} (m : w ∈ [Str.ofString "moved", Str.ofString "either"]) (h : ¬ (1 ≤ l ∧ 2 ≤ room)) : KB l room pl w := by
  have e : ∀ w ∈ [Str.ofString "moved", Str.ofString "either"], w ≠ Str.ofString "rests" ∧ w ≠ Str.ofString "list" ∧ w ∉ [Str.ofString "powers", Str.ofString "squares", Str.ofString "primes"] := by decide +kernel
  obtain ⟨e1, e2, e3⟩ := e w m
  exact ⟨fun _ => h, fun _ z => h ⟨z.1, by omega⟩, e1, e2, .inr e3⟩
theorem ix_lk0 : ixI (lk X Y) (.int 0) h = .ok (.lsr true (X.map .str)) h := rfl
theorem ix_lk1 : ixI (lk X Y) (.int 1) h = .ok (.lsr true (Y.map .str)) h := rfl
theorem levels_eq (u : U384 P) {o : IO} {N : Nat} (hp : p < h.length) (d : DkD N o) (hN : N < 700000000) : ∃ (o' : IO) (v' : IV), DkD (N + 20) o' ∧ RwF v' ∧ callF P (k + 3) 384 [.ref p] (h.set p o) = .ok v' (h.set p o') := by
  have u2 := u.2.1
  have u3 := u.2.2
  have wk : W (callF P (k + 3) 384 [.ref p] (h.set p o)) (fun v' h' => ∃ (o' : IO), DkD (N + 20) o' ∧ RwF v' ∧ h' = h.set p o') (fun _ _ => False) := by
    refine W_def u.1 (by decide) rfl ?_
    show WS (jSs (callF P (k + 2)) b_law_levels [some (.ref p), none, none] (h.set p o)) _
    unfold b_law_levels
    refine W.step ?_
    refine DV.asg (DV.pure (SE.tup2 (SE.lst (ws := []) .nil (by simp)) (SE.lst (ws := []) .nil (by simp)))) d (by omega) (by simp) ?_
    rintro _ o1 rfl d1
    refine Nxt.go ?_
    simp
    rw [rng_i (by omega)]
    simp only [W_ok]
    let J : Nat → Sl → IH → Prop := fun n σ h' => n ≤ 5 ∧ ∃ (X Y : List Str) (room : Int) (o' : IO) (c2 : Option IV), σ = [some (.ref p), some (lk X Y), c2] ∧ h' = h.set p o' ∧ DkD (N + 3 * n) o' ∧ X.length ≤ 10 * n ∧ Y.length ≤ 10 * n ∧ 12 - 2 * (n : Int) ≤ room ∧ Ctx X Y (6 - n) room 1
    refine W_forM (ts := List.range 5) (u := fun k : Nat => .int k) J ⟨by omega, [], [], 12, o1, none, rfl, rfl, by simpa using d1, by simp, by simp, by omega, Ctx.nil⟩ ?_ ?_
    · rintro n t σ h1 ht ⟨_, X, Y, room, o', c2, rfl, rfl, d', lx, ly, hr, c⟩
      have hn := (List.getElem?_eq_some_iff.mp ht).1
      simp at hn
      simp only [tgI, List.set, OptQ_some]
      refine W.step ?_
      simp
      obtain ⟨o2, v', d2, kk, e⟩ := link_eq (k := k) (h := h) u3 (X := X) (Y := Y) (a := .non) (.inl rfl) (by omega) (by omega) hp d' (by omega)
      rw [e]
      simp only [W_ok, tgI, List.set, OptQ_some]
      obtain ⟨l, hl⟩ : ∃ l, 6 - n = l + 2 := ⟨4 - n, by omega⟩
      rw [hl] at c
      obtain ⟨X', Y', room', rfl, lx', ly', hr', c'⟩ := kk.ctxN c (by omega)
      refine ⟨by omega, X', Y', room', o2, _, rfl, rfl, d2.mono (by omega), by omega, by omega, by omega, ?_⟩
      rw [show 6 - (n + 1) = l + 1 by omega]
      exact c'
    · rintro σ h1 ⟨_, X, Y, room, o', c2, rfl, rfl, d', lx, ly, hr, c⟩
      rw [List.length_range] at d' lx ly hr c
      refine Nxt.go ?_
      refine DV.ret (DV.tup4 (DV.pure (v := .lsr true (X.map .str)) (fun K => W_eq.mp (by simp [ix_lk0]))) (DV.words (ws := [Str.ofString "moved", Str.ofString "either"]) (.cons strC (.cons strC .nil)) (DV.drawC u2 hp rfl (by omega) (by decide +kernel)) (by simp) (by simp)) (DV.one strC) (DV.pure (SE.cat (a := [Str.ofString ":", Str.ofString "9"]) (b := Y) (by simp; omega) (SE.lst (.cons strC (.cons strC .nil)) (by simp)) (fun K => W_eq.mp (by simp [ix_lk1]))))) d' (by omega) ?_
      rintro _ o3 ⟨_, _, _, _, rfl, rfl, ⟨w, rfl, mw⟩, ⟨g, rfl, rfl⟩, rfl⟩ d3
      have rf : RwF (.tup [.lsr true (X.map .str), .str w, .str (Str.ofString "list"), .lsr true (([Str.ofString ":", Str.ofString "9"] ++ Y).map .str)]) := ⟨X, w, _, _, rfl, mw_kind mw, by
        have := c [] w (Str.ofString "list") [Str.ofString ":", Str.ofString "9"] (row_kind (s := .list [9]) (by omega) (fun f => ⟨asc1 (by decide) (by decide), by decide⟩) rfl rfl (by rw [s9]; rfl) ⟨kb_kind mw (by omega), kb_kind mw (by omega)⟩ (by omega)) false
        simpa using this⟩
      show W (sealI _ _ _) _ _
      rw [seal_setS d3.nr rf.nr, W_ok]
      exact ⟨o3, d3.mono (by omega), rf, rfl⟩
  obtain ⟨v', h', e, o', d', a, rfl⟩ := W_get wk
  exact ⟨o', v', d', a, e⟩
theorem row_prod {a i : Int} (ha : a = 2 ∨ a = -2 ∨ a = 1) (hi : i = 3 ∨ i = -3 ∨ i = 20) (r2 : 2 ≤ room) : RowA (l + 2) room 200 [Str.ofString "moved"] (sI i) (sI a) (sI 0 :: Str.ofString "(" :: (wds t7 ++ [Str.ofString ")"])) := fun pl =>
  ⟨fun f hf => ⟨.moved t7 a 0, ⟨⟨by omega, by omega, by omega, by omega, by omega, by rw [Int.natAbs_mul, hf]; omega, t7_ok⟩, by simp [NS.n, t7]; omega, fun _ => rfl⟩, rfl⟩, fun f hf R =>
    .inr (.inr (.inr (.inl ⟨by omega, r2, _, rfl, .inr ⟨i, R, rfl, by omega, by omega, .inl ⟨.inr (by rw [Int.natAbs_mul, hf]; omega), rfl⟩⟩⟩)))⟩
theorem ref_ins {p n : Nat} {xs : List IV} {v : IV} (e : h[p]? = some (.lst xs)) (l : xs.length < LIM) (hn : n < 1000000) : methI .insert (.ref p) [.int (n : Int), v] h = .ok .non (h.set p (.lst (xs.take n ++ [v] ++ xs.drop n))) := by
  unfold methI
  simp only [e]
  rw [if_pos ⟨l, by omega, by omega⟩]
  simp
theorem val_at0 {p : Nat} {xs : List IV} (e : h[p]? = some (.lst xs)) : valI (.ref p) h = .ok (.lst p) h := by simp [valI, lsAt_of e]
theorem intN {A : E} {i : Int} (a : ∀ K, jE Φ A σ K = .ok (.int i) K) : ∀ K, jE Φ (.neg A) σ K = .ok (.int (-i)) K := fun K => W_eq.mp (by simp [a K])
structure FS (fs : List IV) (Fn : Nat → Nat) : Prop where
  len : fs.length = 3
  f0 : Fn 0 = 1
  f3 : Fn 3 = 200
  st : ∀ n t, fs[n]? = some t → (t = .non ∧ Fn (n + 1) = Fn n ∧ Fn n ≤ 400) ∨ ∃ i : Int, t = .int i ∧ -20 ≤ i ∧ i ≤ 20 ∧ i ≠ 0 ∧ Fn (n + 1) = i.natAbs * Fn n ∧ Fn (n + 1) ≤ 400
theorem fs_of {a b r : Int} (ha : a = 20 ∨ a = -20) (hb : b = 10 ∨ b = -10) (r0 : 0 ≤ r) (r3 : r < 3) : ∃ Fn, FS ([IV.int a, .int b].take r.toNat ++ [.non] ++ [IV.int a, .int b].drop r.toNat) Fn := by
  have ea : a.natAbs = 20 := by omega
  have eb : b.natAbs = 10 := by omega
  have c : r = 0 ∨ r = 1 ∨ r = 2 := by omega
  rcases c with rfl | rfl | rfl
  · refine ⟨fun n => [1, 1, 20, 200].getD n 0, rfl, rfl, rfl, fun n t h => ?_⟩
    rcases n with _ | _ | _ | n
    · cases h; exact .inl ⟨rfl, rfl, by decide⟩
    · cases h; exact .inr ⟨a, rfl, by omega, by omega, by omega, by rw [ea]; rfl, by decide⟩
    · cases h; exact .inr ⟨b, rfl, by omega, by omega, by omega, by rw [eb]; rfl, by decide⟩
    · cases h
  · refine ⟨fun n => [1, 20, 20, 200].getD n 0, rfl, rfl, rfl, fun n t h => ?_⟩
    rcases n with _ | _ | _ | n
    · cases h; exact .inr ⟨a, rfl, by omega, by omega, by omega, by rw [ea]; rfl, by decide⟩
    · cases h; exact .inl ⟨rfl, rfl, by decide⟩
    · cases h; exact .inr ⟨b, rfl, by omega, by omega, by omega, by rw [eb]; rfl, by decide⟩
    · cases h
  · refine ⟨fun n => [1, 20, 200, 200].getD n 0, rfl, rfl, rfl, fun n t h => ?_⟩
    rcases n with _ | _ | _ | n
    · cases h; exact .inr ⟨a, rfl, by omega, by omega, by omega, by rw [ea]; rfl, by decide⟩
    · cases h; exact .inr ⟨b, rfl, by omega, by omega, by omega, by rw [eb]; rfl, by decide⟩
    · cases h; exact .inl ⟨rfl, rfl, by decide⟩
    · cases h
theorem products_eq (u : U430 P) {o : IO} {N : Nat} (hp : p < h.length) (d : DkD N o) (hN : N < 700000000) : ∃ (o' : IO) (v' : IV), DkD (N + 20) o' ∧ RwF v' ∧ callF P (k + 3) 430 [.ref p] (h.set p o) = .ok v' (h.set p o') := by
  have u2 := u.2.1
  have u3 := u.2.2
  have wk : W (callF P (k + 3) 430 [.ref p] (h.set p o)) (fun v' h' => ∃ (o' : IO), DkD (N + 20) o' ∧ RwF v' ∧ h' = h.set p o') (fun _ _ => False) := by
    refine W_def u.1 (by decide) rfl ?_
    show WS (jSs (callF P (k + 2)) b_law_products [some (.ref p), none, none, none, none, none] (h.set p o)) _
    unfold b_law_products
    refine W.step ?_
    obtain ⟨v1, o1, m1, d1, e1⟩ := DV.pick (σ := [some (.ref p), none, none, none, none, none]) (EsE.cons intC (.cons (intN intC) .nil)) (fun N => rfl) (by simp) (DV.drawC (m := 2) (k := k + 1) u2 hp rfl (by omega) (by decide +kernel)) (by simp) o N d (by omega) (vs := [.int 20, .int (-20)])
    obtain ⟨v2, o2, m2, d2, e2⟩ := DV.pick (σ := [some (.ref p), none, none, none, none, none]) (EsE.cons intC (.cons (intN intC) .nil)) (fun N => rfl) (by simp) (DV.drawC (m := 2) (k := k + 1) u2 hp rfl (by omega) (by decide +kernel)) (by simp) o1 _ d1 (by omega) (vs := [.int 10, .int (-10)])
    obtain ⟨a, ha, rfl⟩ : ∃ a : Int, (a = 20 ∨ a = -20) ∧ v1 = .int a := by
      simp at m1
      rcases m1 with rfl | rfl
      · exact ⟨_, .inl rfl, rfl⟩
      · exact ⟨_, .inr rfl, rfl⟩
    obtain ⟨b, hb, rfl⟩ : ∃ b : Int, (b = 10 ∨ b = -10) ∧ v2 = .int b := by
      simp at m2
      rcases m2 with rfl | rfl
      · exact ⟨_, .inl rfl, rfl⟩
      · exact ⟨_, .inr rfl, rfl⟩
    rw [W_asg, W_lst, W_consE, e1, W_ok, W_consE, e2, W_ok, W_nilE]
    simp
    rw [set_app hp]
    refine Nxt.go ?_
    have hx : ∀ xs : List IV, p < (h ++ [IO.lst xs]).length := fun xs => by simp; omega
    simp
    refine ⟨ref_isLst (xs := [.int a, .int b]) (by rw [List.getElem?_set_ne (by omega)]; exact new_at), ?_⟩
    obtain ⟨r, o3, r0, r3, d3, e3⟩ := drawD (k := k + 1) u2 (hx [.int a, .int b]) d2 (by omega) (m := 3) (by omega) (by decide +kernel)
    rw [show k + 2 = k + 1 + 1 from rfl, e3]
    simp only [W_ok]
    obtain ⟨Fn, fs⟩ := fs_of ha hb r0 r3
    rw [show (IV.int r) = IV.int (r.toNat : Int) by rw [show (r.toNat : Int) = r by omega], ref_ins (xs := [.int a, .int b]) (by rw [List.getElem?_set_ne (by omega)]; exact new_at) (by simp [LIM]) (by omega), List.set_comm _ _ (by omega)]
    generalize [IV.int a, .int b].take r.toNat ++ [.non] ++ [IV.int a, .int b].drop r.toNat = vs at fs
    simp
    refine Nxt.go ?_
    refine DV.asg (DV.pure (SE.tup2 (SE.lst (ws := []) .nil (by simp)) (SE.lst (ws := []) .nil (by simp)))) d3 (by omega) (by simp) ?_
    rintro _ o4 rfl d4
    refine Nxt.go ?_
    simp
    have at4 : ∀ o, ((h ++ [IO.lst vs]).set p o)[h.length]? = some (.lst (vs.map fun v => v)) := fun o => by
      rw [List.getElem?_set_ne (by omega), List.map_id']; exact new_at
    let J : Nat → Sl → IH → Prop := fun n σ h' => ∃ (X Y : List Str) (room : Int) (o' : IO) (c3 : Option IV), σ = [some (.ref p), some (.ref h.length), some (lk X Y), c3, none, none] ∧ h' = (h ++ [IO.lst vs]).set p o' ∧ DkD (N + 3 + 3 * n) o' ∧ X.length ≤ 10 * n ∧ Y.length ≤ 10 * n ∧ 12 - 2 * (n : Int) ≤ room ∧ Ctx X Y (6 - n) room (Fn n)
    rw [val_at0 (at4 o4), W_ok]
    refine W_forL (ts := vs) (u := fun v => v) J (at4 o4) (fun n σ h1 ⟨X, Y, room, o', c3, _, e, _⟩ => e ▸ at4 o') ⟨[], [], 12, o4, none, rfl, rfl, d4.mono (by omega), by simp, by simp, by omega, by rw [fs.f0]; exact Ctx.nil⟩ ?_ ?_
    · rintro n t σ h1 ht ⟨X, Y, room, o', c3, rfl, rfl, d', lx, ly, hr, c⟩
      have hn := (List.getElem?_eq_some_iff.mp ht).1
      rw [fs.len] at hn
      simp only [tgI, List.set, OptQ_some]
      refine W.step ?_
      simp
      have st := fs.st n t ht
      obtain ⟨o2, v', d2, kk, e⟩ := link_eq (k := k) (h := h ++ [IO.lst vs]) u3 (X := X) (Y := Y) (a := t) (by
        rcases st with ⟨rfl, _⟩ | ⟨i, rfl, i1, i2, _⟩
        · exact .inl rfl
        · exact .inr ⟨i, by omega, rfl⟩) (by omega) (by omega) (hx _) d' (by omega)
      rw [show k + 1 + 1 = k + 2 from rfl, e]
      simp only [W_ok, tgI, List.set, OptQ_some]
      obtain ⟨l, hl⟩ : ∃ l, 6 - n = l + 2 := ⟨4 - n, by omega⟩
      rw [hl] at c
      have cc : ∃ X' Y' room', v' = lk X' Y' ∧ X'.length ≤ X.length + 10 ∧ Y'.length ≤ Y.length + 10 ∧ room - 2 ≤ room' ∧ Ctx X' Y' (l + 1) room' (Fn (n + 1)) := by
        rcases st with ⟨rfl, e1, e2⟩ | ⟨i, rfl, i1, i2, i0, e1, e2⟩
        · rw [e1]
          exact kk.ctxN c e2
        · rw [e1] at e2 ⊢
          exact kk.ctxI c i1 i2 i0 e2
      obtain ⟨X', Y', room', rfl, lx', ly', hr', c'⟩ := cc
      refine ⟨X', Y', room', o2, _, rfl, rfl, d2.mono (by omega), by omega, by omega, by omega, ?_⟩
      rw [show 6 - (n + 1) = l + 1 by omega]
      exact c'
    · rintro σ h1 ⟨X, Y, room, o', c3, rfl, rfl, d', lx, ly, hr, c⟩
      rw [fs.len] at d' lx ly hr c
      rw [fs.f3] at c
      refine Nxt.go ?_
      refine DV.asg (DV.words (ws := [Str.ofString "2", Str.ofString "-2", Str.ofString "1"]) (.cons strC (.cons strC (.cons strC .nil))) (DV.drawC u2 (hx _) rfl (by omega) (by decide +kernel)) (by simp) (by simp)) d' (by omega) (by simp) ?_
      rintro _ o5 ⟨g, rfl, mg⟩ d5
      obtain ⟨g', hg, rfl⟩ : ∃ i : Int, (i = 2 ∨ i = -2 ∨ i = 1) ∧ g = sI i := by
        simp only [List.mem_cons, List.not_mem_nil, or_false] at mg
        rcases mg with rfl | rfl | rfl
        · exact ⟨2, by omega, by decide +kernel⟩
        · exact ⟨-2, by omega, by decide +kernel⟩
        · exact ⟨1, by omega, by decide +kernel⟩
      refine Nxt.go ?_
      refine DV.asg (DV.pure (SE.cat (a := [Str.ofString "0", Str.ofString "(", Str.ofString "list", Str.ofString ":", Str.ofString "7", Str.ofString ")"]) (b := Y) (by simp; omega) (SE.lst (.cons strC (.cons strC (.cons strC (.cons strC (.cons strC (.cons strC .nil)))))) (by simp)) (fun K => W_eq.mp (by simp [ix_lk1])))) d5 (by omega) (by simp) ?_
      rintro _ o6 rfl d6
      refine Nxt.go ?_
      refine DV.ret (DV.tup4 (DV.pure (SE.cat (a := X) (b := [Str.ofString "moved"]) (by simp; omega) (fun K => W_eq.mp (by simp [ix_lk0])) (SE.one strC))) (DV.words (ws := [Str.ofString "3", Str.ofString "-3", Str.ofString "20"]) (.cons strC (.cons strC (.cons strC .nil))) (DV.drawC u2 (hx _) rfl (by omega) (by decide +kernel)) (by simp) (by simp)) (DV.one (str_var rfl)) (DV.pure (SE.var rfl))) d6 (by omega) ?_
      rintro _ o7 ⟨_, _, _, _, rfl, rfl, ⟨w, rfl, mw⟩, ⟨_, rfl, rfl⟩, rfl⟩ d7
      obtain ⟨i, hi, rfl⟩ : ∃ i : Int, (i = 3 ∨ i = -3 ∨ i = 20) ∧ w = sI i := by
        simp only [List.mem_cons, List.not_mem_nil, or_false] at mw
        rcases mw with rfl | rfl | rfl
        · exact ⟨3, by omega, by decide +kernel⟩
        · exact ⟨-3, by omega, by decide +kernel⟩
        · exact ⟨20, by omega, by decide +kernel⟩
      have rf : RwF (.tup [.lsr true ((X ++ [Str.ofString "moved"]).map .str), .str (sI i), .str (sI g'), .lsr true (([Str.ofString "0", Str.ofString "(", Str.ofString "list", Str.ofString ":", Str.ofString "7", Str.ofString ")"] ++ Y).map .str)]) := ⟨_, _, _, _, rfl, mw_I (by omega), by
        have := c [Str.ofString "moved"] (sI i) (sI g') _ (row_prod (l := 1) hg hi (by omega)) false
        rw [← s0, show wds t7 = [Str.ofString "list", Str.ofString ":", sI 7] from rfl, ← s7] at this
        simpa using this⟩
      show W (sealI _ _ _) _ _
      rw [← set_app hp, seal_setG d7.nr rf.nr, W_ok]
      exact ⟨o7, d7.mono (by omega), rf, rfl⟩
  obtain ⟨v', h', e, o', d', a, rfl⟩ := W_get wk
  exact ⟨o', v', d', a, e⟩
end
end Pi
end

section
set_option maxHeartbeats 8000000
namespace Pi
open PySem
section
variable {P : Tab} {k : Nat} {h : IH} {Φ : Calls} {σ : Sl} {p : Nat}
variable {X Y : List Str} {l F : Nat} {room : Int} {v : IV} {d : Int}
def Ld (d : Int) : NS := .list [d]
def Ed (d : Int) : NS := .either (Ld d) (Ld d)
theorem ld_ok (d0 : 0 ≤ d) (d8 : d ≤ 8) {f : Int} : (Ld d).ok (l + 1) f := ⟨asc1 (by omega) (by omega), by simp⟩
theorem ed_ok (d0 : 0 ≤ d) (d8 : d ≤ 8) {f : Int} : (Ed d).ok (l + 2) f := ⟨ld_ok d0 d8, ld_ok d0 d8, rfl, rfl⟩
theorem eed_ok (d0 : 0 ≤ d) (d8 : d ≤ 8) {f : Int} : (NS.either (Ed d) (Ed d)).ok (l + 3) f := ⟨ed_ok d0 d8, ed_ok d0 d8, rfl, rfl⟩
def par (s : NS) : List Str := Str.ofString "(" :: (wds s ++ [Str.ofString ")"])
structure SS (d : Int) (ss : List NS) (Rn : Nat → Int) : Prop where
  len : ss.length = 3
  r0 : Rn 0 = 11
  r3 : Rn 3 = 1
  st : ∀ (n : Nat) (s : NS), ss[n]? = some s → Rn n = Rn (n + 1) + 1 + s.n ∧ (s = Ld d ∨ s = Ed d)
theorem ss_of {r : Int} (r0 : 0 ≤ r) (r3 : r ≤ 3 - 1) : ∃ ss Rn, SS d ss Rn ∧ ∀ K : IH, slI (.lsr true ([Ed d, Ed d, Ld d].map fun s => .lsr true ((par s).map .str))) (some r) none K = .ok (.ref K.length) (K ++ [.lst (([Ed d, Ed d, Ld d].drop r.toNat).map fun s => .lsr true ((par s).map .str))]) ∧ slI (.lsr true ([Ed d, Ed d, Ld d].map fun s => .lsr true ((par s).map .str))) none (some r) K = .ok (.ref K.length) (K ++ [.lst (([Ed d, Ed d, Ld d].take r.toNat).map fun s => .lsr true ((par s).map .str))]) ∧ [Ed d, Ed d, Ld d].drop r.toNat ++ [Ed d, Ed d, Ld d].take r.toNat = ss := by
  have n1 : (Ld d).n = 1 := rfl
  have n3 : (Ed d).n = 3 := rfl
  have c : r = 0 ∨ r = 1 ∨ r = 2 := by omega
  rcases c with rfl | rfl | rfl
  · refine ⟨[Ed d, Ed d, Ld d], fun n => [11, 7, 3, 1].getD n 0, ⟨rfl, rfl, rfl, fun n s h => ?_⟩, fun K => ⟨rfl, rfl, rfl⟩⟩
    rcases n with _ | _ | _ | n
    · cases h; exact ⟨by rw [n3]; rfl, .inr rfl⟩
    · cases h; exact ⟨by rw [n3]; rfl, .inr rfl⟩
    · cases h; exact ⟨by rw [n1]; rfl, .inl rfl⟩
    · cases h
  · refine ⟨[Ed d, Ld d, Ed d], fun n => [11, 7, 5, 1].getD n 0, ⟨rfl, rfl, rfl, fun n s h => ?_⟩, fun K => ⟨rfl, rfl, rfl⟩⟩
    rcases n with _ | _ | _ | n
    · cases h; exact ⟨by rw [n3]; rfl, .inr rfl⟩
    · cases h; exact ⟨by rw [n1]; rfl, .inl rfl⟩
    · cases h; exact ⟨by rw [n3]; rfl, .inr rfl⟩
    · cases h
  · refine ⟨[Ld d, Ed d, Ed d], fun n => [11, 9, 5, 1].getD n 0, ⟨rfl, rfl, rfl, fun n s h => ?_⟩, fun K => ⟨rfl, rfl, rfl⟩⟩
    rcases n with _ | _ | _ | n
    · cases h; exact ⟨by rw [n1]; rfl, .inl rfl⟩
    · cases h; exact ⟨by rw [n3]; rfl, .inr rfl⟩
    · cases h; exact ⟨by rw [n3]; rfl, .inr rfl⟩
    · cases h
theorem kb_either {pl : Bool} (h : ¬ (1 ≤ l ∧ 3 ≤ room)) : KB l room pl (Str.ofString "either") := by
  have e : Str.ofString "either" ≠ Str.ofString "moved" ∧ Str.ofString "either" ≠ Str.ofString "rests" ∧ Str.ofString "either" ≠ Str.ofString "list" ∧ Str.ofString "either" ∉ [Str.ofString "powers", Str.ofString "squares", Str.ofString "primes"] := by decide +kernel
  exact ⟨fun z => absurd z e.1, fun _ => h, e.2.1, e.2.2.1, .inr e.2.2.2⟩
theorem lst5d {n : Nat} {A1 A2 A3 A4 A5 : E} {m1 m2 m3 m5 : Str} {S : Str → Prop} (e1 : ∀ K, jE Φ A1 σ K = .ok (.str m1) K) (e2 : ∀ K, jE Φ A2 σ K = .ok (.str m2) K) (e3 : ∀ K, jE Φ A3 σ K = .ok (.str m3) K) (x : DV Φ σ h p n A4 (fun v => ∃ w, v = .str w ∧ S w)) (e5 : ∀ K, jE Φ A5 σ K = .ok (.str m5) K) : DV Φ σ h p n (.shut (.lst (.cons A1 (.cons A2 (.cons A3 (.cons A4 (.cons A5 .nil))))))) (fun v => ∃ w, v = .lsr true ([m1, m2, m3, w, m5].map .str) ∧ S w) := fun o N dk hN => by
  obtain ⟨_, o1, ⟨w, rfl, s⟩, d1, e4⟩ := x o N dk hN
  refine ⟨_, o1, ⟨w, rfl, s⟩, d1, W_eq.mp ?_⟩
  simp [e1 _, e2 _, e3 _, e4, e5 _]
  rw [newL_ok (by simp [LIM]), W_ok, List.length_set, seal_newS2 d1.nr rfl]
  simp
theorem mul4 {w : Str} : ∀ K : IH, binI .Mult (.ref K.length) (.int 4) (K ++ [.lst [.str w]]) = .ok (.ref (K.length + 1)) (K ++ [.lst [.str w], .lst ([w, w, w, w].map .str)]) := fun K => by
  unfold binI
  simp only [new_at]
  rw [if_pos (by decide)]
  rw [newL_ok (by simp [LIM])]
  simp
theorem SE.four {A : E} {w : Str} (a : ∀ K, jE Φ A σ K = .ok (.str w) K) : SE Φ σ (.shut (.bin .Mult (.lst (.cons A .nil)) (.con (.int 4)))) [w, w, w, w] := fun K => W_eq.mp (by
  simp [a K]
  rw [mul4 K, W_ok, seal_2 (xs := [w, w, w, w].map .str) nr_s]
  simp)
theorem s2' : Str.ofString "2" = sI 2 := by decide +kernel
theorem nr_rowF {vs : List IV} (a : ∀ v ∈ vs, RwF v) {N : Nat} : nrVs N vs = true := by
  induction vs with
  | nil => rfl
  | cons v vs ih =>
    have := (a v (by simp)).nr (N := N)
    have := ih fun x m => a x (by simp [m])
    simp [*]
theorem rot {vs a b : List IV} {r : Int} (s3 : σ[3]? = some (some (.lsr true vs))) (s4 : σ[4]? = some (some (.int r))) (e1 : ∀ K : IH, slI (.lsr true vs) (some r) none K = .ok (.ref K.length) (K ++ [.lst a])) (e2 : ∀ K : IH, slI (.lsr true vs) none (some r) K = .ok (.ref K.length) (K ++ [.lst b])) (na : ∀ N, nrVs N a = true) (nb : ∀ N, nrVs N b = true) (l : a.length + b.length ≤ 1000) : ∀ K, jE Φ (.shut (.bin .Add (.shut (.sl (.var 3) (.som (.var 4)) .non)) (.shut (.sl (.var 3) .non (.som (.var 4)))))) σ K = .ok (.lsr true (a ++ b)) K := fun K => W_eq.mp (by
  simp [s3, s4]
  rw [e1, W_ok, seal_new (na _)]
  simp
  rw [e2, W_ok, seal_new (nb _)]
  simp
  rw [cat_eq (by simp [LIM]; omega), W_ok, seal_new (by simp [na, nb])]
  simp)
theorem tuples_eq (u : U385 P) {o : IO} {N : Nat} (hp : p < h.length) (dk : DkD N o) (hN : N < 700000000) : ∃ (o' : IO) (rows : List IV), DkD (N + 10) o' ∧ (∀ v ∈ rows, RwF v) ∧ rows.length = 3 ∧ callF P (k + 2) 385 [.ref p] (h.set p o) = .ok (.lsr true rows) (h.set p o') := by
  have u2 := u.2
  have wk : W (callF P (k + 2) 385 [.ref p] (h.set p o)) (fun v' h' => ∃ (o' : IO) (rows : List IV), DkD (N + 10) o' ∧ (∀ v ∈ rows, RwF v) ∧ rows.length = 3 ∧ v' = .lsr true rows ∧ h' = h.set p o') (fun _ _ => False) := by
    refine W_def u.1 (by decide) rfl ?_
    show WS (jSs (callF P (k + 1)) b_law_tuples_2 [some (.ref p), none, none, none, none, none, none, none, none, none] (h.set p o)) _
    unfold b_law_tuples_2
    refine W.step ?_
    refine DV.asg (lst5d (S := fun w => ∃ d : Int, 0 ≤ d ∧ d ≤ 8 ∧ w = sI d) strC strC strC ((DV.str (DV.drawC u2 hp rfl (by omega) (by decide +kernel)) (by omega) (by omega)).mono fun v ⟨r, r1, r2, e⟩ => ⟨_, e, r, by omega, by omega, rfl⟩) strC) dk (by omega) (by simp) ?_
    rintro _ o1 ⟨_, rfl, d, d0, d8, rfl⟩ d1
    refine Nxt.go ?_
    have wl : ∀ d : Int, wds (Ld d) = [Str.ofString "list", Str.ofString ":", sI d] := fun d => rfl
    have pL : [Str.ofString "(", Str.ofString "list", Str.ofString ":", sI d, Str.ofString ")"] = par (Ld d) := rfl
    rw [pL]
    refine DV.asg (DV.pure (SE.cat (a := [Str.ofString "(", Str.ofString "either"] ++ par (Ld d) ++ par (Ld d)) (b := [Str.ofString ")"]) (by simp [par, wl]) (SE.cat (by simp [par, wl]) (SE.cat (by simp [par, wl]) (SE.lst (.cons strC (.cons strC .nil)) (by simp)) (SE.var rfl)) (SE.var rfl)) (SE.one strC))) d1 (by omega) (by simp) ?_
    rintro _ o2 rfl d2
    have pE : [Str.ofString "(", Str.ofString "either"] ++ par (Ld d) ++ par (Ld d) ++ [Str.ofString ")"] = par (Ed d) := by simp [par, Ed, wl, wds]
    rw [pE]
    refine Nxt.go ?_
    have nrf : ∀ (ss : List NS) (N : Nat), nrVs N (ss.map fun s => .lsr true ((par s).map .str)) = true := fun ss N => by
      induction ss with
      | nil => rfl
      | cons s ss ih =>
        have : nrVs N ((par s).map IV.str) = true := nr_s
        simp [nrV, this, ih]
    refine DV.asg (DV.pure (v := .lsr true ([Ed d, Ed d, Ld d].map fun s => .lsr true ((par s).map .str))) (fun K => W_eq.mp (by
      simp
      have := seal_new (h0 := K) (nrf [Ed d, Ed d, Ld d] K.length)
      simp at this
      rw [this]
      simp))) d2 (by omega) (by simp) ?_
    rintro _ o3 rfl d3
    refine Nxt.go ?_
    refine DV.asg (DV.drawC u2 hp rfl (by omega) (by decide +kernel)) d3 (by omega) (by simp) ?_
    rintro _ o4 ⟨r, r0, r3, rfl⟩ d4
    refine Nxt.go ?_
    obtain ⟨ss, Rn, S, sl⟩ := ss_of (d := d) r0 r3
    have rt := rot (Φ := callF P (k + 1)) (σ := [some (.ref p), some (.lsr true ((par (Ld d)).map .str)), some (.lsr true ((par (Ed d)).map .str)), some (.lsr true ([Ed d, Ed d, Ld d].map fun s => .lsr true ((par s).map .str))), some (.int r), none, none, none, none, none]) rfl rfl (fun K => (sl K).1) (fun K => (sl K).2.1) (nrf _) (nrf _) (by simp; omega)
    rw [← List.map_append, (sl []).2.2] at rt
    refine DV.asg (DV.pure rt) d4 (by omega) (by simp) ?_
    rintro _ o5 rfl d5
    refine Nxt.go ?_
    refine DV.asg (DV.pure (SE.lst (ws := [Str.ofString "moved", Str.ofString "1", Str.ofString "0", Str.ofString "("]) (.cons strC (.cons strC (.cons strC (.cons strC .nil)))) (by simp))) d5 (by omega) (by simp) ?_
    rintro _ o6 rfl d6
    refine Nxt.go ?_
    simp only [List.set]
    rw [s0, show Str.ofString "1" = sI 1 by decide +kernel]
    simp
    let J : Nat → Sl → IH → Prop := fun n σ h' => n ≤ 3 ∧ ∃ (X : List Str) (c6 : Option IV) (o' : IO), DkD (N + 3) o' ∧ σ = [some (.ref p), some (.lsr true ((par (Ld d)).map .str)), some (.lsr true ((par (Ed d)).map .str)), some (.lsr true (ss.map fun s => .lsr true ((par s).map .str))), some (.int r), some (.lsr true (X.map .str)), c6, none, none, none] ∧ h' = h.set p o' ∧ X.length ≤ 4 + 20 * n ∧ Ctx X (List.replicate (n + 1) (Str.ofString ")")) (5 - n) (Rn n) 1
    refine W_forM (ts := ss) (u := fun s => .lsr true ((par s).map .str)) J ⟨by omega, [Str.ofString "moved", sI 1, sI 0, Str.ofString "("], none, o6, d6.mono (by omega), rfl, rfl, by simp, ?_⟩ ?_ ?_
    · have := Ctx.mv (X := []) (Y := []) (F := 1) (l := 5) (room := 11) (a := 1) (b := 0) (by omega) (by omega) (by omega) (by omega) (by omega) (by decide) Ctx.nil
      rw [S.r0]
      exact this
    · rintro n t σ h1 ht ⟨_, X, c6, o', d', rfl, rfl, lx, c⟩
      have hn := (List.getElem?_eq_some_iff.mp ht).1
      rw [S.len] at hn
      obtain ⟨er, et⟩ := S.st n t ht
      have lt : (par t).length ≤ 13 := by rcases et with rfl | rfl <;> simp [par, Ld, Ed, wds]
      simp only [tgI, List.set, OptQ_some]
      refine W.step ?_
      refine DV.asg (DV.pure (SE.cat (a := X ++ [Str.ofString "either"] ++ par t) (b := [Str.ofString "("]) (by simp; omega) (SE.cat (by simp; omega) (SE.cat (by simp; omega) (SE.var rfl) (SE.one strC)) (SE.var rfl)) (SE.one strC))) d' (by omega) (by simp) ?_
      rintro _ o7 rfl d7
      simp
      refine ⟨by omega, X ++ [Str.ofString "either"] ++ par t ++ [Str.ofString "("], _, o7, d7, by simp; rfl, rfl, by simp; omega, ?_⟩
      obtain ⟨l, hl⟩ : ∃ l, 5 - n = l + 3 := ⟨2 - n, by omega⟩
      rw [hl, er] at c
      have := Ctx.snd (t := t) (fun f _ => by
        rcases et with rfl | rfl
        · exact ld_ok d0 d8
        · exact ed_ok d0 d8) (by rcases et with rfl | rfl <;> rfl) c
      rw [show 5 - (n + 1) = l + 2 by omega, show X ++ [Str.ofString "either"] ++ par t ++ [Str.ofString "("] = X ++ (Str.ofString "either" :: Str.ofString "(" :: (wds t ++ [Str.ofString ")", Str.ofString "("])) by simp [par], List.replicate_succ]
      exact this
    · rintro σ h1 ⟨_, X, c6, o', d', rfl, rfl, lx, c⟩
      rw [S.len] at lx c
      rw [S.r3] at c
      refine Nxt.go ?_
      have hx : ∀ xs : List IV, p < (h ++ [IO.lst xs]).length := fun xs => by simp; omega
      refine lst1 (S := RwF) ((DV.tup4 (DV.pure (SE.var (ws := X) rfl)) (DV.words (ws := [Str.ofString "moved", Str.ofString "either"]) (.cons strC (.cons strC .nil)) (DV.drawC u2 hp rfl (by omega) (by decide +kernel)) (by simp) (by simp)) (DV.one strC) (DV.pure (SE.cat (a := [Str.ofString "2", Str.ofString ":", Str.ofString "1"]) (by simp) (SE.lst (.cons strC (.cons strC (.cons strC .nil))) (by simp)) (SE.four strC)))).mono ?_) d' hp (by omega) ?_
      · rintro v ⟨_, _, _, _, rfl, rfl, ⟨w, rfl, mw⟩, ⟨_, rfl, rfl⟩, rfl⟩
        refine ⟨_, _, _, _, rfl, mw_kind mw, ?_⟩
        have := c [] w (Str.ofString "rests") [Str.ofString "2", Str.ofString ":", Str.ofString "1"] (row_kind (s := .rests 2 [1]) (by omega) (fun f => ⟨by decide, by decide, asc1 (by decide) (by decide)⟩) rfl rfl (by rw [s2', s1']; rfl) ⟨kb_kind mw (by omega), kb_kind mw (by omega)⟩ (by omega)) false
        simpa [List.replicate] using this
      intro v1 o7 a1 d7
      refine Nxt.go ?_
      refine DV.asg (DV.pure (SE.cat (a := [Str.ofString "either", Str.ofString "(", Str.ofString "either", Str.ofString "(", Str.ofString "either"] ++ par (Ed d) ++ par (Ed d)) (b := [Str.ofString ")", Str.ofString "("]) (by simp [par, Ed, Ld, wds]) (SE.cat (by simp [par, Ed, Ld, wds]) (SE.cat (by simp [par, Ed, Ld, wds]) (SE.lst (.cons strC (.cons strC (.cons strC (.cons strC (.cons strC .nil))))) (by simp)) (SE.var rfl)) (SE.var rfl)) (SE.lst (.cons strC (.cons strC .nil)) (by simp)))) d7 (by omega) (by simp) ?_
      rintro _ o8 rfl d8'
      refine Nxt.go ?_
      refine DV.asg (DV.pure (SE.lst (ws := [Str.ofString "2", Str.ofString ":", Str.ofString "1", Str.ofString ")", Str.ofString ")", Str.ofString "(", Str.ofString "list", Str.ofString ":", Str.ofString "5", Str.ofString ")"]) (.cons strC (.cons strC (.cons strC (.cons strC (.cons strC (.cons strC (.cons strC (.cons strC (.cons strC (.cons strC .nil)))))))))) (by simp))) d8' (by omega) (by simp) ?_
      rintro _ o9 rfl d9
      refine Nxt.go ?_
      have t5_ok : ∀ {l : Nat} {f : Int}, (NS.list [5]).ok (l + 1) f := fun {l f} => ⟨asc1 (by decide) (by decide), by decide⟩
      have rk : ∀ {l : Nat} {room : Int} {w : Str}, (∀ pl, KB l room pl w) → 1 ≤ room → RowA (l + 1) room 1 [] w (Str.ofString "rests") [Str.ofString "2", Str.ofString ":", Str.ofString "1"] := fun {l room w} kb hr => row_kind (s := .rests 2 [1]) (by omega) (fun f => ⟨by decide, by decide, asc1 (by decide) (by decide)⟩) rfl rfl (by rw [s2', s1']; rfl) ⟨kb _, kb _⟩ hr
      refine app7 (S := RwF) ((DV.tup4 (DV.pure (SE.var rfl)) (DV.one strC) (DV.one strC) (DV.pure (SE.var rfl))).mono ?_) d9 hp (by omega) rfl (by simp) ?_
      · rintro v ⟨_, _, _, _, rfl, rfl, ⟨_, rfl, rfl⟩, ⟨_, rfl, rfl⟩, rfl⟩
        refine ⟨_, _, _, _, rfl, mw_kind (by simp), ?_⟩
        have c1 := Ctx.fst (X := []) (Y := []) (F := 1) (l := 5) (room := 10) (t := .list [5]) (fun f _ => t5_ok) rfl rfl Ctx.nil
        have c2 := Ctx.snd (l := 4) (room := 2) (t := .either (Ed d) (Ed d)) (fun f _ => eed_ok d0 d8) rfl c1
        have := c2 [] _ _ _ (rk (l := 3) (room := 2) (w := Str.ofString "either") (fun pl => kb_either (by omega)) (by omega)) false
        simpa [par, wds, s5] using this
      intro v2 o10 a2 d10
      refine Nxt.go ?_
      refine DV.asg (DV.pure (SE.cat (a := [Str.ofString "moved", Str.ofString "-1", Str.ofString "3", Str.ofString "("]) (by simp [par, Ed, Ld, wds]) (SE.lst (.cons strC (.cons strC (.cons strC (.cons strC .nil)))) (by simp)) (SE.var rfl))) d10 (by omega) (by simp) ?_
      rintro _ o11 rfl d11
      refine Nxt.go ?_
      refine app7 (S := RwF) ((DV.tup4 (DV.pure (SE.var rfl)) (DV.words (ws := [Str.ofString "moved", Str.ofString "either"]) (.cons strC (.cons strC .nil)) (DV.drawC u2 (hx _) rfl (by omega) (by decide +kernel)) (by simp) (by simp)) (DV.one strC) (DV.pure (SE.cat (b := [Str.ofString ")"]) (by simp) (SE.var rfl) (SE.one strC)))).mono ?_) d11 hp (by omega) rfl (by simp) ?_
      · rintro v ⟨_, _, _, _, rfl, rfl, ⟨w, rfl, mw⟩, ⟨_, rfl, rfl⟩, rfl⟩
        refine ⟨_, _, _, _, rfl, mw_kind mw, ?_⟩
        have c0 := Ctx.mv (X := []) (Y := []) (F := 1) (l := 5) (room := 11) (a := -1) (b := 3) (by omega) (by omega) (by omega) (by omega) (by omega) (by decide) Ctx.nil
        have c1 := Ctx.fst (l := 4) (room := 9) (t := .list [5]) (fun f _ => t5_ok) rfl rfl c0
        have c2 := Ctx.snd (l := 3) (room := 1) (t := .either (Ed d) (Ed d)) (fun f _ => eed_ok d0 d8) rfl c1
        have := c2 [] _ _ _ (rk (l := 2) (room := 1) (w := w) (fun pl => kb_kind mw (by omega)) (by omega)) false
        rw [show Str.ofString "-1" = sI (-1) by decide +kernel, s3]
        simpa [par, wds, s5] using this
      intro v3 o12 a3 d12
      refine Nxt.go ?_
      have ar : ∀ v ∈ [v1, v2, v3], RwF v := by simp [a1, a2, a3]
      simp
      rw [← set_app hp, seal_newS2 d12.nr (nr_rowF ar), W_ok]
      exact ⟨o12, d12.mono (by omega), _, ar, rfl, rfl, rfl⟩
  obtain ⟨v', h', e, o', rows, d', a, l, rfl, rfl⟩ := W_get wk
  exact ⟨o', rows, d', a, l, e⟩
end
end Pi
end

section
set_option maxHeartbeats 8000000
namespace Pi
open PySem
section
variable {P : Tab} {k : Nat} {h K : IH} {Φ : Calls} {σ : Sl} {p : Nat} {ws : List Str} {s : NS}
theorem joinH {v : IV} (e : seqOf h v = some (ws.map .str)) (o : WsK ws) : joinI (Str.ofString " ") v h = .ok (.str (Txt.join (Str.ofString " ") ws)) h := by
  unfold joinI
  have e : (seqOf h v).bind strsOf = some ws := by rw [e]; exact strs_map' _
  simp only [e]
  have := sum62' (ws := ws) o.len
  have := o.n
  have l1 : (Str.ofString " ").length = 1 := by decide +kernel
  rw [if_pos (by rw [l1]; omega)]
theorem SE.joinH {A : E} (a : SE Φ σ A ws) (o : WsK ws) : ∀ K, jE Φ (.join (.con (.str (Str.ofString " "))) A) σ K = .ok (.str (Txt.join (Str.ofString " ") ws)) K := fun K => W_eq.mp (by
  simp [a K]
  rw [Pi.joinH rfl o]
  simp)
theorem chk_g {A B : E} {t : Str} {n : Int} {f : Nat} {Q : Fl → IH → Prop} (eA : jE Φ A σ h = .ok (.str t) K) (eP : Φ 420 [.fn f, .str t] K = .ok (.int n) K) (eB : jE Φ B σ K = .ok (.int n) K) (q : Q (.nx σ) K) :
    WS (jS Φ (.ite (.cmp .NotEq (.call 420 (.cons (.con (.fn f)) (.cons A .nil))) B) (.cons (.ret (.con (.bl false))) .nil) .nil) σ h) Q := by
  simp [eA, eP, eB]
  exact q
theorem plcH (u379 : U379 P) (u420 : U420 P) {V : List Str} (o : WsK V) {n : Nat} (sb : SB 6 12 1 false V n) (K : IH) : callF P (k + 24) 420 [.fn 379, .str (Txt.join (Str.ofString " ") V)] K = .ok (.int n) K :=
  place_bad (k := k + 22) u420 (read_bad_set (k := k + 1) u379 o sb)
theorem W_of {A : E} {v : IV} {Q : IV → IH → Prop} {R : Ex → IH → Prop} (e : ∀ K, jE Φ A σ K = .ok v K) (q : Q v h) : W (jE Φ A σ h) Q R := by rw [e, W_ok]; exact q
theorem shL {es : Es} {vs : List IV} (e : EsE Φ σ es vs) (nr : ∀ N, nrVs N vs = true) (l : vs.length ≤ 1000) : ∀ K, jE Φ (.shut (.lst es)) σ K = .ok (.lsr true vs) K := fun K => W_eq.mp (by
  simp [e K]
  rw [newL_ok (by simp [LIM]; omega), W_ok, seal_new (nr _)]
  simp)
def junk90 : List Str := [Str.ofString "x", Str.ofString "", Str.ofString "01", Str.ofString "(", Str.ofString ")", Str.ofString "rests", Str.ofString "1_0", Str.ofString "99"]
theorem junk90_ok : ∀ w ∈ junk90, Mw w := by
  intro w m
  have e : junk90.all (fun w => decide (32 ∉ TL.tl w) && decide (w.length ≤ 62)) = true := by decide +kernel
  have := List.all_eq_true.mp e w m
  simp only [Bool.and_eq_true, decide_eq_true_eq] at this
  exact ⟨this.1, this.2⟩
theorem stays_eq (u : U421 P) {v : IV} (rf : RwF v) {o : IO} {N : Nat} (hp : p < h.length) (d : DkD N o) (hN : N < 700000000) : ∃ (o' : IO), DkD (N + 2) o' ∧ callF P (k + 25) 421 [.ref p, v] (h.set p o) = .ok (.bl true) (h.set p o') := by
  have u2 := u.2.1
  have u370 := u.2.2.1
  have u379 := u.2.2.2.1
  have u420 := u.2.2.2.2
  obtain ⟨A, w, g, B, rfl, mw, row⟩ := rf
  have wk : W (callF P (k + 25) 421 [.ref p, .tup [.lsr true (A.map .str), .str w, .str g, .lsr true (B.map .str)]] (h.set p o)) (fun v' h' => ∃ (o' : IO), DkD (N + 2) o' ∧ v' = .bl true ∧ h' = h.set p o') (fun _ _ => False) := by
    refine W_def u.1 (by decide) rfl ?_
    show WS (jSs (callF P (k + 24)) b_law_place_stays [some (.ref p), some (.tup [.lsr true (A.map .str), .str w, .str g, .lsr true (B.map .str)]), none, none, none, none, none, none, none, none] (h.set p o)) _
    unfold b_law_place_stays
    have len := row.len (by omega)
    obtain ⟨s, gs, es⟩ := row.good 1 rfl
    have is : IsS s := ⟨gs.1, by have := gs.2.1; omega⟩
    have wA : ∀ x ∈ A, Mw x := fun x m => by
      have := wds_ok _ _ s gs.1 x (by rw [es]; simp [m])
      exact ⟨this.f, this.l⟩
    have wB : ∀ x ∈ B, Mw x := fun x m => by
      have := wds_ok _ _ s gs.1 x (by rw [es]; simp [m])
      exact ⟨this.f, this.l⟩
    have wg : Mw g := by
      have := wds_ok _ _ s gs.1 g (by rw [es]; simp)
      exact ⟨this.f, this.l⟩
    have ok : ∀ {y : Str} {R : List Str}, Mw y → (∀ x ∈ R, Mw x) → R.length ≤ B.length + 1 → WsK (A ++ y :: R) := fun {y R} my mR lR => ⟨by simp, fun x m => by
      rcases List.mem_append.mp m with m | m
      · exact (wA x m).free
      · rcases List.mem_cons.mp m with rfl | m
        · exact my.free
        · exact (mR x m).free, fun x m => by
      rcases List.mem_append.mp m with m | m
      · exact (wA x m).len
      · rcases List.mem_cons.mp m with rfl | m
        · exact my.len
        · exact (mR x m).len, by simp; omega⟩
    refine W.step ?_
    simp
    refine Nxt.go ?_
    refine DV.asg (DV.pure (SE.joinH (ws := A ++ [g] ++ B) (SE.cat (by simp; omega) (SE.cat (by simp; omega) (SE.var rfl) (SE.one (str_var rfl))) (SE.var rfl)) (by rw [List.append_assoc]; exact ok (R := B) wg wB (by omega)))) d (by omega) (by simp) ?_
    rintro _ o1 rfl d1
    refine Nxt.go ?_
    have es' : Txt.join (Str.ofString " ") (A ++ [g] ++ B) = stx s := by
      unfold stx
      rw [es]
      simp
    rw [es']
    simp
    rw [show k + 24 = k + 2 + 22 by omega, read_set_eq (k := k + 2) u379 is, W_ok, show k + 2 + 22 = k + 8 + 16 by omega, show_set_eq (k := k + 8) u370 is, W_ok]
    simp
    refine Nxt.go ?_
    rw [show k + 8 + 16 = k + 24 by omega]
    refine DV.asg (DV.words (ws := junk90) (.cons strC (.cons strC (.cons strC (.cons strC (.cons strC (.cons strC (.cons strC (.cons strC .nil)))))))) (DV.drawC (k := k + 23) u2 hp rfl (by omega) (by decide +kernel)) (by simp [junk90]) (by simp [junk90])) d1 (by omega) (by simp) ?_
    rintro _ o2 ⟨j, rfl, mj⟩ d2
    have wj := junk90_ok j mj
    refine Nxt.go ?_
    refine DV.asg (DV.draw (k := k + 23) (m := (B.length : Int) + 1) u2 hp rfl (fun K => W_eq.mp (by simp)) (by omega) (mid64 (by omega))) d2 (by omega) (by simp) ?_
    rintro _ o3 ⟨r, r0, r1, rfl⟩ d3
    obtain ⟨t, rfl⟩ : ∃ t : Nat, r = t := ⟨r.toNat, by omega⟩
    refine Nxt.go ?_
    have ht : t ≤ B.length := by omega
    have nr4 : ∀ (Rs : List (List Str)) (N : Nat), nrVs N (Rs.map fun R => .lsr true (R.map .str)) = true := fun Rs N => by
      induction Rs with
      | nil => rfl
      | cons s ss ih =>
        have : nrVs N (s.map IV.str) = true := nr_s
        simp [nrV, this, ih]
    rw [W_for]
    simp only [W_Ival]
    refine W_of (shL (vs := [B, [], [j], B.take t ++ [j] ++ B.drop t].map fun R : List Str => .lsr true (R.map .str)) (EsE.cons (SE.var (ws := B) rfl) (EsE.cons (SE.lst (ws := []) .nil (by simp)) (EsE.cons (SE.one (w := j) (str_var rfl)) (EsE.cons (SE.cat (a := B.take t ++ [j]) (b := B.drop t) (by simp; omega) (SE.cat (by simp; omega) (SE.take (SE.var rfl) (int_var rfl)) (SE.one (str_var rfl))) (SE.drop (SE.var rfl) (int_var rfl))) EsE.nil)))) (nr4 _) (by simp)) ?_
    simp only [W_ok, val_lsr]
    have Rok : ∀ R ∈ [B, [], [j], B.take t ++ [j] ++ B.drop t], (∀ x ∈ R, Mw x) ∧ R.length ≤ B.length + 1 := by
      intro R m
      simp only [List.mem_cons, List.not_mem_nil, or_false] at m
      rcases m with rfl | rfl | rfl | rfl
      · exact ⟨wB, by omega⟩
      · exact ⟨fun x m => by simp at m, by simp⟩
      · exact ⟨fun x m => by rw [List.mem_singleton.mp m]; exact wj, by simp⟩
      · refine ⟨fun x m => ?_, by simp; omega⟩
        rcases List.mem_append.mp m with m | m
        · rcases List.mem_append.mp m with m | m
          · exact wB x (List.mem_of_mem_take m)
          · rw [List.mem_singleton.mp m]; exact wj
        · exact wB x (List.mem_of_mem_drop m)
    let J : Nat → Sl → IH → Prop := fun n σ h' => ∃ (c9 : Option IV), σ = [some (.ref p), some (.tup [.lsr true (A.map .str), .str w, .str g, .lsr true (B.map .str)]), some (.lsr true (A.map .str)), some (.str w), some (.str g), some (.lsr true (B.map .str)), some (.str (stx s)), some (.str j), some (.int t), c9] ∧ h' = h.set p o3
    refine W_forM (ts := [B, [], [j], B.take t ++ [j] ++ B.drop t]) (u := fun R => .lsr true (R.map .str)) J ⟨none, rfl, rfl⟩ ?_ ?_
    · rintro n R σ h1 hR ⟨c9, rfl, rfl⟩
      obtain ⟨mR, lR⟩ := Rok R (List.mem_of_getElem? hR)
      simp only [tgI, List.set, OptQ_some]
      refine W.step ?_
      have okR := ok mw mR lR
      refine chk_g (K := h.set p o3) (n := (A.length : Int)) (SE.joinH (ws := A ++ [w] ++ R) (SE.cat (by simp; omega) (SE.cat (by simp; omega) (SE.var rfl) (SE.one (str_var rfl))) (SE.var rfl)) (by rw [List.append_assoc]; exact okR) _) (by rw [List.append_assoc]; exact plcH (k := k) u379 u420 okR (row.bad 1 rfl R) _) (W_eq.mp (by simp)) ?_
      simp
      exact ⟨_, rfl, rfl⟩
    · rintro σ h1 ⟨c9, rfl, rfl⟩
      refine Nxt.go ?_
      simp
      rw [seal_setS d3.nr rfl, W_ok]
      exact ⟨o3, d3.mono (by omega), rfl, rfl⟩
  obtain ⟨v', h', e, o', d', rfl, rfl⟩ := W_get wk
  exact ⟨o', d', e⟩
theorem W_lcD2 {xs : List IV} {o o1 : IO} {Q : IV → IH → Prop} {R : Ex → IH → Prop} {body : IV → IH → Out (Option IV)} (I : Nat → IO → List IV → Prop) (hp : p < h.length) (i0 : I 0 o1 []) (hl : xs.length ≤ LIM)
    (step : ∀ n x o' acc, xs[n]? = some x → I n o' acc → W (body x (h.set p o')) (fun r h2 => ∃ o'' v, r = some v ∧ h2 = h.set p o'' ∧ I (n + 1) o'' (acc ++ [v])) R)
    (nr : ∀ n o' acc, I n o' acc → nrO h.length o' = true ∧ nrVs h.length acc = true)
    (fin : ∀ o' acc, I xs.length o' acc → Q (.lsr true acc) (h.set p o')) :
    W (lcGo (.vals xs) body 0 (wkLen (.vals xs) (h.set p o1)) [] (h.set p o1)) (fun vs h5 => W (newL vs h5) (fun x h1 => W (sealI (h.set p o) x h1) Q R) R) R := by
  have := W_lcD (h := h.set p o) (o := o1) (p := p) (Q := Q) (R := R) (body := body) I (by simpa using hp) i0 hl (fun n x o' acc e i => by rw [List.set_set]; simpa [List.set_set] using step n x o' acc e i) (fun n o' acc i => by simpa using nr n o' acc i) (fun o' acc i => by rw [List.set_set]; exact fin o' acc i)
  rwa [List.set_set] at this
def n12 : List Int := [-20, -19, -18, -17, -16, -15, -14, -13, -12, -11, -10, -9]
theorem asc_n12 : Asc (-100) 100 n12 := ⟨by decide, by decide, by decide⟩
theorem more12 (l : σ.length = 5) : SE Φ σ (.shut (.lc (.blt .str (.cons (.bin .Sub (.var 4) (.con (.int 20))) .nil)) (.name 4) (.rng (.con (.int 12))) .non [4])) (n12.map sI) := fun K => W_eq.mp (by
  simp
  rw [rng_i (by omega)]
  simp only [W_ok]
  refine W_lcM (ts := List.range 12) (u := fun k : Nat => .int k) (fun k : Nat => .str (sI ((k : Int) - 20))) (by simp [LIM]) (fun t ht => ?_) (fun _ _ => by simp) ?_
  · rw [List.mem_range] at ht
    rw [W_lcB]
    have : tgI (.name 4) (.int (t : Int)) (wipeI σ [4]) = some ((wipeI σ [4]).set 4 (some (.int (t : Int)))) := rfl
    rw [this]
    have l13 : (wipeI σ [4]).length = 5 := by simp [wipeI, l]
    have : ((wipeI σ [4]).set 4 (some (.int (t : Int))))[4]? = some (some (.int (t : Int))) := List.getElem?_set_self (by omega)
    simp [this]
    rw [str_I (log13 (by omega))]
    simp
  · refine ⟨?_, rfl⟩
    rw [show (List.range 12).map (fun k : Nat => IV.str (sI ((k : Int) - 20))) = (n12.map sI).map .str from rfl]
    simp)
def txt14 : List Str := [Str.ofString "list", Str.ofString ":"] ++ n12.map sI ++ [Str.ofString "50", Str.ofString "60"]
theorem ok14 : WsK txt14 := by
  have e : txt14.all (fun w => decide (32 ∉ TL.tl w) && decide (w.length ≤ 62)) = true := by decide +kernel
  have a : ∀ w ∈ txt14, 32 ∉ TL.tl w ∧ w.length ≤ 62 := fun w m => by
    have := List.all_eq_true.mp e w m
    simpa using this
  exact ⟨by simp [txt14], fun w m => (a w m).1, fun w m => (a w m).2, by simp [txt14, n12]⟩
theorem sb14 : SB 6 12 1 false txt14 14 := by
  refine .inr (.inr (.inl ⟨?_, fun z => absurd z (by decide +kernel)⟩))
  have := LB.list_r (lev := 6 - ((5 : Nat) : Int)) (RB.more (lev := 6 - ((5 : Nat) : Int)) (lo := -100) (hi := 100) (most := 12) (rs := n12) (w := Str.ofString "50") (r := [Str.ofString "60"]) (x := -9) asc_n12 (by decide) rfl (.inl (by omega)) (.inl rfl))
  rw [show 2 + n12.length = 14 from rfl] at this
  simpa [txt14] using this
theorem right90 (u : U431 P) {o : IO} {N : Nat} (hp : p < h.length) (d : DkD N o) (hN : N < 500000000) : ∃ h', callF P (k + 26) 431 [.ref p] (h.set p o) = .ok (.bl true) h' := by
  obtain ⟨u0, u379, u382, u384, u385, u418, u420, u421, u430⟩ := u
  have wk : W (callF P (k + 26) 431 [.ref p] (h.set p o)) (fun v' _ => v' = .bl true) (fun _ _ => False) := by
    refine W_def u0 (by decide) rfl ?_
    show WS (jSs (callF P (k + 25)) b_law_right_9 [some (.ref p), none, none, none, none] (h.set p o)) _
    unfold b_law_right_9
    refine W.step ?_
    simp
    obtain ⟨o1, rows, d1, ar, lr, e1⟩ := rows_eq (k := k + 23) u382 hp d (by omega)
    rw [show k + 25 = k + 23 + 2 from rfl, e1]
    simp only [W_ok, val_lsr]
    refine W_lcD2 (fun n o' acc => DkD (N + 40 + 10 * n) o' ∧ (∀ v ∈ acc, RwF v) ∧ acc.length = n) hp ⟨d1, by simp, rfl⟩ (by simp [LIM]; omega) ?_ ?_ ?_
    · rintro n x o' acc hx ⟨d', aa, la⟩
      have hn := (List.getElem?_eq_some_iff.mp hx).1
      have rx := ar x (List.mem_of_getElem? hx)
      rw [W_lcB]
      simp only [wipeI, tgI, List.set, OptQ_some]
      simp
      obtain ⟨o2, v', d2, rf, e2⟩ := wrapped_eq (k := k + 23) u418 rx hp d' (by omega)
      rw [show k + 25 = k + 23 + 2 from rfl, e2]
      simp only [W_ok]
      exact ⟨o2, rfl, d2, fun v m => by
        rcases m with m | rfl
        · exact aa v m
        · exact rf, by simp [la]⟩
    · rintro n o' acc ⟨d', aa, la⟩
      exact ⟨d'.nr, nr_rowF aa⟩
    rintro o2 acc ⟨d2, aa, la⟩
    rw [lr] at d2 la
    refine Nxt.go ?_
    obtain ⟨o3, v1, d3, rf1, e3⟩ := products_eq (k := k + 22) u430 hp d2 (by omega)
    obtain ⟨o4, v2, d4, rf2, e4⟩ := levels_eq (k := k + 22) u384 hp d3 (by omega)
    obtain ⟨o5, rows3, d5, a3, l3, e5⟩ := tuples_eq (k := k + 23) u385 hp d4 (by omega)
    rw [show k + 23 + 2 = k + 25 from rfl]
    simp
    rw [show k + 25 = k + 22 + 3 from rfl, e3]
    simp
    rw [e4]
    simp only [W_ok]
    have r12 : ∀ v ∈ [v1, v2], RwF v := by simp [rf1, rf2]
    rw [List.length_set, seal_newS2 d4.nr (nr_rowF r12)]
    simp only [W_ok]
    rw [cat_eq (by simp [LIM]; omega), W_ok, List.length_set, seal_newS2 d4.nr (by simp [nr_rowF aa, nr_rowF r12])]
    simp
    rw [show k + 22 + 3 = k + 23 + 2 from rfl, e5]
    simp only [W_ok]
    rw [cat_eq (by simp [LIM]; omega), W_ok, List.length_set, seal_newS2 d5.nr (by simp [nr_rowF aa, rf1.nr, rf2.nr, nr_rowF a3])]
    simp only [W_ok]
    have all : ∀ v ∈ acc ++ [v1, v2] ++ rows3, RwF v := fun v m => by
      simp at m
      rcases m with m | rfl | rfl | m
      · exact aa v m
      · exact rf1
      · exact rf2
      · exact a3 v m
    have l16 : (acc ++ [v1, v2] ++ rows3).length = 16 := by simp; omega
    generalize acc ++ [v1, v2] ++ rows3 = vs at all l16
    refine Nxt.go ?_
    simp
    refine W_lcD2 (fun n o' acc => DkD (N + 300 + 2 * n) o' ∧ acc = (List.replicate n true).map .bl) hp ⟨d5.mono (by omega), rfl⟩ (by simp [LIM]; omega) ?_ ?_ ?_
    · rintro n x o' acc hx ⟨d', rfl⟩
      have hn := (List.getElem?_eq_some_iff.mp hx).1
      have rx : RwF x := by
        have m := List.mem_of_getElem? hx
        exact all x m
      rw [W_lcB]
      simp only [wipeI, tgI, List.set, OptQ_some]
      simp
      obtain ⟨o6, d6, e6⟩ := stays_eq (k := k) u421 rx hp d' (by omega)
      rw [show k + 23 + 2 = k + 25 from rfl, e6]
      simp only [W_ok]
      exact ⟨o6, rfl, d6, by rw [List.replicate_succ']⟩
    · rintro n o' acc ⟨d', rfl⟩
      exact ⟨d'.nr, nrVs_all fun v m => by
        obtain ⟨b, _, rfl⟩ := List.mem_map.mp m
        rfl⟩
    rintro o6 _ ⟨d6, rfl⟩
    rw [all_lsr]
    simp
    rw [show k + 23 + 2 = k + 25 from rfl]
    refine Nxt.go ?_
    refine DV.asg (DV.pure (SE.cat (a := [Str.ofString "list", Str.ofString ":"] ++ n12.map sI) (b := [Str.ofString "50", Str.ofString "60"]) (by simp [n12]) (SE.cat (by simp [n12]) (SE.lst (.cons strC (.cons strC .nil)) (by simp)) (more12 (by simp))) (SE.lst (.cons strC (.cons strC .nil)) (by simp)))) d6 (by omega) (by simp) ?_
    rintro _ o7 rfl d7
    refine Nxt.go ?_
    have e8 := SE.joinH (Φ := callF P (k + 25)) (σ := [some (.ref p), some (.lsr true vs), some (.lsr true (txt14.map .str)), none, none]) (A := .var 2) (SE.var rfl) ok14 (h.set p o7)
    have e9 := plcH (k := k + 1) u379 u420 ok14 sb14 (h.set p o7)
    rw [W_ret, W_cmp, W_call, W_consE, W_con, W_consE]
    show W (jE (callF P (k + 25)) (.join (.con (.str (Str.ofString " "))) (.var 2)) [some (.ref p), some (.lsr true vs), some (.lsr true (txt14.map .str)), none, none] (h.set p o7)) _ _
    rw [e8]
    simp
    rw [show k + 25 = k + 1 + 24 by omega, e9]
    simp
    rw [seal_setS d7.nr rfl, W_ok]
  obtain ⟨v', h', e, rfl⟩ := W_get wk
  exact ⟨h', e⟩
theorem math90 (u : U432 P) {ns : List Int} (hn : ns.length ≤ 63) : ∃ h', callF P (k + 27) 432 [.lsr false (ns.map .int)] h = .ok (.bl true) h' := by
  have w : W (callF P (k + 27) 432 [.lsr false (ns.map .int)] h) (fun v _ => v = .bl true) (fun _ _ => False) := by
    refine W_def u.1 (by decide) rfl ?_
    refine W.step ?_
    simp [D432]
    rw [rng_i (by omega)]
    simp
    refine W_forM (fun n σ h1 => ∃ c1, σ = [some (.lsr false (ns.map .int)), c1]) ⟨_, rfl⟩ ?_ ?_
    · rintro n t σ h1 hn ⟨c1, rfl⟩
      have hl := at_lt hn
      simp at hl
      have et : t = n := by
        rw [List.getElem?_range (by omega)] at hn
        exact (Option.some.inj hn).symm
      subst et
      simp
      refine W.step ?_
      simp
      obtain ⟨o, d, e⟩ := deck_D (k := k + 25) (h := h1) u.2.1 (ns := ns) (i := t) (by omega)
      rw [e]
      simp
      have hs : h1 ++ [o] = (h1 ++ [o]).set h1.length o := (set_same new_at).symm
      have hp : h1.length < (h1 ++ [o]).length := by simp
      rw [hs]
      generalize h1 ++ [o] = H at hp
      generalize h1.length = dp at hp
      obtain ⟨h', e2⟩ := right90 (k := k) u.2.2 hp d (by omega)
      rw [e2]
      simp
    · rintro σ h1 ⟨c1, rfl⟩
      refine Nxt.go ?_
      simp
      obtain ⟨h', e⟩ := seal_bl' (h0 := h) (h := h1) (b := true)
      rw [e]
      simp
  obtain ⟨v, h', e, rfl⟩ := W_get w
  exact ⟨h', e⟩
end
end Pi
end

section
set_option maxHeartbeats 8000000
namespace Pi
open PySem PySem.Spec PyProof.Rows L2
def topS (i : Nat) : Stmt := PySem.Challenge.pw_wholeon_k90_bounds_in_texts_of_sets.main.body.getD i (.Pass ⟨0, 0, 0, 0⟩)
def e_is_integer : Ent := ⟨"is_integer", topS 8, ["thing"], ["thing"], [], 6, [], false⟩
def e_in_range : Ent := ⟨"in_range", topS 9, ["thing", "low", "high"], ["thing", "low", "high"], [], 7, [], false⟩
def e_check_set : Ent := ⟨"check_set", topS 10, ["thing"], ["thing"], [], 24, [], false⟩
def e_ascends : Ent := ⟨"ascends", topS 11, ["things", "low", "high", "at"], ["things", "low", "high"], [], 8, [], false⟩
def e_move_fits : Ent := ⟨"move_fits", topS 12, ["a", "b"], ["a", "b"], [], 9, [], false⟩
def e_leaf_fits : Ent := ⟨"leaf_fits", topS 13, ["thing", "kind"], ["thing"], [], 10, [], false⟩
def e_tuples_in : Ent := ⟨"tuples_in", topS 14, ["thing", "levels", "factor", "plain", "kind", "inner", "first", "second"], ["thing", "levels", "factor", "plain"], [], 11, [], false⟩
def e_is_set : Ent := ⟨"is_set", topS 15, ["thing"], ["thing"], [], 12, [], false⟩
def e_words_of : Ent := ⟨"words_of", topS 19, ["numbers", "kind", "rest", "number"], ["numbers"], [], 369, [], false⟩
def e_show_set : Ent := ⟨"show_set", topS 20, ["numbers"], ["numbers"], [], 370, [], false⟩
def e_integer_of : Ent := ⟨"integer_of", topS 21, ["word", "figures", "char"], ["word"], [], 371, [], false⟩
def e_word_at : Ent := ⟨"word_at", topS 22, ["words", "place"], ["words", "place"], [], 344, [], false⟩
def e_number_at : Ent := ⟨"number_at", topS 23, ["words", "place", "low", "high", "number"], ["words", "place", "low", "high"], [], 372, [], false⟩
def e_check_word : Ent := ⟨"check_word", topS 24, ["words", "place", "word"], ["words", "place", "word"], [], 345, [], false⟩
def e_row_at : Ent := ⟨"row_at", topS 25, ["words", "place", "low", "high", "most", "level", "row"], ["words", "place", "low", "high", "most", "level"], [], 373, ["row"], false⟩
def e_leaf_at : Ent := ⟨"leaf_at", topS 26, ["words", "place", "level", "kind", "modulus", "rests", "numbers"], ["words", "place", "level"], [], 374, [], false⟩
def e_inner_at : Ent := ⟨"inner_at", topS 27, ["words", "place", "level", "room", "factor", "plain", "numbers", "used"], ["words", "place", "level", "room", "factor", "plain"], [], 376, [], false⟩
def e_moved_at : Ent := ⟨"moved_at", topS 28, ["words", "place", "level", "room", "factor", "plain", "a", "b", "inner", "behind", "used"], ["words", "place", "level", "room", "factor", "plain"], [], 377, [], false⟩
def e_either_at : Ent := ⟨"either_at", topS 29, ["words", "place", "level", "room", "factor", "first", "behind", "used", "second", "end", "more"], ["words", "place", "level", "room", "factor"], [], 375, [], false⟩
def e_set_at : Ent := ⟨"set_at", topS 30, ["words", "place", "level", "room", "factor", "plain", "kind", "numbers", "behind"], ["words", "place", "level", "room", "factor", "plain"], [], 378, [], false⟩
def e_read_set : Ent := ⟨"read_set", topS 31, ["text", "words", "numbers", "place", "used"], ["text"], [], 379, [], false⟩
def e_law_deck : Ent := ⟨"_law_deck", topS 33, ["_law_script", "_law_at", "_law_cell"], ["_law_script", "_law_at"], [], 273, [], false⟩
def e_law_draw : Ent := ⟨"_law_draw", topS 34, ["_law_deck_here", "_law_many", "_law_drawn", "_law_mixed"], ["_law_deck_here", "_law_many"], [], 274, ["_law_deck_here"], false⟩
def e_law_place : Ent := ⟨"_law_place", topS 35, ["_law_read", "_law_text", "_law_place_here", "_law_caught", "e"], ["_law_read", "_law_text"], [], 420, [], false⟩
def e_law_rows : Ent := ⟨"_law_rows", topS 36, ["_law_deck_here", "_law_m", "_law_rest", "_law_far", "_law_number", "_law_long_row", "_law_wrong", "_law_rows_here", "_law_a", "_law_b", "_law_inner", "_law_kind", "_law_k"], ["_law_deck_here"], [], 382, ["_law_deck_here", "_law_rows_here"], false⟩
def e_law_wrapped : Ent := ⟨"_law_wrapped", topS 37, ["_law_deck_here", "_law_row", "_law_ahead", "_law_wrong", "_law_good", "_law_behind", "_law_k"], ["_law_deck_here", "_law_row"], [], 418, ["_law_deck_here"], false⟩
def e_law_link : Ent := ⟨"_law_link", topS 38, ["_law_deck_here", "_law_row", "_law_a", "_law_ahead", "_law_behind", "_law_kind", "_law_move"], ["_law_deck_here", "_law_row", "_law_a"], [], 383, ["_law_deck_here", "_law_move"], false⟩
def e_law_products : Ent := ⟨"_law_products", topS 39, ["_law_deck_here", "_law_factors", "_law_row", "_law_factor", "_law_good", "_law_behind"], ["_law_deck_here"], [], 430, ["_law_deck_here", "_law_factors"], false⟩
def e_law_levels : Ent := ⟨"_law_levels", topS 40, ["_law_deck_here", "_law_row", "_law_k"], ["_law_deck_here"], [], 384, ["_law_deck_here"], false⟩
def e_law_tuples : Ent := ⟨"_law_tuples", topS 41, ["_law_deck_here", "_law_one", "_law_three", "_law_firsts", "_law_at", "_law_twelve", "_law_first", "_law_rows_here", "_law_ahead", "_law_behind"], ["_law_deck_here"], [], 385, ["_law_deck_here", "_law_rows_here"], false⟩
def e_law_place_stays : Ent := ⟨"_law_place_stays", topS 42, ["_law_deck_here", "_law_row", "_law_ahead", "_law_wrong", "_law_good", "_law_behind", "_law_text", "_law_junk", "_law_at", "_law_rest"], ["_law_deck_here", "_law_row"], [], 421, ["_law_deck_here"], false⟩
def e_law_right : Ent := ⟨"_law_right", topS 43, ["_law_deck_here", "_law_rows_here", "_law_more", "_law_row", "_law_k"], ["_law_deck_here"], [], 431, ["_law_deck_here"], false⟩
def e_law : Ent := ⟨"law", topS 44, ["_law_script", "_law_k"], ["_law_script"], [], 432, ["_law_right"], false⟩
def PP : Prg := ⟨[e_is_integer, e_in_range, e_check_set, e_ascends, e_move_fits, e_leaf_fits, e_tuples_in, e_is_set, e_words_of, e_show_set, e_integer_of, e_word_at, e_number_at, e_check_word, e_row_at, e_leaf_at, e_inner_at, e_moved_at, e_either_at, e_set_at, e_read_set, e_law_deck, e_law_draw, e_law_place, e_law_rows, e_law_wrapped, e_law_link, e_law_products, e_law_levels, e_law_tuples, e_law_place_stays, e_law_right, e_law], [("LEVELS", 6), ("TUPLES", 12), ("FACTOR_LIMIT", 400), ("MOST_FIGURES", 61)], [], [("WholeError", 0), ("BadSet", 1), ("BadText", 19)], [19], [("DIGITS", "0123456789")]⟩
def DD : List (Nat × Df) := [(6, D6), (7, D7), (24, D24), (8, D8), (9, D9), (10, D10), (11, D11), (12, D12), (369, D369), (370, D370), (371, D371), (344, D344), (372, D372), (345, D345), (373, D373), (374, D374), (376, D376), (377, D377), (375, D375), (378, D378), (379, D379), (273, D273), (274, D274), (420, D420), (382, D382), (418, D418), (383, D383), (430, D430), (384, D384), (385, D385), (421, D421), (431, D431), (432, D432)]
theorem hdLaw : PP.ents.map (fun e => (e.id, e.df PP)) = DD.map fun q => (q.1, some q.2) := by kernel_rfl
theorem hcLaw : PP.ents.all Ent.chk = true := by decide +kernel
abbrev PT : Tab := tabOf DD
theorem hpLaw : ∀ q ∈ DD, tabOf DD q.1 = some q.2 ∧ q.1 < RAW := hp_of ⟨by decide +kernel, by decide +kernel⟩
theorem u6 : U6 PT := rfl
theorem u7 : U7 PT := ⟨rfl, u6⟩
theorem u8 : U8 PT := ⟨rfl, u7⟩
theorem u10 : U10 PT := ⟨rfl, u7, u8⟩
theorem u9 : U9 PT := ⟨rfl, u7⟩
theorem u11 : U11 PT := ⟨rfl, u9, u10⟩
theorem u12 : U12 PT := ⟨rfl, u11⟩
theorem u24 : U24 PT := ⟨rfl, u12⟩
theorem u369 : U369 PT := rfl
theorem u370 : U370 PT := ⟨rfl, u24, u369⟩
theorem u371 : U371 PT := rfl
theorem u344 : U344 PT := rfl
theorem u372 : U372 PT := ⟨rfl, u7, u344, u371⟩
theorem u345 : U345 PT := ⟨rfl, u344⟩
theorem u373 : U373 PT := ⟨rfl, u372⟩
theorem u374 : U374 PT := ⟨rfl, u345, u372, u373⟩
theorem u378 : U378 PT := ⟨rfl, rfl, rfl, rfl, u344, u345, u372, u374⟩
theorem u377 : U377 PT := ⟨rfl, rfl, rfl, rfl, u344, u345, u372, u374⟩
theorem u376 : U376 PT := ⟨rfl, rfl, rfl, rfl, u344, u345, u372, u374⟩
theorem u375 : U375 PT := ⟨rfl, rfl, rfl, rfl, u344, u345, u372, u374⟩
theorem u379 : U379 PT := ⟨rfl, u378⟩
theorem u273 : U273 PT := rfl
theorem u274 : U274 PT := rfl
theorem u420 : U420 PT := rfl
theorem u382 : U382 PT := ⟨rfl, u274⟩
theorem u418 : U418 PT := ⟨rfl, u274⟩
theorem u383 : U383 PT := ⟨rfl, u274⟩
theorem u430 : U430 PT := ⟨rfl, u274, u383⟩
theorem u384 : U384 PT := ⟨rfl, u274, u383⟩
theorem u385 : U385 PT := ⟨rfl, u274⟩
theorem u421 : U421 PT := ⟨rfl, u274, u370, u379, u420⟩
theorem u431 : U431 PT := ⟨rfl, u379, u382, u384, u385, u418, u420, u421, u430⟩
theorem u432 : U432 PT := ⟨rfl, u273, u431⟩
theorem mathLaw : ∀ ns : List Int, ns.length ≤ 63 → ∃ h', callF (tabOf DD) 60 e_law.id [.lsr false (ns.map IV.int)] [] = .ok (.bl true) h' := fun ns hl => math90 u432 hl
end Pi
end
open PySem PySem.W PyProof.Rows
set_option maxHeartbeats 0 in
theorem PySem.Challenge.cw_wholeon_k90_bounds_in_texts_of_sets_holds : PySem.Challenge.rw_wholeon_k90_bounds_in_texts_of_sets.Holds := by
  w_on; o_law; k_head; (case hw => w_witness2)
  k_fill
  refine Pi.pi_walk (p := Pi.PP) (dfs := Pi.DD) (x := "_law_script") (e := Pi.e_law) 60 32 rfl rfl ⟨rfl, by decide, by decide⟩ (fun w h Y => by first | exact PySem.W.kIn_of Y | exact PySem.W.km_in_of Y) Pi.hdLaw Pi.hpLaw Pi.hcLaw rfl rfl rfl (by decide) (by decide +kernel) ?F Pi.mathLaw
  intro w mg h KX N Xp
  refine ⟨?G, ?T, ?B, ?O, ?E, ?X, ?Z, ?L⟩
  case G =>
    show Pi.GF _ [("LEVELS", 6), ("TUPLES", 12), ("FACTOR_LIMIT", 400), ("MOST_FIGURES", 61)]
    refine Pi.g_cons (by first | exact ⟨_, PySem.W.mg_of KX N (by k_is)⟩ | exact Pi.g_loose Xp.2 (by simp)) ?_
    refine Pi.g_cons (by first | exact ⟨_, PySem.W.mg_of KX N (by k_is)⟩ | exact Pi.g_loose Xp.2 (by simp)) ?_
    refine Pi.g_cons (by first | exact ⟨_, PySem.W.mg_of KX N (by k_is)⟩ | exact Pi.g_loose Xp.2 (by simp)) ?_
    refine Pi.g_cons (by first | exact ⟨_, PySem.W.mg_of KX N (by k_is)⟩ | exact Pi.g_loose Xp.2 (by simp)) ?_
    exact Pi.g_nil
  case T =>
    show Pi.TF _ _ []
    exact Pi.t_nil
  case Z =>
    show Pi.ZF _ [("DIGITS", "0123456789")]
    refine Pi.z_cons ⟨_, PySem.W.mg_of KX N (by k_is)⟩ ?_
    exact Pi.z_nil
  case L => exact ⟨[], trivial, by decide⟩
  case B =>
    intro b
    cases b <;> exact PySem.W.mg_none_of KX N (by k_is)
  case O =>
    unfold Pi.others
    repeat (refine Pi.n_cons (PySem.W.mg_none_of KX N (by k_is)) ?_)
    exact Pi.n_nil
  case E =>
    show ∀ e ∈ [Pi.e_is_integer, Pi.e_in_range, Pi.e_check_set, Pi.e_ascends, Pi.e_move_fits, Pi.e_leaf_fits, Pi.e_tuples_in, Pi.e_is_set, Pi.e_words_of, Pi.e_show_set, Pi.e_integer_of, Pi.e_word_at, Pi.e_number_at, Pi.e_check_word, Pi.e_row_at, Pi.e_leaf_at, Pi.e_inner_at, Pi.e_moved_at, Pi.e_either_at, Pi.e_set_at, Pi.e_read_set, Pi.e_law_deck, Pi.e_law_draw, Pi.e_law_place, Pi.e_law_rows, Pi.e_law_wrapped, Pi.e_law_link, Pi.e_law_products, Pi.e_law_levels, Pi.e_law_tuples, Pi.e_law_place_stays, Pi.e_law_right, Pi.e_law], Pi.Has _ e
    refine Pi.h_cons (Pi.has_mk (by k_is) (by k_is) (by k_is) (by k_is) (fun _ _ _ _ _ _ us hl => match us, hl with | [_], _ => rfl) Pi.w_nil) ?_
    refine Pi.h_cons (Pi.has_mk (by k_is) (by k_is) (by k_is) (by k_is) (fun _ _ _ _ _ _ us hl => match us, hl with | [_, _, _], _ => rfl) Pi.w_nil) ?_
    refine Pi.h_cons (Pi.has_mk (by k_is) (by k_is) (by k_is) (by k_is) (fun _ _ _ _ _ _ us hl => match us, hl with | [_], _ => rfl) Pi.w_nil) ?_
    refine Pi.h_cons (Pi.has_mk (by k_is) (by k_is) (by k_is) (by k_is) (fun _ _ _ _ _ _ us hl => match us, hl with | [_, _, _], _ => rfl) Pi.w_nil) ?_
    refine Pi.h_cons (Pi.has_mk (by k_is) (by k_is) (by k_is) (by k_is) (fun _ _ _ _ _ _ us hl => match us, hl with | [_, _], _ => rfl) Pi.w_nil) ?_
    refine Pi.h_cons (Pi.has_mk (by k_is) (by k_is) (by k_is) (by k_is) (fun _ _ _ _ _ _ us hl => match us, hl with | [_], _ => rfl) Pi.w_nil) ?_
    refine Pi.h_cons (Pi.has_mk (by k_is) (by k_is) (by k_is) (by k_is) (fun _ _ _ _ _ _ us hl => match us, hl with | [_, _, _, _], _ => rfl) Pi.w_nil) ?_
    refine Pi.h_cons (Pi.has_mk (by k_is) (by k_is) (by k_is) (by k_is) (fun _ _ _ _ _ _ us hl => match us, hl with | [_], _ => rfl) Pi.w_nil) ?_
    refine Pi.h_cons (Pi.has_mk (by k_is) (by k_is) (by k_is) (by k_is) (fun _ _ _ _ _ _ us hl => match us, hl with | [_], _ => rfl) Pi.w_nil) ?_
    refine Pi.h_cons (Pi.has_mk (by k_is) (by k_is) (by k_is) (by k_is) (fun _ _ _ _ _ _ us hl => match us, hl with | [_], _ => rfl) Pi.w_nil) ?_
    refine Pi.h_cons (Pi.has_mk (by k_is) (by k_is) (by k_is) (by k_is) (fun _ _ _ _ _ _ us hl => match us, hl with | [_], _ => rfl) Pi.w_nil) ?_
    refine Pi.h_cons (Pi.has_mk (by k_is) (by k_is) (by k_is) (by k_is) (fun _ _ _ _ _ _ us hl => match us, hl with | [_, _], _ => rfl) Pi.w_nil) ?_
    refine Pi.h_cons (Pi.has_mk (by k_is) (by k_is) (by k_is) (by k_is) (fun _ _ _ _ _ _ us hl => match us, hl with | [_, _, _, _], _ => rfl) Pi.w_nil) ?_
    refine Pi.h_cons (Pi.has_mk (by k_is) (by k_is) (by k_is) (by k_is) (fun _ _ _ _ _ _ us hl => match us, hl with | [_, _, _], _ => rfl) Pi.w_nil) ?_
    refine Pi.h_cons (Pi.has_mk (by k_is) (by k_is) (by k_is) (by k_is) (fun _ _ _ _ _ _ us hl => match us, hl with | [_, _, _, _, _, _], _ => rfl) Pi.w_nil) ?_
    refine Pi.h_cons (Pi.has_mk (by k_is) (by k_is) (by k_is) (by k_is) (fun _ _ _ _ _ _ us hl => match us, hl with | [_, _, _], _ => rfl) Pi.w_nil) ?_
    refine Pi.h_cons (Pi.has_mk (by k_is) (by k_is) (by k_is) (by k_is) (fun _ _ _ _ _ _ us hl => match us, hl with | [_, _, _, _, _, _], _ => rfl) Pi.w_nil) ?_
    refine Pi.h_cons (Pi.has_mk (by k_is) (by k_is) (by k_is) (by k_is) (fun _ _ _ _ _ _ us hl => match us, hl with | [_, _, _, _, _, _], _ => rfl) Pi.w_nil) ?_
    refine Pi.h_cons (Pi.has_mk (by k_is) (by k_is) (by k_is) (by k_is) (fun _ _ _ _ _ _ us hl => match us, hl with | [_, _, _, _, _], _ => rfl) Pi.w_nil) ?_
    refine Pi.h_cons (Pi.has_mk (by k_is) (by k_is) (by k_is) (by k_is) (fun _ _ _ _ _ _ us hl => match us, hl with | [_, _, _, _, _, _], _ => rfl) Pi.w_nil) ?_
    refine Pi.h_cons (Pi.has_mk (by k_is) (by k_is) (by k_is) (by k_is) (fun _ _ _ _ _ _ us hl => match us, hl with | [_], _ => rfl) Pi.w_nil) ?_
    refine Pi.h_cons (Pi.has_mk (by k_is) (by k_is) (by k_is) (by k_is) (fun _ _ _ _ _ _ us hl => match us, hl with | [_, _], _ => rfl) Pi.w_nil) ?_
    refine Pi.h_cons (Pi.has_mk (by k_is) (by k_is) (by k_is) (by k_is) (fun _ _ _ _ _ _ us hl => match us, hl with | [_, _], _ => rfl) Pi.w_nil) ?_
    refine Pi.h_cons (Pi.has_mk (by k_is) (by k_is) (by k_is) (by k_is) (fun _ _ _ _ _ _ us hl => match us, hl with | [_, _], _ => rfl) Pi.w_nil) ?_
    refine Pi.h_cons (Pi.has_mk (by k_is) (by k_is) (by k_is) (by k_is) (fun _ _ _ _ _ _ us hl => match us, hl with | [_], _ => rfl) Pi.w_nil) ?_
    refine Pi.h_cons (Pi.has_mk (by k_is) (by k_is) (by k_is) (by k_is) (fun _ _ _ _ _ _ us hl => match us, hl with | [_, _], _ => rfl) Pi.w_nil) ?_
    refine Pi.h_cons (Pi.has_mk (by k_is) (by k_is) (by k_is) (by k_is) (fun _ _ _ _ _ _ us hl => match us, hl with | [_, _, _], _ => rfl) Pi.w_nil) ?_
    refine Pi.h_cons (Pi.has_mk (by k_is) (by k_is) (by k_is) (by k_is) (fun _ _ _ _ _ _ us hl => match us, hl with | [_], _ => rfl) Pi.w_nil) ?_
    refine Pi.h_cons (Pi.has_mk (by k_is) (by k_is) (by k_is) (by k_is) (fun _ _ _ _ _ _ us hl => match us, hl with | [_], _ => rfl) Pi.w_nil) ?_
    refine Pi.h_cons (Pi.has_mk (by k_is) (by k_is) (by k_is) (by k_is) (fun _ _ _ _ _ _ us hl => match us, hl with | [_], _ => rfl) Pi.w_nil) ?_
    refine Pi.h_cons (Pi.has_mk (by k_is) (by k_is) (by k_is) (by k_is) (fun _ _ _ _ _ _ us hl => match us, hl with | [_, _], _ => rfl) Pi.w_nil) ?_
    refine Pi.h_cons (Pi.has_mk (by k_is) (by k_is) (by k_is) (by k_is) (fun _ _ _ _ _ _ us hl => match us, hl with | [_], _ => rfl) Pi.w_nil) ?_
    refine Pi.h_cons (Pi.has_mk (by k_is) (by k_is) (by k_is) (by k_is) (fun _ _ _ _ _ _ us hl => match us, hl with | [_], _ => rfl) Pi.w_nil) ?_
    exact Pi.h_nil
  case X =>
    refine Pi.er_mk (Pi.ClsL.cons ⟨PySem.W.mg_of KX N (by k_is), ⟨_, (by k_is), rfl, rfl⟩, (fun _ => rfl), (by k_is), (by k_is), (by k_is), (by k_is), (fun _ => by k_exc), (by k_is), (by k_is)⟩ (Pi.ClsL.cons ⟨PySem.W.mg_of KX N (by k_is), ⟨_, (by k_is), rfl, rfl⟩, (fun z => absurd z (by decide)), (by k_is), (by k_is), (by k_is), (by k_is), (fun _ => by k_exc), (by k_is), (by k_is)⟩ (Pi.ClsL.cons ⟨PySem.W.mg_of KX N (by k_is), ⟨_, (by k_is), rfl, rfl⟩, (fun z => absurd z (by decide)), (by k_is), (by k_is), (by k_is), (by k_is), (fun z => absurd z (by decide)), (by k_is), (by k_is)⟩ Pi.ClsL.nil))) (by decide) (by decide) (by k_is) (by k_is) ⟨_, List.mem_cons_self, PySem.W.mg_of KX N (by k_is)⟩ (Pi.hI_of (by decide)) (Pi.ib_of (PySem.W.mg_of KX N (by k_is)) ⟨⟨⟨_, _, _, _, _, _, _, _, _, _, _, _, _, _, _, (by k_is), rfl⟩, (by k_is), (by k_is), (by k_is), (by k_is)⟩, (by k_is), ⟨_, .type "type", PySem.W.mg_of KX N (by k_is), (by k_is), (by k_is), (by k_is)⟩, ⟨_, _, Pi.initOf (Pi.topS 3), "BadText.__init__", (by k_is), (by k_is), (L2.fun_mk (by k_is) (by k_is) (by k_is)), (fun us hl => match us, hl with | [_, _], _ => rfl), Pi.initS_of (by decide +kernel)⟩⟩)
