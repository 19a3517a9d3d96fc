import PyProof.Rows.All
import Wide.All
import OpenK.AllK
import Wide.FinOn
import Wide.Loose
import HandS.Iter
import KE.GoesEnum
import HandS.SetFor
import PyProof.Rows.SetFrom
import HandS.ForMost
import HandS.SortInts
import HandS.Wide
import HandS.Flow
import HandS.IsInst
import HandS.TupAny
import KE.DataEq
import HandS.TupLe
import HandS.Strs
import HandS.Ends
import PySem.Challenge.RW_wholeon_k06_sizes_of_sets
set_option Elab.async false
set_option linter.all false
set_option maxRecDepth 100000
section
set_option maxHeartbeats 8000000
/-! PiEnum: enumerate over a tuple, or over a list. -/
namespace Pi
open PySem PySem.Spec PyProof.Rows L2 PySem.W

set_option maxHeartbeats 1000000 in
theorem enum_new1 {src : Value} {ob : Obj} {hold : Heap → Prop} (bg : Begins src ob hold) :
    Meets (Builtin.«enumerate.__new__» ⟨[.type "enumerate", src], []⟩) (fun _ R s => hold s.heap ∧
      R (.ok (.ret (.ref (s.heap.push ob).objs.size))) { s with heap := (s.heap.push ob).push { cls := .type "enumerate", data := .fields #[.none, .bool false, .ref s.heap.objs.size, rawInt 0, .none, .none] } }) :=
  .of_wp fun pr ww AA R st0 hh => by
    obtain ⟨hp, gs, dr, tk, os⟩ := st0; obtain ⟨hold1, hr⟩ := hh
    have hsub := sub_enumerate
    have it1 : ∀ {A' : Around} {E : Value → Shared → Prop} {Q : Value → Shared → Prop}, Q (.ref hp.objs.size) ⟨hp.push ob, gs, dr, tk, os⟩ → wpAny (model pr ww) A' (pyIter src) Q E ⟨hp, gs, dr, tk, os⟩ :=
      fun q => bg.iter pr ww _ _ ⟨hp, gs, dr, tk, os⟩ _ hold1 q
    wp_walk using it1
    refine wpAny_stack_any fun frame => wpAny_pure ?_
    split
    · rename_i c1 _ _ _ _ _
      cases (c1 == Value.type "enumerate")
      · wp_walk using it1
        exact ⟨_, rfl, hr⟩
      · wp_walk using it1
        exact ⟨_, rfl, hr⟩
    · wp_walk using it1
      exact ⟨_, rfl, hr⟩
section
variable {P : Program} {w : World} {A : Around} {E : Value → Shared → Prop} {s : Shared}
/-- enumerate(src): its two new cells -/
theorem enum_call1 {src : Value} {ob : Obj} {hold : Heap → Prop} {Q : Value → Shared → Prop} (bg : Begins src ob hold) (h1 : hold s.heap)
    (k : ∀ g, IsEnum g (s.heap.objs.size + 1) s.heap.objs.size 0 .none → g.get? s.heap.objs.size = some ob → (∀ b o, s.heap.get? b = some o → g.get? b = some o) → Q (.ref (s.heap.objs.size + 1)) { s with heap := g }) :
    wpAny (model P w) A (call (.type "enumerate") [src]) Q E s := by
  refine callType_new F.called_enumerate (by decide) (F.typeCall_enumerate_1 _) (F.newCall_enumerate_1 _) (fun u => F.args_object_init_2 u _) F.entry_enumerate_new (enum_new1 bg) ⟨h1, ?_⟩
  have sz : (s.heap.push ob).objs.size = s.heap.objs.size + 1 := Heap.size_push ..
  show _ ∧ _
  rw [sz]
  have en : IsEnum ((s.heap.push ob).push { cls := .type "enumerate", data := .fields #[.none, .bool false, .ref s.heap.objs.size, rawInt 0, .none, .none] }) (s.heap.objs.size + 1) s.heap.objs.size 0 .none := by
    have z := Heap.get?_push_size (s.heap.push ob) (o := { cls := .type "enumerate", data := .fields #[.none, .bool false, .ref s.heap.objs.size, rawInt 0, .none, .none] }) rfl
    rw [sz] at z; exact z
  exact ⟨⟨_, en, rfl⟩, k _ en (Heap.get?_push_of_some _ (Heap.get?_push_size _ bg.free)) fun b o x => Heap.get?_push_of_some _ (Heap.get?_push_of_some _ x)⟩
end
/-- the tuple at a, each item in a new pair -/
def ItT (K : PySem.W.Frag) (a : Addr) : L2.It :=
  ⟨fun i H => ∃ (xs : List V) (x : V), SqT K H a xs ∧ xs[i]? = some x, fun i H v H' => ∃ T x, v = .ref T ∧ H T = none ∧ H' = upd H T (.tup [.int (i : Nat), x]) ∧ ∀ xs, SqT K H a xs → xs[i]? = some x, fun i H => ∃ xs : List V, SqT K H a xs ∧ xs.length ≤ i⟩
theorem turn_enumT {P : Program} {w : World} {K : PySem.W.Frag} {elts : List Expr} {kk : Nat} {tpos : Pos} (a e it : Addr) :
    Turn P w K (.Tuple elts kk tpos) (ItT K a) [e, it] e (fun i h => (∃ old, IsEnum h e it ((i : Nat) : Int) old) ∧ h.IsTupleIter it a i ∧ e ≠ it) where
  mem := by simp
  obj := fun i h st b hb => by
    obtain ⟨⟨old, en⟩, ⟨o, ho, hc, hd⟩, _⟩ := st
    have bb : b = e ∨ b = it := by simpa using hb
    rcases bb with rfl | rfl
    · exact ⟨_, en, fun v q => nomatch q⟩
    · exact ⟨o, ho, fun v q => by rw [hd] at q; cases q⟩
  keep := fun i h g st k => let ⟨⟨old, en⟩, hi, hne⟩ := st; ⟨⟨old, k e (by simp) _ en⟩, hi.at fun o q => k it (by simp) o q, hne⟩
  item := by
    intro X hP hw hK hc i pins s σ H E J hf st hg
    subst hP hw hK
    obtain ⟨⟨old, en⟩, hit, hne⟩ := st
    obtain ⟨xs, x, hq, hx⟩ := hg
    obtain ⟨its, rv, tu, _⟩ := J.tuple hq
    obtain ⟨u, hu, ru⟩ := rv.get hx
    have hel : e < s.heap.objs.size := Heap.lt_size en
    have hil : it < s.heap.objs.size := by obtain ⟨_, q, _⟩ := hit; exact Heap.lt_size q
    have iT : s.heap.IsTuple a its.toArray := tu
    have ne1 : e ≠ a := fun z => by
      obtain ⟨o, q1, q2, _⟩ := iT
      have en' : s.heap.get? e = some _ := en
      rw [z, q1] at en'
      have := Option.some.inj en'
      rw [this] at q2
      have q2 : Value.type "enumerate" = Value.type "tuple" := q2
      injection q2 with q2
      exact absurd q2 (by decide)
    have ne2 : a ≠ it := fun z => by
      obtain ⟨o, q1, q2, _⟩ := iT
      obtain ⟨o', p1, p2, _⟩ := hit
      rw [← z, q1] at p1
      have := Option.some.inj p1
      rw [this] at q2
      rw [p2] at q2
      injection q2 with q2
      exact absurd q2 (by decide)
    have D := Draws.tuple (prog := X.prog) (w := X.w) (A := X.A.in1) (by simp [J.ok.hd hc]) it a ne2 its.toArray
    refine wpAny_pyNext_enum_itemD D en ⟨hit, iT⟩ (by have := (List.getElem?_eq_some_iff.mp hu).1; simpa using this) hne (by simp [ne1, hne]) fun y g tk hy ho hit' hT hsz hk => ?_
    have hy' : y = u := by
      have hy : its.toArray[i]? = some y := hy
      rw [List.getElem?_toArray, hu] at hy
      exact (Option.some.inj hy).symm
    subst hy'
    refine ⟨_, rfl, wpAny_letOwnedTupleGo_enum (s := { s with heap := g, toks := tk + 1 }) ho fun g2 en2 sb => ?_⟩
    have hT2 : g2.get? s.heap.objs.size = some { cls := .type "tuple", data := .seq #[.int i tk, y] } := (sb.2 _ (Nat.ne_of_gt hel)).trans hT
    have fresh1 : ObjOk X.prog X.w (upd H s.heap.objs.size (.tup [.int (i : Nat), x])) g2 s.heap.objs.size (.tup [.int (i : Nat), x]) :=
      ⟨by show 2 ≤ sizeLine; decide, [.int i tk, y], .cons ⟨_, rfl⟩ (.cons ru .nil), ⟨_, hT2, rfl, _, rfl⟩⟩
    have J1 : Inv X pins σ (upd H s.heap.objs.size (.tup [.int (i : Nat), x])) { s with heap := g2, toks := tk + 1 } :=
      J.turnedNew (ch := [e, it]) (fun b ob hb q => (sb.2 b (fun z => hb (by simp [z]))).trans (hk b ob (fun z => hb (by simp [z])) (fun z => hb (by simp [z])) q)) hf (Nat.le_refl _) fresh1
    refine ⟨.ref s.heap.objs.size, _, J1, rfl, ⟨_, x, rfl, J.hok.fresh (Nat.le_refl _), rfl, fun ys hy => ?_⟩, ⟨⟨y, ?_⟩, hit'.1.at fun o q => (sb.2 it (Ne.symm hne)).trans q, hne⟩, fun b hb => ?_⟩
    · rw [J.tuple_inj hy hq]; exact hx
    · have e1 : ((i + 1 : Nat) : Int) = (i : Int) + 1 := by omega
      rw [e1]; exact en2
    · have lt : b < s.heap.objs.size := by
        have bb : b = e ∨ b = it := by simpa using hb
        rcases bb with rfl | rfl
        · exact hel
        · exact hil
      rw [upd_ne (Nat.ne_of_lt lt)]
      exact (hf b hb).1
  done := by
    intro X hP hw hK hc i pins s σ H E J hf st hg
    subst hP hw hK
    obtain ⟨⟨old, en⟩, hit, hne⟩ := st
    obtain ⟨xs, hq, hx⟩ := hg
    obtain ⟨its, rv, tu, _⟩ := J.tuple hq
    have iT : s.heap.IsTuple a its.toArray := tu
    obtain ⟨f0, f1, f2, f3, f4, f5⟩ := hf it (by simp)
    have hl := rv.length
    have ne2 : a ≠ it := fun z => by
      obtain ⟨o, q1, q2, _⟩ := iT
      obtain ⟨o', p1, p2, _⟩ := hit
      rw [← z, q1] at p1
      have := Option.some.inj p1
      rw [this] at q2
      rw [p2] at q2
      injection q2 with q2
      exact absurd q2 (by decide)
    have D : Draws X.prog X.w X.A.in1 it [it, a] 0 (fun _ _ => False) (fun _ h => h.IsTupleIter it a i ∧ h.IsTuple a its.toArray) := {
      live := fun _ _ st => let ⟨o, ho, _⟩ := st.1; ⟨o, ho⟩
      frame := fun _ _ _ st hk => ⟨st.1.at fun o q => hk it (by simp) o q, st.2.at fun o q => hk a (by simp) o q⟩
      item := fun j _ _ _ hj => absurd hj (Nat.not_lt_zero j)
      done := fun s1 Q E1 st hE => wpAny_nextOf_tuple_end (by simp [J.ok.hd hc]) st.1 st.2 (by simp; omega) hE }
    exact wpAny_pyNext_enum_endD D en ⟨hit, iT⟩ fun g eb => ⟨rfl, J.turned (t' := s.toks) (fun b o hb q => eb b o hb q) f0 f1 f3 f4 f5⟩
  self := fun A i s Q E st h => let ⟨⟨_, en⟩, _⟩ := st; wpAny_pyIter_enum en h
def iEnum2 (K : PySem.W.Frag) (ta : TA) : L2.TI := fun σ H R => ta σ H fun vs H1 => ∃ a xs, vs = [.ref a] ∧ ((SqL K H1 a xs ∧ R (Ite K a) H1) ∨ (SqT K H1 a xs ∧ R (ItT K a) H1))
theorem pi_enum2 {X : Cx} {e : Expr} {ta : TA} {p pos tpos : Pos} {elts : List Expr} {kk : Nat} (hg : Gl X "enumerate") (hm : X.mg "enumerate" = none) (ha : PA X [e] ta) (hs : starEach [e] X.env = [(false, eval e X.env)]) :
    PI X (.Tuple elts kk tpos) (.Call (.Name "enumerate" p) [e] [] pos) (iEnum2 X.K ta) := by
  refine ⟨fun pins s τ H R J h => Call_ (ld_blt J hg hm boot_enumerate (PyProof.Rows.callWith_type1 (thn (ha.run pos pins s τ H _ J h) fun us s1 ⟨vs, H1, J1, r1, q1⟩ => ?_) hs rfl))⟩
  obtain ⟨a, xs, rfl, hq⟩ := q1
  have eu : us = [Value.ref a] := by
    cases r1 with
    | cons r rr =>
      cases rr
      cases r
      rfl
  subst eu
  have fps : ∀ b ∈ [s1.heap.objs.size + 1, s1.heap.objs.size], FpOk X pins H1 b := fun b hb => by
    have bb : b = s1.heap.objs.size + 1 ∨ b = s1.heap.objs.size := by simpa using hb
    have le : s1.heap.objs.size ≤ b := by omega
    exact J1.fpOk le (J1.hok.fresh le)
  rcases hq with ⟨hq, q⟩ | ⟨hq, q⟩
  · obtain ⟨its, rv, pl, hz⟩ := J1.list hq
    refine call_enumerate_list pl.isList fun g en hit _ hk => wpAny_pyIter_enum en ?_
    have J2 : Inv X pins τ H1 { s1 with heap := g } := J1.kept (t' := s1.toks) hk
    exact ⟨s1.heap.objs.size + 1, [s1.heap.objs.size + 1, s1.heap.objs.size], _, _, H1, rfl, J2, turn_enum a (s1.heap.objs.size + 1) s1.heap.objs.size, ⟨⟨.none, en⟩, hit, Nat.succ_ne_self _⟩, fps, q⟩
  · obtain ⟨its, rv, tu, _⟩ := J1.tuple hq
    have iT : s1.heap.IsTuple a its.toArray := tu
    refine enum_call1 (begins_tuple a its.toArray) iT fun g en hit hk => wpAny_pyIter_enum en ?_
    have J2 : Inv X pins τ H1 { s1 with heap := g } := J1.kept (t' := s1.toks) hk
    exact ⟨s1.heap.objs.size + 1, [s1.heap.objs.size + 1, s1.heap.objs.size], _, _, H1, rfl, J2, turn_enumT a (s1.heap.objs.size + 1) s1.heap.objs.size, ⟨⟨.none, en⟩, ⟨_, hit, rfl, rfl⟩, Nat.succ_ne_self _⟩, fps, q⟩
end Pi
end

section
set_option maxHeartbeats 8000000
/-! PiSet: set(xs) of a list of ints, with what sorted asks of it. -/
namespace Pi
open PySem PySem.Spec PyProof.Rows L2
abbrev mtSet (w : World) : Obj := { cls := .type "set", dict := none, data := .set #[] 0 (.fresh 0 0 (!w.params.followText "set-order")) }
section
variable {P : Program} {w : World} {A : Around} {E : Value → Shared → Prop} {s : Shared}
set_option maxHeartbeats 3200000 in
theorem set_list_R {src : Addr} {vs : Array Value} (ns : List Int) {Q : Value → Shared → Prop} (calmA : A.handled = none) (isl : s.heap.IsList src vs) (areI : IntsAre vs.toList ns) (few : ns.length + 1 < scanBound)
    (k : ∀ (g : Heap) (tk c : Nat), SetR w g s.heap.objs.size (fun j => decide (j ∈ ns)) c → c ≤ ns.length → (∀ b o, s.heap.get? b = some o → g.get? b = some o) → Q (.ref s.heap.objs.size) { s with heap := g, toks := tk }) :
    wpAny (model P w) A (call (.type "set") [.ref src]) Q E s := by
  have lsz : vs.size = ns.length := by
    have z := IntsAre.length areI
    rwa [Array.length_toList] at z
  obtain ⟨cc, tt, mro1⟩ := F.called_set.mro
  have mk1 := F.called_set.made
  have sb1 := F.called_set.sub
  refine wpAny_call (codeAny_of_tree ?_)
  show wpAny _ _ (callAny (.type "set") _) _ _ _
  refine wpAny_pure ⟨Code.quiet_builtin _ (by decide +kernel), codeAny_builtin F.entry_type_call ?_⟩
  rw [Around.under_plain (weight_type_call_type "set" [.ref src] []) rfl]
  have n1 := F.called_set.notType
  have n2 := F.called_set.canCreate
  have n3 := F.typeCall_set_1 (.ref src)
  repeat (any_goals (first | assumption | wp_step))
  refine codeAny_mono (code_set_led1 (.ref src) (E := E) (Q₁ := fun u st => u = .ref s.heap.objs.size ∧ st = { s with heap := s.heap.push (mtSet w) }) ⟨rfl, rfl⟩) fun res st hres => ?_
  cases res with
  | error e => exact hres
  | ok fl =>
    cases fl with
    | ret u =>
      obtain ⟨rfl, rfl⟩ := hres
      have at0 : (s.heap.push (mtSet w)).get? s.heap.objs.size = some (mtSet w) := Heap.get?_push_size _ rfl
      have ty0 : Shared.TypeIs { s with heap := s.heap.push (mtSet w) } (.ref s.heap.objs.size) "set" := ⟨_, at0, rfl⟩
      have i1 := F.called_set.init.lookup
      have i2 := F.called_set.init.bind (.ref s.heap.objs.size)
      repeat (any_goals (first | assumption | wp_step))
      refine codeAny_mono (codeAny_call_builtin (R := wants (fun r st2 => r = .none ∧ ∃ g tk c, st2 = { s with heap := g, toks := tk } ∧ SetR w g s.heap.objs.size (fun j => decide (j ∈ ns)) c ∧ c ≤ ns.length ∧
          (∀ b o, s.heap.get? b = some o → g.get? b = some o)) E) F.called_set.init.plain F.entry_set_init (check_set_init_1 ty0 ?_)) fun res2 st2 hres2 => ?_
      · obtain ⟨ob, oat, ocl, en, od⟩ := isl
        obtain ⟨oc, odi, oda, osl⟩ := ob
        simp only at ocl od
        subst ocl
        subst od
        have oat2 : (s.heap.push (mtSet w)).get? src = some { cls := .type "list", dict := odi, data := .seq vs en, slots := osl } := Heap.get?_push_of_some _ oat
        have p1 := F.sub_list_set
        have p2 := F.sub_list_frozenset
        have p3 : (Value.type "list" == Value.type "dict") = false := by decide
        have isl1 : (s.heap.push (mtSet w)).IsList src vs := ⟨_, oat2, rfl, en, rfl⟩
        unfold Builtin.«set.__init__» noKeywords Builtin.Frozenset.updateFrom
        generalize hit : pyIter = itf
        wp_walk
        subst hit
        refine wpAny_pyIter_list isl1 (wpAny_bind (wpAny_runValue ?_))
        have lt0 : src < s.heap.objs.size := Heap.lt_size oat
        have calm3 : A.in1.in1.in1.handled = none := by simp [calmA]
        have sz0 : (s.heap.push (mtSet w)).objs.size = s.heap.objs.size + 1 := Heap.size_push ..
        have apart : src ≠ (s.heap.push (mtSet w)).objs.size := by rw [sz0]; exact Nat.ne_of_lt (Nat.lt_succ_of_lt lt0)
        have apart2 : s.heap.objs.size ∉ [(s.heap.push (mtSet w)).objs.size, src] := by
          rw [sz0]
          simp only [List.mem_cons, List.not_mem_nil, or_false, not_or]
          exact ⟨Nat.ne_of_lt (Nat.lt_succ_self _), Nat.ne_of_gt lt0⟩
        have told : ∀ (i : Nat) (v : Value), vs[i]? = some v → ∃ z t, ns[i]? = some z ∧ v = .int z t := fun i v hv => by
          have hi : i < ns.length := by rw [← lsz]; exact (Array.getElem?_eq_some_iff.mp hv).1
          obtain ⟨t, e⟩ := IntsAre.int_at areI i v (by rw [Array.getElem?_toList]; exact hv)
          exact ⟨ns[i], t, List.getElem?_eq_getElem hi, by rw [e, List.getD_eq_getElem?_getD, List.getElem?_eq_getElem hi]; rfl⟩
        refine set_update_ints ((Walks.list calm3 _ src apart vs).toS) s.heap.objs.size apart2 ns lsz few told (vs.size - 0) 0 _ (by omega) (Nat.zero_le _) ⟨⟨_, Heap.get?_push_size _ rfl, rfl, rfl⟩, (isl1.push _)⟩ ?start ?goal
        case start => exact ⟨0, Nat.le_refl 0, setR_new_at (Heap.get?_push_of_some _ at0)⟩
        case goal =>
          intro st3 c3 mv le3 R3
          obtain ⟨g3, gens3, dr3, tk3, os3⟩ := st3
          have q1 : gens3 = s.gens := mv.gens
          have q2 : dr3 = s.drawn := mv.drawn
          have q3 : os3 = s.os := mv.os
          subst q1
          subst q2
          subst q3
          show wpAny _ _ _ _ _ _
          refine wpAny_pure ?_
          show wpAny _ _ (ret Value.none) _ _ _
          rw [lsz] at le3
          refine wpAny_pure ⟨rfl, g3, tk3, c3, rfl, R3, le3, fun b o e => ?_⟩
          have lt3 : b < s.heap.objs.size := Heap.lt_size e
          refine mv.heap b o ?_ (Heap.get?_push_of_some _ (Heap.get?_push_of_some _ e))
          rw [sz0]
          simp only [List.mem_cons, List.not_mem_nil, or_false, not_or]
          exact ⟨Nat.ne_of_lt lt3, Nat.ne_of_lt (Nat.lt_succ_of_lt lt3)⟩
      · cases res2 with
        | error e => exact hres2
        | ok fl2 =>
          cases fl2 with
          | ret r =>
            obtain ⟨rfl, g, tk, c, rfl, R2, le2, keep2⟩ := hres2
            repeat (any_goals (first | assumption | wp_step))
            exact k _ _ _ R2 le2 keep2
          | _ => exact hres2.elim
    | _ => exact hres.elim
end
end Pi
end

section
set_option maxHeartbeats 8000000
/-! PiCore: a small interpreter over plain data (values IV, a heap of lists and dicts), and its forms. -/
namespace Pi
open PySem

/-- a value: tuples by what is in them, lists and dicts by their place in the heap; lsr: a list that is read alone (the script) -/
inductive IV where
  | non | bl (b : Bool) | int (i : Int) | str (x : Str) | tup (xs : List IV) | lsr (xs : List IV) | ref (i : Nat)
  deriving Inhabited

/-- what stands at a place of the heap -/
inductive IO where
  | lst (xs : List IV)
  /-- a dict: keys ints and texts | keys tuples of such -/
  | dk (kvs : List (L2.Key × IV)) | dt (kvs : List (List L2.Key × IV))
  /-- a set of ints -/
  | set (xs : List Int)
  deriving Inhabited
abbrev IH := List IO

structure Ex where
  cls : Nat
  val : IV

inductive Out (α : Type) where
  | stuck | ok (a : α) (h : IH) | ex (e : Ex) (h : IH)

def Out.bind {α β : Type} (x : Out α) (f : α → IH → Out β) : Out β := match x with
  | .ok a h => f a h
  | .stuck => .stuck
  | .ex e h => .ex e h
@[simp] theorem bind_ok {α β : Type} (a : α) (h : IH) (f : α → IH → Out β) : (Out.ok a h).bind f = f a h := rfl
@[simp] theorem bind_stuck {α β : Type} (f : α → IH → Out β) : (Out.stuck : Out α).bind f = .stuck := rfl
@[simp] theorem bind_ex {α β : Type} (e : Ex) (h : IH) (f : α → IH → Out β) : (Out.ex e h : Out α).bind f = .ex e h := rfl
theorem bind_eq_ok {α β : Type} {x : Out α} {f : α → IH → Out β} {b : β} {h' : IH} (e : x.bind f = .ok b h') : ∃ a h, x = .ok a h ∧ f a h = .ok b h' := by
  cases x with
  | stuck => exact nomatch e
  | ok a h => exact ⟨a, h, rfl, e⟩
  | ex _ _ => exact nomatch e

/-- lists are at most so long -/
abbrev LIM : Nat := 1000000

/-! ### operations -/
def lstOf (h : IH) : IV → Option (List IV)
  | .ref i => match h[i]? with
    | some (.lst xs) => some xs
    | _ => none
  | .lsr xs => some xs
  | _ => none
def seqOf (h : IH) : IV → Option (List IV)
  | .tup xs => some xs
  | v => lstOf h v
def newL (xs : List IV) (h : IH) : Out IV := if xs.length ≤ LIM then .ok (.ref h.length) (h ++ [.lst xs]) else .stuck
def newT (xs : List IV) (h : IH) : Out IV := if xs.length ≤ LIM then .ok (.tup xs) h else .stuck

/-- the ints that a product, a quotient is of -/
def small (i : Int) : Bool := decide (i.natAbs < 2 ^ 400000)
/-- a factor that goes with any other -/
def tiny (i : Int) : Bool := decide (0 ≤ i ∧ i ≤ 4294967296)
def mid (i : Int) : Bool := decide (i.natAbs < 2 ^ 8000)

def binI (op : Operator) (a b : IV) (h : IH) : Out IV := match op, a, b with
  | .Add, .int i, .int j => .ok (.int (i + j)) h
  | .Add, .str x, .str y => if x.length + y.length ≤ LIM then .ok (.str (x ++ y)) h else .stuck
  | .Add, .tup xs, .tup ys => if xs.length + ys.length ≤ LIM then .ok (.tup (xs ++ ys)) h else .stuck
  | .Add, .ref i, .ref j => match h[i]?, h[j]? with
    | some (.lst xs), some (.lst ys) => newL (xs ++ ys) h
    | _, _ => .stuck
  | .Sub, .int i, .int j => .ok (.int (i - j)) h
  | .Mult, .int i, .int j => if tiny i || (small i && small j) then .ok (.int (i * j)) h else .stuck
  | .Mult, .ref i, .int k => match h[i]? with
    | some (.lst xs) => if -1000000 ≤ k ∧ k ≤ 1000000 then newL (List.replicate k.toNat xs).flatten h else .stuck
    | _ => .stuck
  | .FloorDiv, .int i, .int j => if 0 < j then (if mid j then .ok (.int (i / j)) h else .stuck) else if j < 0 then (if -1000000 < j then .ok (.int (i.fdiv j)) h else .stuck) else .stuck
  | .Mod, .int i, .int j => if 0 < j then .ok (.int (i % j)) h else if j < 0 then .ok (.int (i.fmod j)) h else .stuck
  | .Pow, .int i, .int j => if 0 ≤ j ∧ j ≤ 1000000 ∧ i.natAbs < 18446744073709551616 then .ok (.int (i ^ j.toNat)) h else .stuck
  | _, _, _ => .stuck

/-- scalars that == tells apart -/
def eqI : IV → IV → Option Bool
  | .non, .non => some true
  | .non, .int _ => some false | .int _, .non => some false
  | .non, .bl _ => some false | .bl _, .non => some false
  | .non, .str _ => some false | .str _, .non => some false
  | .int i, .int j => some (decide (i = j))
  | .bl a, .bl b => some (decide (a = b))
  | .str x, .str y => some (decide (x = y))
  | .int _, .str _ => some false | .str _, .int _ => some false
  | .bl _, .str _ => some false | .str _, .bl _ => some false
  | _, _ => none

def allM {α β : Type} (f : α → Option β) : List α → Option (List β)
  | [] => some []
  | x :: xs => match f x with
    | some y => (allM f xs).map (y :: ·)
    | none => none
/-- what is read of a value, at most so deep -/
def dataOf (h : IH) : Nat → IV → Option PyData
  | _, .non => some .none
  | _, .bl b => some (.bool b)
  | _, .int i => some (.int i)
  | _, .str x => some (.str x)
  | 0, .tup _ => none
  | 0, .lsr _ => none
  | 0, .ref _ => none
  | n + 1, .tup xs => (allM (dataOf h n) xs).map .tuple
  | n + 1, .lsr xs => (allM (dataOf h n) xs).map .list
  | n + 1, .ref i => match h[i]? with
    | some (.lst xs) => (allM (dataOf h n) xs).map .list
    | _ => none
def intsOf : List IV → Option (List Int)
  | [] => some []
  | .int i :: r => (intsOf r).map (i :: ·)
  | _ :: _ => none
def blsOf : List IV → Option (List Bool)
  | [] => some []
  | .bl i :: r => (blsOf r).map (i :: ·)
  | _ :: _ => none
abbrev DEEP : Nat := 32
def eqH (h : IH) (a b : IV) : Option Bool := match eqI a b with
  | some r => some r
  | none => match dataOf h DEEP a, dataOf h DEEP b with
    | some d, some e => some (PyData.eqv d e)
    | _, _ => none

def keyOf : IV → Option L2.Key
  | .int i => some (.inl i)
  | .str x => some (.inr x)
  | _ => none
def has {κ : Type} [DecidableEq κ] (k : κ) : List (κ × IV) → Bool
  | [] => false
  | (k', _) :: r => if k' = k then true else has k r
def look {κ : Type} [DecidableEq κ] (k : κ) : List (κ × IV) → Option IV
  | [] => none
  | (k', v) :: r => if k' = k then some v else look k r
def put {κ : Type} [DecidableEq κ] (k : κ) (v : IV) : List (κ × IV) → List (κ × IV)
  | [] => [(k, v)]
  | (k', u) :: r => if k' = k then (k', v) :: r else (k', u) :: put k v r

/-- a key in a dict, a value in a sequence -/
def inI (h : IH) (a b : IV) : Option Bool := match b with
  | .ref p => match h[p]? with
    | some (.dk kvs) => (keyOf a).map fun k => has k kvs
    | some (.lst xs) => match dataOf h DEEP a, allM (dataOf h DEEP) xs with
      | some d, some es => some (es.any fun y => PyData.eqv y d)
      | _, _ => none
    | _ => none
  | .tup xs => match dataOf h DEEP a, allM (dataOf h DEEP) xs with
    | some d, some es => some (es.any fun y => PyData.eqv y d)
    | _, _ => none
  | _ => none

def IV.isNon : IV → Bool
  | .non => true
  | _ => false
def cmpI (op : CmpOp) (a b : IV) (h : IH) : Out IV := match op with
  | .Eq => match eqH h a b with
    | some r => .ok (.bl r) h
    | none => .stuck
  | .NotEq => match eqH h a b with
    | some r => .ok (.bl !r) h
    | none => .stuck
  | .Lt => match a, b with
    | .int i, .int j => .ok (.bl (decide (i < j))) h
    | _, _ => .stuck
  | .LtE => match a, b with
    | .int i, .int j => .ok (.bl (decide (i ≤ j))) h
    | _, _ => .stuck
  | .Gt => match a, b with
    | .int i, .int j => .ok (.bl (decide (j < i))) h
    | _, _ => .stuck
  | .GtE => match a, b with
    | .int i, .int j => .ok (.bl (decide (j ≤ i))) h
    | _, _ => .stuck
  | .Is => match b with
    | .non => .ok (.bl a.isNon) h
    | .bl z => match a with
      | .bl y => .ok (.bl (decide (y = z))) h
      | _ => .stuck
    | _ => .stuck
  | .IsNot => match b with
    | .non => .ok (.bl !a.isNon) h
    | .bl z => match a with
      | .bl y => .ok (.bl !decide (y = z)) h
      | _ => .stuck
    | _ => .stuck
  | .In => match inI h a b with
    | some r => .ok (.bl r) h
    | none => .stuck
  | .NotIn => match inI h a b with
    | some r => .ok (.bl !r) h
    | none => .stuck

def truI (a : IV) (h : IH) : Option Bool := match a with
  | .non => some false
  | .bl b => some b
  | .int i => some (i != 0)
  | .str x => if x.length ≤ LIM then some ((x.length : Int) != 0) else none
  | .tup xs => some !xs.isEmpty
  | .lsr xs => some !xs.isEmpty
  | .ref i => match h[i]? with
    | some (.lst xs) => some !xs.isEmpty
    | some (.dk xs) => some !xs.isEmpty
    | _ => none

def ixI (a b : IV) (h : IH) : Out IV := match b with
  | .int k => match seqOf h a with
    | some xs => match L2.atI xs k with
      | some v => .ok v h
      | none => .stuck
    | none => .stuck
  | _ => .stuck
def cutI (xs : List IV) (lo hi : Option Int) : List IV := (xs.drop (HT.sIx xs.length 0 lo)).take (HT.sIx xs.length xs.length hi - HT.sIx xs.length 0 lo)
def slI (a : IV) (lo hi : Option Int) (h : IH) : Out IV := match a with
  | .tup xs => .ok (.tup (cutI xs lo hi)) h
  | a => match lstOf h a with
    | some xs => .ok (.ref h.length) (h ++ [.lst (cutI xs lo hi)])
    | none => .stuck
/-- a place of a list written -/
def setI (a b v : IV) (h : IH) : Out Unit := match a, b with
  | .ref i, .int k => match h[i]? with
    | some (.lst xs) => match L2.ixN xs.length k with
      | some j => .ok () (h.set i (.lst (xs.set j v)))
      | none => .stuck
    | _ => .stuck
  | _, _ => .stuck

/-! ### the forms -/
/-- built-ins that are called -/
inductive Bt where
  | abs | len | list | tuple | int | max | min | sum | all | any | set | sorted
  deriving DecidableEq, Inhabited
def Bt.every : List Bt := [.abs, .len, .list, .tuple, .int, .max, .min, .sum, .all, .any, .set, .sorted]
def Bt.name : Bt → Str
  | .abs => "abs" | .len => "len" | .list => "list" | .tuple => "tuple" | .int => "int" | .max => "max" | .min => "min" | .sum => "sum" | .all => "all" | .any => "any" | .set => "set" | .sorted => "sorted"
def Bt.value : Bt → Value
  | .abs => .builtin "abs" | .len => .builtin "len" | .list => .type "list" | .tuple => .type "tuple" | .int => .type "int" | .max => .builtin "max" | .min => .builtin "min" | .sum => .builtin "sum" | .all => .builtin "all" | .any => .builtin "any" | .set => .type "set" | .sorted => .builtin "sorted"
/-- types that isinstance asks of -/
inductive Ty where
  | int | bool | list | tuple | str
  deriving DecidableEq, Inhabited
def Ty.every : List Ty := [.int, .bool, .list, .tuple, .str]
def Ty.name : Ty → Str
  | .int => "int" | .bool => "bool" | .list => "list" | .tuple => "tuple" | .str => "str"
def Ty.txt : Ty → String
  | .int => "int" | .bool => "bool" | .list => "list" | .tuple => "tuple" | .str => "str"
/-- methods of lists and dicts -/
inductive Mt where
  | append | pop
  deriving DecidableEq, Inhabited
def Mt.every : List Mt := [.append, .pop]
def Mt.name : Mt → Str
  | .append => "append" | .pop => "pop"
inductive Tg where
  | name (i : Nat)
  | pair (a b : Tg)
  | one (a : Tg)
  | three (a b c : Tg)
  deriving Inhabited

mutual
inductive E where
  | var (i : Nat)
  | con (v : IV)
  | bin (op : Operator) (a b : E)
  | neg (a : E)
  | not (a : E)
  | and (a b : E)
  | or (a b : E)
  | cmp (op : CmpOp) (a b : E)
  | chain (op op' : CmpOp) (a b c : E)
  | ife (c a b : E)
  | tup (es : Es)
  | lst (es : Es)
  | call (f : Nat) (es : Es)
  | callk (f m : Nat) (perm : List Nat) (es ks : Es)
  | blt (f : Bt) (es : Es)
  | sset (a : E)
  | isi (a : E) (T : Ty)
  | ix (a b : E)
  | sl (a : E) (lo hi : Oe)
  | lc (el : E) (tg : Tg) (it : It) (c : Oe) (own : List Nat)
  | dict (tk : Bool)
  | meth (m : Mt) (o : E) (es : Es)
inductive Es where
  | nil
  | cons (e : E) (es : Es)
inductive Oe where
  | non
  | som (e : E)
/-- what a loop walks -/
inductive It where
  | val (e : E)
  | ints (xs : List Int)
  | rng (a : E)
  | rng2 (a b : E)
  | enum (a : E)
  | rev (a : E)
  | zip (a b : E)
end

mutual
inductive S where
  | pass | brk | cnt
  | asg (tg : Tg) (e : E)
  | par (i j : Nat) (a b : E)
  | set (o i v : E)
  | aug (o i v : E)
  | drop (e : E)
  | ret (e : E)
  | retN
  | ite (c : E) (a b : Ss)
  | whl (c : E) (b : Ss)
  | for (tg : Tg) (it : It) (b : Ss)
  | never
inductive Ss where
  | nil
  | cons (s : S) (r : Ss)
end

abbrev Sl := List (Option IV)
abbrev Calls := Nat → List IV → IH → Out IV

/-! ### what it computes -/
def tgI : Tg → IV → Sl → Option Sl
  | .name i, v, σ => some (σ.set i (some v))
  | .one a, .tup [x], σ => tgI a x σ
  | .pair a b, .tup [x, y], σ => (tgI a x σ).bind (tgI b y)
  | .three a b c, .tup [x, y, z], σ => ((tgI a x σ).bind (tgI b y)).bind (tgI c z)
  | _, _, _ => none
def wipeI (σ : Sl) : List Nat → Sl
  | [] => σ
  | v :: vs => (wipeI σ vs).set v none

/-- what is walked: a list (as it stands at each turn), values, pairs of place and item, a list from its end, two lists -/
inductive Wk where
  | lst (i : Nat)
  | vals (xs : List IV)
  | enum (i : Nat)
  | enumT (xs : List IV)
  | rev (i : Nat) (n : Nat)
  | zip (i j : Nat)

/-- the list at a place of the heap -/
def lsAt (h : IH) (i : Nat) : Option (List IV) := match h[i]? with
  | some (.lst xs) => some xs
  | _ => none
/-- the n-th item at hand: none stuck, some none the end -/
def wkAt (w : Wk) (n : Nat) (h : IH) : Option (Option IV) := match w with
  | .vals xs => some xs[n]?
  | .lst i => (lsAt h i).map fun xs => xs[n]?
  | .enum i => (lsAt h i).map fun xs => xs[n]?.map fun x => .tup [.int n, x]
  | .enumT xs => some (xs[n]?.map fun x => .tup [.int n, x])
  | .rev i m => (lsAt h i).bind fun xs => if n < m then (xs[m - 1 - n]?).map some else some none
  | .zip i j => (lsAt h i).bind fun xs => (lsAt h j).map fun ys => match xs[n]?, ys[n]? with
    | some x, some y => some (.tup [x, y])
    | _, _ => none
def wkLen (w : Wk) (h : IH) : Nat := match w with
  | .vals xs => xs.length
  | .lst i => ((lsAt h i).getD []).length
  | .enum i => ((lsAt h i).getD []).length
  | .enumT xs => xs.length
  | .rev _ m => m
  | .zip i j => min ((lsAt h i).getD []).length ((lsAt h j).getD []).length

inductive Fl where
  | nx (σ : Sl) | ret (v : IV) | bk (σ : Sl) | ct (σ : Sl)

/-- the ints without those that stand ahead already -/
def ded (ns : List Int) : List Int := PyProof.Rows.firstMet (fun i => ns.getD i 0) ns.length
def srt (ns : List Int) : List Int := ns.mergeSort fun a b => decide (a ≤ b)
/-- sorted, each once -/
def sst (ns : List Int) : List Int := srt (ded ns)
def bltI (f : Bt) (vs : List IV) (h : IH) : Out IV := match f with
  | .abs => (match vs with
    | [.int i] => .ok (.int (if i < 0 then -i else i)) h
    | _ => .stuck)
  | .len => (match vs with
    | [.str x] => if x.length ≤ LIM then .ok (.int x.length) h else .stuck
    | [.tup xs] => .ok (.int xs.length) h
    | [.lsr xs] => .ok (.int xs.length) h
    | [.ref i] => (match h[i]? with
      | some (.lst xs) => .ok (.int xs.length) h
      | some (.dk xs) => .ok (.int xs.length) h
      | some (.set xs) => if xs.length ≤ LIM then .ok (.int xs.length) h else .stuck
      | _ => .stuck)
    | _ => .stuck)
  | .list => (match vs with
    | [v] => (match seqOf h v with
      | some xs => .ok (.ref h.length) (h ++ [.lst xs])
      | none => .stuck)
    | _ => .stuck)
  | .tuple => (match vs with
    | [.tup xs] => .ok (.tup xs) h
    | [.ref i] => (match lstOf h (.ref i) with
      | some xs => .ok (.tup xs) h
      | none => .stuck)
    | _ => .stuck)
  | .int => (match vs with
    | [.int i] => .ok (.int i) h
    | [.bl b] => .ok (.int (if b then 1 else 0)) h
    | _ => .stuck)
  | .max => (match vs with
    | [.int i, .int j] => .ok (.int (if j > i then j else i)) h
    | _ => .stuck)
  | .min => (match vs with
    | [.int i, .int j] => .ok (.int (if j < i then j else i)) h
    | _ => .stuck)
  | .sum => (match vs with
    | [v] => (match (lstOf h v).bind intsOf with
      | some ns => .ok (.int ns.sum) h
      | none => .stuck)
    | _ => .stuck)
  | .all => (match vs with
    | [v] => (match (lstOf h v).bind blsOf with
      | some ns => .ok (.bl (ns.all id)) h
      | none => .stuck)
    | _ => .stuck)
  | .any => (match vs with
    | [v] => (match (lstOf h v).bind blsOf with
      | some ns => .ok (.bl (ns.any id)) h
      | none => .stuck)
    | _ => .stuck)
  | .set => (match vs with
    | [v] => (match (lstOf h v).bind intsOf with
      | some ns => if ns.length + 1 < 4096 then .ok (.ref h.length) (h ++ [.set (ded ns)]) else .stuck
      | none => .stuck)
    | _ => .stuck)
  | .sorted => (match vs with
    | [v] => (match (lstOf h v).bind intsOf with
      | some ns => .ok (.ref h.length) (h ++ [.lst ((srt ns).map .int)])
      | none => .stuck)
    | _ => .stuck)

def isIH (T : Ty) (a : IV) (h : IH) : Option Bool := match a with
  | .ref i => match h[i]? with
    | some (.lst _) => some (decide (T = .list))
    | _ => none
  | .tup _ => some (decide (T = .tuple))
  | .lsr _ => none
  | .int _ => some (decide (T = .int))
  | .bl _ => some (decide (T = .int ∨ T = .bool))
  | .str _ => some (decide (T = .str))
  | .non => some false

/-- a list that may change -/
def isLst (x : IV) (h : IH) : Bool := match x with
  | .ref i => match h[i]? with
    | some (.lst _) => true
    | _ => false
  | _ => false
/-- methods of lists -/
def methI (m : Mt) (o : IV) (vs : List IV) (h : IH) : Out IV := match o with
  | .ref i => (match h[i]? with
    | some (.lst xs) => (match m, vs with
      | .append, [v] => if xs.length < LIM then .ok .non (h.set i (.lst (xs ++ [v]))) else .stuck
      | .pop, [] => (match xs[xs.length - 1]? with
        | some v => .ok v (h.set i (.lst xs.dropLast))
        | none => .stuck)
      | _, _ => .stuck)
    | _ => .stuck)
  | _ => .stuck

/-- the loop of a comprehension: rem turns from the n-th on -/
def lcGo (w : Wk) (body : IV → IH → Out (Option IV)) : Nat → Nat → List IV → IH → Out (List IV)
  | n, 0, acc, h => match wkAt w n h with
    | some none => .ok acc h
    | _ => .stuck
  | n, rem + 1, acc, h => match wkAt w n h with
    | some (some x) => (body x h).bind fun o h1 => match o with
      | some v => if acc.length < LIM then lcGo w body (n + 1) rem (acc ++ [v]) h1 else .stuck
      | none => lcGo w body (n + 1) rem acc h1
    | _ => .stuck

/-- arguments in the parameters' order -/
def arr {α : Type} (perm : List Nat) (xs : List α) : List α := perm.filterMap (xs[·]?)
/-- as a test -/
def tst (x : Out IV) : Out Bool := x.bind fun v h1 => match truI v h1 with
  | some b => .ok b h1
  | none => .stuck

mutual
def eE (Φ : Calls) : E → Sl → IH → Out IV
  | .var i, σ, h => match σ[i]? with
    | some (some v) => .ok v h
    | _ => .stuck
  | .con v, _, h => .ok v h
  | .bin op a b, σ, h => (eE Φ a σ h).bind fun x h1 => (eE Φ b σ h1).bind fun y h2 => binI op x y h2
  | .neg a, σ, h => (eE Φ a σ h).bind fun x h1 => match x with
    | .int i => .ok (.int (-i)) h1
    | _ => .stuck
  | .not a, σ, h => (tst (eE Φ a σ h)).bind fun b h1 => .ok (.bl !b) h1
  | .and a b, σ, h => (eE Φ a σ h).bind fun x h1 => match truI x h1 with
    | some true => eE Φ b σ h1
    | some false => .ok x h1
    | none => .stuck
  | .or a b, σ, h => (eE Φ a σ h).bind fun x h1 => match truI x h1 with
    | some true => .ok x h1
    | some false => eE Φ b σ h1
    | none => .stuck
  | .cmp op a b, σ, h => (eE Φ a σ h).bind fun x h1 => (eE Φ b σ h1).bind fun y h2 => cmpI op x y h2
  | .chain op op' a b c, σ, h => (eE Φ a σ h).bind fun x h1 => (eE Φ b σ h1).bind fun y h2 => (cmpI op x y h2).bind fun r h3 => match r with
    | .bl true => (eE Φ c σ h3).bind fun z h4 => cmpI op' y z h4
    | .bl false => .ok (.bl false) h3
    | _ => .stuck
  | .ife c a b, σ, h => (tst (eE Φ c σ h)).bind fun t h1 => if t then eE Φ a σ h1 else eE Φ b σ h1
  | .tup es, σ, h => (eEs Φ es σ h).bind fun vs h1 => newT vs h1
  | .lst es, σ, h => (eEs Φ es σ h).bind fun vs h1 => newL vs h1
  | .call f es, σ, h => (eEs Φ es σ h).bind fun vs h1 => Φ f vs h1
  | .callk f m perm es ks, σ, h => (eEs Φ es σ h).bind fun vs h1 => (eEs Φ ks σ h1).bind fun zs h2 => if vs.length = m ∧ m + zs.length = perm.length then Φ f (arr perm (vs ++ zs)) h2 else .stuck
  | .blt f es, σ, h => (eEs Φ es σ h).bind fun vs h1 => bltI f vs h1
  | .sset a, σ, h => (eE Φ a σ h).bind fun x h1 => match (lstOf h1 x).bind intsOf with
    | some ns => if ns.length < 64 then .ok (.ref h1.length) (h1 ++ [.lst ((sst ns).map .int)]) else .stuck
    | none => .stuck
  | .isi a T, σ, h => (eE Φ a σ h).bind fun x h1 => match isIH T x h1 with
    | some b => .ok (.bl b) h1
    | none => .stuck
  | .ix a b, σ, h => (eE Φ a σ h).bind fun x h1 => (eE Φ b σ h1).bind fun y h2 => ixI x y h2
  | .sl a lo hi, σ, h => (eE Φ a σ h).bind fun x h1 => (eO Φ lo σ h1).bind fun l h2 => (eO Φ hi σ h2).bind fun u h3 => slI x l u h3
  | .lc el tg it c own, σ, h => (eI Φ it σ h).bind fun w h1 => (lcGo w (fun x h2 => match tgI tg x (wipeI σ own) with
      | some σ2 => (eC Φ c σ2 h2).bind fun b h3 => if b then (eE Φ el σ2 h3).bind fun v h4 => .ok (some v) h4 else .ok none h3
      | none => .stuck) 0 (wkLen w h1) [] h1).bind fun vs h5 => newL vs h5
  | .dict tk, _, h => .ok (.ref h.length) (h ++ [if tk then .dt [] else .dk []])
  | .meth m o es, σ, h => (eE Φ o σ h).bind fun x h1 => if isLst x h1 then (eEs Φ es σ h1).bind fun vs h2 => methI m x vs h2 else .stuck
def eEs (Φ : Calls) : Es → Sl → IH → Out (List IV)
  | .nil, _, h => .ok [] h
  | .cons e es, σ, h => (eE Φ e σ h).bind fun v h1 => (eEs Φ es σ h1).bind fun vs h2 => .ok (v :: vs) h2
def eO (Φ : Calls) : Oe → Sl → IH → Out (Option Int)
  | .non, _, h => .ok none h
  | .som e, σ, h => (eE Φ e σ h).bind fun x h1 => match x with
    | .int i => .ok (some i) h1
    | _ => .stuck
def eC (Φ : Calls) : Oe → Sl → IH → Out Bool
  | .non, _, h => .ok true h
  | .som e, σ, h => tst (eE Φ e σ h)
def eI (Φ : Calls) : It → Sl → IH → Out Wk
  | .val e, σ, h => (eE Φ e σ h).bind fun x h1 => match x with
    | .tup xs => .ok (.vals xs) h1
    | .lsr xs => .ok (.vals xs) h1
    | .ref i => (match lsAt h1 i with
      | some _ => .ok (.lst i) h1
      | none => .stuck)
    | _ => .stuck
  | .ints xs, _, h => .ok (.vals (xs.map IV.int)) h
  | .rng a, σ, h => (eE Φ a σ h).bind fun x h1 => match x with
    | .int j => if -4611686018427387904 ≤ j ∧ j < 4611686018427387904 then .ok (.vals ((List.range j.toNat).map fun k : Nat => .int k)) h1 else .stuck
    | _ => .stuck
  | .rng2 a b, σ, h => (eE Φ a σ h).bind fun x h1 => (eE Φ b σ h1).bind fun y h2 => match x, y with
    | .int i, .int j => if -4611686018427387904 ≤ i ∧ i < 4611686018427387904 ∧ -4611686018427387904 ≤ j ∧ j < 4611686018427387904 then .ok (.vals ((List.range (j - i).toNat).map fun k : Nat => .int (i + k))) h2 else .stuck
    | _, _ => .stuck
  | .enum e, σ, h => (eE Φ e σ h).bind fun x h1 => match x with
    | .tup xs => .ok (.enumT xs) h1
    | .ref i => (match lsAt h1 i with
      | some _ => .ok (.enum i) h1
      | none => .stuck)
    | _ => .stuck
  | .rev e, σ, h => (eE Φ e σ h).bind fun x h1 => match x with
    | .ref i => (match lsAt h1 i with
      | some xs => .ok (.rev i xs.length) h1
      | none => .stuck)
    | _ => .stuck
  | .zip a b, σ, h => (eE Φ a σ h).bind fun x h1 => (eE Φ b σ h1).bind fun y h2 => match x, y with
    | .ref i, .ref j => (match lsAt h2 i, lsAt h2 j with
      | some _, some _ => .ok (.zip i j) h2
      | _, _ => .stuck)
    | _, _ => .stuck
end


/-! ### statements -/
/-- so many turns of a while at most -/
def whN (t : Sl → IH → Out Bool) (b : Sl → IH → Out Fl) : Nat → Sl → IH → Out Fl
  | 0, _, _ => .stuck
  | n + 1, σ, h => (t σ h).bind fun c h1 => if c then (b σ h1).bind fun fl h2 => match fl with
    | .nx σ2 => whN t b n σ2 h2
    | .ct σ2 => whN t b n σ2 h2
    | .bk σ2 => .ok (.nx σ2) h2
    | .ret v => .ok (.ret v) h2
    else .ok (.nx σ) h1
open Classical in
noncomputable def whI (t : Sl → IH → Out Bool) (b : Sl → IH → Out Fl) (σ : Sl) (h : IH) : Out Fl :=
  if e : ∃ n, whN t b n σ h ≠ .stuck then whN t b e.choose σ h else .stuck
theorem whN_up {t : Sl → IH → Out Bool} {b : Sl → IH → Out Fl} : ∀ {n : Nat} {σ : Sl} {h : IH}, whN t b n σ h ≠ .stuck → whN t b (n + 1) σ h = whN t b n σ h
  | 0, _, _, q => absurd rfl q
  | n + 1, σ, h, q => by
    rw [whN] at q
    rw [whN, whN]
    cases e : t σ h with
    | stuck => rfl
    | ex _ _ => rfl
    | ok c h1 =>
      rw [e] at q
      simp only [bind_ok] at q ⊢
      cases c with
      | false => rfl
      | true =>
        simp only [if_true] at q ⊢
        cases e2 : b σ h1 with
        | stuck => rfl
        | ex _ _ => rfl
        | ok fl h2 =>
          rw [e2] at q
          simp only [bind_ok] at q ⊢
          cases fl with
          | nx σ2 => exact whN_up q
          | ct σ2 => exact whN_up q
          | bk σ2 => rfl
          | ret v => rfl
theorem whN_le {t : Sl → IH → Out Bool} {b : Sl → IH → Out Fl} {n : Nat} {σ : Sl} {h : IH} (q : whN t b n σ h ≠ .stuck) : ∀ k, whN t b (n + k) σ h = whN t b n σ h
  | 0 => rfl
  | k + 1 => by
    have ih := whN_le q k
    have e : whN t b (n + k) σ h ≠ .stuck := by rw [ih]; exact q
    exact (whN_up e).trans ih
theorem whI_of {t : Sl → IH → Out Bool} {b : Sl → IH → Out Fl} {σ : Sl} {h : IH} {r : Out Fl} (n : Nat) (e : whN t b n σ h = r) (q : r ≠ .stuck) : whI t b σ h = r := by
  have x : ∃ n, whN t b n σ h ≠ .stuck := ⟨n, by rw [e]; exact q⟩
  unfold whI
  rw [dif_pos x]
  have c := x.choose_spec
  generalize x.choose = m at c ⊢
  have e1 := whN_le (k := m) (show whN t b n σ h ≠ .stuck by rw [e]; exact q)
  have e2 := whN_le (k := n) c
  rw [Nat.add_comm] at e2
  rw [← e2, e1, e]
theorem whI_ex {t : Sl → IH → Out Bool} {b : Sl → IH → Out Fl} {σ : Sl} {h : IH} {fl : Fl} {h' : IH} (e : whI t b σ h = .ok fl h') : ∃ n, whN t b n σ h = .ok fl h' := by
  unfold whI at e
  split at e
  · exact ⟨_, e⟩
  · exact nomatch e

def forGo (w : Wk) (tg : Tg) (b : Sl → IH → Out Fl) : Nat → Nat → Sl → IH → Out Fl
  | n, 0, σ, h => match wkAt w n h with
    | some none => .ok (.nx σ) h
    | _ => .stuck
  | n, rem + 1, σ, h => match wkAt w n h with
    | some (some x) => match tgI tg x σ with
      | some σ1 => (b σ1 h).bind fun fl h2 => match fl with
        | .nx σ2 => forGo w tg b (n + 1) rem σ2 h2
        | .ct σ2 => forGo w tg b (n + 1) rem σ2 h2
        | .bk σ2 => .ok (.nx σ2) h2
        | .ret v => .ok (.ret v) h2
      | none => .stuck
    | _ => .stuck

/-- += of ints -/
def augI (u v : IV) (h : IH) : Out IV := match u, v with
  | .int i, .int j => .ok (.int (i + j)) h
  | _, _ => .stuck
mutual
noncomputable def eS (Φ : Calls) : S → Sl → IH → Out Fl
  | .pass, σ, h => .ok (.nx σ) h
  | .brk, σ, h => .ok (.bk σ) h
  | .cnt, σ, h => .ok (.ct σ) h
  | .asg tg e, σ, h => (eE Φ e σ h).bind fun v h1 => match tgI tg v σ with
    | some σ1 => .ok (.nx σ1) h1
    | none => .stuck
  | .par i j a b, σ, h => (eE Φ a σ h).bind fun v h1 => (eE Φ b σ h1).bind fun u h2 => .ok (.nx ((σ.set i (some v)).set j (some u))) h2
  | .set o i e, σ, h => (eE Φ e σ h).bind fun v h1 => (eE Φ o σ h1).bind fun x h2 => (eE Φ i σ h2).bind fun y h3 => (setI x y v h3).bind fun _ h4 => .ok (.nx σ) h4
  | .aug o i e, σ, h => (eE Φ o σ h).bind fun x h1 => (eE Φ i σ h1).bind fun y h2 => (ixI x y h2).bind fun u h3 => (eE Φ e σ h3).bind fun v h4 => (augI u v h4).bind fun z h5 => (setI x y z h5).bind fun _ h6 => .ok (.nx σ) h6
  | .drop e, σ, h => (eE Φ e σ h).bind fun _ h1 => .ok (.nx σ) h1
  | .ret e, σ, h => (eE Φ e σ h).bind fun v h1 => .ok (.ret v) h1
  | .retN, _, h => .ok (.ret .non) h
  | .ite c a b, σ, h => (tst (eE Φ c σ h)).bind fun t h1 => if t then eSs Φ a σ h1 else eSs Φ b σ h1
  | .whl c b, σ, h => whI (fun σ h => tst (eE Φ c σ h)) (fun σ h => eSs Φ b σ h) σ h
  | .for tg it b, σ, h => (eI Φ it σ h).bind fun w h1 => forGo w tg (fun σ h => eSs Φ b σ h) 0 (wkLen w h1) σ h1
  | .never, _, _ => .stuck
noncomputable def eSs (Φ : Calls) : Ss → Sl → IH → Out Fl
  | .nil, σ, h => .ok (.nx σ) h
  | .cons s r, σ, h => (eS Φ s σ h).bind fun fl h1 => match fl with
    | .nx σ1 => eSs Φ r σ1 h1
    | f => .ok f h1
end

/-- a def: how many parameters, how many slots, its body -/
structure Df where
  ar : Nat
  sl : Nat
  body : Ss
noncomputable def runD (Φ : Calls) (d : Df) (vs : List IV) (h : IH) : Out IV :=
  if vs.length = d.ar then (eSs Φ d.body (vs.map some ++ List.replicate (d.sl - d.ar) none) h).bind fun fl h1 => match fl with
    | .nx _ => .ok .non h1
    | .ret v => .ok v h1
    | _ => .stuck
  else .stuck
noncomputable def callF (P : List Df) : Nat → Calls
  | 0, _, _, _ => .stuck
  | k + 1, f, vs, h => match P[f]? with
    | some d => runD (callF P k) d vs h
    | none => .stuck

end Pi
end

section
set_option maxHeartbeats 8000000

/-! PiRel: how the interpreter's values and heap lie over those of the layer. -/
namespace Pi
open PySem PySem.Spec PyProof.Rows L2

section
mutual
/-- the value x of the interpreter is the layer's v -/
def VR (K : PySem.W.Frag) (φ : List Addr) (H : Hp) : IV → V → Prop
  | .non, v => v = .non
  | .bl b, v => v = .bl b
  | .int i, v => v = .int i
  | .str x, v => v = .str x
  | .ref i, v => ∃ a, φ[i]? = some a ∧ v = .ref a
  | .tup xs, v => ∃ a vs, v = .ref a ∧ H a = some (.tup vs) ∧ VRs K φ H xs vs ∧ vs.length ≤ sizeLine
  | .lsr xs, v => ∃ a vs, v = .ref a ∧ ((∃ o, H a = some (.frz o (.lst vs))) ∨ (∀ H', SqL K H' a vs)) ∧ VRs K φ H xs vs
def VRs (K : PySem.W.Frag) (φ : List Addr) (H : Hp) : List IV → List V → Prop
  | [], vs => vs = []
  | x :: xs, vs => ∃ v r, vs = v :: r ∧ VR K φ H x v ∧ VRs K φ H xs r
end
/-- pairs of a dict -/
def KR {κ : Type} (K : PySem.W.Frag) (φ : List Addr) (H : Hp) : List (κ × IV) → List (κ × V) → Prop
  | [], vs => vs = []
  | (k, x) :: xs, vs => ∃ v r, vs = (k, v) :: r ∧ VR K φ H x v ∧ KR K φ H xs r
/-- what stands at the address a -/
def OR (K : PySem.W.Frag) (φ : List Addr) (H : Hp) (a : Addr) : IO → Prop
  | .lst xs => ∃ vs, H a = some (.lst vs) ∧ VRs K φ H xs vs
  | .dk kvs => ∃ ws, H a = some (.dK ws) ∧ KR K φ H kvs ws
  | .dt kvs => ∃ ws, H a = some (.dT ws) ∧ KR K φ H kvs ws
  | .set xs => H a = some (.set (fun k => xs.any (· == k)) xs.length)
structure Rel (K : PySem.W.Frag) (φ : List Addr) (h : IH) (H : Hp) : Prop where
  len : φ.length = h.length
  inj : ∀ (i j : Nat) (a : Addr), φ[i]? = some a → φ[j]? = some a → i = j
  obj : ∀ (i : Nat) (a : Addr) (o : IO), φ[i]? = some a → h[i]? = some o → OR K φ H a o
end

/-- tuples, locked things stay -/
structure Kt (H H' : Hp) : Prop where
  tup : ∀ a xs, H a = some (.tup xs) → H' a = some (.tup xs)
  frz : ∀ a o u, H a = some (.frz o u) → H' a = some (.frz o u)
/-- tuples, locked things and all that is not the interpreter's own stay -/
structure Kp (φ φ' : List Addr) (H H' : Hp) : Prop where
  tup : ∀ a xs, H a = some (.tup xs) → H' a = some (.tup xs)
  frz : ∀ a o u, H a = some (.frz o u) → H' a = some (.frz o u)
  oth : ∀ a o, H a = some o → a ∉ φ → H' a = some o ∧ a ∉ φ'
theorem Kp.kt {φ φ' : List Addr} {H H' : Hp} (k : Kp φ φ' H H') : Kt H H' := ⟨k.tup, k.frz⟩
theorem Kp.refl (φ : List Addr) (H : Hp) : Kp φ φ H H := ⟨fun _ _ h => h, fun _ _ _ h => h, fun _ _ h n => ⟨h, n⟩⟩
theorem Kp.trans {φ φ1 φ2 : List Addr} {H H1 H2 : Hp} (x : Kp φ φ1 H H1) (y : Kp φ1 φ2 H1 H2) : Kp φ φ2 H H2 :=
  ⟨fun a xs h => y.tup _ _ (x.tup _ _ h), fun a o u h => y.frz _ _ _ (x.frz _ _ _ h), fun a o h n => y.oth _ _ (x.oth _ _ h n).1 (x.oth _ _ h n).2⟩
theorem Kp.new {φ : List Addr} {H : Hp} {p : Addr} {o : HO} (h : H p = none) : Kp φ (φ ++ [p]) H (upd H p o) :=
  ⟨fun a xs e => by rw [upd_ne (ne_of_none e h)]; exact e, fun a ob u e => by rw [upd_ne (ne_of_none e h)]; exact e, fun a u e n => ⟨by rw [upd_ne (ne_of_none e h)]; exact e, fun m => by
    rcases List.mem_append.mp m with m | m
    · exact n m
    · exact ne_of_none e h (List.mem_singleton.mp m)⟩⟩
theorem Kp.newU {φ : List Addr} {H : Hp} {p : Addr} {o : HO} (h : H p = none) : Kp φ φ H (upd H p o) :=
  ⟨fun a xs e => by rw [upd_ne (ne_of_none e h)]; exact e, fun a ob u e => by rw [upd_ne (ne_of_none e h)]; exact e, fun a u e n => ⟨by rw [upd_ne (ne_of_none e h)]; exact e, n⟩⟩
theorem Kp.set {φ : List Addr} {H : Hp} {i : Nat} {p : Addr} {o o' : HO} (hi : φ[i]? = some p) (h : H p = some o) (n1 : ∀ xs, o ≠ .tup xs) (n2 : ∀ ob u, o ≠ .frz ob u) : Kp φ φ H (upd H p o') :=
  ⟨fun a xs e => by rw [upd_ne (ne_of e h (fun z => n1 xs z.symm))]; exact e, fun a ob u e => by rw [upd_ne (ne_of e h (fun z => n2 ob u z.symm))]; exact e, fun a u e n => ⟨by
    have m := List.mem_of_getElem? hi
    rw [upd_ne fun z => n (by rw [z]; exact m)]; exact e, n⟩⟩

section
variable {K : PySem.W.Frag} {φ φ' : List Addr} {H H' : Hp} {h h' : IH}
/-- φ goes on as φ' -/
def Px (φ φ' : List Addr) : Prop := ∀ (i : Nat) (a : Addr), φ[i]? = some a → φ'[i]? = some a
theorem Px.refl (φ : List Addr) : Px φ φ := fun _ _ e => e
theorem Px.trans {φ φ1 φ2 : List Addr} (x : Px φ φ1) (y : Px φ1 φ2) : Px φ φ2 := fun i a e => y i a (x i a e)
theorem Px.app (φ ψ : List Addr) : Px φ (φ ++ ψ) := fun i a e => by
  have hl : i < φ.length := (List.getElem?_eq_some_iff.mp e).1
  rw [List.getElem?_append_left hl]
  exact e
theorem frz_kt {a : Addr} {vs : List V} (k : Kt H H') (s : (∃ o, H a = some (.frz o (.lst vs))) ∨ (∀ H', SqL K H' a vs)) : (∃ o, H' a = some (.frz o (.lst vs))) ∨ (∀ H', SqL K H' a vs) := by
  rcases s with ⟨o, s⟩ | s
  · exact .inl ⟨o, k.frz _ _ _ s⟩
  · exact .inr s
theorem frz_kp {a : Addr} {vs : List V} (k : Kp φ φ' H H') (s : (∃ o, H a = some (.frz o (.lst vs))) ∨ (∀ H', SqL K H' a vs)) : (∃ o, H' a = some (.frz o (.lst vs))) ∨ (∀ H', SqL K H' a vs) := frz_kt k.kt s
theorem frz_sql {a : Addr} {vs : List V} (s : (∃ o, H a = some (.frz o (.lst vs))) ∨ (∀ H', SqL K H' a vs)) : SqL K H a vs := by
  rcases s with ⟨o, s⟩ | s
  · exact .inl (.inr ⟨o, s⟩)
  · exact s H
theorem sqt_kp {a : Addr} {vs : List V} (k : Kp φ φ' H H') (s : SqT K H a vs) : SqT K H' a vs := by
  rcases s with (s | ⟨o, s⟩) | s
  · exact .inl (.inl (k.tup _ _ s))
  · exact .inl (.inr ⟨o, k.frz _ _ _ s⟩)
  · exact .inr s
mutual
theorem VR.monoT (p : Px φ φ') (k : Kt H H') : ∀ (x : IV) (v : V), VR K φ H x v → VR K φ' H' x v
  | .non, v, r => by rw [VR] at r ⊢; exact r
  | .bl b, v, r => by rw [VR] at r ⊢; exact r
  | .int i, v, r => by rw [VR] at r ⊢; exact r
  | .str x, v, r => by rw [VR] at r ⊢; exact r
  | .ref i, v, r => by
    rw [VR] at r ⊢
    obtain ⟨a, e, rfl⟩ := r
    exact ⟨a, p i a e, rfl⟩
  | .tup xs, v, r => by
    rw [VR] at r ⊢
    obtain ⟨a, vs, rfl, s, q, z⟩ := r
    exact ⟨a, vs, rfl, k.tup _ _ s, VRs.monoT p k xs vs q, z⟩
  | .lsr xs, v, r => by
    rw [VR] at r ⊢
    obtain ⟨a, vs, rfl, s, q⟩ := r
    exact ⟨a, vs, rfl, frz_kt k s, VRs.monoT p k xs vs q⟩
theorem VRs.monoT (p : Px φ φ') (k : Kt H H') : ∀ (xs : List IV) (vs : List V), VRs K φ H xs vs → VRs K φ' H' xs vs
  | [], vs, r => by rw [VRs] at r ⊢; exact r
  | x :: xs, vs, r => by
    rw [VRs] at r ⊢
    obtain ⟨v, s, rfl, r1, r2⟩ := r
    exact ⟨v, s, rfl, VR.monoT p k x v r1, VRs.monoT p k xs s r2⟩
end
theorem KR.monoT {κ : Type} (p : Px φ φ') (k : Kt H H') : ∀ (xs : List (κ × IV)) (vs : List (κ × V)), KR K φ H xs vs → KR K φ' H' xs vs
  | [], vs, r => by rw [KR] at r ⊢; exact r
  | (c, x) :: xs, vs, r => by
    rw [KR] at r ⊢
    obtain ⟨v, s, rfl, r1, r2⟩ := r
    exact ⟨v, s, rfl, VR.monoT p k x v r1, KR.monoT p k xs s r2⟩
theorem VR.mono (p : Px φ φ') (k : Kp φ φ' H H') (x : IV) (v : V) (r : VR K φ H x v) : VR K φ' H' x v := VR.monoT p k.kt x v r
theorem VRs.mono (p : Px φ φ') (k : Kp φ φ' H H') (xs : List IV) (vs : List V) (r : VRs K φ H xs vs) : VRs K φ' H' xs vs := VRs.monoT p k.kt xs vs r
theorem KR.mono {κ : Type} (p : Px φ φ') (k : Kp φ φ' H H') (xs : List (κ × IV)) (vs : List (κ × V)) (r : KR K φ H xs vs) : KR K φ' H' xs vs := KR.monoT p k.kt xs vs r
theorem VRs.length : ∀ {xs : List IV} {vs : List V}, VRs K φ H xs vs → xs.length = vs.length
  | [], vs, r => by rw [VRs] at r; subst r; rfl
  | x :: xs, vs, r => by
    rw [VRs] at r
    obtain ⟨v, s, rfl, _, r2⟩ := r
    rw [List.length_cons, List.length_cons, VRs.length r2]
theorem KR.length {κ : Type} : ∀ {xs : List (κ × IV)} {vs : List (κ × V)}, KR K φ H xs vs → xs.length = vs.length
  | [], vs, r => by rw [KR] at r; subst r; rfl
  | (c, x) :: xs, vs, r => by
    rw [KR] at r
    obtain ⟨v, s, rfl, _, r2⟩ := r
    rw [List.length_cons, List.length_cons, KR.length r2]
theorem VRs.get : ∀ {xs : List IV} {vs : List V} {i : Nat} {x : IV}, VRs K φ H xs vs → xs[i]? = some x → ∃ v, vs[i]? = some v ∧ VR K φ H x v
  | [], vs, i, x, _, e => by simp at e
  | y :: xs, vs, 0, x, r, e => by
    rw [VRs] at r
    obtain ⟨v, s, rfl, r1, _⟩ := r
    simp at e; subst e
    exact ⟨v, rfl, r1⟩
  | y :: xs, vs, i + 1, x, r, e => by
    rw [VRs] at r
    obtain ⟨v, s, rfl, _, r2⟩ := r
    obtain ⟨w, e1, r1⟩ := VRs.get (i := i) (x := x) r2 (by simpa using e)
    exact ⟨w, by simpa using e1, r1⟩
theorem VRs.append : ∀ {xs ys : List IV} {vs ws : List V}, VRs K φ H xs vs → VRs K φ H ys ws → VRs K φ H (xs ++ ys) (vs ++ ws)
  | [], ys, vs, ws, r, q => by rw [VRs] at r; subst r; exact q
  | x :: xs, ys, vs, ws, r, q => by
    rw [VRs] at r
    obtain ⟨v, s, rfl, r1, r2⟩ := r
    show VRs K φ H (x :: (xs ++ ys)) (v :: (s ++ ws))
    rw [VRs]
    exact ⟨v, _, rfl, r1, VRs.append r2 q⟩
theorem VRs.one {x : IV} {v : V} (r : VR K φ H x v) : VRs K φ H [x] [v] := by
  rw [VRs]; exact ⟨v, [], rfl, r, by rw [VRs]⟩
theorem VRs.take : ∀ {xs : List IV} {vs : List V} (n : Nat), VRs K φ H xs vs → VRs K φ H (xs.take n) (vs.take n)
  | _, _, 0, _ => by rw [List.take_zero, List.take_zero, VRs]
  | [], vs, n + 1, r => by rw [VRs] at r; subst r; simp [VRs]
  | x :: xs, vs, n + 1, r => by
    rw [VRs] at r
    obtain ⟨v, s, rfl, r1, r2⟩ := r
    rw [List.take_succ_cons, List.take_succ_cons, VRs]
    exact ⟨v, _, rfl, r1, VRs.take n r2⟩
theorem VRs.drop : ∀ {xs : List IV} {vs : List V} (n : Nat), VRs K φ H xs vs → VRs K φ H (xs.drop n) (vs.drop n)
  | _, _, 0, r => by rw [List.drop_zero, List.drop_zero]; exact r
  | [], vs, n + 1, r => by rw [VRs] at r; subst r; simp [VRs]
  | x :: xs, vs, n + 1, r => by
    rw [VRs] at r
    obtain ⟨v, s, rfl, r1, r2⟩ := r
    rw [List.drop_succ_cons, List.drop_succ_cons]
    exact VRs.drop n r2
theorem VRs.set {x : IV} {v : V} (q : VR K φ H x v) : ∀ {xs : List IV} {vs : List V} (n : Nat), VRs K φ H xs vs → VRs K φ H (xs.set n x) (vs.set n v)
  | [], vs, n, r => by rw [VRs] at r; subst r; simp [VRs]
  | y :: xs, vs, 0, r => by
    rw [VRs] at r
    obtain ⟨w, s, rfl, r1, r2⟩ := r
    rw [List.set_cons_zero, List.set_cons_zero, VRs]
    exact ⟨v, _, rfl, q, r2⟩
  | y :: xs, vs, n + 1, r => by
    rw [VRs] at r
    obtain ⟨w, s, rfl, r1, r2⟩ := r
    rw [List.set_cons_succ, List.set_cons_succ, VRs]
    exact ⟨w, _, rfl, r1, VRs.set q n r2⟩
theorem VRs.flat : ∀ {xs : List IV} {vs : List V} (r : VRs K φ H xs vs) (n : Nat), VRs K φ H (List.replicate n xs).flatten (List.replicate n vs).flatten
  | _, _, _, 0 => by simp [VRs]
  | _, _, r, n + 1 => by
    rw [List.replicate_succ, List.replicate_succ, List.flatten_cons, List.flatten_cons]
    exact VRs.append r (VRs.flat r n)
theorem VRs.dropLast {xs : List IV} {vs : List V} (r : VRs K φ H xs vs) : VRs K φ H xs.dropLast vs.dropLast := by
  rw [List.dropLast_eq_take, List.dropLast_eq_take, r.length]
  exact r.take _
theorem VRs.reverse : ∀ {xs : List IV} {vs : List V}, VRs K φ H xs vs → VRs K φ H xs.reverse vs.reverse
  | [], vs, r => by rw [VRs] at r; subst r; simp [VRs]
  | x :: xs, vs, r => by
    rw [VRs] at r
    obtain ⟨v, s, rfl, r1, r2⟩ := r
    rw [List.reverse_cons, List.reverse_cons]
    exact VRs.append (VRs.reverse r2) (.one r1)
theorem VRs.ints : ∀ {xs : List IV} {vs : List V} {ns : List Int}, VRs K φ H xs vs → intsOf xs = some ns → vs = ns.map V.int
  | [], vs, ns, r, e => by
    rw [VRs] at r
    have e' : [] = ns := Option.some.inj e
    rw [r, ← e']; rfl
  | .int i :: xs, vs, ns, r, e => by
    rw [VRs] at r
    obtain ⟨v, s, rfl, r1, r2⟩ := r
    rw [VR] at r1
    have e' : (intsOf xs).map (i :: ·) = some ns := e
    cases q : intsOf xs with
    | none => rw [q] at e'; cases e'
    | some ms =>
      rw [q] at e'
      have e2 : i :: ms = ns := Option.some.inj e'
      rw [← e2, r1, VRs.ints r2 q]; rfl
  | .non :: xs, vs, ns, r, e => nomatch e
  | .bl _ :: xs, vs, ns, r, e => nomatch e
  | .str _ :: xs, vs, ns, r, e => nomatch e
  | .tup _ :: xs, vs, ns, r, e => nomatch e
  | .lsr _ :: xs, vs, ns, r, e => nomatch e
  | .ref _ :: xs, vs, ns, r, e => nomatch e
theorem VRs.bls : ∀ {xs : List IV} {vs : List V} {ns : List Bool}, VRs K φ H xs vs → blsOf xs = some ns → vs = ns.map V.bl
  | [], vs, ns, r, e => by
    rw [VRs] at r
    have e' : [] = ns := Option.some.inj e
    rw [r, ← e']; rfl
  | .bl i :: xs, vs, ns, r, e => by
    rw [VRs] at r
    obtain ⟨v, s, rfl, r1, r2⟩ := r
    rw [VR] at r1
    have e' : (blsOf xs).map (i :: ·) = some ns := e
    cases q : blsOf xs with
    | none => rw [q] at e'; cases e'
    | some ms =>
      rw [q] at e'
      have e2 : i :: ms = ns := Option.some.inj e'
      rw [← e2, r1, VRs.bls r2 q]; rfl
  | .non :: xs, vs, ns, r, e => nomatch e
  | .int _ :: xs, vs, ns, r, e => nomatch e
  | .str _ :: xs, vs, ns, r, e => nomatch e
  | .tup _ :: xs, vs, ns, r, e => nomatch e
  | .lsr _ :: xs, vs, ns, r, e => nomatch e
  | .ref _ :: xs, vs, ns, r, e => nomatch e
theorem VRs.ofInts : ∀ (ns : List Int), VRs K φ H (ns.map IV.int) (ns.map V.int)
  | [] => by simp [VRs]
  | n :: ns => by
    rw [List.map_cons, List.map_cons, VRs]
    exact ⟨_, _, rfl, by rw [VR], VRs.ofInts ns⟩

theorem OR.monoT {a : Addr} {o : IO} (p : Px φ φ') (k : Kt H H') (s : H' a = H a) (x : OR K φ H a o) : OR K φ' H' a o := by
  cases o with
  | lst xs => obtain ⟨vs, e, r⟩ := x; exact ⟨vs, s.trans e, VRs.monoT p k xs vs r⟩
  | dk xs => obtain ⟨vs, e, r⟩ := x; exact ⟨vs, s.trans e, KR.monoT p k xs vs r⟩
  | dt xs => obtain ⟨vs, e, r⟩ := x; exact ⟨vs, s.trans e, KR.monoT p k xs vs r⟩
  | set xs => exact s.trans x
theorem OR.mono {a : Addr} {o : IO} (p : Px φ φ') (k : Kp φ φ' H H') (s : H' a = H a) (x : OR K φ H a o) : OR K φ' H' a o := OR.monoT p k.kt s x
theorem OR.there {a : Addr} {o : IO} (x : OR K φ H a o) : H a ≠ none := by
  cases o with
  | lst xs => obtain ⟨vs, e, r⟩ := x; rw [e]; exact fun z => nomatch z
  | dk xs => obtain ⟨vs, e, r⟩ := x; rw [e]; exact fun z => nomatch z
  | dt xs => obtain ⟨vs, e, r⟩ := x; rw [e]; exact fun z => nomatch z
  | set xs => exact fun z => by rw [show H a = _ from x] at z; cases z
theorem OR.nt {a : Addr} {o : IO} (x : OR K φ H a o) (xs : List V) : H a ≠ some (.tup xs) := by
  cases o with
  | lst xs => obtain ⟨vs, e, r⟩ := x; rw [e]; exact fun z => nomatch z
  | dk xs => obtain ⟨vs, e, r⟩ := x; rw [e]; exact fun z => nomatch z
  | dt xs => obtain ⟨vs, e, r⟩ := x; rw [e]; exact fun z => nomatch z
  | set xs => exact fun z => by rw [show H a = _ from x] at z; cases z
theorem Rel.at (x : Rel K φ h H) {i : Nat} {a : Addr} (e : φ[i]? = some a) : ∃ o, h[i]? = some o ∧ OR K φ H a o := by
  have hl : i < h.length := by rw [← x.len]; exact (List.getElem?_eq_some_iff.mp e).1
  exact ⟨h[i], List.getElem?_eq_getElem hl, x.obj i a _ e (List.getElem?_eq_getElem hl)⟩
/-- a free address is not the interpreter's -/
theorem Rel.fresh (x : Rel K φ h H) {p : Addr} (hp : H p = none) : p ∉ φ := fun m => by
  obtain ⟨i, e⟩ := List.getElem?_of_mem m
  obtain ⟨o, _, q⟩ := x.at e
  exact q.there hp
/-- the heap grows by what is not tracked here -/
theorem Rel.keep (x : Rel K φ h H) (k : Kt H H') (s : ∀ a ∈ φ, H' a = H a) : Rel K φ h H' :=
  ⟨x.len, x.inj, fun i a o e1 e2 => (x.obj i a o e1 e2).monoT (.refl φ) k (s a (List.mem_of_getElem? e1))⟩
/-- a new tuple, not in the interpreter's heap -/
theorem Rel.newU {p : Addr} {u : HO} (x : Rel K φ h H) (hp : H p = none) : Rel K φ h (upd H p u) :=
  x.keep (Kp.newU (φ := φ) hp).kt fun a ha => upd_ne fun e => x.fresh hp (e ▸ ha)
/-- a new object -/
theorem Rel.new {p : Addr} {u : HO} {o : IO} (x : Rel K φ h H) (hp : H p = none) (n : OR K (φ ++ [p]) (upd H p u) p o) : Rel K (φ ++ [p]) (h ++ [o]) (upd H p u) := by
  have at_ : ∀ {i : Nat} {a : Addr}, (φ ++ [p])[i]? = some a → (i < φ.length ∧ φ[i]? = some a) ∨ (i = φ.length ∧ a = p) := fun {i a} e1 => by
    by_cases hi : i < φ.length
    · rw [List.getElem?_append_left hi] at e1
      exact .inl ⟨hi, e1⟩
    · have hz : i = φ.length := by
        have hl := (List.getElem?_eq_some_iff.mp e1).1
        rw [List.length_append, List.length_singleton] at hl
        omega
      subst hz
      rw [List.getElem?_append_right (Nat.le_refl _), Nat.sub_self] at e1
      exact .inr ⟨rfl, (Option.some.inj e1).symm⟩
  refine ⟨by rw [List.length_append, List.length_append, x.len]; rfl, fun i j a e1 e2 => ?_, fun i a v e1 e2 => ?_⟩
  · rcases at_ e1 with ⟨_, f1⟩ | ⟨f0, f1⟩
    · rcases at_ e2 with ⟨_, g1⟩ | ⟨_, g1⟩
      · exact x.inj i j a f1 g1
      · subst g1
        exact (x.fresh hp (List.mem_of_getElem? f1)).elim
    · rcases at_ e2 with ⟨_, g1⟩ | ⟨g0, _⟩
      · subst f1
        exact (x.fresh hp (List.mem_of_getElem? g1)).elim
      · rw [f0, g0]
  · rcases at_ e1 with ⟨hi, f1⟩ | ⟨f0, f1⟩
    · rw [List.getElem?_append_left (by rw [← x.len]; exact hi)] at e2
      have q := x.obj i a v f1 e2
      exact q.mono (.app φ [p]) (.new hp) (upd_ne fun e => by rw [e] at q; exact q.there hp)
    · subst f1 f0
      rw [x.len, List.getElem?_append_right (Nat.le_refl _), Nat.sub_self] at e2
      have e2 : o = v := Option.some.inj e2
      subst e2; exact n
/-- an object of the layer becomes the interpreter's -/
theorem Rel.own {p : Addr} {o : IO} (x : Rel K φ h H) (hp : p ∉ φ) (n : OR K (φ ++ [p]) H p o) : Rel K (φ ++ [p]) (h ++ [o]) H := by
  have at_ : ∀ {i : Nat} {a : Addr}, (φ ++ [p])[i]? = some a → (i < φ.length ∧ φ[i]? = some a) ∨ (i = φ.length ∧ a = p) := fun {i a} e1 => by
    by_cases hi : i < φ.length
    · rw [List.getElem?_append_left hi] at e1
      exact .inl ⟨hi, e1⟩
    · have hz : i = φ.length := by
        have hl := (List.getElem?_eq_some_iff.mp e1).1
        rw [List.length_append, List.length_singleton] at hl
        omega
      subst hz
      rw [List.getElem?_append_right (Nat.le_refl _), Nat.sub_self] at e1
      exact .inr ⟨rfl, (Option.some.inj e1).symm⟩
  refine ⟨by rw [List.length_append, List.length_append, x.len]; rfl, fun i j a e1 e2 => ?_, fun i a v e1 e2 => ?_⟩
  · rcases at_ e1 with ⟨_, f1⟩ | ⟨f0, f1⟩
    · rcases at_ e2 with ⟨_, g1⟩ | ⟨_, g1⟩
      · exact x.inj i j a f1 g1
      · subst g1
        exact (hp (List.mem_of_getElem? f1)).elim
    · rcases at_ e2 with ⟨_, g1⟩ | ⟨g0, _⟩
      · subst f1
        exact (hp (List.mem_of_getElem? g1)).elim
      · rw [f0, g0]
  · rcases at_ e1 with ⟨hi, f1⟩ | ⟨f0, f1⟩
    · rw [List.getElem?_append_left (by rw [← x.len]; exact hi)] at e2
      exact (x.obj i a v f1 e2).monoT (.app φ [p]) ⟨fun _ _ h => h, fun _ _ _ h => h⟩ rfl
    · subst f1 f0
      rw [x.len, List.getElem?_append_right (Nat.le_refl _), Nat.sub_self] at e2
      have e2 : o = v := Option.some.inj e2
      subst e2; exact n
/-- an object changes -/
theorem Rel.set {i : Nat} {a : Addr} {u u' : HO} {o' : IO} (x : Rel K φ h H) (e1 : φ[i]? = some a) (hu : H a = some u) (n1 : ∀ xs, u ≠ .tup xs) (n2 : ∀ ob z, u ≠ .frz ob z)
    (n : OR K φ (upd H a u') a o') : Rel K φ (h.set i o') (upd H a u') := by
  refine ⟨by rw [List.length_set]; exact x.len, x.inj, fun j b v f1 f2 => ?_⟩
  by_cases hj : j = i
  · subst hj
    have hi : j < h.length := by rw [← x.len]; exact (List.getElem?_eq_some_iff.mp e1).1
    rw [List.getElem?_set_self hi] at f2
    have f2 : o' = v := Option.some.inj f2
    subst f2
    rw [e1] at f1
    have f1' : a = b := Option.some.inj f1
    rw [← f1']; exact n
  · rw [List.getElem?_set_ne (Ne.symm hj)] at f2
    have q := x.obj j b v f1 f2
    refine q.mono (.refl φ) (.set e1 hu n1 n2) (upd_ne fun e => ?_)
    subst e
    exact hj (x.inj j i b f1 e1)
end

/-- what is to hold of the value x, the heap being h: at whatever the layer has made of them -/
def Ct (K : PySem.W.Frag) (φ : List Addr) (h : IH) (H : Hp) (x : IV) (Q : VK) : Prop :=
  ∀ φ' H' w, Px φ φ' → Kp φ φ' H H' → Rel K φ' h H' → VR K φ' H' x w → Q w H'
/-- the slots -/
def SR (K : PySem.W.Frag) (φ : List Addr) (H : Hp) (σ : Sl) (τ : L2.St) : Prop :=
  σ.length = τ.length ∧ ∀ (i : Nat) (x : IV), σ[i]? = some (some x) → ∃ v, τ[i]? = some (some v) ∧ VR K φ H x v
section
variable {K : PySem.W.Frag} {φ φ' : List Addr} {H H' : Hp} {h h' : IH} {σ : Sl} {τ : L2.St} {x : IV} {v : V} {Q : VK}
theorem SR.mono (p : Px φ φ') (k : Kp φ φ' H H') (s : SR K φ H σ τ) : SR K φ' H' σ τ := ⟨s.1, fun i x e => by
  obtain ⟨v, e1, r⟩ := s.2 i x e
  exact ⟨v, e1, r.mono p k⟩⟩
theorem SR.set (s : SR K φ H σ τ) (i : Nat) (r : VR K φ H x v) : SR K φ H (σ.set i (some x)) (τ.set i (some v)) := by
  refine ⟨by rw [List.length_set, List.length_set]; exact s.1, fun j y e => ?_⟩
  by_cases hj : j = i
  · subst hj
    have hl : j < σ.length := by
      have := (List.getElem?_eq_some_iff.mp e).1
      rwa [List.length_set] at this
    rw [List.getElem?_set_self hl] at e
    have e' : x = y := Option.some.inj (Option.some.inj e)
    subst e'
    exact ⟨v, List.getElem?_set_self (by rw [← s.1]; exact hl), r⟩
  · rw [List.getElem?_set_ne (Ne.symm hj)] at e
    rw [List.getElem?_set_ne (Ne.symm hj)]
    exact s.2 j y e
theorem SR.wipe (s : SR K φ H σ τ) : ∀ own : List Nat, SR K φ H (wipeI σ own) (L2.wipe τ own)
  | [] => s
  | i :: own => by
    have ih := SR.wipe s own
    refine ⟨by show ((wipeI σ own).set i none).length = ((L2.wipe τ own).set i none).length; rw [List.length_set, List.length_set]; exact ih.1, fun j y e => ?_⟩
    have e : ((wipeI σ own).set i none)[j]? = some (some y) := e
    show ∃ v, ((L2.wipe τ own).set i none)[j]? = some (some v) ∧ _
    by_cases hj : j = i
    · subst hj
      have hl : j < (wipeI σ own).length := by
        have := (List.getElem?_eq_some_iff.mp e).1
        rwa [List.length_set] at this
      rw [List.getElem?_set_self hl] at e
      cases e
    · rw [List.getElem?_set_ne (Ne.symm hj)] at e
      rw [List.getElem?_set_ne (Ne.symm hj)]
      exact ih.2 j y e
theorem Ct.here (c : Ct K φ h H x Q) (r : Rel K φ h H) (q : VR K φ H x v) : Q v H := c φ H v (.refl φ) (.refl φ H) r q
theorem Ct.later (c : Ct K φ h' H x Q) (p : Px φ φ') (k : Kp φ φ' H H') : Ct K φ' h' H' x Q := fun φ2 H2 w p2 k2 r q => c φ2 H2 w (p.trans p2) (k.trans k2) r q
/-- a new list -/
theorem Ct.list {xs : List IV} {vs : List V} {p : Addr} (c : Ct K φ (h ++ [.lst xs]) H (.ref h.length) Q) (r : Rel K φ h H) (q : VRs K φ H xs vs) (hp : H p = none) : Q (.ref p) (upd H p (.lst vs)) := by
  refine c (φ ++ [p]) _ _ (.app φ [p]) (.new hp) (r.new hp ⟨vs, upd_same, q.mono (.app φ [p]) (.new hp)⟩) ?_
  rw [VR]
  refine ⟨p, ?_, rfl⟩
  rw [← r.len, List.getElem?_append_right (Nat.le_refl _), Nat.sub_self]; rfl
theorem Ct.tup {xs : List IV} {vs : List V} {p : Addr} (c : Ct K φ h H (.tup xs) Q) (r : Rel K φ h H) (q : VRs K φ H xs vs) (z : vs.length ≤ sizeLine) (hp : H p = none) : Q (.ref p) (upd H p (.tup vs)) := by
  refine c φ _ _ (.refl φ) (.newU hp) (r.newU hp) ?_
  rw [VR]
  exact ⟨p, vs, rfl, upd_same, q.mono (.refl φ) (.newU hp), z⟩
end
end Pi
end

section
set_option maxHeartbeats 8000000

/-! PiOps: the operations on values, by the layer's rules. -/
namespace Pi
open PySem PySem.Spec PyProof.Rows L2

theorem lim_le {n : Nat} (h : n ≤ LIM) : n ≤ sizeLine := Nat.le_trans h (by rw [sizeLine_eq]; decide)
theorem lim_lt {n : Nat} (h : n < LIM) : n < sizeLine := Nat.lt_of_lt_of_le h (by rw [sizeLine_eq]; decide)

section
variable {K : PySem.W.Frag} {φ φ' : List Addr} {H H' : Hp} {h h' : IH} {Q : VK}
/-- what a list of the interpreter is read as -/
theorem Rel.sqL {i : Nat} {a : Addr} {xs : List IV} (r : Rel K φ h H) (e1 : φ[i]? = some a) (e2 : h[i]? = some (.lst xs)) : ∃ vs, SqL K H a vs ∧ VRs K φ H xs vs ∧ xs.length = vs.length := by
  obtain ⟨vs, e, q⟩ := r.obj i a _ e1 e2
  exact ⟨vs, .inl (.inl e), q, q.length⟩
theorem Rel.lstV {v : IV} {w : V} {xs : List IV} (r : Rel K φ h H) (q : VR K φ H v w) (e : lstOf h v = some xs) : ∃ a vs, w = .ref a ∧ SqL K H a vs ∧ VRs K φ H xs vs ∧ xs.length = vs.length := by
  cases v with
  | ref i =>
    rw [VR] at q
    obtain ⟨a, e1, rfl⟩ := q
    unfold lstOf at e
    simp only at e
    split at e
    · rename_i ys ey
      cases e
      obtain ⟨vs, s, q, l⟩ := r.sqL e1 ey
      exact ⟨a, vs, rfl, s, q, l⟩
    · cases e
  | lsr ys =>
    rw [VR] at q
    obtain ⟨a, vs, rfl, s, q⟩ := q
    have e' : ys = xs := Option.some.inj e
    subst e'
    exact ⟨a, vs, rfl, frz_sql s, q, q.length⟩
  | non => nomatch e
  | bl _ => nomatch e
  | int _ => nomatch e
  | str _ => nomatch e
  | tup _ => nomatch e
theorem Rel.seqV {v : IV} {w : V} {xs : List IV} (r : Rel K φ h H) (q : VR K φ H v w) (e : seqOf h v = some xs) : ∃ a vs, w = .ref a ∧ (SqL K H a vs ∨ SqT K H a vs) ∧ VRs K φ H xs vs ∧ xs.length = vs.length := by
  cases v with
  | tup ys =>
    rw [VR] at q
    obtain ⟨a, vs, rfl, s, q, z⟩ := q
    have e' : ys = xs := Option.some.inj e
    subst e'
    exact ⟨a, vs, rfl, .inr (.inl (.inl s)), q, q.length⟩
  | ref i =>
    obtain ⟨a, vs, e1, s, q, l⟩ := r.lstV q (show lstOf h (.ref i) = some xs from e)
    exact ⟨a, vs, e1, .inl s, q, l⟩
  | lsr ys =>
    obtain ⟨a, vs, e1, s, q, l⟩ := r.lstV q (show lstOf h (.lsr ys) = some xs from e)
    exact ⟨a, vs, e1, .inl s, q, l⟩
  | non => nomatch e
  | bl _ => nomatch e
  | int _ => nomatch e
  | str _ => nomatch e
end

def rBin (K : PySem.W.Frag) (op : Operator) : R2 := fun x y H Q => ∃ φ h a b v h', Rel K φ h H ∧ VR K φ H a x ∧ VR K φ H b y ∧ binI op a b h = .ok v h' ∧ Ct K φ h' H v Q
def rCmp (K : PySem.W.Frag) (op : CmpOp) : R2 := fun x y H Q => ∃ φ h a b v h', Rel K φ h H ∧ VR K φ H a x ∧ VR K φ H b y ∧ cmpI op a b h = .ok v h' ∧ Ct K φ h' H v Q

theorem out_inj {α : Type} {a b : α} {h h' : IH} (e : Out.ok a h = Out.ok b h') : a = b ∧ h = h' := by
  cases e; exact ⟨rfl, rfl⟩
theorem small_log {i j : Int} (hi : small i = true) (hj : small j = true) : CMulW i j :=
  wide_mul (of_decide_eq_true hi) (of_decide_eq_true hj) (by decide) (by decide) (by decide)
theorem Ct.bl {K : PySem.W.Frag} {φ : List Addr} {H : Hp} {h : IH} {Q : VK} {b : Bool} (c : Ct K φ h H (.bl b) Q) (r : Rel K φ h H) : Q (.bl b) H := c.here r (by rw [VR])
theorem Ct.int {K : PySem.W.Frag} {φ : List Addr} {H : Hp} {h : IH} {Q : VK} {b : Int} (c : Ct K φ h H (.int b) Q) (r : Rel K φ h H) : Q (.int b) H := c.here r (by rw [VR])
theorem Ct.str {K : PySem.W.Frag} {φ : List Addr} {H : Hp} {h : IH} {Q : VK} {b : Str} (c : Ct K φ h H (.str b) Q) (r : Rel K φ h H) : Q (.str b) H := c.here r (by rw [VR])
theorem Ct.non {K : PySem.W.Frag} {φ : List Addr} {H : Hp} {h : IH} {Q : VK} (c : Ct K φ h H .non Q) (r : Rel K φ h H) : Q .non H := c.here r (by rw [VR])

theorem opBin {X : Cx} (op : Operator) : OpR X (binaryOp op) (rBin X.K op) := by
  intro pins s σ H x y v u Q I rx ry hh
  obtain ⟨φ, h, a, b, w, h', r, ra, rb, e, c⟩ := hh
  unfold binI at e
  split at e
  case h_1 i j =>
    obtain ⟨e1, e2⟩ := out_inj e
    subst e1 e2
    rw [VR] at ra rb
    exact op_add pins s σ H x y v u Q I rx ry ⟨i, j, ra, rb, c.int r⟩
  case h_2 p q =>
    split at e
    · rename_i hz
      obtain ⟨e1, e2⟩ := out_inj e
      subst e1 e2
      rw [VR] at ra rb
      exact op_add_str pins s σ H x y v u Q I rx ry ⟨p, q, ra, rb, lim_le hz, c.str r⟩
    · cases e
  case h_3 p q =>
    split at e
    · rename_i hz
      obtain ⟨e1, e2⟩ := out_inj e
      subst e1 e2
      rw [VR] at ra rb
      obtain ⟨a1, vs, rfl, s1, q1, z1⟩ := ra
      obtain ⟨a2, ws, rfl, s2, q2, z2⟩ := rb
      have l1 := q1.length
      have l2 := q2.length
      have hz' : vs.length + ws.length ≤ sizeLine := by rw [← l1, ← l2]; exact lim_le hz
      refine op_catA pins s σ H _ _ v u Q I rx ry ⟨a1, a2, vs, ws, rfl, rfl, .inl (.inl s1), .inl (.inl s2), hz', fun e0 => ?_, fun _ e0 => ?_, fun _ _ p' hp => ?_⟩
      · subst e0
        refine c.here r ?_
        rw [VR]
        exact ⟨a2, ws, rfl, s2, by simpa using q1.append q2, z2⟩
      · subst e0
        refine c.here r ?_
        rw [VR]
        exact ⟨a1, vs, rfl, s1, by simpa using q1.append q2, z1⟩
      · exact c.tup r (q1.append q2) (by rw [List.length_append]; exact hz') hp
    · cases e
  case h_4 i j =>
    split at e
    · rename_i xs ys e1 e2
      unfold newL at e
      split at e
      · rename_i hz
        obtain ⟨f1, f2⟩ := out_inj e
        subst f1 f2
        rw [VR] at ra rb
        obtain ⟨a1, g1, rfl⟩ := ra
        obtain ⟨a2, g2, rfl⟩ := rb
        obtain ⟨vs, k1, q1⟩ := r.obj i a1 _ g1 e1
        obtain ⟨ws, k2, q2⟩ := r.obj j a2 _ g2 e2
        have l1 := q1.length
        have l2 := q2.length
        refine op_cat pins s σ H _ _ v u Q I rx ry ⟨a1, a2, vs, ws, rfl, rfl, k1, k2, ?_, fun p hp => c.list r (q1.append q2) hp⟩
        rw [← l1, ← l2, ← List.length_append]
        exact lim_le hz
      · cases e
    · cases e
  case h_5 i j =>
    obtain ⟨e1, e2⟩ := out_inj e
    subst e1 e2
    rw [VR] at ra rb
    exact op_sub pins s σ H x y v u Q I rx ry ⟨i, j, ra, rb, c.int r⟩
  case h_6 i j =>
    split at e
    · rename_i hz
      rw [Bool.or_eq_true, Bool.and_eq_true] at hz
      obtain ⟨e1, e2⟩ := out_inj e
      subst e1 e2
      rw [VR] at ra rb
      rcases hz with hz | hz
      · have hz := of_decide_eq_true hz
        exact op_mul pins s σ H x y v u Q I rx ry ⟨i, j, ra, rb, show CMul i j from Or.inl ⟨by omega, by omega⟩, c.int r⟩
      · exact op_mulW pins s σ H x y v u Q I rx ry ⟨i, j, ra, rb, small_log hz.1 hz.2, c.int r⟩
    · cases e
  case h_7 i k =>
    split at e
    · rename_i xs e1
      split at e
      · rename_i hk
        unfold newL at e
        split at e
        · rename_i hz
          obtain ⟨f1, f2⟩ := out_inj e
          subst f1 f2
          simp only [VR] at ra rb
          obtain ⟨a1, g1, rfl⟩ := ra
          obtain ⟨vs, k1, q1⟩ := r.obj i a1 _ g1 e1
          have l1 := q1.length
          have hl : (List.replicate k.toNat xs).flatten.length = vs.length * k.toNat := by
            rw [List.length_flatten, List.map_replicate, List.sum_replicate_nat, l1, Nat.mul_comm]
          refine op_rep pins s σ H _ _ v u Q I rx ry ⟨a1, k, vs, rfl, rb, k1, by omega, by omega, by rw [← hl]; exact lim_le hz, fun p hp => c.list r (q1.flat _) hp⟩
        · cases e
      · cases e
    · cases e
  case h_8 i j =>
    split at e
    · rename_i hj
      split at e
      · rename_i hm
        obtain ⟨e1, e2⟩ := out_inj e
        subst e1 e2
        rw [VR] at ra rb
        exact op_fdivW pins s σ H x y v u Q I rx ry ⟨i, j, ra, rb, wide_div hj (of_decide_eq_true hm) (by decide) (by decide), c.int r⟩
      · cases e
    · split at e
      · split at e
        · rename_i hj hm
          obtain ⟨e1, e2⟩ := out_inj e
          subst e1 e2
          simp only [VR] at ra rb
          exact op_fdivN pins s σ H x y v u Q I rx ry ⟨i, j, ra, rb, ⟨by omega, by omega⟩, c.int r⟩
        · cases e
      · cases e
  case h_9 i j =>
    split at e
    · rename_i hj
      obtain ⟨e1, e2⟩ := out_inj e
      subst e1 e2
      rw [VR] at ra rb
      exact op_mod pins s σ H x y v u Q I rx ry ⟨i, j, ra, rb, hj, c.int r⟩
    · split at e
      · rename_i hj
        obtain ⟨e1, e2⟩ := out_inj e
        subst e1 e2
        rw [VR] at ra rb
        exact op_modN pins s σ H x y v u Q I rx ry ⟨i, j, ra, rb, by omega, c.int r⟩
      · cases e
  case h_10 i j =>
    split at e
    · rename_i hj
      obtain ⟨e1, e2⟩ := out_inj e
      subst e1 e2
      rw [VR] at ra rb
      exact op_pow pins s σ H x y v u Q I rx ry ⟨i, j, ra, rb, ⟨hj.1, hj.2.1, by have := hj.2.2; omega⟩, c.int r⟩
    · cases e
  case h_11 => cases e

/-! ### comparisons -/
theorem eqI_scal {K : PySem.W.Frag} {φ : List Addr} {H : Hp} {a b : IV} {x y : V} {t : Bool} (ra : VR K φ H a x) (rb : VR K φ H b y) (e : eqI a b = some t) : scal x y = true ∧ decide (x = y) = t := by
  unfold eqI at e
  split at e <;> first
    | (cases e; simp only [VR] at ra rb; subst ra; subst rb; exact ⟨rfl, by simp⟩)
    | cases e

/-! ### data -/
theorem allM_dp {K : PySem.W.Frag} {φ : List Addr} {H : Hp} {n : Nat} {f : IV → Option PyData} (hf : ∀ v w d, VR K φ H v w → f v = some d → Dp K H w d ∧ d.plain = true ∧ d.depth ≤ n) :
    ∀ (xs : List IV) (vs : List V) (ds : List PyData), VRs K φ H xs vs → allM f xs = some ds → DpAll K H vs ds ∧ PyData.plainAll ds = true ∧ PyData.depthAll ds ≤ n
  | [], vs, ds, r, e => by
    rw [VRs] at r
    have e' : [] = ds := Option.some.inj e
    subst r; subst e'
    exact ⟨.nil, rfl, Nat.zero_le _⟩
  | x :: xs, vs, ds, r, e => by
    rw [VRs] at r
    obtain ⟨v, s, rfl, r1, r2⟩ := r
    unfold allM at e
    split at e
    · rename_i y ey
      cases q : allM f xs with
      | none => rw [q] at e; cases e
      | some es =>
        rw [q] at e
        have e' : y :: es = ds := Option.some.inj e
        subst e'
        obtain ⟨a1, a2, a3⟩ := hf x v y r1 ey
        obtain ⟨b1, b2, b3⟩ := allM_dp hf xs s es r2 q
        refine ⟨.cons a1 b1, ?_, ?_⟩
        · rw [PyData.plainAll, a2, b2]; rfl
        · rw [PyData.depthAll]; exact Nat.max_le.mpr ⟨a3, b3⟩
    · cases e
theorem data_dp {K : PySem.W.Frag} {φ : List Addr} {h : IH} {H : Hp} (R : Rel K φ h H) : ∀ (n : Nat) (v : IV) (w : V) (d : PyData), VR K φ H v w → dataOf h n v = some d → Dp K H w d ∧ d.plain = true ∧ d.depth ≤ n := by
  intro n
  induction n with
  | zero =>
    intro v w d r e
    cases v with
    | non => rw [VR] at r; subst r; cases e; exact ⟨.non, rfl, Nat.zero_le _⟩
    | bl b => rw [VR] at r; subst r; cases e; exact ⟨.bl b, rfl, Nat.zero_le _⟩
    | int b => rw [VR] at r; subst r; cases e; exact ⟨.int b, rfl, Nat.zero_le _⟩
    | str b => rw [VR] at r; subst r; cases e; exact ⟨.str b, rfl, Nat.zero_le _⟩
    | tup xs => cases e
    | lsr xs => cases e
    | ref i => cases e
  | succ n ih =>
    intro v w d r e
    cases v with
    | non => rw [VR] at r; subst r; cases e; exact ⟨.non, rfl, Nat.zero_le _⟩
    | bl b => rw [VR] at r; subst r; cases e; exact ⟨.bl b, rfl, Nat.zero_le _⟩
    | int b => rw [VR] at r; subst r; cases e; exact ⟨.int b, rfl, Nat.zero_le _⟩
    | str b => rw [VR] at r; subst r; cases e; exact ⟨.str b, rfl, Nat.zero_le _⟩
    | tup xs =>
      rw [VR] at r
      obtain ⟨a, vs, rfl, s, q, z⟩ := r
      have e : (allM (dataOf h n) xs).map PyData.tuple = some d := e
      cases q' : allM (dataOf h n) xs with
      | none => rw [q'] at e; cases e
      | some ds =>
        rw [q'] at e
        have e' : PyData.tuple ds = d := Option.some.inj e
        subst e'
        obtain ⟨b1, b2, b3⟩ := allM_dp ih xs vs ds q q'
        refine ⟨.tup (.inl (.inl s)) b1, ?_, ?_⟩
        · rw [PyData.plain]; exact b2
        · rw [PyData.depth]; exact Nat.succ_le_succ b3
    | lsr xs =>
      rw [VR] at r
      obtain ⟨a, vs, rfl, s, q⟩ := r
      have e : (allM (dataOf h n) xs).map PyData.list = some d := e
      cases q' : allM (dataOf h n) xs with
      | none => rw [q'] at e; cases e
      | some ds =>
        rw [q'] at e
        have e' : PyData.list ds = d := Option.some.inj e
        subst e'
        obtain ⟨b1, b2, b3⟩ := allM_dp ih xs vs ds q q'
        refine ⟨.lst (frz_sql s) b1, ?_, ?_⟩
        · rw [PyData.plain]; exact b2
        · rw [PyData.depth]; exact Nat.succ_le_succ b3
    | ref i =>
      rw [VR] at r
      obtain ⟨a, e1, rfl⟩ := r
      unfold dataOf at e
      split at e
      · rename_i xs e2
        obtain ⟨vs, s, q, _⟩ := R.sqL e1 e2
        cases q' : allM (dataOf h n) xs with
        | none => rw [q'] at e; cases e
        | some ds =>
          rw [q'] at e
          have e' : PyData.list ds = d := Option.some.inj e
          subst e'
          obtain ⟨b1, b2, b3⟩ := allM_dp ih xs vs ds q q'
          refine ⟨.lst s b1, ?_, ?_⟩
          · rw [PyData.plain]; exact b2
          · rw [PyData.depth]; exact Nat.succ_le_succ b3
      · cases e

theorem keyOf_kV {K : PySem.W.Frag} {φ : List Addr} {H : Hp} {a : IV} {x : V} {k : Key} (r : VR K φ H a x) (e : keyOf a = some k) : x = kV k := by
  cases a with
  | int i => rw [VR] at r; cases e; exact r
  | str i => rw [VR] at r; cases e; exact r
  | non => cases e
  | bl _ => cases e
  | tup _ => cases e
  | lsr _ => cases e
  | ref _ => cases e
theorem has_valV {κ : Type} [DecidableEq κ] {K : PySem.W.Frag} {φ : List Addr} {H : Hp} (k : κ) : ∀ {kvs : List (κ × IV)} {ws : List (κ × V)}, KR K φ H kvs ws → (valV ws k).isSome = has k kvs
  | [], ws, r => by rw [KR] at r; subst r; rfl
  | (c, x) :: kvs, ws, r => by
    rw [KR] at r
    obtain ⟨v, s, rfl, _, r2⟩ := r
    have ih := has_valV k r2
    unfold valV at ih ⊢
    unfold has
    by_cases hc : c = k
    · simp [hc]
    · simp only [List.find?_cons, hc, decide_false, if_false, Bool.false_eq_true]
      exact ih

theorem opCmp {X : Cx} (op : CmpOp) (hu : X.A.units + 64 < cLine) : OpR X (compareOp op) (rCmp X.K op) := by
  intro pins s σ H x y v u Q I rx ry hh
  obtain ⟨φ, h, a, b, w, h', r, ra, rb, e0, c⟩ := hh
  have eqs : ∀ (t : Bool), eqH h a b = some t → (Q (.bl t) H → wpAny (model X.prog X.w) X.A (compareOp .Eq v u) (EP X pins σ Q) X.xe s) ∧ (Q (.bl !t) H → wpAny (model X.prog X.w) X.A (compareOp .NotEq v u) (EP X pins σ Q) X.xe s) := fun t e => by
    clear e0 c
    unfold eqH at e
    split at e
    · rename_i r0 e0
      cases e
      obtain ⟨h1, h2⟩ := eqI_scal ra rb e0
      exact ⟨fun q => op_eq pins s σ H x y v u Q I rx ry ⟨h1, by rw [h2]; exact q⟩, fun q => op_ne pins s σ H x y v u Q I rx ry ⟨h1, by rw [h2]; exact q⟩⟩
    · split at e
      · rename_i d d' e1 e2
        cases e
        obtain ⟨a1, a2, a3⟩ := data_dp r DEEP a x d ra e1
        obtain ⟨b1, b2, b3⟩ := data_dp r DEEP b y d' rb e2
        obtain ⟨as, r1⟩ := Dp.reads I d x v a1 rx
        obtain ⟨bs, r2⟩ := Dp.reads I d' y u b1 ry
        have hd : X.A.units + min d.depth d'.depth < cLine := by
          have : min d.depth d'.depth ≤ DEEP := Nat.le_trans (Nat.min_le_left _ _) a3
          have : DEEP = 32 := rfl
          omega
        exact ⟨fun q => SeqAt.eq_plain r1 r2 a2 b2 hd ⟨.bl _, H, I, rfl, q⟩, fun q => SeqAt.ne_plain r1 r2 a2 b2 hd ⟨.bl _, H, I, rfl, q⟩⟩
      · cases e
  have ins : ∀ (t : Bool), inI h a b = some t → (Q (.bl t) H → wpAny (model X.prog X.w) X.A (compareOp .In v u) (EP X pins σ Q) X.xe s) ∧ (Q (.bl !t) H → wpAny (model X.prog X.w) X.A (compareOp .NotIn v u) (EP X pins σ Q) X.xe s) := fun t e => by
    clear e0 c eqs
    have lists : ∀ (xs : List IV) (d : PyData) (es : List PyData) (p : Addr) (vs : List V), y = .ref p → (SqL X.K H p vs ∨ SqT X.K H p vs) → VRs X.K φ H xs vs → dataOf h DEEP a = some d → allM (dataOf h DEEP) xs = some es → (es.any fun y => PyData.eqv y d) = t →
        (Q (.bl t) H → wpAny (model X.prog X.w) X.A (compareOp .In v u) (EP X pins σ Q) X.xe s) ∧ (Q (.bl !t) H → wpAny (model X.prog X.w) X.A (compareOp .NotIn v u) (EP X pins σ Q) X.xe s) := fun xs d es p vs ey hp q e1 e2 et => by
      subst ey
      obtain ⟨a1, a2, a3⟩ := data_dp r DEEP a x d ra e1
      obtain ⟨b1, b2, b3⟩ := allM_dp (data_dp r DEEP) xs vs es q e2
      obtain ⟨as, r1⟩ := Dp.reads I d x v a1 rx
      have hd : X.A.units + 1 + min (PyData.depthAll es) d.depth < cLine := by
        have : min (PyData.depthAll es) d.depth ≤ DEEP := Nat.le_trans (Nat.min_le_left _ _) b3
        have : DEEP = 32 := rfl
        omega
      rcases hp with hp | hp
      · obtain ⟨bs, r2⟩ := Dp.reads I (.list es) (.ref p) u (.lst hp b1) ry
        exact ⟨fun q => SeqAt.in_list_data r2 r1 b2 a2 hd ⟨.bl _, H, I, by rw [et]; rfl, q⟩, fun q => SeqAt.notIn_list_data r2 r1 b2 a2 hd ⟨.bl _, H, I, by rw [et]; rfl, q⟩⟩
      · obtain ⟨bs, r2⟩ := Dp.reads I (.tuple es) (.ref p) u (.tup hp b1) ry
        exact ⟨fun q => SeqAt.in_tuple_data r2 r1 b2 a2 hd ⟨.bl _, H, I, by rw [et]; rfl, q⟩, fun q => SeqAt.notIn_tuple_data r2 r1 b2 a2 hd ⟨.bl _, H, I, by rw [et]; rfl, q⟩⟩
    unfold inI at e
    split at e
    · rename_i p
      have rb' := rb
      rw [VR] at rb'
      obtain ⟨ap, e1, rfl⟩ := rb'
      split at e
      · rename_i kvs e2
        cases q : keyOf a with
        | none => rw [q] at e; cases e
        | some k =>
          rw [q] at e
          have e : has k kvs = t := Option.some.inj e
          obtain ⟨ws, k1, k2⟩ := r.obj p ap _ e1 e2
          have hx := keyOf_kV ra q
          have g : DGet H ap x (valV ws k) := hx ▸ DGet.k k1
          have hv := has_valV k k2
          cases (show u = Value.ref ap from ry)
          refine ⟨fun q' => d_in (by omega) I g rx fun s3 I3 => ⟨.bl _, H, I3, rfl, by rw [hv, e]; exact q'⟩, fun q' => d_notIn (by omega) I g rx fun s3 I3 => ⟨.bl _, H, I3, rfl, by rw [hv, e]; exact q'⟩⟩
      · rename_i xs e2
        split at e
        · rename_i d es f1 f2
          obtain ⟨vs, sq, q, _⟩ := r.sqL e1 e2
          exact lists xs d es ap vs rfl (.inl sq) q f1 f2 (Option.some.inj e)
        · cases e
      · cases e
    · rename_i xs
      split at e
      · rename_i d es f1 f2
        have rb' := rb
        rw [VR] at rb'
        obtain ⟨ap, vs, rfl, sq, q, _⟩ := rb'
        exact lists xs d es ap vs rfl (.inr (.inl (.inl sq))) q f1 f2 (Option.some.inj e)
      · cases e
    · cases e
  have e := e0
  clear e0
  cases op with
  | Eq =>
    have e : (match eqH h a b with | some r => Out.ok (.bl r) h | none => .stuck) = Out.ok w h' := e
    split at e
    · rename_i t et
      obtain ⟨f1, f2⟩ := out_inj e
      subst f1 f2
      exact (eqs t et).1 (c.bl r)
    · cases e
  | NotEq =>
    have e : (match eqH h a b with | some r => Out.ok (.bl !r) h | none => .stuck) = Out.ok w h' := e
    split at e
    · rename_i t et
      obtain ⟨f1, f2⟩ := out_inj e
      subst f1 f2
      exact (eqs t et).2 (c.bl r)
    · cases e
  | Lt =>
    unfold cmpI at e
    simp only at e
    split at e
    · obtain ⟨f1, f2⟩ := out_inj e
      subst f1 f2
      rw [VR] at ra rb
      exact op_lt pins s σ H x y v u Q I rx ry ⟨_, _, ra, rb, c.bl r⟩
    · cases e
  | LtE =>
    unfold cmpI at e
    simp only at e
    split at e
    · obtain ⟨f1, f2⟩ := out_inj e
      subst f1 f2
      rw [VR] at ra rb
      exact op_le pins s σ H x y v u Q I rx ry ⟨_, _, ra, rb, c.bl r⟩
    · cases e
  | Gt =>
    unfold cmpI at e
    simp only at e
    split at e
    · obtain ⟨f1, f2⟩ := out_inj e
      subst f1 f2
      rw [VR] at ra rb
      exact op_gt pins s σ H x y v u Q I rx ry ⟨_, _, ra, rb, c.bl r⟩
    · cases e
  | GtE =>
    unfold cmpI at e
    simp only at e
    split at e
    · obtain ⟨f1, f2⟩ := out_inj e
      subst f1 f2
      rw [VR] at ra rb
      exact op_ge pins s σ H x y v u Q I rx ry ⟨_, _, ra, rb, c.bl r⟩
    · cases e
  | Is =>
    unfold cmpI at e
    simp only at e
    split at e
    · obtain ⟨f1, f2⟩ := out_inj e
      subst f1 f2
      have hx : a.isNon = decide (x = V.non) := by
        clear e c eqs ins
        cases a <;> simp only [VR] at ra
        · subst ra; rfl
        · subst ra; rfl
        · subst ra; rfl
        · subst ra; rfl
        · obtain ⟨_, _, rfl, _⟩ := ra; rfl
        · obtain ⟨_, _, rfl, _⟩ := ra; rfl
        · obtain ⟨_, _, rfl⟩ := ra; rfl
      rw [VR] at rb
      exact op_isN pins s σ H x y v u Q I rx ry ⟨rb, by rw [← hx]; exact c.bl r⟩
    · split at e
      · obtain ⟨f1, f2⟩ := out_inj e
        subst f1 f2
        rw [VR] at ra rb
        subst ra rb
        exact op_is_bl pins s σ H _ _ v u Q I rx ry ⟨_, _, rfl, rfl, c.bl r⟩
      · cases e
    · cases e
  | IsNot =>
    unfold cmpI at e
    simp only at e
    split at e
    · obtain ⟨f1, f2⟩ := out_inj e
      subst f1 f2
      have hx : (!a.isNon) = !decide (x = V.non) := by
        clear e c eqs ins
        cases a <;> simp only [VR] at ra
        · subst ra; rfl
        · subst ra; rfl
        · subst ra; rfl
        · subst ra; rfl
        · obtain ⟨_, _, rfl, _⟩ := ra; rfl
        · obtain ⟨_, _, rfl, _⟩ := ra; rfl
        · obtain ⟨_, _, rfl⟩ := ra; rfl
      rw [VR] at rb
      exact op_notN pins s σ H x y v u Q I rx ry ⟨rb, by rw [← hx]; exact c.bl r⟩
    · split at e
      · obtain ⟨f1, f2⟩ := out_inj e
        subst f1 f2
        rw [VR] at ra rb
        subst ra rb
        exact op_isnot_bl pins s σ H _ _ v u Q I rx ry ⟨_, _, rfl, rfl, c.bl r⟩
      · cases e
    · cases e
  | In =>
    have e : (match inI h a b with | some r => Out.ok (.bl r) h | none => .stuck) = Out.ok w h' := e
    split at e
    · rename_i t et
      obtain ⟨f1, f2⟩ := out_inj e
      subst f1 f2
      exact (ins t et).1 (c.bl r)
    · cases e
  | NotIn =>
    have e : (match inI h a b with | some r => Out.ok (.bl !r) h | none => .stuck) = Out.ok w h' := e
    split at e
    · rename_i t et
      obtain ⟨f1, f2⟩ := out_inj e
      subst f1 f2
      exact (ins t et).2 (c.bl r)
    · cases e
end Pi
end

section
set_option maxHeartbeats 8000000

/-! PiOps2: items, slices, stores, truth, built-ins and methods, by the layer's rules. -/
namespace Pi
open PySem PySem.Spec PyProof.Rows L2

theorem atI_map {K : PySem.W.Frag} {φ : List Addr} {H : Hp} {xs : List IV} {vs : List V} {i : Int} {x : IV} (q : VRs K φ H xs vs) (e : atI xs i = some x) : ∃ v, atI vs i = some v ∧ VR K φ H x v := by
  unfold atI at e ⊢
  rw [← q.length]
  cases h : ixN xs.length i with
  | none => rw [h] at e; cases e
  | some j =>
    rw [h] at e
    exact q.get e
def rIxI (K : PySem.W.Frag) : R2 := fun x y H Q => ∃ φ h a b v h', Rel K φ h H ∧ VR K φ H a x ∧ VR K φ H b y ∧ ixI a b h = .ok v h' ∧ Ct K φ h' H v Q
theorem opIx {X : Cx} : IxR X (rIxI X.K) := by
  intro value slice pins s σ H x y v u Q I rx ry hh hs
  obtain ⟨φ, h, a, b, w, h', r, ra, rb, e, c⟩ := hh
  unfold ixI at e
  split at e
  · rename_i k
    split at e
    · rename_i xs es
      split at e
      · rename_i z ez
        obtain ⟨f1, f2⟩ := out_inj e
        subst f1 f2
        rw [VR] at rb
        obtain ⟨p, vs, e1, sq, q, _⟩ := r.seqV ra es
        obtain ⟨t, et, rt⟩ := atI_map q ez
        rcases sq with sq | sq
        · exact ix_list value slice pins s σ H x y v u Q I rx ry ⟨p, vs, k, t, e1, rb, sq, et, c.here r rt⟩ hs
        · exact ix_tup value slice pins s σ H x y v u Q I rx ry ⟨p, vs, k, t, e1, rb, sq, et, c.here r rt⟩ hs
      · cases e
    · cases e
  · cases e

def rSlI (K : PySem.W.Frag) : V → Option Int → Option Int → Hp → VK → Prop := fun x lo hi H Q => ∃ φ h a v h', Rel K φ h H ∧ VR K φ H a x ∧ slI a lo hi h = .ok v h' ∧ Ct K φ h' H v Q
theorem VRs.cut {K : PySem.W.Frag} {φ : List Addr} {H : Hp} {xs : List IV} {vs : List V} (q : VRs K φ H xs vs) (lo hi : Option Int) : VRs K φ H (cutI xs lo hi) (cutV vs lo hi) := by
  unfold cutI cutV
  rw [q.length]
  exact (q.drop _).take _
theorem opSl {X : Cx} : SlR X (rSlI X.K) := by
  intro pins s σ H x v vl vu lo hi sl Q I rx hs pl pu hh
  obtain ⟨φ, h, a, w, h', r, ra, e, c⟩ := hh
  have lists : ∀ xs, lstOf h a = some xs → Out.ok (IV.ref h.length) (h ++ [.lst (cutI xs lo hi)]) = Out.ok w h' → ∃ T id, typeLookup (.type T) "__getitem__" = pure (some (.builtin id)) ∧ s.TypeIs v T ∧ wpAny (model X.prog X.w) X.A (getItem v (.ref sl)) (EP X pins σ Q) X.xe s := fun xs es e => by
    obtain ⟨f1, f2⟩ := out_inj e
    subst f1 f2
    obtain ⟨p, vs, e1, sq, q, _⟩ := r.lstV ra es
    exact sl_list pins s σ H x v vl vu lo hi sl Q I rx hs pl pu ⟨p, vs, e1, sq, fun p' hp => c.list r (q.cut lo hi) hp⟩
  unfold slI at e
  split at e
  · rename_i xs
    obtain ⟨f1, f2⟩ := out_inj e
    subst f1 f2
    rw [VR] at ra
    obtain ⟨p, vs, e1, sq, q, z⟩ := ra
    have qc := q.cut lo hi
    have lc := cutV_length vs lo hi
    refine sl_tupA pins s σ H x v vl vu lo hi sl Q I rx hs pl pu ⟨p, vs, e1, .inl (.inl sq), fun w => ?_, fun _ p' hp => c.tup r qc (Nat.le_trans lc z) hp⟩
    refine c.here r ?_
    rw [VR]
    refine ⟨p, vs, rfl, sq, ?_, z⟩
    have : cutV vs lo hi = vs := by
      unfold cutV
      rw [w.1, w.2, List.drop_zero, Nat.sub_zero, List.take_length]
    rw [this] at qc
    exact qc
  · split at e
    · rename_i xs es
      exact lists xs es e
    · cases e

def rSetI (K : PySem.W.Frag) : TSet := fun o i v H Q => ∃ φ h a b z h', Rel K φ h H ∧ VR K φ H a o ∧ VR K φ H b i ∧ VR K φ H z v ∧ setI a b z h = .ok () h' ∧ ∀ φ' H', Px φ φ' → Kp φ φ' H H' → Rel K φ' h' H' → Q H'
theorem opSet {X : Cx} : PSet X (rSetI X.K) := by
  intro pins s σ H o i v ov iv u Q I ro ri rv hh
  obtain ⟨φ, h, a, b, z, h', r, ra, rb, rz, e, c⟩ := hh
  unfold setI at e
  split at e
  · rename_i n k
    split at e
    · rename_i xs ex
      split at e
      · rename_i j ej
        obtain ⟨_, f2⟩ := out_inj e
        subst f2
        simp only [VR] at ra rb
        obtain ⟨p, e1, rfl⟩ := ra
        obtain ⟨vs, k1, q⟩ := r.obj n p _ e1 ex
        have nt : ∀ ys, HO.lst vs ≠ .tup ys := fun _ z => nomatch z
        have nf : ∀ ob y, HO.lst vs ≠ .frz ob y := fun _ _ z => nomatch z
        have kp : Kp φ φ H (upd H p (.lst (vs.set j v))) := .set e1 k1 nt nf
        refine set_list pins s σ H _ i v ov iv u Q I ro ri rv ⟨p, vs, k, j, rfl, rb, k1, by rw [← q.length]; exact ej, c φ _ (.refl φ) kp ?_⟩
        exact r.set e1 k1 nt nf ⟨_, upd_same, (VRs.set rz j q).mono (.refl φ) kp⟩
      · cases e
    · cases e
  · cases e

theorem truV {K : PySem.W.Frag} {φ : List Addr} {H : Hp} {h : IH} {a : IV} {x : V} {t : Bool} (r : Rel K φ h H) (ra : VR K φ H a x) (e : truI a h = some t) : TruV K x H t := by
  have emp : ∀ {xs : List IV} {vs : List V}, xs.length = vs.length → xs.isEmpty = vs.isEmpty := fun {xs vs} l => by
    cases xs <;> cases vs <;> first | rfl | cases l
  cases a with
  | non => rw [VR] at ra; subst ra; cases e; rfl
  | bl b => rw [VR] at ra; subst ra; cases e; rfl
  | int b => rw [VR] at ra; subst ra; cases e; rfl
  | str b =>
    rw [VR] at ra
    subst ra
    unfold truI at e
    simp only at e
    split at e
    · rename_i hz
      cases e
      exact ⟨lim_le hz, rfl⟩
    · cases e
  | tup xs =>
    rw [VR] at ra
    obtain ⟨p, vs, rfl, s, q, _⟩ := ra
    cases e
    exact .inr (.inl ⟨vs, .inl (.inl s), by rw [emp q.length]⟩)
  | lsr xs =>
    rw [VR] at ra
    obtain ⟨p, vs, rfl, s, q⟩ := ra
    cases e
    exact .inl ⟨vs, frz_sql s, by rw [emp q.length]⟩
  | ref i =>
    rw [VR] at ra
    obtain ⟨p, e1, rfl⟩ := ra
    unfold truI at e
    simp only at e
    split at e
    · rename_i xs ex
      cases e
      obtain ⟨vs, s, q, l⟩ := r.sqL e1 ex
      exact .inl ⟨vs, s, by rw [emp l]⟩
    · rename_i xs ex
      cases e
      obtain ⟨ws, k1, k2⟩ := r.obj i p _ e1 ex
      have l := k2.length
      refine .inr (.inr ⟨ws, k1, ?_⟩)
      cases xs <;> cases ws <;> first | rfl | cases l
    · cases e

/-! ### built-ins -/
def rBlt (K : PySem.W.Frag) (f : Bt) : List V → Hp → VK → Prop := fun xs H Q => ∃ φ h ivs v h', Rel K φ h H ∧ VRs K φ H ivs xs ∧ bltI f ivs h = .ok v h' ∧ Ct K φ h' H v Q
theorem VRs.one_inv {K : PySem.W.Frag} {φ : List Addr} {H : Hp} {x : IV} {vs : List V} (q : VRs K φ H [x] vs) : ∃ v, vs = [v] ∧ VR K φ H x v := by
  rw [VRs] at q
  obtain ⟨v, r, rfl, q1, q2⟩ := q
  rw [VRs] at q2
  subst q2
  exact ⟨v, rfl, q1⟩
theorem VRs.two_inv {K : PySem.W.Frag} {φ : List Addr} {H : Hp} {x y : IV} {vs : List V} (q : VRs K φ H [x, y] vs) : ∃ v u, vs = [v, u] ∧ VR K φ H x v ∧ VR K φ H y u := by
  rw [VRs] at q
  obtain ⟨v, r, rfl, q1, q2⟩ := q
  obtain ⟨u, rfl, q3⟩ := q2.one_inv
  exact ⟨v, u, rfl, q1, q3⟩
theorem srt_eq {ns ns' : List Int} (pm : ns'.Perm ns) (pw : ns'.Pairwise (· ≤ ·)) : ns' = srt ns := by
  have p2 : (srt ns).Perm ns := List.mergeSort_perm _ _
  have w2 : (srt ns).Pairwise (· ≤ ·) := (List.pairwise_mergeSort (fun a b c h1 h2 => by simp at *; omega) (fun a b => by simp; omega) ns).imp fun h => by simpa using h
  exact List.Perm.eq_of_pairwise (fun a b _ _ h1 h2 => Int.le_antisymm h1 h2) pw w2 (pm.trans p2.symm)
theorem opBlt {X : Cx} (hc : X.calm = true) (f : Bt) : CallR X f.value (rBlt X.K f) := by
  intro pins s σ H xs us Q I rs hh
  obtain ⟨φ, h, ivs, w, h', r, qs, e, c⟩ := hh
  cases f with
  | abs =>
    unfold bltI at e
    simp only at e
    split at e
    · obtain ⟨f1, f2⟩ := out_inj e
      subst f1 f2
      obtain ⟨v, rfl, q⟩ := qs.one_inv
      rw [VR] at q
      subst q
      exact call_abs pins s σ H _ us Q I rs ⟨_, rfl, c.int r⟩
    · cases e
  | len =>
    unfold bltI at e
    simp only at e
    split at e
    · split at e
      · rename_i hz
        obtain ⟨f1, f2⟩ := out_inj e
        subst f1 f2
        obtain ⟨v, rfl, q⟩ := qs.one_inv
        rw [VR] at q
        subst q
        exact call_len_str pins s σ H _ us Q I rs ⟨_, rfl, lim_le hz, c.int r⟩
      · cases e
    · obtain ⟨f1, f2⟩ := out_inj e
      subst f1 f2
      obtain ⟨v, rfl, q⟩ := qs.one_inv
      rw [VR] at q
      obtain ⟨p, vs, rfl, sq, q, _⟩ := q
      refine call_len_seq pins s σ H _ us Q I rs ⟨p, vs, rfl, .inr (.inl (.inl sq)), ?_⟩
      rw [← q.length]
      exact c.int r
    · obtain ⟨f1, f2⟩ := out_inj e
      subst f1 f2
      obtain ⟨v, rfl, q⟩ := qs.one_inv
      rw [VR] at q
      obtain ⟨p, vs, rfl, sq, q⟩ := q
      refine call_len_seq pins s σ H _ us Q I rs ⟨p, vs, rfl, .inl (frz_sql sq), ?_⟩
      rw [← q.length]
      exact c.int r
    · rename_i i
      obtain ⟨v, rfl, q⟩ := qs.one_inv
      rw [VR] at q
      obtain ⟨p, e1, rfl⟩ := q
      split at e
      · rename_i ys ey
        obtain ⟨f1, f2⟩ := out_inj e
        subst f1 f2
        obtain ⟨vs, sq, q, l⟩ := r.sqL e1 ey
        refine call_len_seq pins s σ H _ us Q I rs ⟨p, vs, rfl, .inl sq, ?_⟩
        rw [← l]
        exact c.int r
      · rename_i ys ey
        obtain ⟨f1, f2⟩ := out_inj e
        subst f1 f2
        obtain ⟨ws, k1, k2⟩ := r.obj i p _ e1 ey
        refine call_lenD pins s σ H _ us Q I rs ⟨p, ws, rfl, k1, ?_⟩
        rw [← k2.length]
        exact c.int r
      · rename_i ys ey
        split at e
        · rename_i hz
          obtain ⟨f1, f2⟩ := out_inj e
          subst f1 f2
          have k1 : H p = some (.set (fun k => ys.any (· == k)) ys.length) := r.obj i p _ e1 ey
          obtain ⟨o, es, ep, t, ho, hex, hd, _, _, _, hf, hn⟩ := (I.hok p _ k1 : s.heap.SetOf _ p _ _)
          rw [Vals.ref1 rs]
          refine PySem.call_len_set ho hex hd hf (by rw [hn]; unfold LIM at hz; omega) ⟨.int ys.length, H, I.tok _, ⟨_, by rw [hn]⟩, c.int r⟩
        · cases e
      · cases e
    · cases e
  | list =>
    unfold bltI at e
    simp only at e
    split at e
    · split at e
      · rename_i ys ey
        obtain ⟨f1, f2⟩ := out_inj e
        subst f1 f2
        obtain ⟨v, rfl, q⟩ := qs.one_inv
        obtain ⟨p, vs, rfl, sq, q, _⟩ := r.seqV q ey
        exact call_list_of pins s σ H _ us Q I rs ⟨p, vs, rfl, sq, fun l hl => c.list r q hl⟩
      · cases e
    · cases e
  | tuple =>
    unfold bltI at e
    simp only at e
    split at e
    · rename_i ys
      obtain ⟨f1, f2⟩ := out_inj e
      subst f1 f2
      obtain ⟨v, rfl, q⟩ := qs.one_inv
      have q0 := q
      rw [VR] at q0
      obtain ⟨p, vs, rfl, sq, q1, z⟩ := q0
      exact call_tuple_of pins s σ H _ us Q I rs ⟨p, vs, rfl, .inr ⟨.inl (.inl sq), c.here r q⟩⟩
    · rename_i i
      split at e
      · rename_i ys ey
        obtain ⟨f1, f2⟩ := out_inj e
        subst f1 f2
        obtain ⟨v, rfl, q⟩ := qs.one_inv
        obtain ⟨p, vs, rfl, sq, q, _⟩ := r.lstV q ey
        obtain ⟨_, _, _, z⟩ := I.list sq
        exact call_tuple_of pins s σ H _ us Q I rs ⟨p, vs, rfl, .inl ⟨sq, fun l hl => c.tup r q z hl⟩⟩
      · cases e
    · cases e
  | int =>
    unfold bltI at e
    simp only at e
    split at e
    · obtain ⟨f1, f2⟩ := out_inj e
      subst f1 f2
      obtain ⟨v, rfl, q⟩ := qs.one_inv
      rw [VR] at q
      subst q
      exact call_int1 pins s σ H _ us Q I rs (.inl ⟨_, rfl, c.int r⟩)
    · obtain ⟨f1, f2⟩ := out_inj e
      subst f1 f2
      obtain ⟨v, rfl, q⟩ := qs.one_inv
      rw [VR] at q
      subst q
      exact call_int1 pins s σ H _ us Q I rs (.inr ⟨_, rfl, c.int r⟩)
    · cases e
  | max =>
    unfold bltI at e
    simp only at e
    split at e
    · obtain ⟨f1, f2⟩ := out_inj e
      subst f1 f2
      obtain ⟨v, u, rfl, q1, q2⟩ := qs.two_inv
      rw [VR] at q1 q2
      subst q1 q2
      exact call_max2 hc pins s σ H _ us Q I rs ⟨_, _, rfl, c.int r⟩
    · cases e
  | min =>
    unfold bltI at e
    simp only at e
    split at e
    · obtain ⟨f1, f2⟩ := out_inj e
      subst f1 f2
      obtain ⟨v, u, rfl, q1, q2⟩ := qs.two_inv
      rw [VR] at q1 q2
      subst q1 q2
      exact call_min2 hc pins s σ H _ us Q I rs ⟨_, _, rfl, c.int r⟩
    · cases e
  | sum =>
    unfold bltI at e
    simp only at e
    split at e
    · rename_i z
      split at e
      · rename_i ns en
        obtain ⟨f1, f2⟩ := out_inj e
        subst f1 f2
        obtain ⟨v, rfl, q⟩ := qs.one_inv
        obtain ⟨ys, ey, ei⟩ := Option.bind_eq_some_iff.mp en
        obtain ⟨p, vs, rfl, sq, q, _⟩ := r.lstV q ey
        have ev := q.ints ei
        subst ev
        exact cr_sum hc pins s σ H _ us Q I rs ⟨p, ns, rfl, sq, c.int r⟩
      · cases e
    · cases e
  | all =>
    unfold bltI at e
    simp only at e
    split at e
    · rename_i z
      split at e
      · rename_i ns en
        obtain ⟨f1, f2⟩ := out_inj e
        subst f1 f2
        obtain ⟨v, rfl, q⟩ := qs.one_inv
        obtain ⟨ys, ey, ei⟩ := Option.bind_eq_some_iff.mp en
        obtain ⟨p, vs, rfl, sq, q, _⟩ := r.lstV q ey
        have ev := q.bls ei
        subst ev
        exact cr_all hc pins s σ H _ us Q I rs ⟨p, ns, rfl, sq, c.bl r⟩
      · cases e
    · cases e
  | any =>
    unfold bltI at e
    simp only at e
    split at e
    · rename_i z
      split at e
      · rename_i ns en
        obtain ⟨f1, f2⟩ := out_inj e
        subst f1 f2
        obtain ⟨v, rfl, q⟩ := qs.one_inv
        obtain ⟨ys, ey, ei⟩ := Option.bind_eq_some_iff.mp en
        obtain ⟨p, vs, rfl, sq, q, _⟩ := r.lstV q ey
        have ev := q.bls ei
        subst ev
        exact cr_any hc pins s σ H _ us Q I rs ⟨p, ns, rfl, sq, c.bl r⟩
      · cases e
    · cases e
  | set =>
    unfold bltI at e
    simp only at e
    split at e
    · rename_i z
      split at e
      · rename_i ns en
        split at e
        · rename_i hz
          obtain ⟨f1, f2⟩ := out_inj e
          subst f1 f2
          obtain ⟨v, rfl, q⟩ := qs.one_inv
          obtain ⟨ys, ey, ei⟩ := Option.bind_eq_some_iff.mp en
          obtain ⟨p, vs, rfl, sq, q, _⟩ := r.lstV q ey
          have ev := q.ints ei
          subst ev
          rw [Vals.ref1 rs]
          obtain ⟨its, rv, pl, hz2⟩ := I.list sq
          have hl : its.toArray.size = ns.length := by rw [List.size_toArray, ← rv.length, List.length_map]
          have hn : H s.heap.objs.size = none := I.hok.fresh (Nat.le_refl _)
          refine PySem.call_set_list (I.ok.hd hc) pl.isList (ns := ns) (by simpa using rv.ints) (by rw [hl]; unfold scanBound; exact hz) fun h' tk hS hk => ?_
          rw [hl] at hS
          refine ⟨.ref s.heap.objs.size, upd H s.heap.objs.size (.set (fun k => (ded ns).any (· == k)) (ded ns).length), I.laid (t' := tk) (fun b o e => hk b o (Heap.lt_size e) e) (Nat.le_refl _) hS, rfl, ?_⟩
          refine c (φ ++ [s.heap.objs.size]) _ _ (.app φ _) (.new hn) (r.new hn upd_same) ?_
          rw [VR]
          refine ⟨_, ?_, rfl⟩
          rw [← r.len, List.getElem?_append_right (Nat.le_refl _), Nat.sub_self]; rfl
        · cases e
      · cases e
    · cases e
  | sorted =>
    unfold bltI at e
    simp only at e
    split at e
    · rename_i z
      split at e
      · rename_i ns en
        obtain ⟨f1, f2⟩ := out_inj e
        subst f1 f2
        obtain ⟨v, rfl, q⟩ := qs.one_inv
        obtain ⟨ys, ey, ei⟩ := Option.bind_eq_some_iff.mp en
        obtain ⟨p, vs, rfl, sq, q, _⟩ := r.lstV q ey
        have ev := q.ints ei
        subst ev
        refine cr_sortedI pins s σ H _ us Q I rs ⟨p, ns, rfl, sq, fun ns' l pm pw hl => ?_⟩
        have en' : ns' = srt ns := srt_eq pm pw
        subst en'
        exact c.list r (VRs.ofInts _) hl
      · cases e
    · cases e

/-- isinstance(x, T) -/
def rIsI (K : PySem.W.Frag) (T : Ty) : List V → Hp → VK → Prop := fun xs H Q => ∃ φ h a x b, Rel K φ h H ∧ VR K φ H a x ∧ xs = [x, .ty T.txt] ∧ isIH T a h = some b ∧ Ct K φ h H (.bl b) Q
theorem opIs {X : Cx} (T : Ty) : CallR X (.builtin "isinstance") (rIsI X.K T) := by
  intro pins s σ H xs us Q I rs hh
  obtain ⟨φ, h, a, x, b, r, ra, rfl, e, c⟩ := hh
  have go : ∀ (t : String) (b' : Bool), TyX X.K H x (.type t) → kitB t T.txt = some b' → b' = b → wpAny (model X.prog X.w) X.A (call (.builtin "isinstance") us) (EP X pins σ Q) X.xe s := fun t b' ty hk eb => by
    subst eb
    exact call_isi pins s σ H _ us Q I rs ⟨x, .ty T.txt, .type t, .type T.txt, b', rfl, .ty _, ty, kit_ty hk, c.bl r⟩
  cases a with
  | non =>
    rw [VR] at ra
    subst ra
    cases e
    refine go "NoneType" false (.base .non) ?_ rfl
    cases T <;> decide +kernel
  | bl z =>
    rw [VR] at ra
    subst ra
    cases e
    refine go "bool" _ (.base (.bl z)) ?_ rfl
    cases T <;> decide +kernel
  | int z =>
    rw [VR] at ra
    subst ra
    cases e
    refine go "int" _ (.base (.int z)) ?_ rfl
    cases T <;> decide +kernel
  | str z =>
    rw [VR] at ra
    subst ra
    cases e
    refine go "str" _ (.base (.str z)) ?_ rfl
    cases T <;> decide +kernel
  | tup ys =>
    rw [VR] at ra
    obtain ⟨p, vs, rfl, sq, q, _⟩ := ra
    cases e
    refine go "tuple" _ (.base (.tup sq)) ?_ rfl
    cases T <;> decide +kernel
  | lsr ys => cases e
  | ref i =>
    rw [VR] at ra
    obtain ⟨p, e1, rfl⟩ := ra
    unfold isIH at e
    simp only at e
    split at e
    · rename_i ys ey
      cases e
      obtain ⟨vs, k1, q⟩ := r.obj i p _ e1 ey
      refine go "list" _ (.base (.lst k1)) ?_ rfl
      cases T <;> decide +kernel
    · cases e

/-! ### methods of lists -/
def rMth (K : PySem.W.Frag) (m : Mt) : V → List V → Hp → VK → Prop := fun x xs H Q => ∃ φ h a ivs v h', Rel K φ h H ∧ VR K φ H a x ∧ VRs K φ H ivs xs ∧ methI m a ivs h = .ok v h' ∧ Ct K φ h' H v Q
def Mt.id : Mt → String
  | .append => "list.append"
  | .pop => "list.pop"
theorem opMth {X : Cx} (m : Mt) : MtR X m.id (rMth X.K m) := by
  intro pins s σ H x xs v us Q I rx rs hh
  obtain ⟨φ, h, a, ivs, w, h', r, ra, qs, e, c⟩ := hh
  unfold methI at e
  split at e
  · rename_i i
    split at e
    · rename_i ys ey
      rw [VR] at ra
      obtain ⟨p, e1, rfl⟩ := ra
      obtain ⟨vs, k1, q⟩ := r.obj i p _ e1 ey
      have nt : ∀ ys, HO.lst vs ≠ .tup ys := fun _ z => nomatch z
      have nf : ∀ ob y, HO.lst vs ≠ .frz ob y := fun _ _ z => nomatch z
      split at e
      · rename_i z
        split at e
        · rename_i hz
          obtain ⟨f1, f2⟩ := out_inj e
          subst f1 f2
          obtain ⟨u, rfl, q1⟩ := qs.one_inv
          have kp : Kp φ φ H (upd H p (.lst (vs ++ [u]))) := .set e1 k1 nt nf
          refine mt_append pins s σ H _ _ v us Q I rx rs ⟨p, vs, u, rfl, rfl, k1, by rw [← q.length]; exact lim_lt hz, ?_⟩
          refine c φ _ _ (.refl φ) kp (r.set e1 k1 nt nf ⟨_, upd_same, (q.append (.one q1)).mono (.refl φ) kp⟩) ?_
          rw [VR]
        · cases e
      · split at e
        · rename_i z ez
          obtain ⟨f1, f2⟩ := out_inj e
          subst f1 f2
          rw [VRs] at qs
          subst qs
          obtain ⟨u, eu, q1⟩ := q.get ez
          have kp : Kp φ φ H (upd H p (.lst vs.dropLast)) := .set e1 k1 nt nf
          refine mt_pop pins s σ H _ _ v us Q I rx rs ⟨p, vs, u, rfl, rfl, k1, by rw [← q.length]; exact eu, ?_⟩
          exact c φ _ _ (.refl φ) kp (r.set e1 k1 nt nf ⟨_, upd_same, q.dropLast.mono (.refl φ) kp⟩) (q1.mono (.refl φ) kp)
        · cases e
      · cases e
    · cases e
  · cases e
end Pi
end

section
set_option maxHeartbeats 8000000

/-! PiComp: from the text's expressions to the interpreter's, and why the one runs as the other. -/
namespace Pi
open PySem PySem.Spec PyProof.Rows L2

/-! ### from the text -/
structure Cs where
  sc : List (Str × NameKind)
  /-- cells of this very block -/
  st : List Str
  N : List Str
  G : List (Str × Int)
  T : List (Str × List Int)
  fns : List Str
  /-- calls with keywords: the def, how many stand by place, the names, where each parameter stands -/
  kw : List (Nat × Nat × List Str × List Nat) := []
def findIx (x : Str) : List Str → Option Nat
  | [] => none
  | y :: r => if y = x then some 0 else (findIx x r).map (· + 1)
theorem findIx_get {x : Str} : ∀ {l : List Str} {i : Nat}, findIx x l = some i → l[i]? = some x
  | y :: r, i, e => by
    unfold findIx at e
    split at e
    · rename_i h
      cases e
      simp [h]
    · cases q : findIx x r with
      | none => rw [q] at e; cases e
      | some j =>
        rw [q] at e
        have e' : j + 1 = i := Option.some.inj e
        subst e'
        simpa using findIx_get q
def Cs.loc (c : Cs) (x : Str) : Bool := match c.sc.lookup x with
  | some .local => true
  | some .cell => true
  | some .free => true
  | _ => false
def Cs.glo (c : Cs) (x : Str) : Bool := match c.sc.lookup x with
  | some .globalImplicit => true
  | _ => false
def plainName (x : Str) : Bool := !(x == ("__debug__" : Str)) && !(x == ("__classdict__" : Str)) && !(x == ("__name__" : Str))
def Cs.nam (c : Cs) (x : Str) : Option E :=
  if plainName x = true then
    if c.loc x = true then (findIx x c.N).map .var
    else if c.glo x = true then (c.G.lookup x).map fun i => .con (.int i)
    else none
  else none
def cK : Const → Option IV
  | .int i => some (.int i)
  | .bool b => some (.bl b)
  | .none => some .non
  | .str x => some (.str x)
  | _ => none
def cB (f : Expr → Option E) (op : BoolOp) : List Expr → Option E
  | [] => none
  | [a] => f a
  | a :: b :: r => (f a).bind fun a' => (cB f op (b :: r)).map fun b' => match op with
    | .And => .and a' b'
    | .Or => .or a' b'
def cEs (f : Expr → Option E) : List Expr → Option Es
  | [] => some .nil
  | a :: r => (f a).bind fun a' => (cEs f r).map fun r' => .cons a' r'
/-- what stands as a plain index -/
def ixOk : Expr → Bool
  | .Name .. => true
  | .Constant .. => true
  | .BinOp .. => true
  | .UnaryOp .. => true
  | .Call .. => true
  | .Subscript .. => true
  | _ => false
/-- what stands as a test -/
def tOk : Expr → Bool
  | .IfExp .. => false
  | _ => true
/-- a method's receiver -/
def rcOk : Expr → Bool
  | .Name .. => true
  | .Subscript .. => true
  | _ => false
def findBt (x : Str) : Option Bt := Bt.every.find? fun b => decide (b.name = x)
def findTy (x : Str) : Option Ty := Ty.every.find? fun b => decide (b.name = x)
def findMt (x : Str) : Option Mt := Mt.every.find? fun b => decide (b.name = x)
def cOe (f : Expr → Option E) : Option Expr → Option Oe
  | none => some .non
  | some e => (f e).map .som
/-- sorted(set(a)) -/
def ssArg (c : Cs) (x : Str) : List Expr → Option Expr
  | [.Call (.Name y _) [a] [] _] => if (decide (x = ("sorted" : Str)) && decide (y = ("set" : Str)) && c.glo y && decide (findIx y c.fns = none)) = true then some a else none
  | _ => none
def cCall (c : Cs) (f : Expr → Option E) (x : Str) (args : List Expr) : Option E :=
  if plainName x && c.glo x then
    match findIx x c.fns with
    | some i => (cEs f args).map fun es => .call i es
    | none => if x = ("isinstance" : Str) then (match args with
        | [a, .Name t _] => if plainName t && c.glo t then (f a).bind fun a' => (findTy t).map fun ty => .isi a' ty else none
        | _ => none)
      else match ssArg c x args with
        | some a => (f a).map .sset
        | none => match args with
        | [] => none
        | _ :: _ => (findBt x).bind fun b => (cEs f args).map fun es => .blt b es
  else none
def nmsOf : List Keyword → Option (List Str)
  | [] => some []
  | ⟨some n, _, _⟩ :: r => (nmsOf r).map (n :: ·)
  | _ => none
def findKw (i m : Nat) (ks : List Str) : List (Nat × Nat × List Str × List Nat) → Option (List Nat)
  | [] => none
  | (j, l, us, perm) :: r => if j = i ∧ l = m ∧ us = ks then some perm else findKw i m ks r
theorem findKw_mem {i m : Nat} {ks : List Str} {perm : List Nat} : ∀ {l : List (Nat × Nat × List Str × List Nat)}, findKw i m ks l = some perm → (i, m, ks, perm) ∈ l
  | (j, l, us, pm) :: r, e => by
    unfold findKw at e
    split at e
    · rename_i hq
      obtain ⟨rfl, rfl, rfl⟩ := hq
      rw [← Option.some.inj e]
      exact List.mem_cons_self
    · exact List.mem_cons_of_mem _ (findKw_mem e)
def cCallK (c : Cs) (f : Expr → Option E) (x : Str) (args : List Expr) (kws : List Keyword) : Option E :=
  if plainName x && c.glo x then
    (findIx x c.fns).bind fun i => (nmsOf kws).bind fun ks => (findKw i args.length ks c.kw).bind fun perm => (cEs f args).bind fun es => (cEs f (kws.map (·.value))).map fun zs => .callk i args.length perm es zs
  else none
/-- what may be stored -/
def Cs.sto (c : Cs) (x : Str) : Bool := decide (c.sc.lookup x = some .local) || (decide (c.sc.lookup x = some .cell) && decide (x ∈ c.st))
/-- targets -/
def cTg (c : Cs) : Nat → Expr → Option Tg
  | 0, _ => none
  | n + 1, e => match e with
    | .Name x _ => if c.sto x = true then (findIx x c.N).map .name else none
    | .Tuple [a] _ _ => (cTg c n a).map .one
    | .Tuple [a, b] _ _ => (cTg c n a).bind fun a' => (cTg c n b).map fun b' => .pair a' b'
    | .Tuple [a, b, d] _ _ => (cTg c n a).bind fun a' => (cTg c n b).bind fun b' => (cTg c n d).map fun d' => .three a' b' d'
    | _ => none
def isSetE : Expr → Bool
  | .Set .. => true
  | _ => false
def isTupE : Expr → Bool
  | .Tuple .. => true
  | _ => false
/-- what a loop walks; tg: the loop's target -/
def cI (c : Cs) (f : Expr → Option E) (tg : Expr) (e : Expr) : Option It :=
  let dflt := if isSetE e = true then none else (f e).map It.val
  match e with
  | .Name x _ => if plainName x && c.glo x then (c.T.lookup x).map It.ints else dflt
  | .Call (.Name x _) [a] [] _ => if plainName x && c.glo x && decide (findIx x c.fns = none) then
      (if x = ("range" : Str) then (f a).map It.rng
      else if x = ("enumerate" : Str) then (if isTupE tg = true then (f a).map It.enum else none)
      else if x = ("reversed" : Str) then (f a).map It.rev
      else dflt) else dflt
  | .Call (.Name x _) [a, b] [] _ => if plainName x && c.glo x && decide (findIx x c.fns = none) then
      (if x = ("range" : Str) then (f a).bind fun a' => (f b).map fun b' => It.rng2 a' b'
      else if x = ("zip" : Str) then (if isTupE tg = true then (f a).bind fun a' => (f b).map fun b' => It.zip a' b' else none)
      else dflt) else dflt
  | _ => dflt
def tgIx : Tg → List Nat
  | .name i => [i]
  | .one a => tgIx a
  | .pair a b => tgIx a ++ tgIx b
  | .three a b c => tgIx a ++ (tgIx b ++ tgIx c)
/-- the names of a block behind the closing -/
def blkNames (sc names : List (Str × NameKind)) : List (Str × NameKind) :=
  names.map fun (n, k) => if (k == .free && (ScopeKind.function == .function) && sc.lookup n == some .cell) then (n, .cell) else (n, k)
def Cs.blk (c : Cs) (scope : Scope) : Cs := { c with sc := blkNames c.sc scope.names, st := (scope.names.filter fun y => decide (scope.names.lookup y.1 = some .cell)).map (·.1) }
def dummy (names : List (Str × NameKind)) : Scope := { kind := .function, names := names, isGenerator := false, isCoroutine := false }
def cE : Nat → Cs → Expr → Option E
  | 0, _, _ => none
  | n + 1, c, e => match e with
    | .Name x _ => c.nam x
    | .Constant k _ _ => (cK k).map .con
    | .BinOp a op b _ => (cE n c a).bind fun a' => (cE n c b).map fun b' => .bin op a' b'
    | .UnaryOp .USub a _ => (cE n c a).map .neg
    | .UnaryOp .Not a _ => if tOk a = true then (cE n c a).map .not else none
    | .BoolOp op vs _ => if vs.all tOk = true then cB (cE n c) op vs else none
    | .Compare a [op] [b] _ => if behindInMarks op b = true then none else (cE n c a).bind fun a' => (cE n c b).map fun b' => .cmp op a' b'
    | .Compare a [op, op'] [b, d] _ => if lastMarks [op, op'] [b, d] = true then none else (cE n c a).bind fun a' => (cE n c b).bind fun b' => (cE n c d).map fun d' => .chain op op' a' b' d'
    | .IfExp t a b _ => if tOk t = true then (cE n c t).bind fun t' => (cE n c a).bind fun a' => (cE n c b).map fun b' => .ife t' a' b' else none
    | .Tuple es _ _ => (cEs (cE n c) es).map .tup
    | .List es _ => (cEs (cE n c) es).map .lst
    | .Call (.Name x _) args [] _ => cCall c (cE n c) x args
    | .Call (.Attribute o m apos) args [] cpos => if rcOk o && (apos.endLine == cpos.line) && decide (args.length < 20) then (findMt m).bind fun mt => (cE n c o).bind fun o' => (cEs (cE n c) args).map fun es => .meth mt o' es else none
    | .Subscript a (.Slice lo hi none _) _ => (cE n c a).bind fun a' => (cOe (cE n c) lo).bind fun l => (cOe (cE n c) hi).map fun h => .sl a' l h
    | .Subscript a b _ => if ixOk b = true then (cE n c a).bind fun a' => (cE n c b).map fun b' => .ix a' b' else none
    | .ListComp el [⟨tg, iter, ifs, 0⟩] scope _ =>
      if isSetE iter = true then none else
      (cTg (c.blk scope) 4 tg).bind fun tg' => (cI c (cE n c) tg iter).bind fun it' =>
      if blkC c.N (dummy c.sc) scope ((tgIx tg').map fun i => (c.N.getD i Str.empty, i)) = true then
        (match ifs with
          | [] => some Oe.non
          | [t] => if tOk t = true then (cE n (c.blk scope) t).map .som else none
          | _ => none).bind fun o => (cE n (c.blk scope) el).map fun el' => .lc el' tg' it' o (tgIx tg')
      else none
    | .Call (.Name x _) args (k0 :: kr) _ => cCallK c (cE n c) x args (k0 :: kr)
    | _ => none

/-! ### readings -/
section
variable (K : PySem.W.Frag)
def CtB (φ : List Addr) (h : IH) (H : Hp) (Q : Hp → Prop) : Prop := ∀ φ' H', Px φ φ' → Kp φ φ' H H' → Rel K φ' h H' → Q H'
def CtL (φ : List Addr) (h : IH) (H : Hp) (xs : List IV) (Q : List V → Hp → Prop) : Prop := ∀ φ' H' ws, Px φ φ' → Kp φ φ' H H' → Rel K φ' h H' → VRs K φ' H' xs ws → Q ws H'
def TI (d : Sl → IH → Out IV) : TE := fun τ H Q => ∃ φ σ h v h', Rel K φ h H ∧ SR K φ H σ τ ∧ d σ h = .ok v h' ∧ Ct K φ h' H v Q
def TT' (d : Sl → IH → Out Bool) : TT := fun τ H Q => ∃ φ σ h b h', Rel K φ h H ∧ SR K φ H σ τ ∧ d σ h = .ok b h' ∧ CtB K φ h' H (Q b)
def TL (d : Sl → IH → Out (List IV)) : TA := fun τ H Q => ∃ φ σ h vs h', Rel K φ h H ∧ SR K φ H σ τ ∧ d σ h = .ok vs h' ∧ CtL K φ h' H vs Q
def TOp (d : Sl → IH → Out (Option Int)) : TO := fun τ H Q => ∃ φ σ h o h', Rel K φ h H ∧ SR K φ H σ τ ∧ d σ h = .ok o h' ∧ CtB K φ h' H (Q o)
/-- a def's promise -/
def spI (F : List IV → IH → Out IV) : Sp := fun vs H Q _ => ∃ φ h ivs v h', Rel K φ h H ∧ VRs K φ H ivs vs ∧ F ivs h = .ok v h' ∧ Ct K φ h' H v Q
end

theorem PE.mono {X : Cx} {e : Expr} {t t' : TE} (p : PE X e t) (h : ∀ τ H Q, t' τ H Q → t τ H Q) : PE X e t' := ⟨fun pins s σ H Q I q => p.run pins s σ H Q I (h σ H Q q)⟩
theorem PT.mono {X : Cx} {e : Expr} {t t' : TT} (p : PT X e t) (h : ∀ τ H Q, t' τ H Q → t τ H Q) : PT X e t' := ⟨fun pins s σ H Q I q => p.run pins s σ H Q I (h σ H Q q)⟩
theorem PW.mono {X : Cx} {e : Expr} {t t' : TT} (p : PW X e t) (h : ∀ τ H Q, t' τ H Q → t τ H Q) : PW X e t' := ⟨fun w pins s σ H Q I q => p.run w pins s σ H Q I (h σ H Q q)⟩
theorem PA.mono {X : Cx} {e : List Expr} {t t' : TA} (p : PA X e t) (h : ∀ τ H Q, t' τ H Q → t τ H Q) : PA X e t' := ⟨fun w pins s σ H Q I q => p.run w pins s σ H Q I (h σ H Q q)⟩

section
variable {K : PySem.W.Frag} {φ φ' : List Addr} {H H' : Hp} {h h' : IH} {σ : Sl} {τ : L2.St}
/-- what stands at hand: the heaps lie over one another -/
theorem Ct.of {x : IV} {Q : VK} (q : ∀ φ' H' w, Px φ φ' → Kp φ φ' H H' → Rel K φ' h H' → VR K φ' H' x w → Q w H') : Ct K φ h H x Q := q
theorem CtB.here {Q : Hp → Prop} (c : CtB K φ h H Q) (r : Rel K φ h H) : Q H := c φ H (.refl φ) (.refl φ H) r
theorem CtB.later {Q : Hp → Prop} (c : CtB K φ h' H Q) (p : Px φ φ') (k : Kp φ φ' H H') : CtB K φ' h' H' Q := fun φ2 H2 p2 k2 r => c φ2 H2 (p.trans p2) (k.trans k2) r
theorem CtL.here {xs : List IV} {ws : List V} {Q : List V → Hp → Prop} (c : CtL K φ h H xs Q) (r : Rel K φ h H) (q : VRs K φ H xs ws) : Q ws H := c φ H ws (.refl φ) (.refl φ H) r q
theorem CtL.later {xs : List IV} {Q : List V → Hp → Prop} (c : CtL K φ h' H xs Q) (p : Px φ φ') (k : Kp φ φ' H H') : CtL K φ' h' H' xs Q := fun φ2 H2 ws p2 k2 r q => c φ2 H2 ws (p.trans p2) (k.trans k2) r q
/-- first a, then what goes on with its value -/
theorem TI.seq {a : Sl → IH → Out IV} {v : IV} {h1 : IH} {Q : VK} (r : Rel K φ h H) (s : SR K φ H σ τ) (e : a σ h = .ok v h1)
    (k : ∀ φ' H' w, Px φ φ' → Kp φ φ' H H' → Rel K φ' h1 H' → SR K φ' H' σ τ → VR K φ' H' v w → Q w H') : TI K a τ H Q :=
  ⟨φ, σ, h, v, h1, r, s, e, fun φ' H' w p kp r' q => k φ' H' w p kp r' (s.mono p kp) q⟩
theorem TT'.seq {a : Sl → IH → Out Bool} {v : Bool} {h1 : IH} {Q : Bool → Hp → Prop} (r : Rel K φ h H) (s : SR K φ H σ τ) (e : a σ h = .ok v h1)
    (k : ∀ φ' H', Px φ φ' → Kp φ φ' H H' → Rel K φ' h1 H' → SR K φ' H' σ τ → Q v H') : TT' K a τ H Q :=
  ⟨φ, σ, h, v, h1, r, s, e, fun φ' H' p kp r' => k φ' H' p kp r' (s.mono p kp)⟩
theorem TL.seq {a : Sl → IH → Out (List IV)} {v : List IV} {h1 : IH} {Q : List V → Hp → Prop} (r : Rel K φ h H) (s : SR K φ H σ τ) (e : a σ h = .ok v h1)
    (k : ∀ φ' H' w, Px φ φ' → Kp φ φ' H H' → Rel K φ' h1 H' → SR K φ' H' σ τ → VRs K φ' H' v w → Q w H') : TL K a τ H Q :=
  ⟨φ, σ, h, v, h1, r, s, e, fun φ' H' w p kp r' q => k φ' H' w p kp r' (s.mono p kp) q⟩
theorem TOp.seq {a : Sl → IH → Out (Option Int)} {v : Option Int} {h1 : IH} {Q : Option Int → Hp → Prop} (r : Rel K φ h H) (s : SR K φ H σ τ) (e : a σ h = .ok v h1)
    (k : ∀ φ' H', Px φ φ' → Kp φ φ' H H' → Rel K φ' h1 H' → SR K φ' H' σ τ → Q v H') : TOp K a τ H Q :=
  ⟨φ, σ, h, v, h1, r, s, e, fun φ' H' p kp r' => k φ' H' p kp r' (s.mono p kp)⟩
end

/-! ### where one stands -/
/-- further names that stay the built-ins' -/
def others : List Str := ["isinstance", "int", "bool", "list", "tuple", "str", "range", "enumerate", "zip", "reversed"]
/-- how a call with keywords stands behind one without -/
def gK {α : Type} (m : Nat) (perm : List Nat) (us ws : List α) : List α := if us.length = m ∧ m + ws.length = perm.length then arr perm (us ++ ws) else []
structure GX (X : Cx) (c : Cs) (Φ : Calls) (d : Nat) : Prop where
  sc : X.env.scope.names = c.sc
  kd : X.env.scope.kind = .function
  N : X.N = c.N
  nd : c.N.Nodup
  calm : X.calm = true
  xe : X.xe = fun _ _ => False
  room : Room d X.A
  G : ∀ x i, c.G.lookup x = some i → ∃ t, X.mg x = some (.int i t)
  T : ∀ x xs, c.T.lookup x = some xs → ∃ a, X.mg x = some (.ref a) ∧ ∀ H, SqT X.K H a (xs.map V.int)
  fc : ∀ x ∈ c.st, X.fn x = true
  bt : ∀ b : Bt, X.mg b.name = none
  bn : ∀ x ∈ others, X.mg x = none
  fn : ∀ (i : Nat) (x : Str), c.fns[i]? = some x → ∃ (a : Addr) (fd : FuncData) (ps : List Str), X.mg x = some (.ref a) ∧ PySem.W.keepIn X.K (.ref a) = true ∧ Binds X.K fd ps [] ∧ FnOk X.prog X.w X.K X.mg X.base CX0 d a fd ps (spI X.K (Φ i)) ∧
    ∀ m ks perm, (i, m, ks, perm) ∈ c.kw → KBinds X.K fd ps ks (gK m perm) (gK m perm)

section
variable {X : Cx} {c : Cs} {Φ : Calls} {d : Nat}
theorem GX.hu (g : GX X c Φ d) : X.A.units + 64 < cLine := g.room.units
theorem GX.vis (g : GX X c Φ d) {x : Str} (h : c.loc x = true) : Vis X.env.scope x := by
  unfold Cs.loc at h
  unfold Vis
  rw [g.sc]
  split at h
  · rename_i e; exact .inl e
  · rename_i e; exact .inr (.inl e)
  · rename_i e; exact .inr (.inr e)
  · cases h
theorem GX.gl (g : GX X c Φ d) {x : Str} (h : c.glo x = true) : Gl X x := by
  unfold Cs.glo at h
  show X.env.scope.names.lookup x = some .globalImplicit
  rw [g.sc]
  split at h
  · rename_i e; exact e
  · cases h
theorem plain1 {x : Str} (h : plainName x = true) : (x == ("__debug__" : Str)) = false := by
  unfold plainName at h
  simp only [Bool.and_eq_true, Bool.not_eq_true'] at h
  exact h.1.1
theorem plain2 {x : Str} (h : plainName x = true) : (x == ("__classdict__" : Str)) = false := by
  unfold plainName at h
  simp only [Bool.and_eq_true, Bool.not_eq_true'] at h
  exact h.1.2
theorem plain3 {x : Str} (h : plainName x = true) : x ≠ ("__name__" : Str) := by
  unfold plainName at h
  simp only [Bool.and_eq_true, Bool.not_eq_true'] at h
  exact fun e => by
    have h2 := h.2
    rw [e] at h2
    simp at h2
/-- an expression runs as the interpreter's -/
abbrev OkE (X : Cx) (Φ : Calls) (e : Expr) (e' : E) : Prop := PE X e (TI X.K (eE Φ e')) ∧ (tOk e = true → PT X e (TT' X.K fun σ h => tst (eE Φ e' σ h)))
theorem tst_ok {x : Out IV} {b : Bool} {h : IH} (e : tst x = .ok b h) : ∃ v, x = .ok v h ∧ truI v h = some b := by
  unfold tst at e
  obtain ⟨v, h1, e1, e2⟩ := bind_eq_ok e
  split at e2
  · rename_i t et
    obtain ⟨f1, f2⟩ := out_inj e2
    subst f1 f2
    exact ⟨v, e1, et⟩
  · cases e2
/-- the test of what has a plain truth -/
theorem ok_plain {e : Expr} {e' : E} (p : PE X e (TI X.K (eE Φ e'))) (hp : ∀ whole, isTrue e X.env whole = (do let v ← whole; standAt e.pos; holding [v] (truthy v))) : OkE X Φ e e' := by
  refine ⟨p, fun _ => PT.mono (pt_truth p hp) fun τ H Q q => ?_⟩
  obtain ⟨φ, σ, h, b, h', r, s, e1, c⟩ := q
  obtain ⟨v, e2, e3⟩ := tst_ok e1
  exact TI.seq r s e2 fun φ1 H1 w p k r1 s1 q1 => ⟨b, truV r1 q1 e3, c φ1 H1 p k r1⟩
end
end Pi
end

section
set_option maxHeartbeats 8000000

/-! PiExpr: each expression runs as the interpreter's. -/
namespace Pi
open PySem PySem.Spec PyProof.Rows L2

section
variable {X : Cx} {c : Cs} {Φ : Calls} {d : Nat} {f : Expr → Option E}

theorem star_plain {e : Expr} {es : List Expr} {env : Env} (h : ∀ x p, e ≠ .Starred x p) : starEach (e :: es) env = (false, eval e env) :: starEach es env := by
  cases e <;> first | rfl | exact absurd rfl (h _ _)
theorem star_none {env : Env} : ∀ {es : List Expr}, (∀ e ∈ es, ∀ x p, e ≠ .Starred x p) → (starEach es env).any (·.1) = false
  | [], _ => rfl
  | e :: es, h => by
    rw [star_plain (h e List.mem_cons_self)]
    exact star_none fun e' m => h e' (List.mem_cons_of_mem _ m)
theorem any_backTo (pos : Pos) : ∀ l : List (Bool × Sem Value), (backTo pos l).any (·.1) = l.any (·.1)
  | [] => rfl
  | (a, b) :: l => by
    have ih := any_backTo pos l
    unfold backTo at ih ⊢
    rw [List.map_cons, List.any_cons, List.any_cons, ih]
theorem back_none {pos : Pos} {env : Env} {es : List Expr} (h : ∀ e ∈ es, ∀ x p, e ≠ .Starred x p) : (backTo pos (starEach es env)).any (·.1) = false := by
  rw [any_backTo]; exact star_none h
theorem noStar {n : Nat} {e : Expr} {e' : E} (h : cE n c e = some e') : ∀ x p, e ≠ .Starred x p := by
  intro x p q
  subst q
  cases n <;> cases h
theorem cEs_noStar {n : Nat} : ∀ {es : List Expr} {es' : Es}, cEs (cE n c) es = some es' → ∀ e ∈ es, ∀ x p, e ≠ .Starred x p
  | [], _, _, e, m => absurd m List.not_mem_nil
  | a :: r, es', h, e, m => by
    unfold cEs at h
    obtain ⟨a', e1, h⟩ := Option.bind_eq_some_iff.mp h
    obtain ⟨r', e2, h⟩ := Option.map_eq_some_iff.mp h
    rcases List.mem_cons.mp m with q | q
    · subst q; exact noStar e1
    · exact cEs_noStar e2 e q

/-- argument lists -/
theorem es_ok {n : Nat} (ih : ∀ e e', cE n c e = some e' → OkE X Φ e e') : ∀ (es : List Expr) (es' : Es), cEs (cE n c) es = some es' → PA X es (TL X.K (eEs Φ es'))
  | [], es', h => by
    cases h
    refine PA.mono pa_nil fun τ H Q q => ?_
    obtain ⟨φ, σ, h, vs, h', r, s, e, k⟩ := q
    obtain ⟨f1, f2⟩ := out_inj (show Out.ok [] h = Out.ok vs h' from e)
    subst f1 f2
    exact k.here r (by rw [VRs])
  | a :: r, es', h => by
    unfold cEs at h
    obtain ⟨a', e1, h⟩ := Option.bind_eq_some_iff.mp h
    obtain ⟨r', e2, h⟩ := Option.map_eq_some_iff.mp h
    subst h
    refine PA.mono (pa_cons (ih a a' e1).1 (es_ok ih r r' e2) (star_plain (noStar e1))) fun τ H Q q => ?_
    obtain ⟨φ, σ, h, vs, h', rl, s, e, k⟩ := q
    obtain ⟨v, h1, f1, e⟩ := bind_eq_ok (show (eE Φ a' σ h).bind _ = Out.ok vs h' from e)
    obtain ⟨us, h2, f2, e⟩ := bind_eq_ok e
    obtain ⟨g1, g2⟩ := out_inj e
    subst g1 g2
    refine TI.seq rl s f1 fun φ1 H1 w p1 k1 r1 s1 q1 => ?_
    refine TL.seq r1 s1 f2 fun φ2 H2 ws p2 k2 r2 s2 q2 => ?_
    refine k φ2 H2 _ (p1.trans p2) (k1.trans k2) r2 ?_
    rw [VRs]
    exact ⟨w, ws, rfl, q1.mono p2 k2, q2⟩

/-- and, or -/
theorem b_ok {n : Nat} (ih : ∀ e e', cE n c e = some e' → OkE X Φ e e') (op : BoolOp) (pos : Pos) : ∀ (es : List Expr) (e' : E), cB (cE n c) op es = some e' → es.all tOk = true →
    PE X (.BoolOp op es pos) (TI X.K (eE Φ e')) ∧ PW X (.BoolOp op es pos) (TT' X.K fun σ h => tst (eE Φ e' σ h))
  | [], e', h, _ => by cases h
  | [a], e', h, ht => by
    have o := ih a e' h
    rw [List.all_cons, Bool.and_eq_true] at ht
    refine ⟨pe_one o.1, ?_⟩
    cases op with
    | And => exact pw_and1 (o.2 ht.1)
    | Or => exact pw_or1 (o.2 ht.1)
  | a :: b :: r, e', h, ht => by
    unfold cB at h
    obtain ⟨a', e1, h⟩ := Option.bind_eq_some_iff.mp h
    obtain ⟨b', e2, h⟩ := Option.map_eq_some_iff.mp h
    rw [List.all_cons, Bool.and_eq_true] at ht
    have oa := ih a a' e1
    obtain ⟨ob1, ob2⟩ := b_ok ih op pos (b :: r) b' e2 ht.2
    cases op with
    | And =>
      have h : E.and a' b' = e' := h
      subst h
      refine ⟨PE.mono (pe_andT oa.1 ob1) fun τ H Q q => ?_, PW.mono (pw_and (oa.2 ht.1) ob2) fun τ H Q q => ?_⟩
      · obtain ⟨φ, σ, h, v, h', rl, s, e, k⟩ := q
        obtain ⟨x, h1, f1, e⟩ := bind_eq_ok (show (eE Φ a' σ h).bind _ = Out.ok v h' from e)
        refine TI.seq rl s f1 fun φ1 H1 w p1 k1 r1 s1 q1 => ?_
        split at e
        · rename_i et
          refine ⟨true, truV r1 q1 et, ?_⟩
          rw [if_pos rfl]
          exact TI.seq r1 s1 e fun φ2 H2 w2 p2 k2 r2 s2 q2 => k φ2 H2 w2 (p1.trans p2) (k1.trans k2) r2 q2
        · rename_i et
          obtain ⟨g1, g2⟩ := out_inj e
          subst g1 g2
          refine ⟨false, truV r1 q1 et, ?_⟩
          rw [if_neg Bool.false_ne_true]
          exact k φ1 H1 w p1 k1 r1 q1
        · cases e
      · obtain ⟨φ, σ, h, v, h', rl, s, e, k⟩ := q
        obtain ⟨y, e, ey⟩ := tst_ok e
        obtain ⟨x, h1, f1, e⟩ := bind_eq_ok (show (eE Φ a' σ h).bind _ = Out.ok y h' from e)
        split at e
        · rename_i et
          refine TT'.seq rl s (show tst (eE Φ a' σ h) = .ok true h1 by rw [f1]; unfold tst; rw [bind_ok, et]) fun φ1 H1 p1 k1 r1 s1 => ?_
          rw [if_pos rfl]
          exact TT'.seq r1 s1 (show tst (eE Φ b' σ h1) = .ok v h' by rw [e]; unfold tst; rw [bind_ok, ey]) fun φ2 H2 p2 k2 r2 s2 => k φ2 H2 (p1.trans p2) (k1.trans k2) r2
        · rename_i et
          obtain ⟨g1, g2⟩ := out_inj e
          subst g1 g2
          rw [et] at ey
          have ev : false = v := Option.some.inj ey
          subst ev
          refine TT'.seq rl s (show tst (eE Φ a' σ h) = .ok false h1 by rw [f1]; unfold tst; rw [bind_ok, et]) fun φ1 H1 p1 k1 r1 s1 => ?_
          rw [if_neg Bool.false_ne_true]
          exact k φ1 H1 p1 k1 r1
        · cases e
    | Or =>
      have h : E.or a' b' = e' := h
      subst h
      refine ⟨PE.mono (pe_orT oa.1 ob1) fun τ H Q q => ?_, PW.mono (pw_or (oa.2 ht.1) ob2) fun τ H Q q => ?_⟩
      · obtain ⟨φ, σ, h, v, h', rl, s, e, k⟩ := q
        obtain ⟨x, h1, f1, e⟩ := bind_eq_ok (show (eE Φ a' σ h).bind _ = Out.ok v h' from e)
        refine TI.seq rl s f1 fun φ1 H1 w p1 k1 r1 s1 q1 => ?_
        split at e
        · rename_i et
          obtain ⟨g1, g2⟩ := out_inj e
          subst g1 g2
          refine ⟨true, truV r1 q1 et, ?_⟩
          rw [if_pos rfl]
          exact k φ1 H1 w p1 k1 r1 q1
        · rename_i et
          refine ⟨false, truV r1 q1 et, ?_⟩
          rw [if_neg Bool.false_ne_true]
          exact TI.seq r1 s1 e fun φ2 H2 w2 p2 k2 r2 s2 q2 => k φ2 H2 w2 (p1.trans p2) (k1.trans k2) r2 q2
        · cases e
      · obtain ⟨φ, σ, h, v, h', rl, s, e, k⟩ := q
        obtain ⟨y, e, ey⟩ := tst_ok e
        obtain ⟨x, h1, f1, e⟩ := bind_eq_ok (show (eE Φ a' σ h).bind _ = Out.ok y h' from e)
        split at e
        · rename_i et
          obtain ⟨g1, g2⟩ := out_inj e
          subst g1 g2
          rw [et] at ey
          have ev : true = v := Option.some.inj ey
          subst ev
          refine TT'.seq rl s (show tst (eE Φ a' σ h) = .ok true h1 by rw [f1]; unfold tst; rw [bind_ok, et]) fun φ1 H1 p1 k1 r1 s1 => ?_
          rw [if_pos rfl]
          exact k φ1 H1 p1 k1 r1
        · rename_i et
          refine TT'.seq rl s (show tst (eE Φ a' σ h) = .ok false h1 by rw [f1]; unfold tst; rw [bind_ok, et]) fun φ1 H1 p1 k1 r1 s1 => ?_
          rw [if_neg Bool.false_ne_true]
          exact TT'.seq r1 s1 (show tst (eE Φ b' σ h1) = .ok v h' by rw [e]; unfold tst; rw [bind_ok, ey]) fun φ2 H2 p2 k2 r2 s2 => k φ2 H2 (p1.trans p2) (k1.trans k2) r2
        · cases e

theorem PlainIx.of {b : Expr} (h : ixOk b = true) : PlainIx b := by
  cases b <;> first | exact fun _ _ => rfl | cases h
theorem findBt_ok {x : Str} {b : Bt} (h : findBt x = some b) : b.name = x := by
  unfold findBt at h
  have h2 := List.find?_some h
  exact of_decide_eq_true h2
theorem findTy_ok {x : Str} {b : Ty} (h : findTy x = some b) : b.name = x := by
  unfold findTy at h
  have h2 := List.find?_some h
  exact of_decide_eq_true h2
theorem findMt_ok {x : Str} {b : Mt} (h : findMt x = some b) : b.name = x := by
  unfold findMt at h
  have h2 := List.find?_some h
  exact of_decide_eq_true h2
theorem boot_bt (b : Bt) : bootBuiltins b.name = some b.value := by
  cases b
  · exact PyProof.Rows.boot_abs
  · exact PySem.boot_len
  · exact PyProof.Rows.boot_list
  · exact PyProof.Rows.boot_tuple
  · exact PyProof.Rows.boot_int
  · exact PyProof.Rows.boot_max
  · exact PyProof.Rows.boot_min
  · exact PyProof.Rows.boot_sum
  · exact PyProof.Rows.boot_all
  · exact PyProof.Rows.boot_any
  · exact PyProof.Rows.boot_set
  · exact PyProof.Rows.boot_sorted
theorem boot_ty (b : Ty) : bootBuiltins b.name = some (.type b.txt) := by
  cases b
  · exact PyProof.Rows.boot_int
  · exact PyProof.Rows.boot_bool
  · exact PyProof.Rows.boot_list
  · exact PyProof.Rows.boot_tuple
  · exact PyProof.Rows.boot_str

theorem pe_blt (g : GX X c Φ d) {b : Bt} {e : Expr} {es : List Expr} {t : TA} {p pos : Pos} (hg : Gl X b.name) (ha : PA X (e :: es) t) (hns : ∀ e' ∈ e :: es, ∀ x p, e' ≠ .Starred x p) :
    PE X (.Call (.Name b.name p) (e :: es) [] pos) (tCB (rBlt X.K b) t) := by
  have hv := boot_bt b
  have hb := opBlt (X := X) g.calm b
  have s1 := star_plain (es := es) (env := X.env) (hns e List.mem_cons_self)
  have s2 := back_none (pos := pos) (env := X.env) (es := es) fun e' m => hns e' (List.mem_cons_of_mem _ m)
  cases b
  · exact pe_callB hb hg (g.bt .abs) hv ha (by decide) (by decide) s1 s2
  · exact pe_callB hb hg (g.bt .len) hv ha (by decide) (by decide) s1 s2
  · exact pe_callTy hb hg (g.bt .list) hv ha (by decide) (by decide) s1 s2
  · exact pe_callTy hb hg (g.bt .tuple) hv ha (by decide) (by decide) s1 s2
  · exact pe_callTy hb hg (g.bt .int) hv ha (by decide) (by decide) s1 s2
  · exact pe_callB hb hg (g.bt .max) hv ha (by decide) (by decide) s1 s2
  · exact pe_callB hb hg (g.bt .min) hv ha (by decide) (by decide) s1 s2
  · exact pe_callB hb hg (g.bt .sum) hv ha (by decide) (by decide) s1 s2
  · exact pe_callB hb hg (g.bt .all) hv ha (by decide) (by decide) s1 s2
  · exact pe_callB hb hg (g.bt .any) hv ha (by decide) (by decide) s1 s2
  · exact pe_callTy hb hg (g.bt .set) hv ha (by decide) (by decide) s1 s2
  · exact pe_callB hb hg (g.bt .sorted) hv ha (by decide) (by decide) s1 s2

def rSetR (K : PySem.W.Frag) (w : World) : List V → Hp → VK → Prop := fun xs H Q => ∃ (l : Addr) (ns : List Int), xs = [V.ref l] ∧ SqL K H l (ns.map V.int) ∧ ns.length < 64 ∧
  ∀ p c, H p = none → c ≤ ns.length → Q (.ref p) (upd H p (SetO w p (fun j => decide (j ∈ ns)) c))
theorem cr_setR (hc : X.calm = true) : CallR X (.type "set") (rSetR X.K X.w) := by
  intro pins s σ H xs us Q J r h
  obtain ⟨l, ns, rfl, sq, few, q⟩ := h
  rw [Vals.ref1 r]
  obtain ⟨its, rv, pl, hz⟩ := J.list sq
  have hn : H s.heap.objs.size = none := J.hok.fresh (Nat.le_refl _)
  refine set_list_R ns (J.ok.hd hc) pl.isList (by simpa using rv.ints) (by unfold scanBound; omega) fun g tk c R le keep => ?_
  exact ⟨.ref s.heap.objs.size, upd H s.heap.objs.size (SetO X.w s.heap.objs.size (fun j => decide (j ∈ ns)) c), J.laid (t' := tk) keep (Nat.le_refl _) (setO_new R), rfl, q _ c hn le⟩
theorem ded_mem (ns : List Int) : (ded ns).Nodup ∧ ∀ k, k ∈ ded ns ↔ k ∈ ns := by
  have e : ded ns = ns.foldl PyProof.Rows.step_dedup [] := by
    unfold ded PyProof.Rows.firstMet
    congr 1
    refine List.ext_getElem (by simp) fun i h1 h2 => ?_
    simp [List.getElem?_eq_getElem h2]
  rw [e]
  have go : ∀ (xs acc : List Int), acc.Nodup → (xs.foldl PyProof.Rows.step_dedup acc).Nodup ∧ ∀ k, k ∈ xs.foldl PyProof.Rows.step_dedup acc ↔ k ∈ acc ∨ k ∈ xs := by
    intro xs
    induction xs with
    | nil => intro acc n; exact ⟨n, fun k => by simp⟩
    | cons x xs ih =>
      intro acc n
      rw [List.foldl_cons]
      by_cases m : x ∈ acc
      · have e1 : PyProof.Rows.step_dedup acc x = acc := by unfold PyProof.Rows.step_dedup; rw [if_pos (by simpa using m)]
        rw [e1]
        refine ⟨(ih acc n).1, fun k => ?_⟩
        rw [(ih acc n).2 k, List.mem_cons]
        constructor
        · rintro (h | h)
          · exact .inl h
          · exact .inr (.inr h)
        · rintro (h | rfl | h)
          · exact .inl h
          · exact .inl m
          · exact .inr h
      · have e1 : PyProof.Rows.step_dedup acc x = acc ++ [x] := by unfold PyProof.Rows.step_dedup; rw [if_neg (by simpa using m)]
        have n2 : (acc ++ [x]).Nodup := by
          rw [List.nodup_append]
          refine ⟨n, by simp, fun a ha b hb => ?_⟩
          rw [List.mem_singleton] at hb
          intro z; rw [z, hb] at ha; exact m ha
        rw [e1]
        refine ⟨(ih _ n2).1, fun k => ?_⟩
        rw [(ih _ n2).2 k]
        simp only [List.mem_append, List.mem_cons, List.not_mem_nil, or_false, or_assoc]
  have g := go ns [] List.nodup_nil
  exact ⟨g.1, fun k => by rw [g.2 k]; simp⟩
theorem sst_eq {ns ns' : List Int} (pw : ns'.Pairwise (· < ·)) (hm : ∀ k, k ∈ ns' ↔ k ∈ ns) : ns' = sst ns := by
  obtain ⟨d1, d2⟩ := ded_mem ns
  have nd : ns'.Nodup := pw.imp fun h => Int.ne_of_lt h
  have pm : ns'.Perm (ded ns) := (List.perm_ext_iff_of_nodup nd d1).mpr fun k => by rw [hm, d2]
  exact srt_eq pm (pw.imp fun h => Int.le_of_lt h)
theorem sset_ok (g : GX X c Φ d) {x : Str} {args : List Expr} {a : Expr} {a' : E} {p pos : Pos} (h : ssArg c x args = some a) (ha : PE X a (TI X.K (eE Φ a'))) (na : ∀ x p, a ≠ .Starred x p) (hgx : Gl X x) :
    PE X (.Call (.Name x p) args [] pos) (TI X.K (eE Φ (.sset a'))) := by
  unfold ssArg at h
  split at h
  · rename_i y yp a0 ypos
    split at h
    · rename_i hb
      simp only [Bool.and_eq_true, decide_eq_true_eq] at hb
      obtain ⟨⟨⟨rfl, rfl⟩, hgl⟩, _⟩ := hb
      have ea : a0 = a := Option.some.inj h
      subst ea
      have pset := pe_callTy (p := yp) (pos := ypos) (cr_setR (X := X) g.calm) (g.gl hgl) (g.bt .set) PyProof.Rows.boot_set (pa_cons ha pa_nil (star_plain na)) (by decide) (by decide) (star_plain na) (by rfl)
      refine PE.mono (pe_callB (cr_sortedSet (X := X) g.calm) hgx (g.bt .sorted) PyProof.Rows.boot_sorted (pa_cons pset pa_nil (by rfl)) (by decide) (by decide) (by rfl) (by rfl)) fun τ H Q q => ?_
      obtain ⟨φ, σ, h, v, h', rl, s, e, k⟩ := q
      obtain ⟨z, h1, f1, e⟩ := bind_eq_ok (show (eE Φ a' σ h).bind _ = Out.ok v h' from e)
      refine TI.seq rl s f1 fun φ1 H1 w1 p1 k1 r1 s1 q1 => ?_
      split at e
      · rename_i ns en
        split at e
        · rename_i few
          obtain ⟨g1, g2⟩ := out_inj e
          subst g1 g2
          obtain ⟨ys, ey, ei⟩ := Option.bind_eq_some_iff.mp en
          obtain ⟨pl, vs, rfl, sq, qv, _⟩ := r1.lstV q1 ey
          have ev := qv.ints ei
          subst ev
          refine ⟨pl, ns, rfl, sq, few, fun ps cs hp le => ?_⟩
          refine ⟨ps, _, cs, rfl, upd_same, by omega, fun ns' pz hs hmem hlen hpz => ?_⟩
          have en' : ns' = sst ns := sst_eq hs fun k => by rw [hmem k]; simp
          subst en'
          have r2 : Rel X.K φ1 h1 (upd H1 ps (SetO X.w ps (fun j => decide (j ∈ ns)) cs)) := r1.newU hp
          have c2 : Ct X.K φ1 (h1 ++ [.lst ((sst ns).map .int)]) (upd H1 ps (SetO X.w ps (fun j => decide (j ∈ ns)) cs)) (.ref h1.length) Q := (k.later p1 k1).later (.refl φ1) (.newU hp)
          exact c2.list r2 (VRs.ofInts _) hpz
        · cases e
      · cases e
    · cases h
  · cases h
theorem call_ok (g : GX X c Φ d) {n : Nat} (ih : ∀ e e', cE n c e = some e' → OkE X Φ e e') {x : Str} {args : List Expr} {p pos : Pos} {e' : E} (h : cCall c (cE n c) x args = some e') :
    PE X (.Call (.Name x p) args [] pos) (TI X.K (eE Φ e')) := by
  unfold cCall at h
  split at h
  · rename_i hx
    rw [Bool.and_eq_true] at hx
    have hg := g.gl hx.2
    split at h
    · -- an own def
      rename_i i ei
      obtain ⟨es, e1, h⟩ := Option.map_eq_some_iff.mp h
      subst h
      obtain ⟨a, fd, ps, hm, hk, hb, F, _⟩ := g.fn i x (findIx_get ei)
      have ha := es_ok ih args es e1
      have hns := cEs_noStar e1
      have go : ∀ τ H Q, TI X.K (eE Φ (.call i es)) τ H Q → tCall (spI X.K (Φ i)) [] E0 (TL X.K (eEs Φ es)) τ H Q := fun τ H Q q => by
        obtain ⟨φ, σ, h, v, h', rl, s, e, k⟩ := q
        obtain ⟨vs, h1, f1, e⟩ := bind_eq_ok (show (eEs Φ es σ h).bind _ = Out.ok v h' from e)
        refine TL.seq rl s f1 fun φ1 H1 ws p1 k1 r1 s1 q1 => ?_
        rw [List.append_nil]
        exact ⟨φ1, h1, vs, v, h', r1, q1, e, k.later p1 k1⟩
      cases args with
      | nil =>
        cases e1
        refine PE.mono (pe_call0 F g.room hg hm hk hb .nil pass0 (plain1 hx.1)) fun τ H Q q => ?_
        have q2 := go τ H Q q
        obtain ⟨φ, σ, h, vs, h', rl, s, e, k⟩ := q2
        obtain ⟨f1, f2⟩ := out_inj (show Out.ok [] h = Out.ok vs h' from e)
        subst f1 f2
        exact k.here rl (by rw [VRs])
      | cons a0 rest =>
        exact PE.mono (pe_call F g.room hg hm hk hb .nil pass0 ha (plain1 hx.1) (star_plain (hns a0 List.mem_cons_self)) (back_none fun e m => hns e (List.mem_cons_of_mem _ m))) go
    · split at h
      · -- isinstance
        rename_i hx2
        split at h
        · rename_i a t tp
          split at h
          · rename_i ht
            rw [Bool.and_eq_true] at ht
            obtain ⟨a', e1, h⟩ := Option.bind_eq_some_iff.mp h
            obtain ⟨ty, e2, h⟩ := Option.map_eq_some_iff.mp h
            subst h
            have en := findTy_ok e2
            subst en
            subst hx2
            have hm : X.mg ("isinstance" : Str) = none := g.bn _ (by decide)
            have hmt : X.mg ty.name = none := g.bn _ (by cases ty <;> decide)
            have pt : PE X (.Name ty.name tp) (tC (.ty ty.txt)) := pe_bltn (g.gl ht.2) hmt (boot_ty ty) rfl (by cases ty <;> decide) (by cases ty <;> decide)
            refine PE.mono (pe_callB (opIs ty) hg hm PyProof.Rows.boot_isinstance (pa_cons (ih a a' e1).1 (pa_cons pt pa_nil (by rfl)) (star_plain (noStar e1))) (by decide) (by decide) (star_plain (noStar e1)) rfl) fun τ H Q q => ?_
            obtain ⟨φ, σ, h, v, h', rl, s, e, k⟩ := q
            obtain ⟨z, h1, f1, e⟩ := bind_eq_ok (show (eE Φ a' σ h).bind _ = Out.ok v h' from e)
            refine TI.seq rl s f1 fun φ1 H1 w p1 k1 r1 s1 q1 => ?_
            split at e
            · rename_i b eb
              obtain ⟨g1, g2⟩ := out_inj e
              subst g1 g2
              exact ⟨φ1, h1, z, w, b, r1, q1, rfl, eb, k.later p1 k1⟩
            · cases e
          · cases h
        · cases h
      · split at h
        · rename_i a es0
          obtain ⟨a', e1, h⟩ := Option.map_eq_some_iff.mp h
          subst h
          exact sset_ok g es0 (ih a a' e1).1 (noStar e1) hg
        split at h
        · cases h
        · rename_i a0 rest
          obtain ⟨b, e1, h⟩ := Option.bind_eq_some_iff.mp h
          obtain ⟨es, e2, h⟩ := Option.map_eq_some_iff.mp h
          subst h
          have en := findBt_ok e1
          subst en
          refine PE.mono (pe_blt g hg (es_ok ih _ es e2) (cEs_noStar e2)) fun τ H Q q => ?_
          obtain ⟨φ, σ, h, v, h', rl, s, e, k⟩ := q
          obtain ⟨vs, h1, f1, e⟩ := bind_eq_ok (show (eEs Φ es σ h).bind _ = Out.ok v h' from e)
          exact TL.seq rl s f1 fun φ1 H1 ws p1 k1 r1 s1 q1 => ⟨φ1, h1, vs, v, h', r1, q1, e, k.later p1 k1⟩
  · cases h

theorem kw_names {pos : Pos} {env : Env} : ∀ {kws : List Keyword} {ks : List Str}, nmsOf kws = some ks →
    (backToKw pos (keywordEach kws env)).all (·.1.isSome) = true ∧ (backToKw pos (keywordEach kws env)).filterMap (·.1) = ks ∧ (backToKw pos (keywordEach kws env)).any (·.1.isNone) = false
  | [], ks, h => by cases h; exact ⟨rfl, rfl, rfl⟩
  | ⟨none, _, _⟩ :: r, ks, h => by cases h
  | ⟨some nm, v, p⟩ :: r, ks, h => by
    obtain ⟨ks', e, rfl⟩ := Option.map_eq_some_iff.mp (show (nmsOf r).map (nm :: ·) = some ks from h)
    obtain ⟨h1, h2, h3⟩ := kw_names (pos := pos) (env := env) e
    have eq : backToKw pos (keywordEach (⟨some nm, v, p⟩ :: r) env) = (some nm, (do let u ← eval v env; standAt pos; pure u)) :: backToKw pos (keywordEach r env) := rfl
    rw [eq]
    refine ⟨?_, ?_, ?_⟩
    · rw [List.all_cons, h1]; rfl
    · rw [List.filterMap_cons, h2]
    · rw [List.any_cons, h3]; rfl
/-- the keywords' values -/
theorem ks_ok {n : Nat} (ih : ∀ e e', cE n c e = some e' → OkE X Φ e e') : ∀ (kws : List Keyword) (zs : Es), cEs (cE n c) (kws.map (·.value)) = some zs → PK X kws (TL X.K (eEs Φ zs))
  | [], zs, h => by
    cases h
    have p0 : PK X [] tNil := pk_nil
    refine ⟨fun pos pins s σ H Q I q => p0.run pos pins s σ H Q I ?_⟩
    obtain ⟨φ, σ, h, vs, h', r, sr, e, k⟩ := q
    obtain ⟨f1, f2⟩ := out_inj (show Out.ok [] h = Out.ok vs h' from e)
    subst f1 f2
    exact k.here r (by rw [VRs])
  | ⟨nm, a, ap⟩ :: r, es', h => by
    unfold cEs at h
    obtain ⟨a', e1, h⟩ := Option.bind_eq_some_iff.mp h
    obtain ⟨r', e2, h⟩ := Option.map_eq_some_iff.mp h
    subst h
    have p1 : PK X (⟨nm, a, ap⟩ :: r) _ := pk_cons (nm := nm) (kpos := ap) (ih a a' e1).1 (ks_ok ih r r' e2)
    refine ⟨fun pos pins s τ H Q I q => p1.run pos pins s τ H Q I ?_⟩
    obtain ⟨φ, σ, h, vs, h', rl, sr, e, k⟩ := q
    obtain ⟨v, h1, f1, e⟩ := bind_eq_ok (show (eE Φ a' σ h).bind _ = Out.ok vs h' from e)
    obtain ⟨us, h2, f2, e⟩ := bind_eq_ok e
    obtain ⟨g1, g2⟩ := out_inj e
    subst g1 g2
    refine TI.seq rl sr f1 fun φ1 H1 w1 p1 k1 r1 s1 q1 => ?_
    refine TL.seq r1 s1 f2 fun φ2 H2 ws p2 k2 r2 s2 q2 => ?_
    exact k φ2 H2 (w1 :: ws) (p1.trans p2) (k1.trans k2) r2 (by rw [VRs]; exact ⟨w1, ws, rfl, q1.mono p2 k2, q2⟩)
theorem VRs.arr {K : PySem.W.Frag} {φ : List Addr} {H : Hp} {xs : List IV} {vs : List V} (q : VRs K φ H xs vs) : ∀ perm : List Nat, VRs K φ H (Pi.arr perm xs) (Pi.arr perm vs)
  | [] => by unfold Pi.arr; rw [List.filterMap_nil, List.filterMap_nil, VRs]
  | i :: perm => by
    have ih := VRs.arr q perm
    unfold Pi.arr at ih ⊢
    cases e : xs[i]? with
    | none =>
      have e2 : vs[i]? = none := by
        rw [List.getElem?_eq_none_iff] at e ⊢
        rw [← q.length]; exact e
      rw [List.filterMap_cons_none e, List.filterMap_cons_none e2]
      exact ih
    | some x =>
      obtain ⟨v, e2, r⟩ := q.get e
      rw [List.filterMap_cons_some e, List.filterMap_cons_some e2, VRs]
      exact ⟨v, _, rfl, r, ih⟩
/-- a call by keywords alone -/
theorem kcall0 {A : Addr} {fd : FuncData} {ps ks : List Str} {sp : Sp} {x : Str} {p pos : Pos} {kws : List Keyword} {tk : TA} {gg : List Value → List Value → List Value} {gV : List V → List V → List V} {m : Nat}
    (F : FnOk X.prog X.w X.K X.mg X.base CX0 m A fd ps sp) (hr : Room m X.A) (hg : Gl X x) (hm : X.mg x = some (.ref A)) (hk : PySem.W.keepIn X.K (.ref A) = true) (hb : KBinds X.K fd ps ks gg gV)
    (hkw : PK X kws tk) (hall : (backToKw pos (keywordEach kws X.env)).all (·.1.isSome) = true) (hks : (backToKw pos (keywordEach kws X.env)).filterMap (·.1) = ks) (hno : (backToKw pos (keywordEach kws X.env)).any (·.1.isNone) = false)
    (hdb : (x == ("__debug__" : Str)) = false) : PE X (.Call (.Name x p) [] kws pos) (tCallK sp gV E0 tNil tk) := by
  refine ⟨fun pins s τ H Q J h => wpAny_Call_Name_kw (ld_glob J hg hm ?_ hdb)⟩
  refine PySem.W.callWith_KW0 (h₀ := X.base) J.ok.mod.kin hk hall (thn (hkw.run pos pins s τ H _ J h) fun ws s2 ⟨zs, H2, J2, rz, q2⟩ => ⟨J2.kIn, ?_⟩) (by rw [hno]; rfl)
  rw [hks]
  exact run_fnk F hr hb pass0 J2 .nil rz q2
theorem callk_ok (g : GX X c Φ d) {n : Nat} (ih : ∀ e e', cE n c e = some e' → OkE X Φ e e') {x : Str} {args : List Expr} {kws : List Keyword} {p pos : Pos} {e' : E} (h : cCallK c (cE n c) x args kws = some e') :
    PE X (.Call (.Name x p) args kws pos) (TI X.K (eE Φ e')) := by
  unfold cCallK at h
  split at h
  · rename_i hx
    rw [Bool.and_eq_true] at hx
    have hg := g.gl hx.2
    obtain ⟨i, ei, h⟩ := Option.bind_eq_some_iff.mp h
    obtain ⟨ks, e0, h⟩ := Option.bind_eq_some_iff.mp h
    obtain ⟨perm, e3, h⟩ := Option.bind_eq_some_iff.mp h
    obtain ⟨es, e1, h⟩ := Option.bind_eq_some_iff.mp h
    obtain ⟨zs, e2, h⟩ := Option.map_eq_some_iff.mp h
    subst h
    obtain ⟨a, fd, ps, hm, hk, hb, F, kb⟩ := g.fn i x (findIx_get ei)
    have kb := kb _ _ _ (findKw_mem e3)
    have ha := es_ok ih args es e1
    have hns := cEs_noStar e1
    have hkw := ks_ok ih kws zs e2
    obtain ⟨n1, n2, n3⟩ := kw_names (pos := pos) (env := X.env) e0
    have go : ∀ τ H Q, TI X.K (eE Φ (.callk i args.length perm es zs)) τ H Q → tCallK (spI X.K (Φ i)) (gK args.length perm) E0 (TL X.K (eEs Φ es)) (TL X.K (eEs Φ zs)) τ H Q := fun τ H Q q => by
      obtain ⟨φ, σ, h, v, h', rl, s, e, k⟩ := q
      obtain ⟨vs, h1, f1, e⟩ := bind_eq_ok (show (eEs Φ es σ h).bind _ = Out.ok v h' from e)
      obtain ⟨us, h2, f2, e⟩ := bind_eq_ok e
      refine TL.seq rl s f1 fun φ1 H1 ws p1 k1 r1 s1 q1 => ?_
      refine TL.seq r1 s1 f2 fun φ2 H2 ws2 p2 k2 r2 s2 q2 => ?_
      split at e
      · rename_i hc
        have q3 := (q1.mono p2 k2).append q2
        have hc' : ws.length = args.length ∧ args.length + ws2.length = perm.length := by rw [← q1.length, ← q2.length]; exact hc
        refine ⟨φ2, h2, _, v, h', r2, ?_, e, k.later (p1.trans p2) (k1.trans k2)⟩
        unfold gK
        rw [if_pos hc']
        exact q3.arr perm
      · cases e
    cases args with
    | nil =>
      cases e1
      refine PE.mono (kcall0 F g.room hg hm hk kb hkw n1 n2 n3 (plain1 hx.1)) fun τ H Q q => ?_
      have q2 := go τ H Q q
      obtain ⟨φ, σ, h, vs, h', rl, s, e, k⟩ := q2
      obtain ⟨f1, f2⟩ := out_inj (show Out.ok [] h = Out.ok vs h' from e)
      subst f1 f2
      exact k.here rl (by rw [VRs])
    | cons a0 rest =>
      exact PE.mono (pe_callK F g.room hg hm hk kb pass0 ha hkw n1 n2 (plain1 hx.1) (star_plain (hns a0 List.mem_cons_self)) (by rw [back_none hns, n3]; rfl)) go
  · cases h
theorem oe_ok {n : Nat} (ih : ∀ e e', cE n c e = some e' → OkE X Φ e e') (o : Option Expr) (o' : Oe) (h : cOe (cE n c) o = some o') : PO X o (TOp X.K (eO Φ o')) := by
  cases o with
  | none =>
    cases h
    refine ⟨fun pins s τ H Q I q => po_none.run pins s τ H Q I ?_⟩
    obtain ⟨φ, σ, h, v, h', rl, sr, e, k⟩ := q
    obtain ⟨f1, f2⟩ := out_inj (show Out.ok none h = Out.ok v h' from e)
    subst f1 f2
    exact k.here rl
  | some x =>
    obtain ⟨x', e1, h⟩ := Option.map_eq_some_iff.mp h
    subst h
    refine ⟨fun pins s τ H Q I q => (po_some (ih x x' e1).1).run pins s τ H Q I ?_⟩
    obtain ⟨φ, σ, h, v, h', rl, sr, e, k⟩ := q
    obtain ⟨z, h1, f1, e⟩ := bind_eq_ok (show (eE Φ x' σ h).bind _ = Out.ok v h' from e)
    refine TI.seq rl sr f1 fun φ1 H1 w p1 k1 r1 s1 q1 => ?_
    split at e
    · rename_i i
      obtain ⟨g1, g2⟩ := out_inj e
      subst g1 g2
      rw [VR] at q1
      exact ⟨i, q1, k φ1 H1 p1 k1 r1⟩
    · cases e

theorem meth_ok (g : GX X c Φ d) {mt : Mt} {o : Expr} {o' : E} {es' : Es} {args : List Expr} {apos cpos : Pos} (ho : PE X o (TI X.K (eE Φ o'))) (hr : rcOk o = true) (hl : (apos.endLine == cpos.line) = true) (ha : PA X args (TL X.K (eEs Φ es')))
    (hns : ∀ e' ∈ args, ∀ x p, e' ≠ .Starred x p) (hk : args.length < 20) (h0 : args = [] → es' = .nil) : PE X (.Call (.Attribute o mt.name apos) args [] cpos) (TI X.K (eE Φ (.meth mt o' es'))) := by
  have hb : attributeBase o mt.name X.env (eval o X.env) = eval o X.env := by
    cases o <;> first | rfl | cases hr
  have all0 : ∀ (l : List Expr), (∀ e' ∈ l, ∀ x p, e' ≠ .Starred x p) → (backTo cpos (starEach l X.env)).all (fun x => !x.1) = true := fun l hl => by
    have h1 := back_none (pos := cpos) (env := X.env) hl
    rw [List.all_eq_not_any_not]
    simp only [Bool.not_not]
    rw [h1]; rfl
  -- the receiver is a list
  have ty : ∀ {φ H h x w}, Rel X.K φ h H → VR X.K φ H x w → isLst x h = true → tyV X.K "list" w H := fun {φ H h x w} r q e => by
    unfold isLst at e
    split at e
    · rename_i i
      split at e
      · rename_i ys ey
        rw [VR] at q
        obtain ⟨p, e1, rfl⟩ := q
        obtain ⟨ws, k1, _⟩ := r.obj i p _ e1 ey
        exact .inl ⟨rfl, ws, .inl (.inl k1)⟩
      · cases e
    · cases e
  cases args with
  | nil =>
    have e0 := h0 rfl
    subst e0
    have go : ∀ τ H Q, TI X.K (eE Φ (.meth mt o' .nil)) τ H Q → tBM0 X.K "list" (rMth X.K mt) (TI X.K (eE Φ o')) τ H Q := fun τ H Q q => by
      obtain ⟨φ, σ, h, v, h', rl, s, e, k⟩ := q
      obtain ⟨x, h1, f1, e⟩ := bind_eq_ok (show (eE Φ o' σ h).bind _ = Out.ok v h' from e)
      split at e
      · rename_i hi
        refine TI.seq rl s f1 fun φ1 H1 w p1 k1 r1 s1 q1 => ⟨ty r1 q1 hi, φ1, h1, x, [], v, h', r1, q1, by rw [VRs], e, k.later p1 k1⟩
      · cases e
    cases mt
    · exact PE.mono (pe_bm0 PySem.F.plainAttrs_list PySem.F.slot_list_append PySem.F.type_list_append (opMth .append) ho hb hl) go
    · exact PE.mono (pe_bm0 PySem.F.plainAttrs_list PySem.F.slot_list_pop PySem.F.type_list_pop (opMth .pop) ho hb hl) go
  | cons a0 rest =>
    have hfew : ((backTo cpos (starEach (a0 :: rest) X.env)).all (fun x => !x.1) && (backToKw cpos (keywordEach [] X.env)).all (fun x => x.1.isSome)
      && decide ((a0 :: rest).length + ([] : List Keyword).length + (if ([] : List Keyword).isEmpty then 0 else 1) < 30)) = true := by
      rw [all0 _ hns]
      have : (a0 :: rest).length + ([] : List Keyword).length + (if ([] : List Keyword).isEmpty then 0 else 1) < 30 := by
        show (a0 :: rest).length + 0 + 0 < 30
        omega
      rw [decide_eq_true this]; rfl
    have s1 := star_plain (es := rest) (env := X.env) (hns a0 List.mem_cons_self)
    have s2 := back_none (pos := cpos) (env := X.env) (es := rest) fun e' m => hns e' (List.mem_cons_of_mem _ m)
    have go : ∀ τ H Q, TI X.K (eE Φ (.meth mt o' es')) τ H Q → tBM X.K "list" (rMth X.K mt) (TI X.K (eE Φ o')) (TL X.K (eEs Φ es')) τ H Q := fun τ H Q q => by
      obtain ⟨φ, σ, h, v, h', rl, s, e, k⟩ := q
      obtain ⟨x, h1, f1, e⟩ := bind_eq_ok (show (eE Φ o' σ h).bind _ = Out.ok v h' from e)
      split at e
      · rename_i hi
        obtain ⟨vs, h2, f2, e⟩ := bind_eq_ok e
        refine TI.seq rl s f1 fun φ1 H1 w p1 k1 r1 s1 q1 => ⟨ty r1 q1 hi, ?_⟩
        exact TL.seq r1 s1 f2 fun φ2 H2 ws p2 k2 r2 s2 q2 => ⟨φ2, h2, x, vs, v, h', r2, q1.mono p2 k2, q2, e, k.later (p1.trans p2) (k1.trans k2)⟩
      · cases e
    cases mt
    · exact PE.mono (pe_bm PySem.F.plainAttrs_list PySem.F.slot_list_append PySem.F.type_list_append (opMth .append) ho ha hb hfew hl s1 s2) go
    · exact PE.mono (pe_bm PySem.F.plainAttrs_list PySem.F.slot_list_pop PySem.F.type_list_pop (opMth .pop) ho ha hb hfew hl s1 s2) go

theorem cmp_bl {op : CmpOp} {a b v : IV} {h h' : IH} (e : cmpI op a b h = .ok v h') : ∃ t, v = .bl t := by
  have fin : ∀ {x : Option Bool} {f : Bool → Bool}, (match x with | some r => Out.ok (IV.bl (f r)) h | none => .stuck) = Out.ok v h' → ∃ t, v = .bl t := fun {x f} e => by
    split at e
    · exact ⟨_, (out_inj e).1.symm⟩
    · cases e
  unfold cmpI at e
  split at e
  · exact fin (f := id) e
  · exact fin (f := not) e
  all_goals first
    | exact fin (f := id) e
    | exact fin (f := not) e
    | (split at e
       · exact ⟨_, (out_inj e).1.symm⟩
       · cases e)
    | (split at e
       · exact ⟨_, (out_inj e).1.symm⟩
       · split at e
         · exact ⟨_, (out_inj e).1.symm⟩
         · cases e
       · cases e)
end
end Pi
end

section
set_option maxHeartbeats 8000000

/-! PiLoop: targets, what loops walk, comprehensions; then every expression. -/
namespace Pi
open PySem PySem.Spec PyProof.Rows L2

/-! ### targets -/
section
variable {X : Cx} {c : Cs} {Φ : Calls} {d : Nat}
/-- a target's reading: what is stored, and which slots it was -/
def TG' (K : PySem.W.Frag) (tg : Tg) : TG := fun v τ H Q => ∃ φ h σ x σ1, Rel K φ h H ∧ SR K φ H σ τ ∧ VR K φ H x v ∧ tgI tg x σ = some σ1 ∧
  ∀ τ1, SR K φ H σ1 τ1 → (∀ vs, (∀ i ∈ tgIx tg, i ∈ vs) → L2.wipe τ1 vs = L2.wipe τ vs) → Q τ1 H
theorem wipe_set (v : Option V) : ∀ (vs : List Nat) (τ : L2.St) (i : Nat), i ∈ vs → L2.wipe (τ.set i v) vs = L2.wipe τ vs
  | [], _, _, h => absurd h List.not_mem_nil
  | j :: vs, τ, i, h => by
    show (L2.wipe (τ.set i v) vs).set j none = (L2.wipe τ vs).set j none
    have key : ∀ (vs : List Nat), (L2.wipe (τ.set i v) vs) = (L2.wipe τ vs) ∨ (L2.wipe (τ.set i v) vs) = (L2.wipe τ vs).set i v := fun vs => by
      induction vs with
      | nil => exact .inr rfl
      | cons k vs ih =>
        show (L2.wipe (τ.set i v) vs).set k none = (L2.wipe τ vs).set k none ∨ (L2.wipe (τ.set i v) vs).set k none = ((L2.wipe τ vs).set k none).set i v
        rcases ih with ih | ih
        · exact .inl (by rw [ih])
        · rw [ih]
          by_cases hk : k = i
          · subst hk; exact .inl (by rw [List.set_set])
          · exact .inr (List.set_comm _ _ (Ne.symm hk))
    rcases List.mem_cons.mp h with e | m
    · subst e
      rcases key vs with k | k
      · rw [k]
      · rw [k, List.set_set]
    · rw [wipe_set v vs τ i m]
theorem tg_shape {n : Nat} {e : Expr} {t : Tg} (h : cTg c n e = some t) : (∃ x p, e = .Name x p) ∨ ∃ es k p, e = .Tuple es k p := by
  cases n with
  | zero => cases h
  | succ n =>
    unfold cTg at h
    split at h
    · exact .inl ⟨_, _, rfl⟩
    · exact .inr ⟨_, _, _, rfl⟩
    · exact .inr ⟨_, _, _, rfl⟩
    · exact .inr ⟨_, _, _, rfl⟩
    · cases h
theorem assignEach_tg {n : Nat} {e : Expr} {t : Tg} {es : List Expr} {env : Env} (h : cTg c n e = some t) : assignEach (e :: es) env = (false, assign e env) :: assignEach es env := by
  rcases tg_shape h with ⟨x, p, rfl⟩ | ⟨es, k, p, rfl⟩ <;> rfl
theorem pgs_tg {n : Nat} {e : Expr} {t : Tg} {es : List Expr} {g : TG} {u : TGs} (h : cTg c n e = some t) (h1 : PG X e g) (h2 : PGs X es u) : PGs X (e :: es) (gCons g u) :=
  pgs_cons h1 h2 (by rw [assignEach_tg h]; rfl)
theorem GX.sto (g : GX X c Φ d) {x : Str} (h : c.sto x = true) : L2.Loc X.env.scope x ∧ (X.fn x = true ∨ X.env.scope.names.lookup x = some .local) := by
  unfold Cs.sto at h
  unfold L2.Loc
  rw [g.sc]
  rcases Bool.or_eq_true_iff.mp h with h | h
  · exact ⟨.inl (of_decide_eq_true h), .inr (of_decide_eq_true h)⟩
  · rw [Bool.and_eq_true] at h
    exact ⟨.inr (of_decide_eq_true h.1), .inl (g.fc x (of_decide_eq_true h.2))⟩
theorem tgI_one {a : Tg} {x : IV} {σ σ1 : Sl} (e : tgI (.one a) x σ = some σ1) : ∃ y, x = .tup [y] ∧ tgI a y σ = some σ1 := by
  cases x with
  | tup ys => match ys, e with
    | [y], e => exact ⟨y, rfl, e⟩
  | _ => cases e
theorem tgI_pair {a b : Tg} {x : IV} {σ σ1 : Sl} (e : tgI (.pair a b) x σ = some σ1) : ∃ y z σ0, x = .tup [y, z] ∧ tgI a y σ = some σ0 ∧ tgI b z σ0 = some σ1 := by
  cases x with
  | tup ys => match ys, e with
    | [y, z], e =>
      have e : (tgI a y σ).bind (tgI b z) = some σ1 := e
      obtain ⟨σ0, e1, e2⟩ := Option.bind_eq_some_iff.mp e
      exact ⟨y, z, σ0, rfl, e1, e2⟩
  | _ => cases e
theorem tgI_three {a b d : Tg} {x : IV} {σ σ1 : Sl} (e : tgI (.three a b d) x σ = some σ1) : ∃ y z w σ0 σ2, x = .tup [y, z, w] ∧ tgI a y σ = some σ0 ∧ tgI b z σ0 = some σ2 ∧ tgI d w σ2 = some σ1 := by
  cases x with
  | tup ys => match ys, e with
    | [y, z, w], e =>
      have e : ((tgI a y σ).bind (tgI b z)).bind (tgI d w) = some σ1 := e
      obtain ⟨σ2, e1, e3⟩ := Option.bind_eq_some_iff.mp e
      obtain ⟨σ0, e1, e2⟩ := Option.bind_eq_some_iff.mp e1
      exact ⟨y, z, w, σ0, σ2, rfl, e1, e2, e3⟩
  | _ => cases e
theorem VR.tup_inv {K : PySem.W.Frag} {φ : List Addr} {H : Hp} {xs : List IV} {v : V} (r : VR K φ H (.tup xs) v) : ∃ p vs, v = .ref p ∧ SqT K H p vs ∧ VRs K φ H xs vs := by
  rw [VR] at r
  obtain ⟨p, vs, e, s, q, _⟩ := r
  exact ⟨p, vs, e, .inl (.inl s), q⟩
theorem tg_ok (g : GX X c Φ d) : ∀ (n : Nat) (e : Expr) (t : Tg), cTg c n e = some t → PG X e (TG' X.K t) := by
  intro n
  induction n with
  | zero => intro e t h; cases h
  | succ n ih =>
    intro e t h
    unfold cTg at h
    split at h
    · rename_i x p
      split at h
      · rename_i hk
        obtain ⟨i, e1, h⟩ := Option.map_eq_some_iff.mp h
        subst h
        have hN : X.N[i]? = some x := by rw [g.N]; exact findIx_get e1
        obtain ⟨hx, hf⟩ := g.sto hk
        refine ⟨fun pins s τ H v u Q I r q => (pg_name (pos := p) (by rw [g.N]; exact g.nd) hN hx hf).run pins s τ H v u Q I r ?_⟩
        obtain ⟨φ, h, σ, y, σ1, rl, sr, vr, e2, k⟩ := q
        have e2 : some (σ.set i (some y)) = some σ1 := e2
        cases e2
        exact k _ (sr.set i vr) fun vs hvs => wipe_set _ vs τ i (hvs i (List.mem_singleton.mpr rfl))
      · cases h
    · rename_i a k p
      obtain ⟨a', e1, h⟩ := Option.map_eq_some_iff.mp h
      subst h
      refine ⟨fun pins s τ H v u Q I r q => (pg_tup (n := 1) g.calm (pgs_tg e1 (ih a a' e1) pgs_nil) (by rw [assignEach_tg e1]; rfl) (by rw [assignEach_tg e1]; rfl)).run pins s τ H v u Q I r ?_⟩
      obtain ⟨φ, h, σ, y, σ1, rl, sr, vr, e2, k⟩ := q
      obtain ⟨y1, rfl, e2⟩ := tgI_one e2
      obtain ⟨p', vs, rfl, sq, q⟩ := vr.tup_inv
      obtain ⟨v1, rfl, q1⟩ := q.one_inv
      exact ⟨p', [v1], rfl, sq, rfl, v1, [], rfl, φ, h, σ, y1, σ1, rl, sr, q1, e2, fun τ1 s1 w1 => ⟨rfl, k τ1 s1 w1⟩⟩
    · rename_i a b k p
      obtain ⟨a', e1, h⟩ := Option.bind_eq_some_iff.mp h
      obtain ⟨b', e2, h⟩ := Option.map_eq_some_iff.mp h
      subst h
      refine ⟨fun pins s τ H v u Q I r q => (pg_tup (n := 2) g.calm (pgs_tg e1 (ih a a' e1) (pgs_tg e2 (ih b b' e2) pgs_nil)) (by rw [assignEach_tg e1, List.length_cons, assignEach_tg e2]; rfl) (by rw [assignEach_tg e1, assignEach_tg e2]; rfl)).run pins s τ H v u Q I r ?_⟩
      obtain ⟨φ, h, σ, y, σ1, rl, sr, vr, e3, k⟩ := q
      obtain ⟨y1, y2, σ0, rfl, e3, e4⟩ := tgI_pair e3
      obtain ⟨p', vs, rfl, sq, q⟩ := vr.tup_inv
      obtain ⟨v1, v2, rfl, q1, q2⟩ := q.two_inv
      refine ⟨p', [v1, v2], rfl, sq, rfl, v1, [v2], rfl, φ, h, σ, y1, σ0, rl, sr, q1, e3, fun τ1 s1 w1 => ⟨v2, [], rfl, φ, h, σ0, y2, σ1, rl, s1, q2, e4, fun τ2 s2 w2 => ⟨rfl, k τ2 s2 fun vs hvs => ?_⟩⟩⟩
      rw [w2 vs fun i m => hvs i (List.mem_append_right _ m), w1 vs fun i m => hvs i (List.mem_append_left _ m)]
    · rename_i a b d0 k p
      obtain ⟨a', e1, h⟩ := Option.bind_eq_some_iff.mp h
      obtain ⟨b', e2, h⟩ := Option.bind_eq_some_iff.mp h
      obtain ⟨d', e3, h⟩ := Option.map_eq_some_iff.mp h
      subst h
      refine ⟨fun pins s τ H v u Q I r q => (pg_tup (n := 3) g.calm (pgs_tg e1 (ih a a' e1) (pgs_tg e2 (ih b b' e2) (pgs_tg e3 (ih d0 d' e3) pgs_nil))) (by rw [assignEach_tg e1, List.length_cons, assignEach_tg e2, List.length_cons, assignEach_tg e3]; rfl)
        (by rw [assignEach_tg e1, assignEach_tg e2, assignEach_tg e3]; rfl)).run pins s τ H v u Q I r ?_⟩
      obtain ⟨φ, h, σ, y, σ1, rl, sr, vr, e4, k⟩ := q
      obtain ⟨y1, y2, y3, σ0, σ2, rfl, e4, e5, e6⟩ := tgI_three e4
      obtain ⟨p', vs, rfl, sq, q⟩ := vr.tup_inv
      rw [VRs] at q
      obtain ⟨v1, vs2, rfl, q1, q⟩ := q
      obtain ⟨v2, v3, rfl, q2, q3⟩ := q.two_inv
      refine ⟨p', [v1, v2, v3], rfl, sq, rfl, v1, [v2, v3], rfl, φ, h, σ, y1, σ0, rl, sr, q1, e4, fun τ1 s1 w1 => ⟨v2, [v3], rfl, φ, h, σ0, y2, σ2, rl, s1, q2, e5, fun τ2 s2 w2 => ⟨v3, [], rfl, φ, h, σ2, y3, σ1, rl, s2, q3, e6, fun τ3 s3 w3 => ⟨rfl, k τ3 s3 fun vs hvs => ?_⟩⟩⟩⟩
      rw [w3 vs fun i m => hvs i (List.mem_append_right _ (List.mem_append_right _ m)), w2 vs fun i m => hvs i (List.mem_append_right _ (List.mem_append_left _ m)), w1 vs fun i m => hvs i (List.mem_append_left _ m)]
    · cases h
end

/-! ### what is walked -/
/-- the layer's iterator yields what the interpreter's does -/
structure WkOk (K : PySem.W.Frag) (w : Wk) (J : L2.It) (φ0 : List Addr) (H0 : Hp) : Prop where
  item : ∀ (n : Nat) (φ : List Addr) (h : IH) (H : Hp) (x : IV), Px φ0 φ → Kp φ0 φ H0 H → Rel K φ h H → wkAt w n h = some (some x) → J.go n H ∧ ∀ v H', J.yld n H v H' → Kp φ φ H H' ∧ Rel K φ h H' ∧ VR K φ H' x v
  stop : ∀ (n : Nat) (φ : List Addr) (h : IH) (H : Hp), Px φ0 φ → Kp φ0 φ H0 H → Rel K φ h H → wkAt w n h = some none → J.stop n H
def TW (K : PySem.W.Frag) (d : Sl → IH → Out Wk) : L2.TI := fun τ H R => ∃ φ σ h w h', Rel K φ h H ∧ SR K φ H σ τ ∧ d σ h = .ok w h' ∧ ∀ φ' H' J, Px φ φ' → Kp φ φ' H H' → Rel K φ' h' H' → WkOk K w J φ' H' → R J H'

section
variable {K : PySem.W.Frag} {φ : List Addr} {H : Hp} {h : IH}
theorem Rel.lsAt {i : Nat} {a : Addr} {xs : List IV} (r : Rel K φ h H) (e1 : φ[i]? = some a) (e2 : Pi.lsAt h i = some xs) : ∃ vs, SqL K H a vs ∧ VRs K φ H xs vs ∧ xs.length = vs.length := by
  unfold Pi.lsAt at e2
  split at e2
  · rename_i ys ey
    cases e2
    exact r.sqL e1 ey
  · cases e2
/-- the one list that stands at a place, by the layer -/
theorem sql_uniq {xs ys : List V} {a : Addr} (x : SqL K H a xs) (f : ∀ ys, SqL K H a ys → ys = xs) (y : SqL K H a ys) : ys = xs := f ys y
end

theorem wk_list {K : PySem.W.Frag} {φ : List Addr} {H : Hp} {i : Nat} {a : Addr} (e1 : φ[i]? = some a) : WkOk K (.lst i) (Itl K a) φ H where
  item := fun n φ' h H' x p k r e => by
    have e : (lsAt h i).map (fun xs => xs[n]?) = some (some x) := e
    obtain ⟨xs, e2, e⟩ := Option.map_eq_some_iff.mp e
    obtain ⟨vs, s, q, _⟩ := r.lsAt (p i a e1) e2
    obtain ⟨v, ev, qv⟩ := q.get e
    refine ⟨⟨vs, v, s, ev⟩, fun w H'' y => ?_⟩
    obtain ⟨y1, y2⟩ := y
    subst y1
    have : v = w := Option.some.inj (ev.symm.trans (y2 vs s))
    subst this
    exact ⟨.refl φ' _, r, qv⟩
  stop := fun n φ' h H' p k r e => by
    have e : (lsAt h i).map (fun xs => xs[n]?) = some none := e
    obtain ⟨xs, e2, e⟩ := Option.map_eq_some_iff.mp e
    obtain ⟨vs, s, q, l⟩ := r.lsAt (p i a e1) e2
    exact ⟨vs, s, by rw [← l]; exact List.getElem?_eq_none_iff.mp e⟩
theorem wk_tup {K : PySem.W.Frag} {φ : List Addr} {H : Hp} {xs : List IV} {vs : List V} {a : Addr} (s : SqT K H a vs) (q : VRs K φ H xs vs) : WkOk K (.vals xs) (Itt K a) φ H where
  item := fun n φ' h H' x p k r e => by
    have e : some xs[n]? = some (some x) := e
    have q' := q.mono p k
    obtain ⟨v, ev, qv⟩ := q'.get (Option.some.inj e)
    refine ⟨⟨vs, v, sqt_kp k s, ev⟩, fun w H'' y => ?_⟩
    obtain ⟨y1, y2⟩ := y
    subst y1
    have : v = w := Option.some.inj (ev.symm.trans (y2 vs (sqt_kp k s)))
    subst this
    exact ⟨.refl φ' _, r, qv⟩
  stop := fun n φ' h H' p k r e => by
    have e : some xs[n]? = some none := e
    exact ⟨vs, sqt_kp k s, by rw [← q.length]; exact List.getElem?_eq_none_iff.mp (Option.some.inj e)⟩
theorem wk_lsr {K : PySem.W.Frag} {φ : List Addr} {H : Hp} {xs : List IV} {vs : List V} {a : Addr} (s : (∃ o, H a = some (.frz o (.lst vs))) ∨ (∀ H', SqL K H' a vs)) (q : VRs K φ H xs vs) : WkOk K (.vals xs) (Itl K a) φ H where
  item := fun n φ' h H' x p k r e => by
    have e : some xs[n]? = some (some x) := e
    have q' := q.mono p k
    obtain ⟨v, ev, qv⟩ := q'.get (Option.some.inj e)
    have s' := frz_sql (frz_kp k s)
    refine ⟨⟨vs, v, s', ev⟩, fun w H'' y => ?_⟩
    obtain ⟨y1, y2⟩ := y
    subst y1
    have : v = w := Option.some.inj (ev.symm.trans (y2 vs s'))
    subst this
    exact ⟨.refl φ' _, r, qv⟩
  stop := fun n φ' h H' p k r e => by
    have e : some xs[n]? = some none := e
    exact ⟨vs, frz_sql (frz_kp k s), by rw [← q.length]; exact List.getElem?_eq_none_iff.mp (Option.some.inj e)⟩
theorem wk_range {K : PySem.W.Frag} {φ : List Addr} {H : Hp} (lo : Int) (m : Nat) : WkOk K (.vals ((List.range m).map fun k : Nat => .int (lo + k))) (Itr lo m) φ H where
  item := fun n φ' h H' x p k r e => by
    have e : some ((List.range m).map fun k : Nat => IV.int (lo + k))[n]? = some (some x) := e
    have e := Option.some.inj e
    rw [List.getElem?_map] at e
    obtain ⟨j, e1, e2⟩ := Option.map_eq_some_iff.mp e
    obtain ⟨hj, e3⟩ := List.getElem?_eq_some_iff.mp e1
    rw [List.length_range] at hj
    rw [List.getElem_range] at e3
    subst e3 e2
    refine ⟨hj, fun w H'' y => ?_⟩
    obtain ⟨y1, y2⟩ := y
    subst y1 y2
    exact ⟨.refl φ' _, r, by rw [VR]⟩
  stop := fun n φ' h H' p k r e => by
    have e : some ((List.range m).map fun k : Nat => IV.int (lo + k))[n]? = some none := e
    have e := List.getElem?_eq_none_iff.mp (Option.some.inj e)
    rw [List.length_map, List.length_range] at e
    exact e
theorem wk_enum {K : PySem.W.Frag} {φ : List Addr} {H : Hp} {i : Nat} {a : Addr} (e1 : φ[i]? = some a) : WkOk K (.enum i) (Ite K a) φ H where
  item := fun n φ' h H' x p k r e => by
    have e : (lsAt h i).map (fun xs => xs[n]?.map fun x => IV.tup [.int n, x]) = some (some x) := e
    obtain ⟨xs, e2, e⟩ := Option.map_eq_some_iff.mp e
    obtain ⟨y, e3, e⟩ := Option.map_eq_some_iff.mp e
    subst e
    obtain ⟨vs, s, q, _⟩ := r.lsAt (p i a e1) e2
    obtain ⟨v, ev, qv⟩ := q.get e3
    refine ⟨⟨vs, v, s, ev⟩, fun w H'' z => ?_⟩
    obtain ⟨T, v', rfl, hT, rfl, z2⟩ := z
    have : v = v' := Option.some.inj (ev.symm.trans (z2 vs s))
    subst this
    refine ⟨.newU hT, r.newU hT, ?_⟩
    rw [VR]
    refine ⟨T, [.int n, v], rfl, upd_same, ?_, by show 2 ≤ sizeLine; decide⟩
    rw [VRs]
    exact ⟨_, _, rfl, by rw [VR], .one (qv.mono (.refl φ') (.newU hT))⟩
  stop := fun n φ' h H' p k r e => by
    have e : (lsAt h i).map (fun xs => xs[n]?.map fun x => IV.tup [.int n, x]) = some none := e
    obtain ⟨xs, e2, e⟩ := Option.map_eq_some_iff.mp e
    obtain ⟨vs, s, q, l⟩ := r.lsAt (p i a e1) e2
    exact ⟨vs, s, by rw [← l]; exact List.getElem?_eq_none_iff.mp (Option.map_eq_none_iff.mp e)⟩
theorem wk_enumT {K : PySem.W.Frag} {φ : List Addr} {H : Hp} {xs : List IV} {vs : List V} {a : Addr} (s : SqT K H a vs) (q : VRs K φ H xs vs) : WkOk K (.enumT xs) (ItT K a) φ H where
  item := fun n φ' h H' x p k r e => by
    have e : some (xs[n]?.map fun x => IV.tup [.int n, x]) = some (some x) := e
    obtain ⟨y, e3, e⟩ := Option.map_eq_some_iff.mp (Option.some.inj e)
    subst e
    have q' := q.mono p k
    have s' := sqt_kp k s
    obtain ⟨v, ev, qv⟩ := q'.get e3
    refine ⟨⟨vs, v, s', ev⟩, fun w H'' z => ?_⟩
    obtain ⟨T, v', rfl, hT, rfl, z2⟩ := z
    have : v = v' := Option.some.inj (ev.symm.trans (z2 vs s'))
    subst this
    refine ⟨.newU hT, r.newU hT, ?_⟩
    rw [VR]
    refine ⟨T, [.int n, v], rfl, upd_same, ?_, by show 2 ≤ sizeLine; decide⟩
    rw [VRs]
    exact ⟨_, _, rfl, by rw [VR], .one (qv.mono (.refl φ') (.newU hT))⟩
  stop := fun n φ' h H' p k r e => by
    have e : some (xs[n]?.map fun x => IV.tup [.int n, x]) = some none := e
    exact ⟨vs, sqt_kp k s, by rw [← q.length]; exact List.getElem?_eq_none_iff.mp (Option.map_eq_none_iff.mp (Option.some.inj e))⟩
theorem wk_rev {K : PySem.W.Frag} {φ : List Addr} {H : Hp} {i m : Nat} {a : Addr} (e1 : φ[i]? = some a) : WkOk K (.rev i m) (Itv K a m) φ H where
  item := fun n φ' h H' x p k r e => by
    have e : (lsAt h i).bind (fun xs => if n < m then (xs[m - 1 - n]?).map some else some none) = some (some x) := e
    obtain ⟨xs, e2, e⟩ := Option.bind_eq_some_iff.mp e
    split at e
    · rename_i hn
      obtain ⟨y, e3, e⟩ := Option.map_eq_some_iff.mp e
      cases e
      obtain ⟨vs, s, q, _⟩ := r.lsAt (p i a e1) e2
      obtain ⟨v, ev, qv⟩ := q.get e3
      refine ⟨⟨hn, vs, v, s, ev⟩, fun w H'' z => ?_⟩
      obtain ⟨z1, z2⟩ := z
      subst z1
      have : v = w := Option.some.inj (ev.symm.trans (z2 vs s))
      subst this
      exact ⟨.refl φ' _, r, qv⟩
    · cases e
  stop := fun n φ' h H' p k r e => by
    have e : (lsAt h i).bind (fun xs => if n < m then (xs[m - 1 - n]?).map some else some none) = some none := e
    obtain ⟨xs, e2, e⟩ := Option.bind_eq_some_iff.mp e
    split at e
    · obtain ⟨y, e3, e⟩ := Option.map_eq_some_iff.mp e
      cases e
    · rename_i hn
      exact Nat.le_of_not_lt hn
theorem wk_zip {K : PySem.W.Frag} {φ : List Addr} {H : Hp} {i j : Nat} {a b : Addr} (e1 : φ[i]? = some a) (f1 : φ[j]? = some b) : WkOk K (.zip i j) (Itz K a b) φ H where
  item := fun n φ' h H' x p k r e => by
    have e : (lsAt h i).bind (fun xs => (lsAt h j).map fun ys => match xs[n]?, ys[n]? with | some x, some y => some (IV.tup [x, y]) | _, _ => none) = some (some x) := e
    obtain ⟨xs, e2, e⟩ := Option.bind_eq_some_iff.mp e
    obtain ⟨ys, f2, e⟩ := Option.map_eq_some_iff.mp e
    split at e
    · rename_i x1 y1 e3 f3
      cases e
      obtain ⟨vs, s, q, _⟩ := r.lsAt (p i a e1) e2
      obtain ⟨us, t, o, _⟩ := r.lsAt (p j b f1) f2
      obtain ⟨v, ev, qv⟩ := q.get e3
      obtain ⟨u, eu, qu⟩ := o.get f3
      refine ⟨⟨vs, us, v, u, s, t, ev, eu⟩, fun w H'' z => ?_⟩
      obtain ⟨T, v', u', rfl, hT, rfl, z2, z3⟩ := z
      have : v = v' := Option.some.inj (ev.symm.trans (z2 vs s))
      subst this
      have : u = u' := Option.some.inj (eu.symm.trans (z3 us t))
      subst this
      refine ⟨.newU hT, r.newU hT, ?_⟩
      rw [VR]
      refine ⟨T, [v, u], rfl, upd_same, ?_, by show 2 ≤ sizeLine; decide⟩
      rw [VRs]
      exact ⟨_, _, rfl, qv.mono (.refl φ') (.newU hT), .one (qu.mono (.refl φ') (.newU hT))⟩
    · cases e
  stop := fun n φ' h H' p k r e => by
    have e : (lsAt h i).bind (fun xs => (lsAt h j).map fun ys => match xs[n]?, ys[n]? with | some x, some y => some (IV.tup [x, y]) | _, _ => none) = some none := e
    obtain ⟨xs, e2, e⟩ := Option.bind_eq_some_iff.mp e
    obtain ⟨ys, f2, e⟩ := Option.map_eq_some_iff.mp e
    obtain ⟨vs, s, q, l⟩ := r.lsAt (p i a e1) e2
    obtain ⟨us, t, o, l2⟩ := r.lsAt (p j b f1) f2
    refine ⟨vs, us, s, t, ?_⟩
    cases e3 : xs[n]? with
    | none => exact .inl (by rw [← l]; exact List.getElem?_eq_none_iff.mp e3)
    | some x1 =>
      cases f3 : ys[n]? with
      | none => exact .inr (by rw [← l2]; exact List.getElem?_eq_none_iff.mp f3)
      | some y1 => rw [e3, f3] at e; cases e
end Pi
end

section
set_option maxHeartbeats 8000000

/-! PiIter: what stands behind «in», comprehensions, and every expression. -/
namespace Pi
open PySem PySem.Spec PyProof.Rows L2

section
variable {X : Cx} {c : Cs} {Φ : Calls} {d : Nat} {tg : Expr}
def iSeq (K : PySem.W.Frag) (tl : TE) : L2.TI := fun σ H R => tl σ H fun x H1 => ∃ a, x = .ref a ∧ (((∃ xs, SqL K H1 a xs) ∧ R (Itl K a) H1) ∨ ((∃ xs, SqT K H1 a xs) ∧ R (Itt K a) H1))
theorem pi_seq {l : Expr} {tl : TE} (hl : PE X l tl) : PI X tg l (iSeq X.K tl) := by
  refine ⟨fun pins s σ H R I h => ?_⟩
  refine thn (hl.run pins s σ H _ I h) fun v s1 ⟨x, H1, I1, r1, q1⟩ => ?_
  obtain ⟨a, e, q⟩ := q1
  subst e
  cases r1
  rcases q with ⟨⟨xs, hq⟩, q⟩ | ⟨⟨xs, hq⟩, q⟩
  · obtain ⟨its, rv, p, hz⟩ := I1.list hq
    refine wpAny_pyIter_list p.isList ?_
    refine ⟨s1.heap.objs.size, [s1.heap.objs.size], _, _, H1, rfl, I1.kept (t' := s1.toks) fun b o e => Heap.get?_push_of_some _ e, turn_list a _, ⟨_, Heap.get?_push_size _ rfl, rfl, rfl⟩, fun b hb => ?_, q⟩
    have e : b = s1.heap.objs.size := by simpa using hb
    subst e
    exact I1.fpOk (Nat.le_refl _) (I1.hok.fresh (Nat.le_refl _))
  · obtain ⟨its, rv, p, hz⟩ := I1.tuple hq
    refine wpAny_pyIter_tuple (show s1.heap.IsTuple a its.toArray from p) ?_
    refine ⟨s1.heap.objs.size, [s1.heap.objs.size], _, _, H1, rfl, I1.kept (t' := s1.toks) fun b o e => Heap.get?_push_of_some _ e, turn_tuple a _, ⟨_, Heap.get?_push_size _ rfl, rfl, rfl⟩, fun b hb => ?_, q⟩
    have e : b = s1.heap.objs.size := by simpa using hb
    subst e
    exact I1.fpOk (Nat.le_refl _) (I1.hok.fresh (Nat.le_refl _))
theorem PI.mono {e : Expr} {t t' : L2.TI} (p : PI X tg e t) (h : ∀ τ H R, t' τ H R → t τ H R) : PI X tg e t' := ⟨fun pins s σ H R I q => p.run pins s σ H R I (h σ H R q)⟩

theorem it_val {e : Expr} {e' : E} (o : OkE X Φ e e') : PI X tg e (TW X.K (eI Φ (.val e'))) := by
  refine PI.mono (pi_seq o.1) fun τ H R q => ?_
  obtain ⟨φ, σ, h, w, h', rl, s, e1, k⟩ := q
  obtain ⟨x, h1, f1, e1⟩ := bind_eq_ok (show (eE Φ e' σ h).bind _ = Out.ok w h' from e1)
  refine TI.seq rl s f1 fun φ1 H1 v p1 k1 r1 s1 q1 => ?_
  split at e1
  · rename_i xs
    obtain ⟨g1, g2⟩ := out_inj e1
    subst g1 g2
    obtain ⟨p, vs, rfl, sq, q⟩ := q1.tup_inv
    exact ⟨p, rfl, .inr ⟨⟨vs, sq⟩, k φ1 H1 _ p1 k1 r1 (wk_tup sq q)⟩⟩
  · rename_i xs
    obtain ⟨g1, g2⟩ := out_inj e1
    subst g1 g2
    rw [VR] at q1
    obtain ⟨p, vs, rfl, sq, q⟩ := q1
    exact ⟨p, rfl, .inl ⟨⟨vs, frz_sql sq⟩, k φ1 H1 _ p1 k1 r1 (wk_lsr sq q)⟩⟩
  · rename_i i
    split at e1
    · rename_i xs ex
      obtain ⟨g1, g2⟩ := out_inj e1
      subst g1 g2
      rw [VR] at q1
      obtain ⟨p, ep, rfl⟩ := q1
      obtain ⟨vs, sq, q, _⟩ := r1.lsAt ep ex
      exact ⟨p, rfl, .inl ⟨⟨vs, sq⟩, k φ1 H1 _ p1 k1 r1 (wk_list ep)⟩⟩
    · cases e1
  · cases e1
theorem args1 {n : Nat} (ih : ∀ e e', cE n c e = some e' → OkE X Φ e e') {a : Expr} {a' : E} (h : cE n c a = some a') : PA X [a] (TL X.K (eEs Φ (.cons a' .nil))) :=
  es_ok ih [a] _ (by unfold cEs; rw [h]; rfl)
theorem args2 {n : Nat} (ih : ∀ e e', cE n c e = some e' → OkE X Φ e e') {a b : Expr} {a' b' : E} (h : cE n c a = some a') (h2 : cE n c b = some b') : PA X [a, b] (TL X.K (eEs Φ (.cons a' (.cons b' .nil)))) :=
  es_ok ih [a, b] _ (by unfold cEs cEs; rw [h, h2]; rfl)
theorem TL.one {K : PySem.W.Frag} {φ : List Addr} {H : Hp} {h h1 : IH} {σ : Sl} {τ : L2.St} {a' : E} {x : IV} {Q : List V → Hp → Prop} (r : Rel K φ h H) (s : SR K φ H σ τ) (e : eE Φ a' σ h = .ok x h1)
    (k : ∀ φ' H' w, Px φ φ' → Kp φ φ' H H' → Rel K φ' h1 H' → SR K φ' H' σ τ → VR K φ' H' x w → Q [w] H') : TL K (eEs Φ (.cons a' .nil)) τ H Q := by
  refine TL.seq r s (show eEs Φ (.cons a' .nil) σ h = .ok [x] h1 from ?_) fun φ' H' ws p kp r' s' q => ?_
  · show (eE Φ a' σ h).bind _ = _
    rw [e]; rfl
  · obtain ⟨w, rfl, q1⟩ := q.one_inv
    exact k φ' H' w p kp r' s' q1
theorem TL.two {K : PySem.W.Frag} {φ : List Addr} {H : Hp} {h h1 h2 : IH} {σ : Sl} {τ : L2.St} {a' b' : E} {x y : IV} {Q : List V → Hp → Prop} (r : Rel K φ h H) (s : SR K φ H σ τ) (e : eE Φ a' σ h = .ok x h1) (e2 : eE Φ b' σ h1 = .ok y h2)
    (k : ∀ φ' H' w u, Px φ φ' → Kp φ φ' H H' → Rel K φ' h2 H' → SR K φ' H' σ τ → VR K φ' H' x w → VR K φ' H' y u → Q [w, u] H') : TL K (eEs Φ (.cons a' (.cons b' .nil))) τ H Q := by
  refine TL.seq r s (show eEs Φ (.cons a' (.cons b' .nil)) σ h = .ok [x, y] h2 from ?_) fun φ' H' ws p kp r' s' q => ?_
  · show (eE Φ a' σ h).bind _ = _
    rw [e]
    show (Out.bind (Out.bind (eE Φ b' σ h1) _) _) = _
    rw [e2]; rfl
  · obtain ⟨w, u, rfl, q1, q2⟩ := q.two_inv
    exact k φ' H' w u p kp r' s' q1 q2

theorem ints_get {K : PySem.W.Frag} {φ : List Addr} {H : Hp} (xs : List Int) : VRs K φ H (xs.map IV.int) (xs.map V.int) := VRs.ofInts xs
theorem it_ok (g : GX X c Φ d) {n : Nat} (ih : ∀ e e', cE n c e = some e' → OkE X Φ e e') {e : Expr} {it : It} (h : cI c (cE n c) tg e = some it) : PI X tg e (TW X.K (eI Φ it)) := by
  have dflt : ∀ {it : It}, (if isSetE e = true then none else (cE n c e).map It.val) = some it → PI X tg e (TW X.K (eI Φ it)) := fun {it} h => by
    split at h
    · cases h
    · obtain ⟨e', e1, h⟩ := Option.map_eq_some_iff.mp h
      subst h
      exact it_val (ih e e' e1)
  unfold cI at h
  simp only at h
  split at h
  · rename_i x p
    split at h
    · rename_i hx
      rw [Bool.and_eq_true] at hx
      obtain ⟨xs, e1, h⟩ := Option.map_eq_some_iff.mp h
      subst h
      obtain ⟨a, hm, hs⟩ := g.T x xs e1
      refine PI.mono (pi_tup (pe_glob (v := .ref a) (g.gl hx.2) hm rfl (plain1 hx.1))) fun τ H R q => ?_
      obtain ⟨φ, σ, h, w, h', rl, s, e2, k⟩ := q
      obtain ⟨g1, g2⟩ := out_inj (show Out.ok (Wk.vals (xs.map IV.int)) h = Out.ok w h' from e2)
      subst g1 g2
      exact ⟨a, rfl, ⟨_, hs H⟩, k φ H _ (.refl φ) (.refl φ H) rl (wk_tup (hs H) (ints_get xs))⟩
    · exact dflt h
  · rename_i x xp a pos
    split at h
    · rename_i hx
      simp only [Bool.and_eq_true, decide_eq_true_eq] at hx
      have hg := g.gl hx.1.2
      split at h
      · rename_i en
        subst en
        obtain ⟨a', e1, h⟩ := Option.map_eq_some_iff.mp h
        subst h
        refine PI.mono (pi_range1 hg (g.bn _ (by decide)) (args1 ih e1) (star_plain (noStar e1))) fun τ H R q => ?_
        obtain ⟨φ, σ, h, w, h', rl, s, e2, k⟩ := q
        obtain ⟨z, h1, f1, e2⟩ := bind_eq_ok (show (eE Φ a' σ h).bind _ = Out.ok w h' from e2)
        refine TL.one rl s f1 fun φ1 H1 v p1 k1 r1 s1 q1 => ?_
        split at e2
        · rename_i j
          split at e2
          · rename_i hj
            obtain ⟨g1, g2⟩ := out_inj e2
            subst g1 g2
            rw [VR] at q1
            subst q1
            refine ⟨j, rfl, by omega, by omega, k φ1 H1 _ p1 k1 r1 ?_⟩
            have := wk_range (K := X.K) (φ := φ1) (H := H1) 0 j.toNat
            simpa using this
          · cases e2
        · cases e2
      · split at h
        · rename_i en
          subst en
          split at h
          · rename_i ht
            obtain ⟨a', e1, h⟩ := Option.map_eq_some_iff.mp h
            subst h
            cases tg <;> first
              | cases ht
              | skip
            refine PI.mono (pi_enum2 hg (g.bn _ (by decide)) (args1 ih e1) (star_plain (noStar e1))) fun τ H R q => ?_
            obtain ⟨φ, σ, h, w, h', rl, s, e2, k⟩ := q
            obtain ⟨z, h1, f1, e2⟩ := bind_eq_ok (show (eE Φ a' σ h).bind _ = Out.ok w h' from e2)
            refine TL.one rl s f1 fun φ1 H1 v p1 k1 r1 s1 q1 => ?_
            split at e2
            · obtain ⟨g1, g2⟩ := out_inj e2
              subst g1 g2
              rw [VR] at q1
              obtain ⟨p, vs, rfl, sq, q, _⟩ := q1
              have sq' : SqT X.K H1 p vs := .inl (.inl sq)
              exact ⟨p, vs, rfl, .inr ⟨sq', k φ1 H1 _ p1 k1 r1 (wk_enumT sq' q)⟩⟩
            · rename_i i
              split at e2
              · rename_i xs ex
                obtain ⟨g1, g2⟩ := out_inj e2
                subst g1 g2
                rw [VR] at q1
                obtain ⟨p, ep, rfl⟩ := q1
                obtain ⟨vs, sq, q, _⟩ := r1.lsAt ep ex
                exact ⟨p, vs, rfl, .inl ⟨sq, k φ1 H1 _ p1 k1 r1 (wk_enum ep)⟩⟩
              · cases e2
            · cases e2
          · cases h
        · split at h
          · rename_i en
            subst en
            obtain ⟨a', e1, h⟩ := Option.map_eq_some_iff.mp h
            subst h
            refine PI.mono (pi_reversed hg (g.bn _ (by decide)) (args1 ih e1) (star_plain (noStar e1))) fun τ H R q => ?_
            obtain ⟨φ, σ, h, w, h', rl, s, e2, k⟩ := q
            obtain ⟨z, h1, f1, e2⟩ := bind_eq_ok (show (eE Φ a' σ h).bind _ = Out.ok w h' from e2)
            refine TL.one rl s f1 fun φ1 H1 v p1 k1 r1 s1 q1 => ?_
            split at e2
            · rename_i i
              split at e2
              · rename_i xs ex
                obtain ⟨g1, g2⟩ := out_inj e2
                subst g1 g2
                rw [VR] at q1
                obtain ⟨p, ep, rfl⟩ := q1
                obtain ⟨vs, sq, q, l⟩ := r1.lsAt ep ex
                refine ⟨p, vs, rfl, sq, ?_⟩
                rw [← l]
                exact k φ1 H1 _ p1 k1 r1 (wk_rev ep)
              · cases e2
            · cases e2
          · exact dflt h
    · exact dflt h
  · rename_i x xp a b pos
    split at h
    · rename_i hx
      simp only [Bool.and_eq_true, decide_eq_true_eq] at hx
      have hg := g.gl hx.1.2
      split at h
      · rename_i en
        subst en
        obtain ⟨a', e1, h⟩ := Option.bind_eq_some_iff.mp h
        obtain ⟨b', e2, h⟩ := Option.map_eq_some_iff.mp h
        subst h
        refine PI.mono (pi_range2 hg (g.bn _ (by decide)) (args2 ih e1 e2) (by rw [star_plain (noStar e1), star_plain (noStar e2)]; rfl) (star_plain (noStar e2))) fun τ H R q => ?_
        obtain ⟨φ, σ, h, w, h', rl, s, e3, k⟩ := q
        obtain ⟨z, h1, f1, e3⟩ := bind_eq_ok (show (eE Φ a' σ h).bind _ = Out.ok w h' from e3)
        obtain ⟨y, h2, f2, e3⟩ := bind_eq_ok e3
        refine TL.two rl s f1 f2 fun φ1 H1 v u p1 k1 r1 s1 q1 q2 => ?_
        split at e3
        · rename_i i j
          split at e3
          · rename_i hj
            obtain ⟨g1, g2⟩ := out_inj e3
            subst g1 g2
            rw [VR] at q1 q2
            subst q1 q2
            exact ⟨_, _, rfl, ⟨by omega, by omega, by omega, by omega⟩, k φ1 H1 _ p1 k1 r1 (wk_range _ _)⟩
          · cases e3
        · cases e3
      · split at h
        · rename_i en
          subst en
          split at h
          · rename_i ht
            obtain ⟨a', e1, h⟩ := Option.bind_eq_some_iff.mp h
            obtain ⟨b', e2, h⟩ := Option.map_eq_some_iff.mp h
            subst h
            cases tg <;> first
              | cases ht
              | skip
            refine PI.mono (pi_zip hg (g.bn _ (by decide)) (args2 ih e1 e2) (star_plain (noStar e1)) (back_none fun e m => by rw [List.mem_singleton.mp m]; exact noStar e2)) fun τ H R q => ?_
            obtain ⟨φ, σ, h, w, h', rl, s, e3, k⟩ := q
            obtain ⟨z, h1, f1, e3⟩ := bind_eq_ok (show (eE Φ a' σ h).bind _ = Out.ok w h' from e3)
            obtain ⟨y, h2, f2, e3⟩ := bind_eq_ok e3
            refine TL.two rl s f1 f2 fun φ1 H1 v u p1 k1 r1 s1 q1 q2 => ?_
            split at e3
            · rename_i i j
              split at e3
              · rename_i xs ys ex ey
                obtain ⟨g1, g2⟩ := out_inj e3
                subst g1 g2
                rw [VR] at q1 q2
                obtain ⟨p, ep, rfl⟩ := q1
                obtain ⟨p', ep', rfl⟩ := q2
                obtain ⟨vs, sq, q, _⟩ := r1.lsAt ep ex
                obtain ⟨us, sq', q', _⟩ := r1.lsAt ep' ey
                exact ⟨p, p', vs, us, rfl, sq, sq', k φ1 H1 _ p1 k1 r1 (wk_zip ep ep')⟩
              · cases e3
            · cases e3
          · cases h
        · exact dflt h
    · exact dflt h
  · exact dflt h

/-! ### comprehensions -/
theorem wipe_wipe (τ : L2.St) (vs : List Nat) : L2.wipe (L2.wipe τ vs) vs = L2.wipe τ vs := by
  have key : ∀ (us : List Nat) (ws : List Nat), (∀ i ∈ us, i ∈ ws) → L2.wipe (L2.wipe τ us) ws = L2.wipe τ ws := fun us ws => by
    induction us with
    | nil => intro _; rfl
    | cons i us ih =>
      intro h
      show L2.wipe ((L2.wipe τ us).set i none) ws = L2.wipe τ ws
      rw [wipe_set none ws _ i (h i List.mem_cons_self)]
      exact ih fun j m => h j (List.mem_cons_of_mem _ m)
  exact key vs vs fun _ m => m
theorem dummy_ok {N : List Str} {sc : List (Str × NameKind)} {S scope : Scope} {own : List (Str × Nat)} (e : S.names = sc) (h : BlkOk N (dummy sc) scope own) : BlkOk N S scope own :=
  ⟨h.kind, h.uniq, h.ix, fun y m q => by rw [e]; exact h.free y m q, h.own⟩
theorem GX.blk (g : GX X c Φ d) (scope : Scope) (hk : scope.kind = .function) (hu : ∀ y ∈ scope.names, scope.names.lookup y.1 = some y.2) (s : Shared) (H : Hp) (C : Addr) (cl : List (Str × Addr)) (fp : List Addr) : GX (X.blk s H scope (compEnvC scope cl C X.env) fp) (c.blk scope) Φ d where
  sc := by
    show (PySem.relabel scope X.env).names = blkNames c.sc scope.names
    unfold PySem.relabel blkNames
    have e1 : X.env.scope.kind = .function := g.kd
    have e2 : ∀ n, X.env.kindOf n = c.sc.lookup n := fun n => by rw [← g.sc]; rfl
    simp only [e1, e2]
  kd := hk
  N := g.N
  nd := g.nd
  calm := g.calm
  xe := rfl
  room := g.room
  G := g.G
  T := g.T
  fc := fun x hx => by
    obtain ⟨y, hy, e⟩ := List.mem_map.mp hx
    rw [List.mem_filter] at hy
    have h2 := of_decide_eq_true hy.2
    show (scope.names.lookup x == some .cell) = true
    rw [← e, h2]; rfl
  bt := g.bt
  bn := g.bn
  fn := g.fn
theorem isSet_folded {e : Expr} {env : Env} (h : isSetE e = false) : ∀ x, foldedSetIterable e env x = pure x := by
  cases e <;> first | exact fun _ => rfl | cases h
/-- what holds while a comprehension walks -/
def LcW (K : PySem.W.Frag) (D : Addr) (w : Wk) (body : IV → IH → Out (Option IV)) (φ0 : List Addr) (H0 : Hp) (res : List IV) (hF : IH) (i m : Nat) (H : Hp) : Prop :=
  ∃ φ h acc ws, Rel K φ h H ∧ Px φ0 φ ∧ Kp φ0 φ H0 H ∧ H D = some (.lst ws) ∧ D ∉ φ ∧ VRs K φ H acc ws ∧ lcGo w body i m acc h = .ok res hF
/-- the reading of a comprehension -/
theorem lc_read {K : PySem.W.Frag} {tg' : Tg} {it' : It} {o : Oe} {el' : E} : ∀ τ H Q, TI K (eE Φ (.lc el' tg' it' o (tgIx tg'))) τ H Q → tLc (TW K (eI Φ it')) (TG' K tg') (TT' K (eC Φ o)) (TI K (eE Φ el')) (tgIx tg') τ H Q := by
  intro τ H Q q
  obtain ⟨φ, σ, h, v, h', rl, sr, e, k⟩ := q
  obtain ⟨w, h1, f1, e⟩ := bind_eq_ok (show (eI Φ it' σ h).bind _ = Out.ok v h' from e)
  obtain ⟨res, h5, f2, e⟩ := bind_eq_ok e
  unfold newL at e
  split at e
  case isFalse => cases e
  rename_i hz
  obtain ⟨g1, g2⟩ := out_inj e
  subst g1 g2
  refine ⟨φ, σ, h, w, h1, rl, sr, f1, fun φ1 H1 J p1 k1 r1 wk D hD => ?_⟩
  have sr1 := sr.mono p1 k1
  generalize hb : (fun (x : IV) (h2 : IH) => match tgI tg' x (wipeI σ (tgIx tg')) with
      | some σ2 => (eC Φ o σ2 h2).bind fun b h3 => if b then (eE Φ el' σ2 h3).bind fun v h4 => Out.ok (some v) h4 else .ok none h3
      | none => .stuck) = body at f2
  refine ⟨LcW K D w body φ1 H1 res h5, ⟨wkLen w h1, φ1, h1, [], [], r1.newU hD, .refl φ1, .newU hD, upd_same, r1.fresh hD, by rw [VRs], f2⟩, ?_⟩
  rintro i m H2 ⟨φ2, h2, acc, ws, r2, p2, k2, hD2, nD2, qa, eg⟩
  cases m with
  | zero =>
    rw [lcGo] at eg
    split at eg
    · rename_i ew
      obtain ⟨g1, g2⟩ := out_inj eg
      subst g1 g2
      refine .inl ⟨wk.stop i φ2 h2 H2 p2 k2 r2 ew, ?_⟩
      have k3 : Kp φ1 (φ2 ++ [D]) H1 H2 := ⟨k2.tup, k2.frz, fun a u e n => ⟨(k2.oth a u e n).1, fun z => by
        rcases List.mem_append.mp z with z | z
        · exact (k2.oth a u e n).2 z
        · rw [List.mem_singleton.mp z, hD] at e; cases e⟩⟩
      refine k (φ2 ++ [D]) H2 (.ref D) ((p1.trans p2).trans (.app φ2 [D])) (k1.trans k3) (r2.own nD2 ⟨ws, hD2, qa.monoT (.app φ2 [D]) ⟨fun _ _ h => h, fun _ _ _ h => h⟩⟩) ?_
      rw [VR]
      refine ⟨D, ?_, rfl⟩
      rw [← r2.len, List.getElem?_append_right (Nat.le_refl _), Nat.sub_self]; rfl
    · cases eg
  | succ m =>
    rw [lcGo] at eg
    split at eg
    case h_2 => cases eg
    rename_i x ew
    obtain ⟨ob, h3, f3, eg⟩ := bind_eq_ok eg
    obtain ⟨go, hy⟩ := wk.item i φ2 h2 H2 x p2 k2 r2 ew
    refine .inr ⟨go, LcW K D w body φ1 H1 res h5 (i + 1) m, fun H' n' => ⟨m, Nat.lt_succ_self m, n'⟩, fun v H3 y => ?_⟩
    obtain ⟨k3, r3, q3⟩ := hy v H3 y
    rw [← hb] at f3
    simp only at f3
    split at f3
    case h_2 => cases f3
    rename_i σ2 et
    obtain ⟨b, h4, f4, f3⟩ := bind_eq_ok f3
    have sr3 := ((sr1.mono p2 k2).mono (.refl φ2) k3).wipe (tgIx tg')
    refine ⟨φ2, h2, _, x, σ2, r3, sr3, q3, et, fun τ1 s1 w1 => ⟨?_, ?_⟩⟩
    · rw [w1 (tgIx tg') fun i m => m, wipe_wipe]
    obtain ⟨hD3, nD3⟩ := k3.oth D _ hD2 nD2
    refine TT'.seq r3 s1 f4 fun φ4 H4 p4 k4 r4 s4 => ?_
    obtain ⟨hD4, nD4⟩ := k4.oth D _ hD3 nD3
    have kb : Kp φ1 φ4 H1 H4 := (k2.trans k3).trans k4
    cases b with
    | false =>
      rw [if_neg Bool.false_ne_true] at f3 ⊢
      obtain ⟨g1, g2⟩ := out_inj f3
      subst g1 g2
      exact ⟨φ4, h4, acc, ws, r4, p2.trans p4, kb, hD4, nD4, (qa.mono (.refl φ2) k3).mono p4 k4, eg⟩
    | true =>
      rw [if_pos rfl] at f3 ⊢
      obtain ⟨vv, h6, f6, f3⟩ := bind_eq_ok f3
      obtain ⟨g1, g2⟩ := out_inj f3
      subst g1 g2
      simp only at eg
      split at eg
      case isFalse => cases eg
      rename_i hlen
      refine TI.seq r4 s4 f6 fun φ6 H6 yv p6 k6 r6 s6 q6 => ?_
      obtain ⟨hD6, nD6⟩ := k6.oth D _ hD4 nD4
      have kc : Kp φ1 φ6 H1 H6 := kb.trans k6
      have neD : ∀ a u, H1 a = some u → a ≠ D := fun a u e z => by rw [z, hD] at e; cases e
      have kt : Kt H6 (upd H6 D (.lst (ws ++ [yv]))) := ⟨fun a xs e => by rw [upd_ne (fun z => by rw [z, hD6] at e; cases e)]; exact e, fun a ob u e => by rw [upd_ne (fun z => by rw [z, hD6] at e; cases e)]; exact e⟩
      have qa6 : VRs K φ6 H6 acc ws := ((qa.mono (.refl φ2) k3).mono p4 k4).mono p6 k6
      refine ⟨ws, hD6, by rw [← qa6.length]; exact lim_lt hlen, φ6, h6, acc ++ [vv], ws ++ [yv], r6.keep kt fun a ha => upd_ne fun z => nD6 (z ▸ ha), (p2.trans p4).trans p6, ?_, upd_same, nD6, (qa6.append (.one q6)).monoT (.refl φ6) kt, eg⟩
      exact ⟨fun a xs e => by rw [upd_ne (neD a _ e)]; exact kc.tup a xs e, fun a ob u e => by rw [upd_ne (neD a _ e)]; exact kc.frz a ob u e, fun a u e n => ⟨by rw [upd_ne (neD a _ e)]; exact (kc.oth a u e n).1, (kc.oth a u e n).2⟩⟩

/-- what the rule for a comprehension asks -/
structure LcP (X : Cx) (Φ : Calls) (el tgE iter : Expr) (ifs : List Expr) (scope : Scope) (tg' : Tg) (it' : It) (o : Oe) (el' : E) (own : List (Str × Nat)) : Prop where
  hown : own.map (·.2) = tgIx tg'
  hi : PI X tgE iter (TW X.K (eI Φ it'))
  ok : BlkOk X.N X.env.scope scope own
  hg : ∀ (s : Shared) (H : Hp) (C : Addr) (cl : List (Str × Addr)) (fp : List Addr), PG (X.blk s H scope (compEnvC scope cl C X.env) fp) tgE (TG' X.K tg')
  ht : ∀ (s : Shared) (H : Hp) (C : Addr) (cl : List (Str × Addr)) (fp : List Addr), PTs (X.blk s H scope (compEnvC scope cl C X.env) fp) ifs (TT' X.K (eC Φ o))
  he : ∀ (s : Shared) (H : Hp) (C : Addr) (cl : List (Str × Addr)) (fp : List Addr), PE (X.blk s H scope (compEnvC scope cl C X.env) fp) el (TI X.K (eE Φ el'))
  hs : ∀ x, foldedSetIterable iter X.env x = pure x
theorem lc_parts (g : GX X c Φ d) {n : Nat} (ih : ∀ e e', cE n c e = some e' → OkE X Φ e e') {el tgE iter : Expr} {ifs : List Expr} {scope : Scope} {tg' : Tg} {it' : It} {o : Oe} {el' : E}
    (ihb : ∀ (s : Shared) (H : Hp) (C : Addr) (cl : List (Str × Addr)) (fp : List Addr) e e', scope.kind = .function → (∀ y ∈ scope.names, scope.names.lookup y.1 = some y.2) → cE n (c.blk scope) e = some e' → OkE (X.blk s H scope (compEnvC scope cl C X.env) fp) Φ e e')
    (hset : isSetE iter = false) (e1 : cTg (c.blk scope) 4 tgE = some tg') (e2 : cI c (cE n c) tgE iter = some it') (e3 : blkC c.N (dummy c.sc) scope ((tgIx tg').map fun i => (c.N.getD i Str.empty, i)) = true)
    (e4 : (match ifs with | [] => some Oe.non | [t] => if tOk t = true then (cE n (c.blk scope) t).map .som else none | _ => none) = some o) (e5 : cE n (c.blk scope) el = some el') :
    LcP X Φ el tgE iter ifs scope tg' it' o el' ((tgIx tg').map fun i => (c.N.getD i Str.empty, i)) := by
  have B0 := blkOk_by e3
  have B : BlkOk X.N X.env.scope scope ((tgIx tg').map fun i => (c.N.getD i Str.empty, i)) := dummy_ok g.sc (by rw [g.N]; exact B0)
  have hown : ((tgIx tg').map fun i => (c.N.getD i Str.empty, i)).map (·.2) = tgIx tg' := by
    rw [List.map_map]
    exact List.map_id _
  have gb := fun s H C cl fp => g.blk scope B0.kind B0.uniq s H C cl fp
  have hts : ∀ (s : Shared) (H : Hp) (C : Addr) (cl : List (Str × Addr)) (fp : List Addr), PTs (X.blk s H scope (compEnvC scope cl C X.env) fp) ifs (TT' X.K (eC Φ o)) := fun s H C cl fp => by
    split at e4
    · cases e4
      refine ⟨fun pins s τ H Q I q => pts_nil.run pins s τ H Q I ?_⟩
      obtain ⟨φ, σ, h, b, h', rl, sr, e, k⟩ := q
      obtain ⟨f1, f2⟩ := out_inj (show Out.ok true h = Out.ok b h' from e)
      subst f1 f2
      exact k.here rl
    · split at e4
      · rename_i t ht
        obtain ⟨t', e6, e4⟩ := Option.map_eq_some_iff.mp e4
        subst e4
        exact pts_one ((ihb s H C cl fp t t' B0.kind B0.uniq e6).2 ht)
      · cases e4
    · cases e4
  exact ⟨hown, it_ok g ih e2, B, fun s H C cl fp => tg_ok (gb s H C cl fp) 4 tgE tg' e1, hts, fun s H C cl fp => (ihb s H C cl fp el el' B0.kind B0.uniq e5).1, isSet_folded hset⟩
theorem lc_ok (g : GX X c Φ d) {el tgE iter : Expr} {ifs : List Expr} {scope : Scope} {pos : Pos} {tg' : Tg} {it' : It} {o : Oe} {el' : E} {own : List (Str × Nat)} (P : LcP X Φ el tgE iter ifs scope tg' it' o el' own) :
    PE X (.ListComp el [⟨tgE, iter, ifs, 0⟩] scope pos) (TI X.K (eE Φ (.lc el' tg' it' o (tgIx tg')))) := by
  refine PE.mono (pe_lc (te := TI X.K (eE Φ el')) (tt := TT' X.K (eC Φ o)) (g := TG' X.K tg') (own := own) g.calm (by rw [g.N]; exact g.nd) P.hi P.ok P.hg P.ht P.he P.hs) fun τ H Q q => ?_
  rw [P.hown]
  exact lc_read τ H Q q
end
end Pi
end

section
set_option maxHeartbeats 8000000

/-! PiE: every expression runs as the interpreter's. -/
namespace Pi
open PySem PySem.Spec PyProof.Rows L2

/-- EVERY EXPRESSION -/
theorem e_ok : ∀ (n : Nat) (X : Cx) (c : Cs) (Φ : Calls) (d : Nat) (g : GX X c Φ d) (e : Expr) (e' : E), cE n c e = some e' → OkE X Φ e e' := by
  intro n
  induction n with
  | zero => intro X c Φ d g e e' h; cases h
  | succ n ih0 =>
    intro X c Φ d g e e' h
    have ih : ∀ e e', cE n c e = some e' → OkE X Φ e e' := ih0 X c Φ d g
    unfold cE at h
    split at h
    case h_1 x pos =>
      unfold Cs.nam at h
      split at h
      · rename_i hp
        split at h
        · rename_i hl
          obtain ⟨i, e1, h⟩ := Option.map_eq_some_iff.mp h
          subst h
          have hN : X.N[i]? = some x := by rw [g.N]; exact findIx_get e1
          refine ok_plain (PE.mono (pe_var hN (g.vis hl) (plain1 hp) (plain2 hp)) fun τ H Q q => ?_) (fun _ => rfl)
          obtain ⟨φ, σ, h, v, h', rl, s, e, k⟩ := q
          have e : (match σ[i]? with | some (some v) => Out.ok v h | _ => .stuck) = Out.ok v h' := e
          split at e
          · rename_i z ez
            obtain ⟨g1, g2⟩ := out_inj e
            subst g1 g2
            obtain ⟨w, ew, q1⟩ := s.2 i _ ez
            exact ⟨w, ew, k.here rl q1⟩
          · cases e
        · split at h
          · rename_i hg
            obtain ⟨i, e1, h⟩ := Option.map_eq_some_iff.mp h
            subst h
            obtain ⟨t, hm⟩ := g.G x i e1
            refine ok_plain (PE.mono (pe_glob (v := .int i) (g.gl hg) hm ⟨t, rfl⟩ (plain1 hp)) fun τ H Q q => ?_) (fun _ => rfl)
            obtain ⟨φ, σ, h, v, h', rl, s, e, k⟩ := q
            obtain ⟨g1, g2⟩ := out_inj (show Out.ok (IV.int i) h = Out.ok v h' from e)
            subst g1 g2
            exact k.int rl
          · cases h
      · cases h
    case h_2 kc kk pos =>
      obtain ⟨v0, e1, h⟩ := Option.map_eq_some_iff.mp h
      subst h
      have fin : ∀ {w : V}, (∀ φ H, VR X.K φ H v0 w) → ∀ τ H Q, TI X.K (eE Φ (.con v0)) τ H Q → tC w τ H Q := fun {w} hw τ H Q q => by
        obtain ⟨φ, σ, h, v, h', rl, s, e, k⟩ := q
        obtain ⟨g1, g2⟩ := out_inj (show Out.ok v0 h = Out.ok v h' from e)
        subst g1 g2
        exact k.here rl (hw _ _)
      unfold cK at e1
      split at e1
      · cases e1
        exact ok_plain (PE.mono pe_int (fin fun _ _ => by rw [VR])) (fun _ => rfl)
      · cases e1
        exact ok_plain (PE.mono pe_bl (fin fun _ _ => by rw [VR])) (fun _ => rfl)
      · cases e1
        exact ok_plain (PE.mono pe_non (fin fun _ _ => by rw [VR])) (fun _ => rfl)
      · cases e1
        exact ok_plain (PE.mono pe_str (fin fun _ _ => by rw [VR])) (fun _ => rfl)
      · cases e1
    case h_3 a op b pos =>
      obtain ⟨a', e1, h⟩ := Option.bind_eq_some_iff.mp h
      obtain ⟨b', e2, h⟩ := Option.map_eq_some_iff.mp h
      subst h
      refine ok_plain (PE.mono (pe_op (opBin op) (ih a a' e1).1 (ih b b' e2).1) fun τ H Q q => ?_) (fun _ => rfl)
      obtain ⟨φ, σ, h, v, h', rl, s, e, k⟩ := q
      obtain ⟨x, h1, f1, e⟩ := bind_eq_ok (show (eE Φ a' σ h).bind _ = Out.ok v h' from e)
      obtain ⟨y, h2, f2, e⟩ := bind_eq_ok e
      refine TI.seq rl s f1 fun φ1 H1 w1 p1 k1 r1 s1 q1 => ?_
      refine TI.seq r1 s1 f2 fun φ2 H2 w2 p2 k2 r2 s2 q2 => ?_
      exact ⟨φ2, h2, x, y, v, h', r2, q1.mono p2 k2, q2, e, k.later (p1.trans p2) (k1.trans k2)⟩
    case h_4 a pos =>
      obtain ⟨a', e1, h⟩ := Option.map_eq_some_iff.mp h
      subst h
      refine ok_plain (PE.mono (pe_un un_neg (ih a a' e1).1) fun τ H Q q => ?_) (fun _ => rfl)
      obtain ⟨φ, σ, h, v, h', rl, s, e, k⟩ := q
      obtain ⟨x, h1, f1, e⟩ := bind_eq_ok (show (eE Φ a' σ h).bind _ = Out.ok v h' from e)
      refine TI.seq rl s f1 fun φ1 H1 w1 p1 k1 r1 s1 q1 => ?_
      split at e
      · rename_i i
        obtain ⟨g1, g2⟩ := out_inj e
        subst g1 g2
        rw [VR] at q1
        exact ⟨i, q1, k φ1 H1 _ p1 k1 r1 (by rw [VR])⟩
      · cases e
    case h_5 a pos =>
      split at h
      · rename_i ht
        obtain ⟨a', e1, h⟩ := Option.map_eq_some_iff.mp h
        subst h
        have oa := ih a a' e1
        refine ⟨PE.mono (pe_notT oa.1) fun τ H Q q => ?_, fun _ => PT.mono (pt_not (oa.2 ht)) fun τ H Q q => ?_⟩
        · obtain ⟨φ, σ, h, v, h', rl, s, e, k⟩ := q
          obtain ⟨b, h1, f1, e⟩ := bind_eq_ok (show (tst (eE Φ a' σ h)).bind _ = Out.ok v h' from e)
          obtain ⟨g1, g2⟩ := out_inj e
          subst g1 g2
          obtain ⟨x, f2, f3⟩ := tst_ok f1
          exact TI.seq rl s f2 fun φ1 H1 w1 p1 k1 r1 s1 q1 => ⟨b, truV r1 q1 f3, k φ1 H1 _ p1 k1 r1 (by rw [VR])⟩
        · obtain ⟨φ, σ, h, v, h', rl, s, e, k⟩ := q
          obtain ⟨z, e, ez⟩ := tst_ok e
          obtain ⟨b, h1, f1, e⟩ := bind_eq_ok (show (tst (eE Φ a' σ h)).bind _ = Out.ok z h' from e)
          obtain ⟨g1, g2⟩ := out_inj e
          subst g1 g2
          have ev : (!b) = v := Option.some.inj ez
          subst ev
          exact TT'.seq rl s f1 fun φ1 H1 p1 k1 r1 s1 => k φ1 H1 p1 k1 r1
      · cases h
    case h_6 op vs pos =>
      split at h
      · rename_i ht
        obtain ⟨p1, p2⟩ := b_ok ih op pos vs e' h ht
        exact ⟨p1, fun _ => p2.pt⟩
      · cases h
    case h_7 a op b pos =>
      split at h
      · cases h
      · rename_i hm
        obtain ⟨a', e1, h⟩ := Option.bind_eq_some_iff.mp h
        obtain ⟨b', e2, h⟩ := Option.map_eq_some_iff.mp h
        subst h
        have hm' : behindInMarks op b = false := by simpa using hm
        refine ⟨PE.mono (pe_cmpR (opCmp op g.hu) (ih a a' e1).1 (ih b b' e2).1 hm') fun τ H Q q => ?_, fun _ => PT.mono (pt_cmpR (opCmp op g.hu) (ih a a' e1).1 (ih b b' e2).1 hm') fun τ H Q q => ?_⟩
        · obtain ⟨φ, σ, h, v, h', rl, s, e, k⟩ := q
          obtain ⟨x, h1, f1, e⟩ := bind_eq_ok (show (eE Φ a' σ h).bind _ = Out.ok v h' from e)
          obtain ⟨y, h2, f2, e⟩ := bind_eq_ok e
          refine TI.seq rl s f1 fun φ1 H1 w1 p1 k1 r1 s1 q1 => ?_
          refine TI.seq r1 s1 f2 fun φ2 H2 w2 p2 k2 r2 s2 q2 => ?_
          exact ⟨φ2, h2, x, y, v, h', r2, q1.mono p2 k2, q2, e, k.later (p1.trans p2) (k1.trans k2)⟩
        · obtain ⟨φ, σ, h, v, h', rl, s, e, k⟩ := q
          obtain ⟨z, e, ez⟩ := tst_ok e
          obtain ⟨x, h1, f1, e⟩ := bind_eq_ok (show (eE Φ a' σ h).bind _ = Out.ok z h' from e)
          obtain ⟨y, h2, f2, e⟩ := bind_eq_ok e
          refine TI.seq rl s f1 fun φ1 H1 w1 p1 k1 r1 s1 q1 => ?_
          refine TI.seq r1 s1 f2 fun φ2 H2 w2 p2 k2 r2 s2 q2 => ?_
          refine ⟨φ2, h2, x, y, z, h', r2, q1.mono p2 k2, q2, e, fun φ3 H3 w3 p3 k3 r3 q3 => ?_⟩
          obtain ⟨b0, eb⟩ := cmp_bl e
          subst eb
          rw [VR] at q3
          have ev : b0 = v := Option.some.inj ez
          subst ev
          exact ⟨b0, q3, k φ3 H3 ((p1.trans p2).trans p3) ((k1.trans k2).trans k3) r3⟩
    case h_8 a op op' b d0 pos =>
      split at h
      · cases h
      · rename_i hm
        obtain ⟨a', e1, h⟩ := Option.bind_eq_some_iff.mp h
        obtain ⟨b', e2, h⟩ := Option.bind_eq_some_iff.mp h
        obtain ⟨d', e3, h⟩ := Option.map_eq_some_iff.mp h
        subst h
        have hm' : lastMarks [op, op'] [b, d0] = false := by simpa using hm
        have go : ∀ τ H Q, TI X.K (eE Φ (.chain op op' a' b' d')) τ H Q → tChain (rCmp X.K op) (rCmp X.K op') (TI X.K (eE Φ a')) (TI X.K (eE Φ b')) (TI X.K (eE Φ d')) τ H Q := fun τ H Q q => by
          obtain ⟨φ, σ, h, v, h', rl, s, e, k⟩ := q
          obtain ⟨x, h1, f1, e⟩ := bind_eq_ok (show (eE Φ a' σ h).bind _ = Out.ok v h' from e)
          obtain ⟨y, h2, f2, e⟩ := bind_eq_ok e
          obtain ⟨t, h3, f3, e⟩ := bind_eq_ok e
          refine TI.seq rl s f1 fun φ1 H1 w1 p1 k1 r1 s1 q1 => ?_
          refine TI.seq r1 s1 f2 fun φ2 H2 w2 p2 k2 r2 s2 q2 => ?_
          refine ⟨φ2, h2, x, y, t, h3, r2, q1.mono p2 k2, q2, f3, fun φ3 H3 w3 p3 k3 r3 q3 => ?_⟩
          obtain ⟨b0, eb⟩ := cmp_bl f3
          subst eb
          rw [VR] at q3
          refine ⟨b0, q3, ?_⟩
          cases b0 with
          | true =>
            rw [if_pos rfl]
            obtain ⟨z, h4, f4, e⟩ := bind_eq_ok (show (eE Φ d' σ h3).bind _ = Out.ok v h' from e)
            refine TI.seq r3 (s2.mono p3 k3) f4 fun φ4 H4 w4 p4 k4 r4 s4 q4 => ?_
            exact ⟨φ4, h4, y, z, v, h', r4, q2.mono (p3.trans p4) (k3.trans k4), q4, e, k.later (((p1.trans p2).trans p3).trans p4) (((k1.trans k2).trans k3).trans k4)⟩
          | false =>
            rw [if_neg Bool.false_ne_true]
            obtain ⟨g1, g2⟩ := out_inj (show Out.ok (IV.bl false) h3 = Out.ok v h' from e)
            subst g1 g2
            exact k φ3 H3 _ ((p1.trans p2).trans p3) ((k1.trans k2).trans k3) r3 (by rw [VR])
        refine ⟨PE.mono (pe_chain (opCmp op g.hu) (opCmp op' g.hu) (ih a a' e1).1 (ih b b' e2).1 (ih d0 d' e3).1 hm') go, fun _ => PT.mono (pt_chain (opCmp op g.hu) (opCmp op' g.hu) (ih a a' e1).1 (ih b b' e2).1 (ih d0 d' e3).1 hm') fun τ H Q q => ?_⟩
        refine go τ H _ ?_
        obtain ⟨φ, σ, h, v, h', rl, s, e, k⟩ := q
        obtain ⟨z, e, ez⟩ := tst_ok e
        refine ⟨φ, σ, h, z, h', rl, s, e, fun φ3 H3 w3 p3 k3 r3 q3 => ?_⟩
        have hz : ∃ b0, z = .bl b0 := by
          obtain ⟨x, h1, f1, e⟩ := bind_eq_ok (show (eE Φ a' σ h).bind _ = Out.ok z h' from e)
          obtain ⟨y, h2, f2, e⟩ := bind_eq_ok e
          obtain ⟨t, h3, f3, e⟩ := bind_eq_ok e
          split at e
          · obtain ⟨z', h4, f4, e⟩ := bind_eq_ok e
            exact cmp_bl e
          · obtain ⟨g1, g2⟩ := out_inj e
            exact ⟨false, g1.symm⟩
          · cases e
        obtain ⟨b0, eb⟩ := hz
        subst eb
        rw [VR] at q3
        have ev : b0 = v := Option.some.inj ez
        subst ev
        exact ⟨b0, q3, k φ3 H3 p3 k3 r3⟩
    case h_9 t a b pos =>
      split at h
      · rename_i ht
        obtain ⟨t', e1, h⟩ := Option.bind_eq_some_iff.mp h
        obtain ⟨a', e2, h⟩ := Option.bind_eq_some_iff.mp h
        obtain ⟨b', e3, h⟩ := Option.map_eq_some_iff.mp h
        subst h
        refine ⟨PE.mono (pe_ifExp ((ih t t' e1).2 ht) (ih a a' e2).1 (ih b b' e3).1) fun τ H Q q => ?_, fun z => by cases z⟩
        obtain ⟨φ, σ, h, v, h', rl, s, e, k⟩ := q
        obtain ⟨x, h1, f1, e⟩ := bind_eq_ok (show (tst (eE Φ t' σ h)).bind _ = Out.ok v h' from e)
        refine TT'.seq rl s f1 fun φ1 H1 p1 k1 r1 s1 => ?_
        cases x with
        | true =>
          rw [if_pos rfl] at e ⊢
          exact TI.seq r1 s1 e fun φ2 H2 w2 p2 k2 r2 s2 q2 => k φ2 H2 w2 (p1.trans p2) (k1.trans k2) r2 q2
        | false =>
          rw [if_neg Bool.false_ne_true] at e ⊢
          exact TI.seq r1 s1 e fun φ2 H2 w2 p2 k2 r2 s2 q2 => k φ2 H2 w2 (p1.trans p2) (k1.trans k2) r2 q2
      · cases h
    case h_10 es kk pos =>
      obtain ⟨es', e1, h⟩ := Option.map_eq_some_iff.mp h
      subst h
      refine ok_plain (PE.mono (pe_tup (es_ok ih es es' e1)) fun τ H Q q => ?_) (fun _ => rfl)
      obtain ⟨φ, σ, h, v, h', rl, s, e, k⟩ := q
      obtain ⟨vs, h1, f1, e⟩ := bind_eq_ok (show (eEs Φ es' σ h).bind _ = Out.ok v h' from e)
      refine TL.seq rl s f1 fun φ1 H1 ws p1 k1 r1 s1 q1 => ?_
      unfold newT at e
      split at e
      · rename_i hz
        obtain ⟨g1, g2⟩ := out_inj e
        subst g1 g2
        have hz' : ws.length ≤ sizeLine := by rw [← q1.length]; exact lim_le hz
        exact ⟨hz', fun p hp => (k.later p1 k1).tup r1 q1 hz' hp⟩
      · cases e
    case h_11 es pos =>
      obtain ⟨es', e1, h⟩ := Option.map_eq_some_iff.mp h
      subst h
      refine ok_plain (PE.mono (pe_lst (es_ok ih es es' e1)) fun τ H Q q => ?_) (fun _ => rfl)
      obtain ⟨φ, σ, h, v, h', rl, s, e, k⟩ := q
      obtain ⟨vs, h1, f1, e⟩ := bind_eq_ok (show (eEs Φ es' σ h).bind _ = Out.ok v h' from e)
      refine TL.seq rl s f1 fun φ1 H1 ws p1 k1 r1 s1 q1 => ?_
      unfold newL at e
      split at e
      · rename_i hz
        obtain ⟨g1, g2⟩ := out_inj e
        subst g1 g2
        have hz' : ws.length ≤ sizeLine := by rw [← q1.length]; exact lim_le hz
        exact ⟨hz', fun p hp => (k.later p1 k1).list r1 q1 hp⟩
      · cases e
    case h_12 x xp args pos => exact ok_plain (call_ok g ih h) (fun _ => rfl)
    case h_13 o m apos args cpos =>
      split at h
      · rename_i hc
        simp only [Bool.and_eq_true, decide_eq_true_eq] at hc
        obtain ⟨mt, e0, h⟩ := Option.bind_eq_some_iff.mp h
        obtain ⟨o', e1, h⟩ := Option.bind_eq_some_iff.mp h
        obtain ⟨es', e2, h⟩ := Option.map_eq_some_iff.mp h
        subst h
        have en := findMt_ok e0
        subst en
        exact ok_plain (meth_ok g (ih o o' e1).1 hc.1.1 hc.1.2 (es_ok ih args es' e2) (cEs_noStar e2) hc.2 fun z => by subst z; cases e2; rfl) (fun _ => rfl)
      · cases h
    case h_14 a lo hi sp pos =>
      obtain ⟨a', e1, h⟩ := Option.bind_eq_some_iff.mp h
      obtain ⟨l', e2, h⟩ := Option.bind_eq_some_iff.mp h
      obtain ⟨u', e3, h⟩ := Option.map_eq_some_iff.mp h
      subst h
      refine ok_plain (PE.mono (pe_slice opSl (ih a a' e1).1 (oe_ok ih lo l' e2) (oe_ok ih hi u' e3)) fun τ H Q q => ?_) (fun _ => rfl)
      obtain ⟨φ, σ, h, v, h', rl, s, e, k⟩ := q
      obtain ⟨x, h1, f1, e⟩ := bind_eq_ok (show (eE Φ a' σ h).bind _ = Out.ok v h' from e)
      obtain ⟨l, h2, f2, e⟩ := bind_eq_ok e
      obtain ⟨u, h3, f3, e⟩ := bind_eq_ok e
      refine TI.seq rl s f1 fun φ1 H1 w1 p1 k1 r1 s1 q1 => ?_
      refine TOp.seq r1 s1 f2 fun φ2 H2 p2 k2 r2 s2 => ?_
      refine TOp.seq r2 s2 f3 fun φ3 H3 p3 k3 r3 s3 => ?_
      exact ⟨φ3, h3, x, v, h', r3, q1.mono (p2.trans p3) (k2.trans k3), e, k.later ((p1.trans p2).trans p3) ((k1.trans k2).trans k3)⟩
    case h_15 a b pos _ =>
      split at h
      · rename_i hb
        obtain ⟨a', e1, h⟩ := Option.bind_eq_some_iff.mp h
        obtain ⟨b', e2, h⟩ := Option.map_eq_some_iff.mp h
        subst h
        refine ok_plain (PE.mono (pe_ix opIx (ih a a' e1).1 (ih b b' e2).1 (Pi.PlainIx.of hb)) fun τ H Q q => ?_) (fun _ => rfl)
        obtain ⟨φ, σ, h, v, h', rl, s, e, k⟩ := q
        obtain ⟨x, h1, f1, e⟩ := bind_eq_ok (show (eE Φ a' σ h).bind _ = Out.ok v h' from e)
        obtain ⟨y, h2, f2, e⟩ := bind_eq_ok e
        refine TI.seq rl s f1 fun φ1 H1 w1 p1 k1 r1 s1 q1 => ?_
        refine TI.seq r1 s1 f2 fun φ2 H2 w2 p2 k2 r2 s2 q2 => ?_
        exact ⟨φ2, h2, x, y, v, h', r2, q1.mono p2 k2, q2, e, k.later (p1.trans p2) (k1.trans k2)⟩
      · cases h
    case h_16 el tg iter ifs scope pos =>
      split at h
      · cases h
      · rename_i hset
        obtain ⟨tg', e1, h⟩ := Option.bind_eq_some_iff.mp h
        obtain ⟨it', e2, h⟩ := Option.bind_eq_some_iff.mp h
        split at h
        · rename_i e3
          obtain ⟨o, e4, h⟩ := Option.bind_eq_some_iff.mp h
          obtain ⟨el', e5, h⟩ := Option.map_eq_some_iff.mp h
          subst h
          exact ok_plain (lc_ok g (lc_parts g ih (fun s H C cl fp e e' hk hu he => ih0 _ _ _ _ (g.blk scope hk hu s H C cl fp) e e' he) (by simpa using hset) e1 e2 e3 e4 e5)) (fun _ => rfl)
        · cases h
    case h_17 x xp args k0 kr pos => exact ok_plain (callk_ok g ih h) (fun _ => rfl)
    case h_18 => cases h
end Pi
end

section
set_option maxHeartbeats 8000000

/-! PiStmt: statements. -/
namespace Pi
open PySem PySem.Spec PyProof.Rows L2

/-! ### from the text -/
abbrev FU : Nat := 40
def isComp : Expr → Bool
  | .ListComp .. => true
  | .SetComp .. => true
  | .DictComp .. => true
  | _ => false
def isStar : Expr → Bool
  | .Starred .. => true
  | _ => false
/-- name = [..] stored on its line -/
def swB (c : Cs) (x : Str) (p : Pos) : Expr → Bool
  | .ListComp _ _ scope lp => (c.sc.lookup x == some .local) && (p.line == lp.line) && !(scope.names.any fun (n, k) => n == x && (k == .local || k == .cell))
  | _ => false
/-- a, b = x, y by the stack -/
def parOk (c : Cs) (x y : Str) (px py : Pos) (a b : Expr) : Bool :=
  decide (c.sc.lookup x = some .local) && decide (c.sc.lookup y = some .local) && (px.line == py.line) && decide (x ≠ y) && !isStar a && !isStar b && !([a, b].all (foldedForSure 8)) && !([a, b].all (constantsAlone 8))
mutual
def cS (c : Cs) : Nat → Stmt → Option S
  | 0, _ => none
  | n + 1, st => match st with
    | .Pass _ => some .pass
    | .Break _ => some .brk
    | .Continue _ => some .cnt
    | .Raise .. => some .never
    | .Expr e _ => if isComp e = true then none else (cE FU c e).map .drop
    | .Return (some e) _ => (cE FU c e).map .ret
    | .Return none _ => some .retN
    | .Assign [.Name x p] v _ => if c.sto x = true then (findIx x c.N).bind fun i => (cE FU c v).map fun v' => .asg (.name i) v' else none
    | .Assign [.Subscript o i p] v _ => if ixOk i = true then (cE FU c o).bind fun o' => (cE FU c i).bind fun i' => (cE FU c v).map fun v' => .set o' i' v' else none
    | .Assign [.Tuple [.Name x px, .Name y py] kt pt] (.Tuple [a, b] k2 pt2) _ => if parOk c x y px py a b = true then (findIx x c.N).bind fun i => (findIx y c.N).bind fun j => (cE FU c a).bind fun a' => (cE FU c b).map fun b' => .par i j a' b' else none
    | .Assign [.Tuple es k p] v _ => if isTupE v = true then none else (cTg c 4 (.Tuple es k p)).bind fun tg => (cE FU c v).map fun v' => .asg tg v'
    | .AugAssign (.Subscript o i p) .Add e _ => if ixOk i = true then (cE FU c o).bind fun o' => (cE FU c i).bind fun i' => (cE FU c e).map fun e' => .aug o' i' e' else none
    | .If t a b _ => if tOk t = true then (cE FU c t).bind fun t' => (cSs c n a).bind fun a' => (cSs c n b).map fun b' => .ite t' a' b' else none
    | .While t b [] _ => if tOk t = true then (cE FU c t).bind fun t' => (cSs c n b).map fun b' => .whl t' b' else none
    | .For tg it b [] _ => if isSetE it = true then none else (cTg c 4 tg).bind fun tg' => (cI c (cE FU c) tg it).bind fun it' => (cSs c n b).map fun b' => .for tg' it' b'
    | _ => none
def cSs (c : Cs) : Nat → List Stmt → Option Ss
  | 0, _ => none
  | n + 1, l => match l with
    | [] => some .nil
    | s :: r => (cS c n s).bind fun s' => (cSs c n r).map fun r' => .cons s' r'
end

/-! ### readings -/
def FlOk (K : PySem.W.Frag) (φ : List Addr) (H : Hp) (fl : Fl) (D : Ends) : Prop := match fl with
  | .nx σ => ∀ τ, SR K φ H σ τ → D.nx τ H
  | .ret v => ∀ w, VR K φ H v w → D.rt w H
  | .bk σ => ∀ τ, SR K φ H σ τ → D.bk τ H
  | .ct σ => ∀ τ, SR K φ H σ τ → D.ct τ H
def TSt (K : PySem.W.Frag) (d : Sl → IH → Out Fl) : TS := fun D τ H => ∃ φ σ h fl h', Rel K φ h H ∧ SR K φ H σ τ ∧ d σ h = .ok fl h' ∧ ∀ φ' H', Px φ φ' → Kp φ φ' H H' → Rel K φ' h' H' → FlOk K φ' H' fl D
theorem PS.mono {X : Cx} {e : Stmt} {t t' : TS} (p : PS X e t) (h : ∀ D τ H, t' D τ H → t D τ H) : PS X e t' := ⟨fun pins s σ H D I q => p.run pins s σ H D I (h D σ H q)⟩
theorem PSs.mono {X : Cx} {e : List Stmt} {t t' : TS} (p : PSs X e t) (h : ∀ D τ H, t' D τ H → t D τ H) : PSs X e t' := ⟨fun pins s σ H D I q => p.run pins s σ H D I (h D σ H q)⟩

section
variable {X : Cx} {c : Cs} {Φ : Calls} {d : Nat}
theorem GX.pass (g : GX X c Φ d) : PassesOwn (model X.prog X.w) X.A X.env X.xe := by
  rw [g.xe]; exact PassesOwn.never
theorem sw_no {e : Expr} {t : Option Expr} {l : Nat} {env : Env} (h : isComp e = false) : swapsWith e t l env = pure false := by
  cases e <;> first | rfl | cases h
theorem sw_sub {e o i : Expr} {p : Pos} {l : Nat} {env : Env} : swapsWith e (some (.Subscript o i p)) l env = pure false := by
  cases e <;> rfl
theorem sw_tup {e : Expr} {es : List Expr} {k : Nat} {p : Pos} {l : Nat} {env : Env} : swapsWith e (some (.Tuple es k p)) l env = pure false := by
  cases e <;> rfl
theorem sws_sub {e o i : Expr} {p : Pos} {env : Env} : swappedStores [.Subscript o i p] e env = pure none := by
  cases e <;> rfl
theorem sws_tup {e : Expr} {es : List Expr} {k : Nat} {p : Pos} {env : Env} (h : isTupE e = false) : swappedStores [.Tuple es k p] e env = pure none := by
  cases e <;> first | rfl | cases h
theorem opGet : PGet X (fun x y H Q => ∃ φ h a b u h', Rel X.K φ h H ∧ VR X.K φ H a x ∧ VR X.K φ H b y ∧ ixI a b h = .ok u h' ∧ (∃ i, a = .ref i) ∧ Ct X.K φ h' H u Q) := by
  intro pins s σ H x y v u Q I rx ry hh
  obtain ⟨φ, h, a, b, w, h', r, ra, rb, e, ⟨i0, rfl⟩, c⟩ := hh
  unfold ixI at e
  split at e
  · rename_i k
    split at e
    · rename_i xs es
      split at e
      · rename_i z ez
        obtain ⟨f1, f2⟩ := out_inj e
        subst f1 f2
        rw [VR] at rb
        obtain ⟨p, vs, e1, sq, q, _⟩ := r.lstV ra (show lstOf h (.ref i0) = some xs from es)
        obtain ⟨t, et, rt⟩ := atI_map q ez
        subst e1 rb
        cases rx
        obtain ⟨tk, rfl⟩ := ry
        obtain ⟨its, r1, pl, hz⟩ := I.list sq
        obtain ⟨j, h1, h2, h3, h4, h5⟩ := atI_get et
        obtain ⟨w, ew, rw'⟩ := r1.get h2
        have hl := r1.length
        have hn := line63
        have fin : EP X pins σ Q w s := ⟨t, H, I, rw', c.here r rt⟩
        by_cases h0 : 0 ≤ k
        · have hj : k.toNat = j := by
            rw [seqIndex_of h0 h5] at h1
            exact Option.some.inj h1
          exact wpAny_getItem_list pl.isList h0 (by omega) (by rw [hj]; simpa using ew) fin
        · have hj : (k + (its.toArray.size : Int)).toNat = j := by
            rw [seqIndex_neg (by omega) h4] at h1
            rw [List.size_toArray, ← hl]
            exact Option.some.inj h1
          exact wpAny_getItem_list_neg pl.isList (by omega) (by rw [List.size_toArray] <;> omega) (by omega) (by rw [hj]; simpa using ew) fin
      · cases e
    · cases e
  · cases e

theorem TSt.seq {K : PySem.W.Frag} {φ : List Addr} {H : Hp} {h h1 : IH} {σ : Sl} {τ : L2.St} {a : Sl → IH → Out Fl} {fl : Fl} {D : Ends} (r : Rel K φ h H) (s : SR K φ H σ τ) (e : a σ h = .ok fl h1)
    (k : ∀ φ' H', Px φ φ' → Kp φ φ' H H' → Rel K φ' h1 H' → FlOk K φ' H' fl D) : TSt K a D τ H := ⟨φ, σ, h, fl, h1, r, s, e, k⟩

theorem par_sw {x y : Str} {px py : Pos} {a b : Expr} {kt k2 : Nat} {pt pt2 : Pos} (g : GX X c Φ d) (h : parOk c x y px py a b = true) : swappedStores [.Tuple [.Name x px, .Name y py] kt pt] (.Tuple [a, b] k2 pt2) X.env = pure (some [x, y]) := by
  unfold parOk at h
  simp only [Bool.and_eq_true, decide_eq_true_eq, Bool.not_eq_true'] at h
  obtain ⟨⟨⟨⟨⟨⟨⟨hx, hy⟩, hl⟩, hne⟩, ha⟩, hb⟩, hf⟩, hc⟩ := h
  have bk : X.env.blockKind = .function := by unfold Env.blockKind; rw [g.kd]; rfl
  have kx : X.env.kindOf x = some .local := by show X.env.scope.names.lookup x = _; rw [g.sc]; exact hx
  have ky : X.env.kindOf y = some .local := by show X.env.scope.names.lookup y = _; rw [g.sc]; exact hy
  have hl2 : py.line = px.line := (by simpa using hl : px.line = py.line).symm
  unfold swappedStores
  simp only [bk, kx, ky, hf, hc, hl2, List.length_cons, List.length_nil, List.any_cons, List.any_nil, List.head?_cons, Option.map_some, Option.getD_some, Expr.pos, List.filterMap_cons, List.filterMap_nil, beq_self_eq_true, Bool.and_self, if_true]
  have e1 : ([x, y] : List Str).eraseDups.length = 2 := by
    have : (y == x) = false := by simpa using fun e => hne e.symm
    simp [List.eraseDups_cons, this]
  rw [if_neg (by decide), if_neg (fun hh => by
    rcases Bool.or_eq_true_iff.mp hh with h1 | h1
    · cases a <;> first
        | exact absurd (show false = true from h1) Bool.false_ne_true
        | cases ha
    · rcases Bool.or_eq_true_iff.mp h1 with h1 | h1
      · cases b <;> first
          | exact absurd (show false = true from h1) Bool.false_ne_true
          | cases hb
      · cases h1)]
  simp [e1]

theorem FlOk.nx {K : PySem.W.Frag} {φ : List Addr} {H : Hp} {σ : Sl} {τ : L2.St} {D : Ends} (f : FlOk K φ H (.nx σ) D) (s : SR K φ H σ τ) : D.nx τ H := f τ s
theorem cE_comp {n : Nat} {e : Expr} {v' : E} (h : cE n c e = some v') (hc : isComp e = true) : ∃ m el tg iter ifs scope lp tg' it' o el', n = m + 1 ∧ e = .ListComp el [⟨tg, iter, ifs, 0⟩] scope lp ∧ isSetE iter = false ∧ cTg (c.blk scope) 4 tg = some tg' ∧ cI c (cE m c) tg iter = some it' ∧
    blkC c.N (dummy c.sc) scope ((tgIx tg').map fun i => (c.N.getD i Str.empty, i)) = true ∧ (match ifs with | [] => some Oe.non | [t] => if tOk t = true then (cE m (c.blk scope) t).map .som else none | _ => none) = some o ∧ cE m (c.blk scope) el = some el' ∧ v' = .lc el' tg' it' o (tgIx tg') := by
  cases n with
  | zero => cases h
  | succ m =>
    unfold cE at h
    split at h <;> first
      | (cases hc; done)
      | skip
    rename_i el tg iter ifs scope lp
    split at h
    · cases h
    rename_i hset
    obtain ⟨tg', e1, h⟩ := Option.bind_eq_some_iff.mp h
    obtain ⟨it', e2, h⟩ := Option.bind_eq_some_iff.mp h
    split at h
    case isFalse => cases h
    rename_i e3
    obtain ⟨o, e4, h⟩ := Option.bind_eq_some_iff.mp h
    obtain ⟨el', e5, h⟩ := Option.map_eq_some_iff.mp h
    exact ⟨m, el, tg, iter, ifs, scope, lp, tg', it', o, el', rfl, rfl, by simpa using hset, e1, e2, e3, e4, e5, h.symm⟩
    all_goals cases h
/-- name = value -/
theorem set_ok (g : GX X c Φ d) {x : Str} {p pos : Pos} {v : Expr} {v' : E} {i : Nat} (hs : c.sto x = true) (hi : findIx x c.N = some i) (hv : cE FU c v = some v') : PS X (.Assign [.Name x p] v pos) (TSt X.K (eS Φ (.asg (.name i) v'))) := by
  have hN : X.N[i]? = some x := by rw [g.N]; exact findIx_get hi
  have hnd : X.N.Nodup := by rw [g.N]; exact g.nd
  obtain ⟨hx, hf⟩ := g.sto hs
  have ov := e_ok FU X c Φ d g v v' hv
  have go : ∀ D τ H, TSt X.K (eS Φ (.asg (.name i) v')) D τ H → TI X.K (eE Φ v') τ H fun y H1 => D.nx (τ.set i (some y)) H1 := fun D τ H q => by
    obtain ⟨φ, σ, h, fl, h', rl, sr, e, k⟩ := q
    obtain ⟨z, h1, f1, e⟩ := bind_eq_ok (show (eE Φ v' σ h).bind _ = Out.ok fl h' from e)
    obtain ⟨g1, g2⟩ := out_inj (show Out.ok (Fl.nx (σ.set i (some z))) h1 = Out.ok fl h' from e)
    subst g1 g2
    exact TI.seq rl sr f1 fun φ1 H1 w p1 k1 r1 s1 q1 => (k φ1 H1 p1 k1 r1).nx (s1.set i q1)
  by_cases hc : isComp v = true
  · obtain ⟨m, el, tg, iter, ifs, scope, lp, tg', it', o, el', hm, rfl, hset, e1, e2, e3, e4, e5, rfl⟩ := cE_comp hv hc
    have bk : X.env.blockKind = .function := by unfold Env.blockKind; rw [g.kd]; rfl
    by_cases hsw : swB c x p (.ListComp el [⟨tg, iter, ifs, 0⟩] scope lp) = true
    · have hsw0 := hsw
      unfold swB at hsw
      simp only [Bool.and_eq_true, beq_iff_eq] at hsw
      obtain ⟨⟨h1, h2⟩, h3⟩ := hsw
      have hxl : X.env.scope.names.lookup x = some .local := by rw [g.sc]; exact h1
      have P := lc_parts g (fun e e' he => e_ok m X c Φ d g e e' he) (fun s H C cl fp e e' hk hu he => e_ok m _ _ Φ d (g.blk scope hk hu s H C cl fp) e e' he) hset e1 e2 e3 e4 e5
      refine PS.mono (ps_setLc (te := TI X.K (eE Φ el')) (tt := TT' X.K (eC Φ o)) (g := TG' X.K tg') g.calm hnd hN hxl (sw_true g.kd hxl (by simpa using h2) (by simpa using h3)) P.hi P.ok P.hg P.ht P.he P.hs) fun D τ H q => ?_
      show tLc _ _ _ _ _ τ H _
      rw [P.hown]
      exact lc_read τ H _ (go D τ H q)
    · refine PS.mono (ps_set hnd hN hx ov.1 ?_ hf) go
      have hb : swB c x p (.ListComp el [⟨tg, iter, ifs, 0⟩] scope lp) = false := by simpa using hsw
      have ek : X.env.kindOf x = c.sc.lookup x := by rw [← g.sc]; rfl
      unfold swB at hb
      show (pure (X.env.blockKind == ScopeKind.function && X.env.kindOf x == some NameKind.local && p.line == lp.line && !(scope.names.any fun (n, k) => n == x && (k == .local || k == .cell))) : Sem Bool) = pure false
      rw [bk, ek, show (ScopeKind.function == ScopeKind.function) = true from rfl, Bool.true_and]
      exact congrArg pure hb
  · have hc' : isComp v = false := by simpa using hc
    exact PS.mono (ps_set hnd hN hx ov.1 (sw_no hc') hf) go
/-- target = value -/
theorem asgT_ok (g : GX X c Φ d) {es : List Expr} {kt : Nat} {p pos : Pos} {v : Expr} {v' : E} {tg : Tg} (ht : isTupE v = false) (h : cTg c 4 (.Tuple es kt p) = some tg) (hv : cE FU c v = some v') : PS X (.Assign [.Tuple es kt p] v pos) (TSt X.K (eS Φ (.asg tg v'))) := by
  refine PS.mono (ps_asg (e_ok FU X c Φ d g v v' hv).1 (tg_ok g 4 _ tg h) (show swapsWith v (some (.Tuple es kt p)) pos.line X.env = pure false from sw_tup) (sws_tup ht) (by rfl)) fun D τ H q => ?_
  obtain ⟨φ, σ, h, fl, h', rl, sr, e, k⟩ := q
  obtain ⟨z, h1, f1, e⟩ := bind_eq_ok (show (eE Φ v' σ h).bind _ = Out.ok fl h' from e)
  refine TI.seq rl sr f1 fun φ1 H1 w p1 k1 r1 s1 q1 => ?_
  split at e
  · rename_i σ1 et
    obtain ⟨g1, g2⟩ := out_inj e
    subst g1 g2
    exact ⟨φ1, h1, σ, z, σ1, r1, s1, q1, et, fun τ1 s2 _ => (k φ1 H1 p1 k1 r1).nx s2⟩
  · cases e
theorem par_ok (g : GX X c Φ d) {x y : Str} {px py kp2 : Pos} {a b : Expr} {a' b' : E} {i j kt k2 : Nat} {pt pt2 pos : Pos} (h : parOk c x y px py a b = true) (hi : findIx x c.N = some i) (hj : findIx y c.N = some j) (ha : cE FU c a = some a') (hb : cE FU c b = some b') :
    PS X (.Assign [.Tuple [.Name x px, .Name y py] kt pt] (.Tuple [a, b] k2 pt2) pos) (TSt X.K (eS Φ (.par i j a' b'))) := by
  have hsw := par_sw (kt := kt) (k2 := k2) (pt := pt) (pt2 := pt2) g h
  unfold parOk at h
  simp only [Bool.and_eq_true, decide_eq_true_eq, Bool.not_eq_true'] at h
  obtain ⟨⟨⟨⟨⟨⟨⟨hx, hy⟩, hl⟩, hne⟩, _⟩, _⟩, _⟩, _⟩ := h
  have hN : X.N[i]? = some x := by rw [g.N]; exact findIx_get hi
  have hM : X.N[j]? = some y := by rw [g.N]; exact findIx_get hj
  have hnd : X.N.Nodup := by rw [g.N]; exact g.nd
  have hij : i ≠ j := fun z => by subst z; rw [hN] at hM; exact hne (Option.some.inj hM)
  refine PS.mono (ps_par g.calm hnd hN hM hij (by rw [g.sc]; exact hx) (by rw [g.sc]; exact hy) (args2 (n := FU) (fun e e' he => e_ok FU X c Φ d g e e' he) ha hb) hsw) fun D τ H q => ?_
  obtain ⟨φ, σ, h, fl, h', rl, sr, e, k⟩ := q
  obtain ⟨v, h1, f1, e⟩ := bind_eq_ok (show (eE Φ a' σ h).bind _ = Out.ok fl h' from e)
  obtain ⟨u, h2, f2, e⟩ := bind_eq_ok e
  obtain ⟨g1, g2⟩ := out_inj e
  subst g1 g2
  exact TL.two rl sr f1 f2 fun φ1 H1 w1 w2 p1 k1 r1 s1 q1 q2 => ⟨w1, w2, rfl, (k φ1 H1 p1 k1 r1).nx ((s1.set i q1).set j q2)⟩
/-- o[i] = v -/
theorem sub_ok (g : GX X c Φ d) {o i v : Expr} {o' i' v' : E} {p pos : Pos} (hx : ixOk i = true) (ho : cE FU c o = some o') (hi : cE FU c i = some i') (hv : cE FU c v = some v') : PS X (.Assign [.Subscript o i p] v pos) (TSt X.K (eS Φ (.set o' i' v'))) := by
  have pg := pg_sub (pos := p) (e_ok FU X c Φ d g o o' ho).1 (e_ok FU X c Φ d g i i' hi).1 (opSet (X := X)) (by intro _; cases i <;> first | rfl | cases hx)
  refine PS.mono (ps_asg (e_ok FU X c Φ d g v v' hv).1 pg (show swapsWith v (some (.Subscript o i p)) pos.line X.env = pure false from sw_sub) sws_sub (by rfl)) fun D τ H q => ?_
  obtain ⟨φ, σ, h, fl, h', rl, sr, e, k⟩ := q
  obtain ⟨z, h1, f1, e⟩ := bind_eq_ok (show (eE Φ v' σ h).bind _ = Out.ok fl h' from e)
  obtain ⟨x, h2, f2, e⟩ := bind_eq_ok e
  obtain ⟨y, h3, f3, e⟩ := bind_eq_ok e
  obtain ⟨u, h4, f4, e⟩ := bind_eq_ok e
  obtain ⟨g1, g2⟩ := out_inj e
  subst g1 g2
  refine TI.seq rl sr f1 fun φ1 H1 w1 p1 k1 r1 s1 q1 => ?_
  refine TI.seq r1 s1 f2 fun φ2 H2 w2 p2 k2 r2 s2 q2 => ?_
  refine TI.seq r2 s2 f3 fun φ3 H3 w3 p3 k3 r3 s3 q3 => ?_
  exact ⟨φ3, h3, x, y, z, h4, r3, q2.mono p3 k3, q3, q1.mono (p2.trans p3) (k2.trans k3), f4, fun φ4 H4 p4 k4 r4 => (k φ4 H4 (((p1.trans p2).trans p3).trans p4) (((k1.trans k2).trans k3).trans k4) r4).nx (s3.mono p4 k4)⟩
/-- o[i] += e -/
theorem aug_ok (g : GX X c Φ d) {o i v : Expr} {o' i' v' : E} {p pos : Pos} (hx : ixOk i = true) (ho : cE FU c o = some o') (hi : cE FU c i = some i') (hv : cE FU c v = some v') : PS X (.AugAssign (.Subscript o i p) .Add v pos) (TSt X.K (eS Φ (.aug o' i' v'))) := by
  refine PS.mono (ps_augS (e_ok FU X c Φ d g o o' ho).1 (e_ok FU X c Φ d g i i' hi).1 (opGet (X := X)) (e_ok FU X c Φ d g v v' hv).1 ip_add (opSet (X := X)) (by intros; cases i <;> first | rfl | cases hx)) fun D τ H q => ?_
  obtain ⟨φ, σ, h, fl, h', rl, sr, e, k⟩ := q
  obtain ⟨x, h1, f1, e⟩ := bind_eq_ok (show (eE Φ o' σ h).bind _ = Out.ok fl h' from e)
  obtain ⟨y, h2, f2, e⟩ := bind_eq_ok e
  obtain ⟨u, h3, f3, e⟩ := bind_eq_ok e
  obtain ⟨v, h4, f4, e⟩ := bind_eq_ok e
  obtain ⟨z, h5, f5, e⟩ := bind_eq_ok e
  obtain ⟨_, h6, f6, e⟩ := bind_eq_ok e
  obtain ⟨g1, g2⟩ := out_inj e
  subst g1 g2
  have hr : ∃ i0, x = .ref i0 := by
    unfold setI at f6
    split at f6
    · exact ⟨_, rfl⟩
    · cases f6
  refine TI.seq rl sr f1 fun φ1 H1 w1 p1 k1 r1 s1 q1 => ?_
  refine TI.seq r1 s1 f2 fun φ2 H2 w2 p2 k2 r2 s2 q2 => ?_
  refine ⟨φ2, h2, x, y, u, h3, r2, q1.mono p2 k2, q2, f3, hr, fun φ3 H3 w3 p3 k3 r3 q3 => ?_⟩
  refine TI.seq r3 (s2.mono p3 k3) f4 fun φ4 H4 w4 p4 k4 r4 s4 q4 => ?_
  have hz : ∃ iu iv, u = .int iu ∧ v = .int iv ∧ z = .int (iu + iv) ∧ h4 = h5 := by
    unfold augI at f5
    split at f5
    · obtain ⟨m1, m2⟩ := out_inj f5
      exact ⟨_, _, rfl, rfl, m1.symm, m2⟩
    · cases f5
  obtain ⟨iu, iv, rfl, rfl, rfl, rfl⟩ := hz
  have q3' := q3.mono p4 k4
  rw [VR] at q3' q4
  refine ⟨iu, iv, q3', q4, ?_⟩
  exact ⟨φ4, h4, x, y, .int (iu + iv), h6, r4, q1.mono ((p2.trans p3).trans p4) ((k2.trans k3).trans k4), q2.mono (p3.trans p4) (k3.trans k4), by rw [VR], f6, fun φ5 H5 p5 k5 r5 => (k φ5 H5 ((((p1.trans p2).trans p3).trans p4).trans p5) ((((k1.trans k2).trans k3).trans k4).trans k5) r5).nx (s4.mono p5 k5)⟩

/-! ### loops -/
def FlOk.imp {K : PySem.W.Frag} {φ : List Addr} {H : Hp} {fl : Fl} {D D' : Ends} (f : FlOk K φ H fl D) (h1 : ∀ τ H, D.nx τ H → D'.nx τ H) (h2 : ∀ v H, D.rt v H → D'.rt v H) (h3 : ∀ τ H, D.bk τ H → D'.bk τ H) (h4 : ∀ τ H, D.ct τ H → D'.ct τ H) : FlOk K φ H fl D' := by
  cases fl with
  | nx σ => exact fun τ s => h1 _ _ (f τ s)
  | ret v => exact fun w q => h2 _ _ (f w q)
  | bk σ => exact fun τ s => h3 _ _ (f τ s)
  | ct σ => exact fun τ s => h4 _ _ (f τ s)
theorem whl_read {K : PySem.W.Frag} {t : Sl → IH → Out Bool} {b : Sl → IH → Out Fl} : ∀ D τ H, TSt K (fun σ h => whI t b σ h) D τ H → tWhile (TT' K t) (TSt K b) D τ H := by
  intro D τ H q
  obtain ⟨φ, σ, h, fl, h', rl, sr, e, k⟩ := q
  obtain ⟨n, e⟩ := whI_ex e
  refine ⟨fun m τ1 H1 => ∃ φ1 σ1 h1, Rel K φ1 h1 H1 ∧ SR K φ1 H1 σ1 τ1 ∧ Px φ φ1 ∧ Kp φ φ1 H H1 ∧ whN t b m σ1 h1 = .ok fl h', ⟨n, φ, σ, h, rl, sr, .refl φ, .refl φ H, e⟩, ?_⟩
  rintro m τ1 H1 ⟨φ1, σ1, h1, r1, s1, p1, k1, e1⟩
  cases m with
  | zero => rw [whN] at e1; cases e1
  | succ m =>
    rw [whN] at e1
    obtain ⟨c, h2, f2, e1⟩ := bind_eq_ok e1
    refine TT'.seq r1 s1 f2 fun φ2 H2 p2 k2 r2 s2 => ?_
    cases c with
    | false =>
      rw [if_neg Bool.false_ne_true] at e1 ⊢
      obtain ⟨g1, g2⟩ := out_inj e1
      subst g1 g2
      exact (k φ2 H2 (p1.trans p2) (k1.trans k2) r2).nx s2
    | true =>
      rw [if_pos rfl] at e1 ⊢
      obtain ⟨fl3, h3, f3, e1⟩ := bind_eq_ok e1
      refine ⟨fun τ3 H3 => ∃ φ1 σ1 h1, Rel K φ1 h1 H3 ∧ SR K φ1 H3 σ1 τ3 ∧ Px φ φ1 ∧ Kp φ φ1 H H3 ∧ whN t b m σ1 h1 = .ok fl h', fun τ3 H3 n3 => ⟨m, Nat.lt_succ_self m, n3⟩, ?_⟩
      refine TSt.seq r2 s2 f3 fun φ3 H3 p3 k3 r3 => ?_
      cases fl3 with
      | nx σ3 => exact fun τ3 s3 => ⟨φ3, σ3, h3, r3, s3, (p1.trans p2).trans p3, (k1.trans k2).trans k3, e1⟩
      | ct σ3 => exact fun τ3 s3 => ⟨φ3, σ3, h3, r3, s3, (p1.trans p2).trans p3, (k1.trans k2).trans k3, e1⟩
      | bk σ3 =>
        intro τ3 s3
        obtain ⟨g1, g2⟩ := out_inj (show Out.ok (Fl.nx σ3) h3 = Out.ok fl h' from e1)
        subst g1 g2
        exact (k φ3 H3 ((p1.trans p2).trans p3) ((k1.trans k2).trans k3) r3).nx s3
      | ret v =>
        intro w q
        obtain ⟨g1, g2⟩ := out_inj (show Out.ok (Fl.ret v) h3 = Out.ok fl h' from e1)
        subst g1 g2
        exact k φ3 H3 ((p1.trans p2).trans p3) ((k1.trans k2).trans k3) r3 w q
theorem for_read {K : PySem.W.Frag} {it' : It} {tg' : Tg} {b : Sl → IH → Out Fl} : ∀ D τ H, TSt K (fun σ h => (eI Φ it' σ h).bind fun w h1 => forGo w tg' b 0 (wkLen w h1) σ h1) D τ H → tFor (TW K (eI Φ it')) (TG' K tg') (TSt K b) D τ H := by
  intro D τ H q
  obtain ⟨φ, σ, h, fl, h', rl, sr, e, k⟩ := q
  obtain ⟨w, h1, f1, e⟩ := bind_eq_ok e
  refine ⟨φ, σ, h, w, h1, rl, sr, f1, fun φ1 H1 J p1 k1 r1 wk => ?_⟩
  have sr1 := sr.mono p1 k1
  refine ⟨fun i m τ2 H2 => ∃ φ2 σ2 h2, Rel K φ2 h2 H2 ∧ SR K φ2 H2 σ2 τ2 ∧ Px φ1 φ2 ∧ Kp φ1 φ2 H1 H2 ∧ forGo w tg' b i m σ2 h2 = .ok fl h', ⟨_, φ1, σ, h1, r1, sr1, .refl φ1, .refl φ1 H1, e⟩, ?_⟩
  rintro i m τ2 H2 ⟨φ2, σ2, h2, r2, s2, p2, k2, e2⟩
  cases m with
  | zero =>
    rw [forGo] at e2
    split at e2
    · rename_i ew
      obtain ⟨g1, g2⟩ := out_inj e2
      subst g1 g2
      exact .inl ⟨wk.stop i φ2 h2 H2 p2 k2 r2 ew, (k φ2 H2 (p1.trans p2) (k1.trans k2) r2).nx s2⟩
    · cases e2
  | succ m =>
    rw [forGo] at e2
    split at e2
    case h_2 => cases e2
    rename_i x ew
    split at e2
    case h_2 => cases e2
    rename_i σ3 et
    obtain ⟨fl4, h4, f4, e2⟩ := bind_eq_ok e2
    obtain ⟨go, hy⟩ := wk.item i φ2 h2 H2 x p2 k2 r2 ew
    refine .inr ⟨go, fun τ3 H3 => ∃ φ2 σ2 h2, Rel K φ2 h2 H3 ∧ SR K φ2 H3 σ2 τ3 ∧ Px φ1 φ2 ∧ Kp φ1 φ2 H1 H3 ∧ forGo w tg' b (i + 1) m σ2 h2 = .ok fl h', fun τ3 H3 n3 => ⟨m, Nat.lt_succ_self m, n3⟩, fun v H3 y => ?_⟩
    obtain ⟨k3, r3, q3⟩ := hy v H3 y
    refine ⟨φ2, h2, σ2, x, σ3, r3, s2.mono (.refl φ2) k3, q3, et, fun τ3 s3 _ => ?_⟩
    refine TSt.seq r3 s3 f4 fun φ4 H4 p4 k4 r4 => ?_
    have pp := (p1.trans p2).trans p4
    have kk := ((k1.trans k2).trans k3).trans k4
    cases fl4 with
    | nx σ4 => exact fun τ4 s4 => ⟨φ4, σ4, h4, r4, s4, p2.trans p4, (k2.trans k3).trans k4, e2⟩
    | ct σ4 => exact fun τ4 s4 => ⟨φ4, σ4, h4, r4, s4, p2.trans p4, (k2.trans k3).trans k4, e2⟩
    | bk σ4 =>
      intro τ4 s4
      obtain ⟨g1, g2⟩ := out_inj (show Out.ok (Fl.nx σ4) h4 = Out.ok fl h' from e2)
      subst g1 g2
      exact (k φ4 H4 pp kk r4).nx s4
    | ret v =>
      intro w' q
      obtain ⟨g1, g2⟩ := out_inj (show Out.ok (Fl.ret v) h4 = Out.ok fl h' from e2)
      subst g1 g2
      exact k φ4 H4 pp kk r4 w' q

/-- EVERY STATEMENT -/
theorem s_ok (g : GX X c Φ d) : ∀ n : Nat, (∀ st s', cS c n st = some s' → PS X st (TSt X.K (eS Φ s'))) ∧ ∀ sts s', cSs c n sts = some s' → PSs X sts (TSt X.K (eSs Φ s')) := by
  have ee : ∀ e e', cE FU c e = some e' → OkE X Φ e e' := fun e e' he => e_ok FU X c Φ d g e e' he
  intro n
  induction n with
  | zero => exact ⟨fun st s' h => (by cases h), fun sts s' h => (by cases h)⟩
  | succ n ih =>
    refine ⟨fun st s' h => ?_, fun sts s' h => ?_⟩
    · unfold cS at h
      split at h
      · -- pass
        cases h
        refine PS.mono ps_pass fun D τ H q => ?_
        obtain ⟨φ, σ, h, fl, h', rl, sr, e, k⟩ := q
        obtain ⟨g1, g2⟩ := out_inj (show Out.ok (Fl.nx σ) h = Out.ok fl h' from e)
        subst g1 g2
        exact (k φ H (.refl φ) (.refl φ H) rl).nx sr
      · cases h
        refine PS.mono ps_break fun D τ H q => ?_
        obtain ⟨φ, σ, h, fl, h', rl, sr, e, k⟩ := q
        obtain ⟨g1, g2⟩ := out_inj (show Out.ok (Fl.bk σ) h = Out.ok fl h' from e)
        subst g1 g2
        exact k φ H (.refl φ) (.refl φ H) rl τ sr
      · cases h
        refine PS.mono ps_continue fun D τ H q => ?_
        obtain ⟨φ, σ, h, fl, h', rl, sr, e, k⟩ := q
        obtain ⟨g1, g2⟩ := out_inj (show Out.ok (Fl.ct σ) h = Out.ok fl h' from e)
        subst g1 g2
        exact k φ H (.refl φ) (.refl φ H) rl τ sr
      · cases h
        refine PS.mono ps_never fun D τ H q => ?_
        obtain ⟨φ, σ, h, fl, h', rl, sr, e, k⟩ := q
        cases e
      · -- an expression
        rename_i e p
        split at h
        · cases h
        · rename_i hc
          obtain ⟨e', e1, h⟩ := Option.map_eq_some_iff.mp h
          subst h
          refine PS.mono (ps_expr (ee e e' e1).1 (sw_no (by simpa using hc))) fun D τ H q => ?_
          obtain ⟨φ, σ, h, fl, h', rl, sr, e, k⟩ := q
          obtain ⟨z, h1, f1, e⟩ := bind_eq_ok (show (eE Φ e' σ h).bind _ = Out.ok fl h' from e)
          obtain ⟨g1, g2⟩ := out_inj e
          subst g1 g2
          exact TI.seq rl sr f1 fun φ1 H1 w1 p1 k1 r1 s1 q1 => (k φ1 H1 p1 k1 r1).nx s1
      · rename_i e p
        obtain ⟨e', e1, h⟩ := Option.map_eq_some_iff.mp h
        subst h
        refine PS.mono (ps_ret (ee e e' e1).1) fun D τ H q => ?_
        obtain ⟨φ, σ, h, fl, h', rl, sr, e, k⟩ := q
        obtain ⟨z, h1, f1, e⟩ := bind_eq_ok (show (eE Φ e' σ h).bind _ = Out.ok fl h' from e)
        obtain ⟨g1, g2⟩ := out_inj e
        subst g1 g2
        exact TI.seq rl sr f1 fun φ1 H1 w1 p1 k1 r1 s1 q1 => k φ1 H1 p1 k1 r1 w1 q1
      · cases h
        refine PS.mono ps_retN fun D τ H q => ?_
        obtain ⟨φ, σ, h, fl, h', rl, sr, e, k⟩ := q
        obtain ⟨g1, g2⟩ := out_inj (show Out.ok (Fl.ret .non) h = Out.ok fl h' from e)
        subst g1 g2
        exact k φ H (.refl φ) (.refl φ H) rl .non (by rw [VR])
      · -- name = value
        split at h
        · rename_i hs
          obtain ⟨i, e1, h⟩ := Option.bind_eq_some_iff.mp h
          obtain ⟨v', e2, h⟩ := Option.map_eq_some_iff.mp h
          subst h
          exact set_ok g hs e1 e2
        · cases h
      · split at h
        · rename_i hx
          obtain ⟨o', e1, h⟩ := Option.bind_eq_some_iff.mp h
          obtain ⟨i', e2, h⟩ := Option.bind_eq_some_iff.mp h
          obtain ⟨v', e3, h⟩ := Option.map_eq_some_iff.mp h
          subst h
          exact sub_ok g hx e1 e2 e3
        · cases h
      · split at h
        · rename_i hp
          obtain ⟨i, e1, h⟩ := Option.bind_eq_some_iff.mp h
          obtain ⟨j, e2, h⟩ := Option.bind_eq_some_iff.mp h
          obtain ⟨a', e3, h⟩ := Option.bind_eq_some_iff.mp h
          obtain ⟨b', e4, h⟩ := Option.map_eq_some_iff.mp h
          subst h
          exact par_ok g (kp2 := default) hp e1 e2 e3 e4
        · cases h
      · split at h
        · cases h
        · rename_i ht
          obtain ⟨tg, e1, h⟩ := Option.bind_eq_some_iff.mp h
          obtain ⟨v', e2, h⟩ := Option.map_eq_some_iff.mp h
          subst h
          exact asgT_ok g (by simpa using ht) e1 e2
      · split at h
        · rename_i hx
          obtain ⟨o', e1, h⟩ := Option.bind_eq_some_iff.mp h
          obtain ⟨i', e2, h⟩ := Option.bind_eq_some_iff.mp h
          obtain ⟨v', e3, h⟩ := Option.map_eq_some_iff.mp h
          subst h
          exact aug_ok g hx e1 e2 e3
        · cases h
      · split at h
        · rename_i t a b p ht
          obtain ⟨t', e1, h⟩ := Option.bind_eq_some_iff.mp h
          obtain ⟨a', e2, h⟩ := Option.bind_eq_some_iff.mp h
          obtain ⟨b', e3, h⟩ := Option.map_eq_some_iff.mp h
          subst h
          refine PS.mono (ps_if ((ee t t' e1).2 ht) (ih.2 a a' e2) (ih.2 b b' e3)) fun D τ H q => ?_
          obtain ⟨φ, σ, h, fl, h', rl, sr, e, k⟩ := q
          obtain ⟨z, h1, f1, e⟩ := bind_eq_ok (show (tst (eE Φ t' σ h)).bind _ = Out.ok fl h' from e)
          refine TT'.seq rl sr f1 fun φ1 H1 p1 k1 r1 s1 => ?_
          cases z with
          | true =>
            rw [if_pos rfl] at e ⊢
            exact TSt.seq r1 s1 e fun φ2 H2 p2 k2 r2 => k φ2 H2 (p1.trans p2) (k1.trans k2) r2
          | false =>
            rw [if_neg Bool.false_ne_true] at e ⊢
            exact TSt.seq r1 s1 e fun φ2 H2 p2 k2 r2 => k φ2 H2 (p1.trans p2) (k1.trans k2) r2
        · cases h
      · split at h
        · rename_i t b p ht
          obtain ⟨t', e1, h⟩ := Option.bind_eq_some_iff.mp h
          obtain ⟨b', e2, h⟩ := Option.map_eq_some_iff.mp h
          subst h
          exact PS.mono (ps_while g.pass ((ee t t' e1).2 ht) (ih.2 b b' e2)) whl_read
        · cases h
      · split at h
        · cases h
        · rename_i tg it b p hset
          obtain ⟨tg', e1, h⟩ := Option.bind_eq_some_iff.mp h
          obtain ⟨it', e2, h⟩ := Option.bind_eq_some_iff.mp h
          obtain ⟨b', e3, h⟩ := Option.map_eq_some_iff.mp h
          subst h
          exact PS.mono (ps_for g.pass g.calm (it_ok g ee e2) (tg_ok g 4 tg tg' e1) (ih.2 b b' e3) (isSet_folded (by simpa using hset))) for_read
      · cases h
    · unfold cSs at h
      split at h
      · cases h
        refine PSs.mono pss_nil fun D τ H q => ?_
        obtain ⟨φ, σ, h, fl, h', rl, sr, e, k⟩ := q
        obtain ⟨g1, g2⟩ := out_inj (show Out.ok (Fl.nx σ) h = Out.ok fl h' from e)
        subst g1 g2
        exact (k φ H (.refl φ) (.refl φ H) rl).nx sr
      · rename_i st r
        obtain ⟨s1, e1, h⟩ := Option.bind_eq_some_iff.mp h
        obtain ⟨r1, e2, h⟩ := Option.map_eq_some_iff.mp h
        subst h
        refine PSs.mono (pss_cons (ih.1 _ s1 e1) (ih.2 _ r1 e2)) fun D τ H q => ?_
        obtain ⟨φ, σ, h, fl, h', rl, sr, e, k⟩ := q
        obtain ⟨fl1, h1, f1, e⟩ := bind_eq_ok (show (eS Φ s1 σ h).bind _ = Out.ok fl h' from e)
        refine TSt.seq rl sr f1 fun φ1 H1 p1 k1 rr1 => ?_
        cases fl1 with
        | nx σ1 => exact fun τ1 s1 => TSt.seq rr1 s1 e fun φ2 H2 p2 k2 r2 => k φ2 H2 (p1.trans p2) (k1.trans k2) r2
        | ret v =>
          obtain ⟨g1, g2⟩ := out_inj (show Out.ok (Fl.ret v) h1 = Out.ok fl h' from e)
          subst g1 g2
          exact k φ1 H1 p1 k1 rr1
        | bk σ1 =>
          obtain ⟨g1, g2⟩ := out_inj (show Out.ok (Fl.bk σ1) h1 = Out.ok fl h' from e)
          subst g1 g2
          exact k φ1 H1 p1 k1 rr1
        | ct σ1 =>
          obtain ⟨g1, g2⟩ := out_inj (show Out.ok (Fl.ct σ1) h1 = Out.ok fl h' from e)
          subst g1 g2
          exact k φ1 H1 p1 k1 rr1
end
end Pi
end

section
set_option maxHeartbeats 8000000

/-! PiProg: the defs of a program, all at once; the end of a law. -/
namespace Pi
open PySem PySem.Spec PyProof.Rows L2

/-- a def of the text: its name, its statement, its slots (parameters first), its parameters -/
structure Ent where
  x : Str
  st : Stmt
  N : List Str
  ps : List Str
  /-- its calls with keywords: how many stand by place, the names, where each parameter stands -/
  kw : List (Nat × List Str × List Nat) := []
def kwsOf : Nat → List Ent → List (Nat × Nat × List Str × List Nat)
  | _, [] => []
  | i, e :: r => e.kw.map (fun q => (i, q.1, q.2.1, q.2.2)) ++ kwsOf (i + 1) r
theorem kwsOf_mem {j m : Nat} {ks : List Str} {perm : List Nat} : ∀ {r : List Ent} {i : Nat}, (j, m, ks, perm) ∈ kwsOf i r → ∃ e, i ≤ j ∧ r[j - i]? = some e ∧ (m, ks, perm) ∈ e.kw
  | [], i, h => by cases h
  | e :: r, i, h => by
    unfold kwsOf at h
    rcases List.mem_append.mp h with h | h
    · obtain ⟨⟨m', ks', perm'⟩, hq, e2⟩ := List.mem_map.mp h
      simp only [Prod.mk.injEq] at e2
      obtain ⟨rfl, rfl, rfl, rfl⟩ := e2
      exact ⟨e, Nat.le_refl _, by simp, hq⟩
    · obtain ⟨e', h1, h2, h3⟩ := kwsOf_mem h
      refine ⟨e', by omega, ?_, h3⟩
      have : j - i = (j - (i + 1)) + 1 := by omega
      rw [this]; simpa using h2
def Ent.cs (e : Ent) (G : List (Str × Int)) (T : List (Str × List Int)) (fns : List Str) (kw : List (Nat × Nat × List Str × List Nat)) : Cs :=
  { sc := (defScope e.st).names, st := ((defScope e.st).names.filter fun y => decide (y.2 = .cell)).map (·.1), N := e.N, G := G, T := T, fns := fns, kw := kw }
def Ent.df (e : Ent) (G : List (Str × Int)) (T : List (Str × List Int)) (fns : List Str) (kw : List (Nat × Nat × List Str × List Nat)) : Option Df :=
  (cSs (e.cs G T fns kw) 60 (defBody e.st)).map fun b => ⟨e.ps.length, e.N.length, b⟩
def Ent.chk (e : Ent) : Bool :=
  decide ((defScope e.st).kind = .function) && !(defScope e.st).isCoroutine && !(defScope e.st).isGenerator && decide e.N.Nodup && decide (e.N.take e.ps.length = e.ps) &&
  e.ps.all (fun x => decide ((defScope e.st).names.lookup x = some .local) || decide ((defScope e.st).names.lookup x = some .cell)) && (defScope e.st).names.all (fun y => decide (y.2 ≠ .free)) && decide (e.ps.length ≤ e.N.length)
theorem Ent.scope {e : Ent} (h : e.chk = true) : FnScope e.N e.ps (defScope e.st) := by
  unfold Ent.chk at h
  simp only [Bool.and_eq_true, decide_eq_true_eq, Bool.not_eq_true', List.all_eq_true, Bool.or_eq_true] at h
  obtain ⟨⟨⟨⟨⟨⟨⟨h1, h2⟩, h3⟩, h4⟩, h5⟩, h6⟩, h7⟩, h8⟩ := h
  exact ⟨h1, h2, h3, h4, h5, fun x m => h6 x m, fun y m => h7 y m⟩
theorem Ent.few {e : Ent} (h : e.chk = true) : e.ps.length ≤ e.N.length := by
  unfold Ent.chk at h
  simp only [Bool.and_eq_true, decide_eq_true_eq, Bool.not_eq_true', List.all_eq_true, Bool.or_eq_true] at h
  exact h.2

/-- where a def stands behind the top -/
structure Fact (K : PySem.W.Frag) (e : Ent) (a : Addr) (fd : FuncData) : Prop where
  ns : PySem.W.nsIn K mainGlobals e.x = some (some (.ref a))
  fn : Fun K e.x e.x e.st a fd
  bd : ∀ us : List Value, us.length = e.ps.length → bindArgs fd ⟨us, []⟩ = pure (e.ps.zip us)
  kb : ∀ q ∈ e.kw, q.1 + q.2.1.length = q.2.2.length ∧ e.ps ≠ [] ∧ ∀ us ws : List Value, us.length = q.1 → ws.length = q.2.1.length → bindArgs fd ⟨us, q.2.1.zip ws⟩ = pure (e.ps.zip (arr q.2.2 (us ++ ws)))
def Has (K : PySem.W.Frag) (e : Ent) : Prop := ∃ a fd, Fact K e a fd
theorem has_mk {K : PySem.W.Frag} {e : Ent} {f : Addr} {oc : Value} {od an : Option Addr} {osl : Array (Option Value)} {kV doc pm cdv ct : Value} (a : PySem.W.nsIn K mainGlobals e.x = some (some (.ref f)))
    (l : K.lookup f = some ⟨oc, od, .func (PySem.W.fnOf e.x e.x (defArgs e.st) (defBody e.st) (defScope e.st) .none kV doc pm an cdv ct), osl⟩) (c : PySem.W.codeIn K cdv e.x = true) (k : PySem.W.keepIn K (.ref f) = true)
    (h : ∀ (kV doc pm : Value) (an : Option Addr) (cdv ct : Value) (us : List Value), us.length = e.ps.length → bindArgs (PySem.W.fnOf e.x e.x (defArgs e.st) (defBody e.st) (defScope e.st) .none kV doc pm an cdv ct) ⟨us, []⟩ = pure (e.ps.zip us))
    (hw : ∀ q ∈ e.kw, q.1 + q.2.1.length = q.2.2.length ∧ e.ps ≠ [] ∧ ∀ (kV doc pm : Value) (an : Option Addr) (cdv ct : Value) (us ws : List Value), us.length = q.1 → ws.length = q.2.1.length →
      bindArgs (PySem.W.fnOf e.x e.x (defArgs e.st) (defBody e.st) (defScope e.st) .none kV doc pm an cdv ct) ⟨us, q.2.1.zip ws⟩ = pure (e.ps.zip (arr q.2.2 (us ++ ws)))) : Has K e :=
  ⟨f, _, a, fun_mk l c k, fun us hl => h kV doc pm an cdv ct us hl, fun q hq => ⟨(hw q hq).1, (hw q hq).2.1, fun us ws => (hw q hq).2.2 kV doc pm an cdv ct us ws⟩⟩
theorem w_nil {α : Type} {P : α → Prop} : ∀ q ∈ ([] : List α), P q := fun _ m => nomatch m
theorem w_cons {α : Type} {P : α → Prop} {x : α} {l : List α} (h : P x) (r : ∀ q ∈ l, P q) : ∀ q ∈ x :: l, P q := fun q m => by
  rcases List.mem_cons.mp m with rfl | m
  · exact h
  · exact r q m

section
variable {P : Program} {w : World} {K : PySem.W.Frag} {mg : Str → Option Value} {base : Heap}
theorem vals_arr {vs : List V} {us : List Value} (r : Vals vs us) : ∀ perm : List Nat, Vals (arr perm vs) (arr perm us)
  | [] => .nil
  | i :: perm => by
    have ih := vals_arr r perm
    unfold arr at ih ⊢
    cases e : vs[i]? with
    | none =>
      have e2 : us[i]? = none := by
        rw [List.getElem?_eq_none_iff] at e ⊢
        rw [← r.length]; exact e
      rw [List.filterMap_cons_none e, List.filterMap_cons_none e2]
      exact ih
    | some x =>
      obtain ⟨v, e2, q⟩ := r.get e
      rw [List.filterMap_cons_some e, List.filterMap_cons_some e2]
      exact .cons q ih
theorem sr_start {φ : List Addr} {H : Hp} {N : List Str} {ivs : List IV} {vs : List V} {n : Nat} (q : VRs K φ H ivs vs) (hn : ivs.length = n) : SR K φ H (ivs.map some ++ List.replicate (N.length - n) none) (L2.start N vs) := by
  have l := q.length
  unfold L2.start
  refine ⟨by simp [l, ← hn], fun i x e => ?_⟩
  by_cases hi : i < ivs.length
  · rw [List.getElem?_append_left (by simpa using hi), List.getElem?_map] at e
    rw [List.getElem?_append_left (by simpa [← l] using hi), List.getElem?_map]
    cases e2 : ivs[i]? with
    | none => rw [e2] at e; cases e
    | some y =>
      rw [e2] at e
      have e' : y = x := Option.some.inj (Option.some.inj e)
      subst e'
      obtain ⟨v, ev, r⟩ := q.get e2
      exact ⟨v, by rw [ev]; rfl, r⟩
  · rw [List.getElem?_append_right (by simpa using Nat.le_of_not_lt hi), List.getElem?_replicate] at e
    split at e <;> cases e

/-- THE PROGRAM: each def keeps the promise that it does what the interpreter does -/
theorem prog_ok {ents : List Ent} {dfs : List Df} {G : List (Str × Int)} {T : List (Str × List Int)}
    (hd : ents.map (fun e => e.df G T (ents.map (·.x)) (kwsOf 0 ents)) = dfs.map some) (hc : ents.all Ent.chk = true) (KX : K.In base) (N : base.Ns mainGlobals mg)
    (hG : ∀ x i, G.lookup x = some i → ∃ t, mg x = some (.int i t)) (hT : ∀ x xs, T.lookup x = some xs → ∃ a, mg x = some (.ref a) ∧ ∀ H, SqT K H a (xs.map V.int))
    (hbt : ∀ b : Bt, mg b.name = none) (hbn : ∀ x ∈ others, mg x = none) (hh : ∀ e ∈ ents, Has K e) :
    ∀ (d i : Nat) (e : Ent) (a : Addr) (fd : FuncData), ents[i]? = some e → Fact K e a fd → FnOk P w K mg base CX0 d a fd e.ps (spI K (callF dfs d i)) := by
  intro d
  induction d with
  | zero =>
    intro i e a fd hi F
    have no : ∀ {vs H Q E}, spI K (callF dfs 0 i) vs H Q E → False := fun {vs H Q E} h => by
      obtain ⟨_, _, _, _, _, _, _, z, _⟩ := h
      cases z
    exact ⟨fun vs H Q E h => (no h).elim, fun A outer s H args us vs Q E hr e0 hb r h => (no h).elim⟩
  | succ d ih =>
    intro i e a fd hi F
    have hce : e.chk = true := List.all_eq_true.mp hc e (List.mem_of_getElem? hi)
    -- its compiled body
    have hdi : (dfs.map some)[i]? = some (e.df G T (ents.map (·.x)) (kwsOf 0 ents)) := by
      rw [← hd, List.getElem?_map, hi]; rfl
    rw [List.getElem?_map] at hdi
    obtain ⟨df, h1, h2⟩ := Option.map_eq_some_iff.mp hdi
    unfold Ent.df at h2
    obtain ⟨b, h3, h4⟩ := Option.map_eq_some_iff.mp h2.symm
    subst h4
    have arity : ∀ {vs H Q E}, spI K (callF dfs (d + 1) i) vs H Q E → ∃ φ h ivs v h', Rel K φ h H ∧ VRs K φ H ivs vs ∧ ivs.length = e.ps.length ∧ (eSs (callF dfs d) b (ivs.map some ++ List.replicate (e.N.length - e.ps.length) none) h).bind (fun fl h1 => match fl with | .nx _ => Out.ok IV.non h1 | .ret v => .ok v h1 | _ => .stuck) = .ok v h' ∧ Ct K φ h' H v Q := fun {vs H Q E} h => by
      obtain ⟨φ, h, ivs, v, h', rl, q, e1, k⟩ := h
      unfold callF at e1
      rw [h1] at e1
      simp only at e1
      unfold runD at e1
      split at e1
      · rename_i hl
        exact ⟨φ, h, ivs, v, h', rl, q, hl, e1, k⟩
      · cases e1
    refine F.fn.ok (Ent.scope hce) (fun vs H Q E h => ?_) (fun cdv A outer s H vs Q E hr h => ?_)
    · obtain ⟨φ, h, ivs, v, h', rl, q, hl, _, _⟩ := arity h
      rw [← q.length, hl]
    · obtain ⟨φ, h, ivs, v, h', rl, q, hl, e1, k⟩ := arity h
      have g : GX (cxOf CX0 P w K mg base e.N e.x (defScope e.st) a cdv A outer s H E).nox (e.cs G T (ents.map (·.x)) (kwsOf 0 ents)) (callF dfs d) d := {
        sc := rfl
        kd := (Ent.scope hce).kind
        N := rfl
        nd := (Ent.scope hce).nd
        calm := rfl
        xe := rfl
        room := hr
        G := hG
        T := hT
        fc := fun _ _ => rfl
        bt := hbt
        bn := hbn
        fn := fun j x hj => by
          have hj : (ents.map (·.x))[j]? = some x := hj
          rw [List.getElem?_map] at hj
          obtain ⟨ej, hj1, hj2⟩ := Option.map_eq_some_iff.mp hj
          obtain ⟨aj, fdj, Fj⟩ := hh ej (List.mem_of_getElem? hj1)
          subst hj2
          refine ⟨aj, fdj, ej.ps, PySem.W.mg_of KX N Fj.ns, Fj.fn.kp, .all Fj.bd, ih j ej aj fdj hj1 Fj, fun m ks perm hq => ?_⟩
          obtain ⟨e', _, h2, h3⟩ := kwsOf_mem hq
          rw [Nat.sub_zero, hj1] at h2
          have h2 := Option.some.inj h2
          subst h2
          obtain ⟨w1, w2, w3⟩ := Fj.kb _ h3
          have w1 : m + ks.length = perm.length := w1
          refine ⟨fun s us ws _ hl => ?_, fun {vs us zs ws} r1 r2 => ?_⟩
          · unfold gK at hl ⊢
            split at hl
            · rename_i hc
              rw [if_pos hc]
              exact .of_eq (w3 us ws hc.1 (by show ws.length = ks.length; omega))
            · exact absurd (List.eq_nil_of_length_eq_zero hl.symm) w2
          · unfold gK
            rw [r1.length, r2.length]
            split
            · exact vals_arr (r1.append r2) perm
            · exact .nil }
      refine ⟨_, (s_ok g 60).2 _ b h3, ?_⟩
      obtain ⟨fl, h2', f1, e1⟩ := bind_eq_ok e1
      refine TSt.seq rl (sr_start q hl) f1 fun φ1 H1 p1 k1 r1 => ?_
      cases fl with
      | nx σ =>
        intro τ sr
        obtain ⟨g1, g2⟩ := out_inj (show Out.ok IV.non h2' = Out.ok v h' from e1)
        subst g1 g2
        exact k φ1 H1 .non p1 k1 r1 (by rw [VR])
      | ret v =>
        intro w q
        obtain ⟨g1, g2⟩ := out_inj (show Out.ok v h2' = Out.ok _ h' from e1)
        subst g1 g2
        exact k φ1 H1 w p1 k1 r1 q
      | bk σ => cases e1
      | ct σ => cases e1
end

/-! ### the law's end -/
theorem vr_ints (K : PySem.W.Frag) (φ : List Addr) (H : Hp) (ns : List Int) : VRs K φ H (ns.map IV.int) (ns.map V.int) := VRs.ofInts ns
theorem lsr_of {K : PySem.W.Frag} {H : Hp} {a : Addr} {vs : List V} (o : Only H) (s : SqL K H a vs) : (∃ o, H a = some (.frz o (.lst vs))) ∨ (∀ H', SqL K H' a vs) := by
  rcases s with (s | ⟨ob, s⟩) | s
  · rcases o a with z | ⟨ob, xs, z⟩
    · rw [s] at z; cases z
    · rw [s] at z; cases z
  · exact .inl ⟨ob, s⟩
  · exact .inr fun H' => .inr s
theorem pi_walk {l : PySem.W.OpenLaw} {q : Program} {loose : List Str} {XP : (Str → Option Value) → Heap → Prop} {YP : World → Heap → Prop} {d : DefRec} {K : Params → PySem.W.Frag} {ents : List Ent} {dfs : List Df} {G : List (Str × Int)} {T : List (Str × List Int)} {x : Str} {e : Ent} (D i : Nat)
    (hn : l.most = some 63) (hdf : d.params.defaults = []) (hr : Room D callerA) (hY : ∀ (w : World) (h : Heap), YP w h → (K w.params).In h)
    (hd : ents.map (fun e => e.df G T (ents.map (·.x)) (kwsOf 0 ents)) = dfs.map some) (hc : ents.all Ent.chk = true) (hi : ents[i]? = some e) (hx : e.x = d.name) (hps : e.ps = [x])
    (F : ∀ (w : World) (mg : Str → Option Value) (h : Heap), (K w.params).In h → h.Ns mainGlobals mg → XP mg h →
      (∀ x i, G.lookup x = some i → ∃ t, mg x = some (.int i t)) ∧ (∀ x xs, T.lookup x = some xs → ∃ a, mg x = some (.ref a) ∧ ∀ H, SqT (K w.params) H a (xs.map V.int)) ∧ (∀ b : Bt, mg b.name = none) ∧ (∀ x ∈ others, mg x = none) ∧ ∀ e ∈ ents, Has (K w.params) e)
    (math : ∀ ns : List Int, ns.length ≤ 63 → ∃ h', callF dfs D i [.lsr (ns.map IV.int)] [] = .ok (.bl true) h') :
    PySem.W.WalkO q loose XP YP l.row.toRowW d [] (fun f vs => PySem.call f vs) := by
  refine Att.attach_call hn hdf fun w s₀ s₁ mg mb fa o pm cd doc a vs ns G' Y ho hd' hcd hmg hobj hints hlen hg => ?_
  have KX := hY w _ Y
  obtain ⟨f1, f2, f3, f4, f5⟩ := F w mg _ KX G'.T.g G'.X
  obtain ⟨a0, fd, Fe⟩ := f5 e (List.mem_of_getElem? hi)
  have ea : a0 = fa := by
    have h1 := PySem.W.mg_of KX G'.T.g Fe.ns
    rw [hx, hmg] at h1
    have h1' : Value.ref fa = Value.ref a0 := Option.some.inj h1
    injection h1' with h1'
    exact h1'.symm
  subst ea
  have hb : ∀ (s : Shared) (u : Value), BindsTo s fd ⟨[u], []⟩ [(x, u)] := fun s u => .of_eq (by
    have h1 := Fe.bd [u] (by rw [hps]; rfl)
    rw [hps] at h1
    exact h1)
  have hs : (63 : Nat) ≤ sizeLine := by rw [sizeLine_eq]; decide
  refine law_call (x := x) (k := D) (CX := CX0) (sp := spI (K w.params) (callF dfs D i)) KX G'.T.g G'.T.b G'.T.builtins G'.T.nolimit hg hobj hints (Nat.le_trans hlen hs) hr (fun base hK hN => ?_) hb (fun H hO hS => ?_) (fun H e s' z => z.elim)
  · have := prog_ok (P := l.prog) (w := w) (base := base) hd hc hK hN f1 f2 f3 f4 f5 D i e a0 fd hi Fe
    rw [hps] at this
    exact this
  · obtain ⟨h', hm⟩ := math ns hlen
    refine ⟨[], [], [.lsr (ns.map IV.int)], .bl true, h', ⟨rfl, fun i j a e => by simp at e, fun i a o e => by simp at e⟩, .one ?_, hm, fun φ' H' w' p k r q => ?_⟩
    · rw [VR]
      exact ⟨a, ns.map V.int, rfl, lsr_of hO hS, VRs.ofInts ns⟩
    · rw [VR] at q
      exact q
end Pi
end

section
set_option maxHeartbeats 8000000
/-! PiEnd: what a law's head gives, in pieces. -/
namespace Pi
open PySem PySem.Spec PyProof.Rows L2
def GF (mg : Str → Option Value) (G : List (Str × Int)) : Prop := ∀ x i, G.lookup x = some i → ∃ t, mg x = some (.int i t)
theorem g_nil {mg : Str → Option Value} : GF mg [] := fun _ _ e => nomatch e
theorem g_cons {mg : Str → Option Value} {x : Str} {i : Int} {G : List (Str × Int)} (h : ∃ t, mg x = some (.int i t)) (r : GF mg G) : GF mg ((x, i) :: G) := fun y j e => by
  rw [List.lookup_cons] at e
  split at e
  · rename_i b
    have eb : y = x := by simpa using b
    rw [eb, ← Option.some.inj e]; exact h
  · exact r y j e
def TF (K : PySem.W.Frag) (mg : Str → Option Value) (T : List (Str × List Int)) : Prop := ∀ x xs, T.lookup x = some xs → ∃ a, mg x = some (.ref a) ∧ ∀ H, SqT K H a (xs.map V.int)
theorem t_nil {K : PySem.W.Frag} {mg : Str → Option Value} : TF K mg [] := fun _ _ e => nomatch e
theorem t_cons {K : PySem.W.Frag} {mg : Str → Option Value} {x : Str} {i : List Int} {G : List (Str × List Int)} (h : ∃ a, mg x = some (.ref a) ∧ ∀ H, SqT K H a (i.map V.int)) (r : TF K mg G) : TF K mg ((x, i) :: G) := fun y j e => by
  rw [List.lookup_cons] at e
  split at e
  · rename_i b
    have eb : y = x := by simpa using b
    rw [eb, ← Option.some.inj e]; exact h
  · exact r y j e
theorem h_nil {K : PySem.W.Frag} : ∀ e ∈ ([] : List Ent), Has K e := fun _ m => nomatch m
theorem h_cons {K : PySem.W.Frag} {e : Ent} {es : List Ent} (h : Has K e) (r : ∀ e ∈ es, Has K e) : ∀ x ∈ e :: es, Has K x := fun x m => by
  rcases List.mem_cons.mp m with rfl | m
  · exact h
  · exact r x m
theorem n_nil {mg : Str → Option Value} : ∀ x ∈ ([] : List Str), mg x = none := fun _ m => nomatch m
theorem n_cons {mg : Str → Option Value} {e : Str} {es : List Str} (h : mg e = none) (r : ∀ e ∈ es, mg e = none) : ∀ x ∈ e :: es, mg x = none := fun x m => by
  rcases List.mem_cons.mp m with rfl | m
  · exact h
  · exact r x m
theorem g_loose {lv : List (Str × PySem.W.WData)} {mg : Str → Option Value} {h : Heap} {x : Str} {i : Int} (L : PySem.W.LooseAre lv mg h) (m : (x, PySem.W.WData.int i) ∈ lv) : ∃ t, mg x = some (.int i t) := by
  obtain ⟨v, a, b⟩ := L.val _ m
  obtain ⟨t, rfl, -⟩ := PySem.W.readsW_int_inv b
  exact ⟨t, a⟩

end Pi
end

section
set_option maxHeartbeats 8000000
/-! PiW: what is to hold behind a run of the interpreter. -/
namespace Pi
open PySem
def W {α : Type} (x : Out α) (Q : α → IH → Prop) : Prop := ∃ a h, x = .ok a h ∧ Q a h
theorem W.imp {α : Type} {x : Out α} {Q R : α → IH → Prop} (w : W x Q) (k : ∀ a h, Q a h → R a h) : W x R := by
  obtain ⟨a, h, e, q⟩ := w
  exact ⟨a, h, e, k a h q⟩
@[simp] theorem W_ok {α : Type} {a : α} {h : IH} {Q : α → IH → Prop} : W (.ok a h) Q ↔ Q a h := ⟨fun ⟨b, g, e, q⟩ => by cases e; exact q, fun q => ⟨a, h, rfl, q⟩⟩
@[simp] theorem W_stuck {α : Type} {Q : α → IH → Prop} : W (.stuck : Out α) Q ↔ False := ⟨fun ⟨_, _, e, _⟩ => (nomatch e), False.elim⟩
@[simp] theorem W_ex {α : Type} {x : Ex} {h : IH} {Q : α → IH → Prop} : W (.ex x h : Out α) Q ↔ False := ⟨fun ⟨_, _, e, _⟩ => (nomatch e), False.elim⟩
@[simp] theorem W_bind {α β : Type} {x : Out α} {f : α → IH → Out β} {Q : β → IH → Prop} : W (x.bind f) Q ↔ W x fun a h => W (f a h) Q := by
  constructor
  · rintro ⟨b, g, e, q⟩
    obtain ⟨a, h, e1, e2⟩ := bind_eq_ok e
    exact ⟨a, h, e1, b, g, e2, q⟩
  · rintro ⟨a, h, e1, b, g, e2, q⟩
    exact ⟨b, g, by rw [e1]; exact e2, q⟩
theorem W_ite {α : Type} {c : Prop} [Decidable c] {x y : Out α} {Q : α → IH → Prop} : W (if c then x else y) Q ↔ if c then W x Q else W y Q := by split <;> rfl
section
variable {Φ : Calls} {σ : Sl} {h : IH}
@[simp] theorem W_var {i : Nat} {Q : IV → IH → Prop} : W (eE Φ (.var i) σ h) Q ↔ W (match σ[i]? with | some (some v) => .ok v h | _ => .stuck) Q := by rw [eE]; (try exact Iff.rfl)
@[simp] theorem W_con {v : IV} {Q : IV → IH → Prop} : W (eE Φ (.con v) σ h) Q ↔ Q v h := by rw [eE, W_ok]
@[simp] theorem W_bin {op : Operator} {a b : E} {Q : IV → IH → Prop} : W (eE Φ (.bin op a b) σ h) Q ↔ W (eE Φ a σ h) fun x h1 => W (eE Φ b σ h1) fun y h2 => W (binI op x y h2) Q := by rw [eE]; (try simp only [W_bind]); (try exact Iff.rfl)
@[simp] theorem W_neg {a : E} {Q : IV → IH → Prop} : W (eE Φ (.neg a) σ h) Q ↔ W (eE Φ a σ h) fun x h1 => W (match x with | .int i => .ok (.int (-i)) h1 | _ => .stuck) Q := by rw [eE]; (try simp only [W_bind]); (try exact Iff.rfl)
@[simp] theorem W_not {a : E} {Q : IV → IH → Prop} : W (eE Φ (.not a) σ h) Q ↔ W (tst (eE Φ a σ h)) fun b h1 => Q (.bl !b) h1 := by rw [eE]; (try simp only [W_bind, W_ok]); (try exact Iff.rfl)
def OptQ {α : Type} (o : Option α) (k : α → Prop) : Prop := match o with
  | some b => k b
  | none => False
@[simp] theorem OptQ_some {α : Type} {b : α} {k : α → Prop} : OptQ (some b) k ↔ k b := Iff.rfl
@[simp] theorem OptQ_none {α : Type} {k : α → Prop} : OptQ none k ↔ False := Iff.rfl
@[simp] theorem W_tst {x : Out IV} {Q : Bool → IH → Prop} : W (tst x) Q ↔ W x fun v h1 => OptQ (truI v h1) fun b => Q b h1 := by
  unfold tst
  simp only [W_bind]
  constructor
  · rintro ⟨v, g, e, q⟩
    refine ⟨v, g, e, ?_⟩
    split at q
    · rename_i b e2; simp only [e2]; exact W_ok.mp q
    · exact (W_stuck.mp q).elim
  · rintro ⟨v, g, e, q⟩
    refine ⟨v, g, e, ?_⟩
    cases e2 : truI v g with
    | some b => simp only [e2] at q ⊢; exact W_ok.mpr q
    | none => rw [e2] at q; exact q.elim
@[simp] theorem W_and {a b : E} {Q : IV → IH → Prop} : W (eE Φ (.and a b) σ h) Q ↔ W (eE Φ a σ h) fun x h1 => W (match truI x h1 with | some true => eE Φ b σ h1 | some false => .ok x h1 | none => .stuck) Q := by rw [eE]; (try simp only [W_bind]); (try exact Iff.rfl)
@[simp] theorem W_or {a b : E} {Q : IV → IH → Prop} : W (eE Φ (.or a b) σ h) Q ↔ W (eE Φ a σ h) fun x h1 => W (match truI x h1 with | some true => .ok x h1 | some false => eE Φ b σ h1 | none => .stuck) Q := by rw [eE]; (try simp only [W_bind]); (try exact Iff.rfl)
@[simp] theorem W_cmp {op : CmpOp} {a b : E} {Q : IV → IH → Prop} : W (eE Φ (.cmp op a b) σ h) Q ↔ W (eE Φ a σ h) fun x h1 => W (eE Φ b σ h1) fun y h2 => W (cmpI op x y h2) Q := by rw [eE]; (try simp only [W_bind]); (try exact Iff.rfl)
@[simp] theorem W_chain {op op' : CmpOp} {a b c : E} {Q : IV → IH → Prop} : W (eE Φ (.chain op op' a b c) σ h) Q ↔ W (eE Φ a σ h) fun x h1 => W (eE Φ b σ h1) fun y h2 => W (cmpI op x y h2) fun r h3 => W (match r with
    | .bl true => (eE Φ c σ h3).bind fun z h4 => cmpI op' y z h4
    | .bl false => .ok (.bl false) h3
    | _ => .stuck) Q := by rw [eE]; (try simp only [W_bind]); (try exact Iff.rfl)
@[simp] theorem W_ife {c a b : E} {Q : IV → IH → Prop} : W (eE Φ (.ife c a b) σ h) Q ↔ W (tst (eE Φ c σ h)) fun t h1 => if t = true then W (eE Φ a σ h1) Q else W (eE Φ b σ h1) Q := by rw [eE]; (try simp only [W_bind, W_ite]); (try exact Iff.rfl)
@[simp] theorem W_tup {es : Es} {Q : IV → IH → Prop} : W (eE Φ (.tup es) σ h) Q ↔ W (eEs Φ es σ h) fun vs h1 => W (newT vs h1) Q := by rw [eE]; (try simp only [W_bind]); (try exact Iff.rfl)
@[simp] theorem W_lst {es : Es} {Q : IV → IH → Prop} : W (eE Φ (.lst es) σ h) Q ↔ W (eEs Φ es σ h) fun vs h1 => W (newL vs h1) Q := by rw [eE]; (try simp only [W_bind]); (try exact Iff.rfl)
@[simp] theorem W_call {f : Nat} {es : Es} {Q : IV → IH → Prop} : W (eE Φ (.call f es) σ h) Q ↔ W (eEs Φ es σ h) fun vs h1 => W (Φ f vs h1) Q := by rw [eE]; (try simp only [W_bind]); (try exact Iff.rfl)
@[simp] theorem W_callk {f m : Nat} {perm : List Nat} {es ks : Es} {Q : IV → IH → Prop} : W (eE Φ (.callk f m perm es ks) σ h) Q ↔ W (eEs Φ es σ h) fun vs h1 => W (eEs Φ ks σ h1) fun zs h2 => W (if vs.length = m ∧ m + zs.length = perm.length then Φ f (arr perm (vs ++ zs)) h2 else .stuck) Q := by rw [eE]; (try simp only [W_bind]); (try exact Iff.rfl)
@[simp] theorem W_blt {f : Bt} {es : Es} {Q : IV → IH → Prop} : W (eE Φ (.blt f es) σ h) Q ↔ W (eEs Φ es σ h) fun vs h1 => W (bltI f vs h1) Q := by rw [eE]; (try simp only [W_bind]); (try exact Iff.rfl)
@[simp] theorem W_sset {a : E} {Q : IV → IH → Prop} : W (eE Φ (.sset a) σ h) Q ↔ W (eE Φ a σ h) fun x h1 => W (match (lstOf h1 x).bind intsOf with
    | some ns => if ns.length < 64 then .ok (.ref h1.length) (h1 ++ [.lst ((sst ns).map .int)]) else .stuck
    | none => .stuck) Q := by rw [eE]; (try simp only [W_bind]); (try exact Iff.rfl)
@[simp] theorem W_isi {a : E} {T : Ty} {Q : IV → IH → Prop} : W (eE Φ (.isi a T) σ h) Q ↔ W (eE Φ a σ h) fun x h1 => W (match isIH T x h1 with | some b => .ok (.bl b) h1 | none => .stuck) Q := by rw [eE]; (try simp only [W_bind]); (try exact Iff.rfl)
@[simp] theorem W_ix {a b : E} {Q : IV → IH → Prop} : W (eE Φ (.ix a b) σ h) Q ↔ W (eE Φ a σ h) fun x h1 => W (eE Φ b σ h1) fun y h2 => W (ixI x y h2) Q := by rw [eE]; (try simp only [W_bind]); (try exact Iff.rfl)
@[simp] theorem W_sl {a : E} {lo hi : Oe} {Q : IV → IH → Prop} : W (eE Φ (.sl a lo hi) σ h) Q ↔ W (eE Φ a σ h) fun x h1 => W (eO Φ lo σ h1) fun l h2 => W (eO Φ hi σ h2) fun u h3 => W (slI x l u h3) Q := by rw [eE]; (try simp only [W_bind]); (try exact Iff.rfl)
@[simp] theorem W_lc {el : E} {tg : Tg} {it : It} {c : Oe} {own : List Nat} {Q : IV → IH → Prop} : W (eE Φ (.lc el tg it c own) σ h) Q ↔ W (eI Φ it σ h) fun w h1 => W (lcGo w (fun x h2 => match tgI tg x (wipeI σ own) with
      | some σ2 => (eC Φ c σ2 h2).bind fun b h3 => if b then (eE Φ el σ2 h3).bind fun v h4 => .ok (some v) h4 else .ok none h3
      | none => .stuck) 0 (wkLen w h1) [] h1) fun vs h5 => W (newL vs h5) Q := by rw [eE]; (try simp only [W_bind]); (try exact Iff.rfl)
@[simp] theorem W_dict {tk : Bool} {Q : IV → IH → Prop} : W (eE Φ (.dict tk) σ h) Q ↔ Q (.ref h.length) (h ++ [if tk then .dt [] else .dk []]) := by rw [eE, W_ok]
@[simp] theorem W_meth {m : Mt} {o : E} {es : Es} {Q : IV → IH → Prop} : W (eE Φ (.meth m o es) σ h) Q ↔ W (eE Φ o σ h) fun x h1 => isLst x h1 = true ∧ W (eEs Φ es σ h1) fun vs h2 => W (methI m x vs h2) Q := by
  rw [eE]; simp only [W_bind]
  constructor
  · rintro ⟨v, g, e, q⟩
    refine ⟨v, g, e, ?_⟩
    split at q
    · rename_i e2; exact ⟨e2, W_bind.mp q⟩
    · exact (W_stuck.mp q).elim
  · rintro ⟨v, g, e, e2, q⟩
    exact ⟨v, g, e, by simp only [if_pos e2]; exact W_bind.mpr q⟩
@[simp] theorem W_nilE {Q : List IV → IH → Prop} : W (eEs Φ .nil σ h) Q ↔ Q [] h := by rw [eEs, W_ok]
@[simp] theorem W_consE {e : E} {es : Es} {Q : List IV → IH → Prop} : W (eEs Φ (.cons e es) σ h) Q ↔ W (eE Φ e σ h) fun v h1 => W (eEs Φ es σ h1) fun vs h2 => Q (v :: vs) h2 := by rw [eEs]; (try simp only [W_bind, W_ok]); (try exact Iff.rfl)
@[simp] theorem W_nonO {Q : Option Int → IH → Prop} : W (eO Φ .non σ h) Q ↔ Q none h := by rw [eO, W_ok]
@[simp] theorem W_somO {e : E} {Q : Option Int → IH → Prop} : W (eO Φ (.som e) σ h) Q ↔ W (eE Φ e σ h) fun x h1 => W (match x with | .int i => .ok (some i) h1 | _ => .stuck) Q := by rw [eO]; (try simp only [W_bind]); (try exact Iff.rfl)
@[simp] theorem W_nonC {Q : Bool → IH → Prop} : W (eC Φ .non σ h) Q ↔ Q true h := by rw [eC, W_ok]
@[simp] theorem W_somC {e : E} {Q : Bool → IH → Prop} : W (eC Φ (.som e) σ h) Q ↔ W (tst (eE Φ e σ h)) Q := by rw [eC]
@[simp] theorem W_Ival {e : E} {Q : Wk → IH → Prop} : W (eI Φ (.val e) σ h) Q ↔ W (eE Φ e σ h) fun x h1 => W (match x with
    | .tup xs => .ok (.vals xs) h1
    | .lsr xs => .ok (.vals xs) h1
    | .ref i => (match lsAt h1 i with
      | some _ => .ok (.lst i) h1
      | none => .stuck)
    | _ => .stuck) Q := by rw [eI]; (try simp only [W_bind]); (try exact Iff.rfl)
@[simp] theorem W_Iints {xs : List Int} {Q : Wk → IH → Prop} : W (eI Φ (.ints xs) σ h) Q ↔ Q (.vals (xs.map .int)) h := by rw [eI, W_ok]
@[simp] theorem W_Irng {e : E} {Q : Wk → IH → Prop} : W (eI Φ (.rng e) σ h) Q ↔ W (eE Φ e σ h) fun x h1 => W (match x with
    | .int j => if -4611686018427387904 ≤ j ∧ j < 4611686018427387904 then .ok (.vals ((List.range j.toNat).map fun k : Nat => .int k)) h1 else .stuck
    | _ => .stuck) Q := by rw [eI]; (try simp only [W_bind]); (try exact Iff.rfl)
@[simp] theorem W_Irng2 {a b : E} {Q : Wk → IH → Prop} : W (eI Φ (.rng2 a b) σ h) Q ↔ W (eE Φ a σ h) fun x h1 => W (eE Φ b σ h1) fun y h2 => W (match x, y with
    | .int i, .int j => if -4611686018427387904 ≤ i ∧ i < 4611686018427387904 ∧ -4611686018427387904 ≤ j ∧ j < 4611686018427387904 then .ok (.vals ((List.range (j - i).toNat).map fun k : Nat => .int (i + k))) h2 else .stuck
    | _, _ => .stuck) Q := by rw [eI]; (try simp only [W_bind]); (try exact Iff.rfl)
@[simp] theorem W_Ienum {e : E} {Q : Wk → IH → Prop} : W (eI Φ (.enum e) σ h) Q ↔ W (eE Φ e σ h) fun x h1 => W (match x with
    | .tup xs => .ok (.enumT xs) h1
    | .ref i => (match lsAt h1 i with
      | some _ => .ok (.enum i) h1
      | none => .stuck)
    | _ => .stuck) Q := by rw [eI]; (try simp only [W_bind]); (try exact Iff.rfl)
@[simp] theorem W_Irev {e : E} {Q : Wk → IH → Prop} : W (eI Φ (.rev e) σ h) Q ↔ W (eE Φ e σ h) fun x h1 => W (match x with
    | .ref i => (match lsAt h1 i with
      | some xs => .ok (.rev i xs.length) h1
      | none => .stuck)
    | _ => .stuck) Q := by rw [eI]; (try simp only [W_bind]); (try exact Iff.rfl)
@[simp] theorem W_Izip {a b : E} {Q : Wk → IH → Prop} : W (eI Φ (.zip a b) σ h) Q ↔ W (eE Φ a σ h) fun x h1 => W (eE Φ b σ h1) fun y h2 => W (match x, y with
    | .ref i, .ref j => (match lsAt h2 i, lsAt h2 j with
      | some _, some _ => .ok (.zip i j) h2
      | _, _ => .stuck)
    | _, _ => .stuck) Q := by rw [eI]; (try simp only [W_bind]); (try exact Iff.rfl)

/-! statements -/
variable {Q : Fl → IH → Prop}
@[simp] theorem W_pass : W (eS Φ .pass σ h) Q ↔ Q (.nx σ) h := by rw [eS, W_ok]
@[simp] theorem W_brk : W (eS Φ .brk σ h) Q ↔ Q (.bk σ) h := by rw [eS, W_ok]
@[simp] theorem W_cnt : W (eS Φ .cnt σ h) Q ↔ Q (.ct σ) h := by rw [eS, W_ok]
@[simp] theorem W_asg {tg : Tg} {e : E} : W (eS Φ (.asg tg e) σ h) Q ↔ W (eE Φ e σ h) fun v h1 => ∃ σ1, tgI tg v σ = some σ1 ∧ Q (.nx σ1) h1 := by
  rw [eS]; simp only [W_bind]
  constructor
  · rintro ⟨v, g, e, q⟩
    refine ⟨v, g, e, ?_⟩
    split at q
    · rename_i b e2; exact ⟨b, e2, W_ok.mp q⟩
    · exact (W_stuck.mp q).elim
  · rintro ⟨v, g, e, b, e2, q⟩
    exact ⟨v, g, e, by simp only [e2]; exact W_ok.mpr q⟩
@[simp] theorem W_par {i j : Nat} {a b : E} : W (eS Φ (.par i j a b) σ h) Q ↔ W (eE Φ a σ h) fun v h1 => W (eE Φ b σ h1) fun u h2 => Q (.nx ((σ.set i (some v)).set j (some u))) h2 := by rw [eS]; (try simp only [W_bind, W_ok]); (try exact Iff.rfl)
@[simp] theorem W_set {o i e : E} : W (eS Φ (.set o i e) σ h) Q ↔ W (eE Φ e σ h) fun v h1 => W (eE Φ o σ h1) fun x h2 => W (eE Φ i σ h2) fun y h3 => W (setI x y v h3) fun _ h4 => Q (.nx σ) h4 := by rw [eS]; (try simp only [W_bind, W_ok]); (try exact Iff.rfl)
@[simp] theorem W_aug {o i e : E} : W (eS Φ (.aug o i e) σ h) Q ↔ W (eE Φ o σ h) fun x h1 => W (eE Φ i σ h1) fun y h2 => W (ixI x y h2) fun u h3 => W (eE Φ e σ h3) fun v h4 => W (augI u v h4) fun z h5 => W (setI x y z h5) fun _ h6 => Q (.nx σ) h6 := by rw [eS]; (try simp only [W_bind, W_ok]); (try exact Iff.rfl)
@[simp] theorem W_drop {e : E} : W (eS Φ (.drop e) σ h) Q ↔ W (eE Φ e σ h) fun _ h1 => Q (.nx σ) h1 := by rw [eS]; (try simp only [W_bind, W_ok]); (try exact Iff.rfl)
@[simp] theorem W_ret {e : E} : W (eS Φ (.ret e) σ h) Q ↔ W (eE Φ e σ h) fun v h1 => Q (.ret v) h1 := by rw [eS]; (try simp only [W_bind, W_ok]); (try exact Iff.rfl)
@[simp] theorem W_retN : W (eS Φ .retN σ h) Q ↔ Q (.ret .non) h := by rw [eS, W_ok]
@[simp] theorem W_if {c : E} {a b : Ss} : W (eS Φ (.ite c a b) σ h) Q ↔ W (tst (eE Φ c σ h)) fun t h1 => if t = true then W (eSs Φ a σ h1) Q else W (eSs Φ b σ h1) Q := by rw [eS]; (try simp only [W_bind, W_ite]); (try exact Iff.rfl)
@[simp] theorem W_never : W (eS Φ .never σ h) Q ↔ False := by rw [eS, W_stuck]
@[simp] theorem W_for {tg : Tg} {it : It} {b : Ss} : W (eS Φ (.for tg it b) σ h) Q ↔ W (eI Φ it σ h) fun w h1 => W (forGo w tg (fun σ h => eSs Φ b σ h) 0 (wkLen w h1) σ h1) Q := by rw [eS]; (try simp only [W_bind]); (try exact Iff.rfl)
@[simp] theorem W_whl {c : E} {b : Ss} : W (eS Φ (.whl c b) σ h) Q ↔ W (whI (fun σ h => tst (eE Φ c σ h)) (fun σ h => eSs Φ b σ h) σ h) Q := by rw [eS]
@[simp] theorem W_nil : W (eSs Φ .nil σ h) Q ↔ Q (.nx σ) h := by rw [eSs, W_ok]
theorem W_cons {s : S} {r : Ss} : W (eSs Φ (.cons s r) σ h) Q ↔ W (eS Φ s σ h) fun fl h1 => match fl with | .nx σ1 => W (eSs Φ r σ1 h1) Q | f => Q f h1 := by
  rw [eSs]; simp only [W_bind]
  constructor
  · rintro ⟨v, g, e, q⟩
    refine ⟨v, g, e, ?_⟩
    cases v <;> first | exact q | exact W_ok.mp q
  · rintro ⟨v, g, e, q⟩
    refine ⟨v, g, e, ?_⟩
    cases v <;> first | exact q | exact W_ok.mpr q
/-- what is to hold behind a statement: the rest, or its end -/
def Nxt (Φ : Calls) (r : Ss) (Q : Fl → IH → Prop) : Fl → IH → Prop := fun fl h1 => match fl with | .nx σ1 => W (eSs Φ r σ1 h1) Q | f => Q f h1
theorem W.step {s : S} {r : Ss} (w : W (eS Φ s σ h) (Nxt Φ r Q)) : W (eSs Φ (.cons s r) σ h) Q := W_cons.mpr (w.imp fun fl h1 q => by cases fl <;> exact q)
theorem Nxt.go {s : S} {r : Ss} (w : W (eS Φ s σ h) (Nxt Φ r Q)) : Nxt Φ (.cons s r) Q (.nx σ) h := W.step w
@[simp] theorem Nxt_nil : Nxt Φ .nil Q (.nx σ) h ↔ Q (.nx σ) h := W_nil
@[simp] theorem Nxt_ret {r : Ss} {v : IV} : Nxt Φ r Q (.ret v) h ↔ Q (.ret v) h := Iff.rfl
@[simp] theorem Nxt_bk {r : Ss} {σ : Sl} : Nxt Φ r Q (.bk σ) h ↔ Q (.bk σ) h := Iff.rfl
@[simp] theorem Nxt_ct {r : Ss} {σ : Sl} : Nxt Φ r Q (.ct σ) h ↔ Q (.ct σ) h := Iff.rfl
end
/-! loops -/
theorem W_forV {xs : List IV} {tg : Tg} {b : Sl → IH → Out Fl} {Q : Fl → IH → Prop} (I : Nat → Sl → IH → Prop) {σ : Sl} {h : IH} (h0 : I 0 σ h)
    (step : ∀ n x σ h, xs[n]? = some x → I n σ h → ∃ σ1, tgI tg x σ = some σ1 ∧ W (b σ1 h) fun fl h2 => match fl with
      | .nx σ2 => I (n + 1) σ2 h2
      | .ct σ2 => I (n + 1) σ2 h2
      | .bk σ2 => Q (.nx σ2) h2
      | .ret v => Q (.ret v) h2)
    (fin : ∀ σ h, I xs.length σ h → Q (.nx σ) h) : W (forGo (.vals xs) tg b 0 xs.length σ h) Q := by
  have go : ∀ (rem n : Nat) (σ : Sl) (h : IH), n + rem = xs.length → I n σ h → W (forGo (.vals xs) tg b n rem σ h) Q := by
    intro rem
    induction rem with
    | zero =>
      intro n σ h hn hi
      unfold forGo wkAt
      have e : xs[n]? = none := List.getElem?_eq_none (by omega)
      simp only [e]
      have : n = xs.length := by omega
      subst this
      exact W_ok.mpr (fin σ h hi)
    | succ rem ih =>
      intro n σ h hn hi
      unfold forGo wkAt
      have hlt : n < xs.length := by omega
      have e : xs[n]? = some xs[n] := List.getElem?_eq_getElem hlt
      simp only [e]
      obtain ⟨σ1, e1, w⟩ := step n _ σ h e hi
      simp only [e1]
      refine W_bind.mpr (w.imp fun fl h2 q => ?_)
      cases fl with
      | nx σ2 => exact ih (n + 1) σ2 h2 (by omega) q
      | ct σ2 => exact ih (n + 1) σ2 h2 (by omega) q
      | bk σ2 => exact W_ok.mpr q
      | ret v => exact W_ok.mpr q
  exact go xs.length 0 σ h (by omega) h0
/-- a loop over a list of the heap that stays as it is -/
theorem W_forL {i : Nat} {xs : List IV} {tg : Tg} {b : Sl → IH → Out Fl} {Q : Fl → IH → Prop} (I : Nat → Sl → IH → Prop) {σ : Sl} {h : IH} (hx : h[i]? = some (.lst xs)) (h0 : I 0 σ h)
    (keep : ∀ n σ h, n ≤ xs.length → I n σ h → h[i]? = some (.lst xs))
    (step : ∀ n x σ h, xs[n]? = some x → I n σ h → ∃ σ1, tgI tg x σ = some σ1 ∧ W (b σ1 h) fun fl h2 => match fl with
      | .nx σ2 => I (n + 1) σ2 h2
      | .ct σ2 => I (n + 1) σ2 h2
      | .bk σ2 => Q (.nx σ2) h2
      | .ret v => Q (.ret v) h2)
    (fin : ∀ σ h, I xs.length σ h → Q (.nx σ) h) : W (forGo (.lst i) tg b 0 (wkLen (.lst i) h) σ h) Q := by
  have go : ∀ (rem n : Nat) (σ : Sl) (h : IH), n + rem = xs.length → I n σ h → W (forGo (.lst i) tg b n rem σ h) Q := by
    intro rem
    induction rem with
    | zero =>
      intro n σ h hn hi
      have hk := keep n σ h (by omega) hi
      unfold forGo wkAt lsAt
      have e : xs[n]? = none := List.getElem?_eq_none (by omega)
      simp only [hk, Option.map_some, e]
      have : n = xs.length := by omega
      subst this
      exact W_ok.mpr (fin σ h hi)
    | succ rem ih =>
      intro n σ h hn hi
      have hk := keep n σ h (by omega) hi
      unfold forGo wkAt lsAt
      have hlt : n < xs.length := by omega
      have e : xs[n]? = some xs[n] := List.getElem?_eq_getElem hlt
      simp only [hk, Option.map_some, e]
      obtain ⟨σ1, e1, w⟩ := step n _ σ h e hi
      simp only [e1]
      refine W_bind.mpr (w.imp fun fl h2 q => ?_)
      cases fl with
      | nx σ2 => exact ih (n + 1) σ2 h2 (by omega) q
      | ct σ2 => exact ih (n + 1) σ2 h2 (by omega) q
      | bk σ2 => exact W_ok.mpr q
      | ret v => exact W_ok.mpr q
  have hl : wkLen (.lst i) h = xs.length := by unfold wkLen lsAt; simp only [hx]; rfl
  rw [hl]
  exact go xs.length 0 σ h (by omega) h0
/-- a while, by a measure -/
theorem W_while {t : Sl → IH → Out Bool} {b : Sl → IH → Out Fl} {Q : Fl → IH → Prop} (I : Nat → Sl → IH → Prop) {m : Nat} {σ : Sl} {h : IH} (h0 : I m σ h)
    (step : ∀ m σ h, I m σ h → W (t σ h) fun c h1 => if c = true then W (b σ h1) fun fl h2 => match fl with
      | .nx σ2 => ∃ m', m' < m ∧ I m' σ2 h2
      | .ct σ2 => ∃ m', m' < m ∧ I m' σ2 h2
      | .bk σ2 => Q (.nx σ2) h2
      | .ret v => Q (.ret v) h2
      else Q (.nx σ) h1) : W (whI t b σ h) Q := by
  have go : ∀ (k m : Nat) (σ : Sl) (h : IH), m ≤ k → I m σ h → ∃ n fl h', whN t b n σ h = .ok fl h' ∧ Q fl h' := by
    intro k
    induction k with
    | zero =>
      intro m σ h hm hi
      obtain ⟨c, h1, e1, q⟩ := step m σ h hi
      cases c with
      | false => exact ⟨1, .nx σ, h1, by unfold whN; rw [e1]; rfl, q⟩
      | true =>
        obtain ⟨fl, h2, e2, q⟩ := q
        cases fl with
        | nx σ2 => obtain ⟨m', hm', _⟩ := q; omega
        | ct σ2 => obtain ⟨m', hm', _⟩ := q; omega
        | bk σ2 => exact ⟨1, .nx σ2, h2, by unfold whN; rw [e1]; simp [e2], q⟩
        | ret v => exact ⟨1, .ret v, h2, by unfold whN; rw [e1]; simp [e2], q⟩
    | succ k ih =>
      intro m σ h hm hi
      obtain ⟨c, h1, e1, q⟩ := step m σ h hi
      cases c with
      | false => exact ⟨1, .nx σ, h1, by unfold whN; rw [e1]; rfl, q⟩
      | true =>
        obtain ⟨fl, h2, e2, q⟩ := q
        cases fl with
        | nx σ2 =>
          obtain ⟨m', hm', hi'⟩ := q
          obtain ⟨n, fl, h', e3, q3⟩ := ih m' σ2 h2 (by omega) hi'
          exact ⟨n + 1, fl, h', by unfold whN; rw [e1]; simp [e2, e3], q3⟩
        | ct σ2 =>
          obtain ⟨m', hm', hi'⟩ := q
          obtain ⟨n, fl, h', e3, q3⟩ := ih m' σ2 h2 (by omega) hi'
          exact ⟨n + 1, fl, h', by unfold whN; rw [e1]; simp [e2, e3], q3⟩
        | bk σ2 => exact ⟨1, .nx σ2, h2, by unfold whN; rw [e1]; simp [e2], q⟩
        | ret v => exact ⟨1, .ret v, h2, by unfold whN; rw [e1]; simp [e2], q⟩
  obtain ⟨n, fl, h', e, q⟩ := go m m σ h (Nat.le_refl _) h0
  exact ⟨fl, h', whI_of n e (fun z => nomatch z), q⟩
/-- a comprehension over values -/
theorem W_lcV {xs : List IV} {body : IV → IH → Out (Option IV)} {Q : List IV → IH → Prop} (I : Nat → List IV → IH → Prop) {h : IH} (h0 : I 0 [] h)
    (step : ∀ n x acc h, xs[n]? = some x → I n acc h → W (body x h) fun o h2 => match o with
      | some v => acc.length < LIM ∧ I (n + 1) (acc ++ [v]) h2
      | none => I (n + 1) acc h2)
    (fin : ∀ acc h, I xs.length acc h → Q acc h) : W (lcGo (.vals xs) body 0 xs.length [] h) Q := by
  have go : ∀ (rem n : Nat) (acc : List IV) (h : IH), n + rem = xs.length → I n acc h → W (lcGo (.vals xs) body n rem acc h) Q := by
    intro rem
    induction rem with
    | zero =>
      intro n σ h hn hi
      unfold lcGo wkAt
      have e : xs[n]? = none := List.getElem?_eq_none (by omega)
      simp only [e]
      have : n = xs.length := by omega
      subst this
      exact W_ok.mpr (fin σ h hi)
    | succ rem ih =>
      intro n acc h hn hi
      unfold lcGo wkAt
      have hlt : n < xs.length := by omega
      have e : xs[n]? = some xs[n] := List.getElem?_eq_getElem hlt
      simp only [e]
      refine W_bind.mpr ((step n _ acc h e hi).imp fun o h2 q => ?_)
      cases o with
      | some v => simp only [q.1, if_true]; exact ih (n + 1) _ h2 (by omega) q.2
      | none => exact ih (n + 1) _ h2 (by omega) q
  exact go xs.length 0 [] h (by omega) h0
theorem W_lcL {i : Nat} {xs : List IV} {body : IV → IH → Out (Option IV)} {Q : List IV → IH → Prop} (I : Nat → List IV → IH → Prop) {h : IH} (hx : h[i]? = some (.lst xs)) (h0 : I 0 [] h)
    (keep : ∀ n acc h, n ≤ xs.length → I n acc h → h[i]? = some (.lst xs))
    (step : ∀ n x acc h, xs[n]? = some x → I n acc h → W (body x h) fun o h2 => match o with
      | some v => acc.length < LIM ∧ I (n + 1) (acc ++ [v]) h2
      | none => I (n + 1) acc h2)
    (fin : ∀ acc h, I xs.length acc h → Q acc h) : W (lcGo (.lst i) body 0 (wkLen (.lst i) h) [] h) Q := by
  have go : ∀ (rem n : Nat) (acc : List IV) (h : IH), n + rem = xs.length → I n acc h → W (lcGo (.lst i) body n rem acc h) Q := by
    intro rem
    induction rem with
    | zero =>
      intro n σ h hn hi
      have hk := keep n σ h (by omega) hi
      unfold lcGo wkAt lsAt
      have e : xs[n]? = none := List.getElem?_eq_none (by omega)
      simp only [hk, Option.map_some, e]
      have : n = xs.length := by omega
      subst this
      exact W_ok.mpr (fin σ h hi)
    | succ rem ih =>
      intro n acc h hn hi
      have hk := keep n acc h (by omega) hi
      unfold lcGo wkAt lsAt
      have hlt : n < xs.length := by omega
      have e : xs[n]? = some xs[n] := List.getElem?_eq_getElem hlt
      simp only [hk, Option.map_some, e]
      refine W_bind.mpr ((step n _ acc h e hi).imp fun o h2 q => ?_)
      cases o with
      | some v => simp only [q.1, if_true]; exact ih (n + 1) _ h2 (by omega) q.2
      | none => exact ih (n + 1) _ h2 (by omega) q
  have hl : wkLen (.lst i) h = xs.length := by unfold wkLen lsAt; simp only [hx]; rfl
  rw [hl]
  exact go xs.length 0 [] h (by omega) h0
/-- a def runs -/
theorem W_def {P : List Df} {k f : Nat} {d : Df} {vs : List IV} {h : IH} {Q : IV → IH → Prop} (e : P[f]? = some d) (hl : vs.length = d.ar)
    (w : W (eSs (callF P k) d.body (vs.map some ++ List.replicate (d.sl - d.ar) none) h) fun fl h1 => match fl with
      | .nx _ => Q .non h1
      | .ret v => Q v h1
      | _ => False) : W (callF P (k + 1) f vs h) Q := by
  unfold callF
  rw [e]
  simp only
  unfold runD
  rw [if_pos hl]
  refine W_bind.mpr (w.imp fun fl h1 q => ?_)
  cases fl with
  | nx σ => exact W_ok.mpr q
  | ret v => exact W_ok.mpr q
  | bk σ => exact q.elim
  | ct σ => exact q.elim
end Pi
end

section
set_option maxHeartbeats 8000000
/-! PiH: the law's draws. -/
namespace Pi
open PySem
/-- the heap goes on: all but the place hp stays -/
def UpE (hp : Nat) (h h' : IH) : Prop := h.length ≤ h'.length ∧ ∀ j, j ≠ hp → j < h.length → h'[j]? = h[j]?
def Up (h h' : IH) : Prop := h.length ≤ h'.length ∧ ∀ j, j < h.length → h'[j]? = h[j]?
theorem Up.refl (h : IH) : Up h h := ⟨Nat.le_refl _, fun _ _ => rfl⟩
theorem UpE.refl (p : Nat) (h : IH) : UpE p h h := ⟨Nat.le_refl _, fun _ _ _ => rfl⟩
theorem Up.e {h h' : IH} (u : Up h h') (p : Nat) : UpE p h h' := ⟨u.1, fun j _ hl => u.2 j hl⟩
theorem UpE.trans {p : Nat} {h h1 h2 : IH} (a : UpE p h h1) (b : UpE p h1 h2) : UpE p h h2 := ⟨Nat.le_trans a.1 b.1, fun j n hl => (b.2 j n (Nat.lt_of_lt_of_le hl a.1)).trans (a.2 j n hl)⟩
theorem Up.trans {h h1 h2 : IH} (a : Up h h1) (b : Up h1 h2) : Up h h2 := ⟨Nat.le_trans a.1 b.1, fun j hl => (b.2 j (Nat.lt_of_lt_of_le hl a.1)).trans (a.2 j hl)⟩
theorem Up.app (h t : IH) : Up h (h ++ t) := ⟨by simp, fun j hl => List.getElem?_append_left hl⟩
theorem UpE.set (p : Nat) (h : IH) (o : IO) : UpE p h (h.set p o) := ⟨by simp, fun j n _ => List.getElem?_set_ne (Ne.symm n)⟩
theorem lt_of_at {h : IH} {j : Nat} {o : IO} (e : h[j]? = some o) : j < h.length := (List.getElem?_eq_some_iff.mp e).1
theorem Up.at {h h' : IH} (u : Up h h') {j : Nat} {o : IO} (e : h[j]? = some o) : h'[j]? = some o := (u.2 j (lt_of_at e)).trans e
theorem UpE.at {p : Nat} {h h' : IH} (u : UpE p h h') {j : Nat} {o : IO} (n : j ≠ p) (e : h[j]? = some o) : h'[j]? = some o := (u.2 j n (lt_of_at e)).trans e
theorem new_at (h : IH) (o : IO) : (h ++ [o])[h.length]? = some o := by simp
theorem set_at {h : IH} {p : Nat} {o o' : IO} (e : h[p]? = some o) : (h.set p o')[p]? = some o' := List.getElem?_set_self (lt_of_at e)
theorem small_of {i : Int} {k : Nat} (h : i.natAbs < 2 ^ k) (hk : k ≤ 400000) : small i = true := by
  unfold small
  exact decide_eq_true (Nat.lt_of_lt_of_le h (Nat.pow_le_pow_right (by omega) hk))
theorem small64 {i : Int} (h : i.natAbs < 18446744073709551616) : small i = true := small_of (k := 64) (by omega) (by omega)
theorem mid64 {i : Int} (h : i.natAbs < 18446744073709551616) : mid i = true := by
  unfold mid
  have : i.natAbs < 2 ^ 64 := by omega
  exact decide_eq_true (Nat.lt_of_lt_of_le this (Nat.pow_le_pow_right (by omega) (by omega)))
theorem W_mul {i j : Int} {h : IH} {Q : IV → IH → Prop} (a : small i = true) (b : small j = true) : W (binI .Mult (.int i) (.int j) h) Q ↔ Q (.int (i * j)) h := by
  unfold binI; simp [a, b]
theorem W_mulT {i j : Int} {h : IH} {Q : IV → IH → Prop} (a : 0 ≤ i) (b : i ≤ 4294967296) : W (binI .Mult (.int i) (.int j) h) Q ↔ Q (.int (i * j)) h := by
  unfold binI tiny; simp [a, b]
theorem W_add {i j : Int} {h : IH} {Q : IV → IH → Prop} : W (binI .Add (.int i) (.int j) h) Q ↔ Q (.int (i + j)) h := by unfold binI; simp
theorem W_sub {i j : Int} {h : IH} {Q : IV → IH → Prop} : W (binI .Sub (.int i) (.int j) h) Q ↔ Q (.int (i - j)) h := by unfold binI; simp
theorem W_mod {i j : Int} {h : IH} {Q : IV → IH → Prop} (a : 0 < j) : W (binI .Mod (.int i) (.int j) h) Q ↔ Q (.int (i % j)) h := by unfold binI; simp [a]
theorem W_div {i j : Int} {h : IH} {Q : IV → IH → Prop} (a : 0 < j) (b : mid j = true) : W (binI .FloorDiv (.int i) (.int j) h) Q ↔ Q (.int (i / j)) h := by unfold binI; simp [a, b]
theorem W_div64 {i j : Int} {h : IH} {Q : IV → IH → Prop} (a : 0 < j) (b : j < 18446744073709551616) : W (binI .FloorDiv (.int i) (.int j) h) Q ↔ Q (.int (i / j)) h := W_div a (mid64 (by omega))
theorem W_pow {i j : Int} {h : IH} {Q : IV → IH → Prop} (a : 0 ≤ j) (b : j ≤ 1000000) (c : i.natAbs < 18446744073709551616) : W (binI .Pow (.int i) (.int j) h) Q ↔ Q (.int (i ^ j.toNat)) h := by unfold binI; simp [a, b, c]

@[simp] theorem W_abs {i : Int} {h : IH} {Q : IV → IH → Prop} : W (bltI .abs [.int i] h) Q ↔ Q (.int i.natAbs) h := by
  unfold bltI
  have e : (if i < 0 then -i else i) = (i.natAbs : Int) := by split <;> omega
  simp only [W_ok, e]
@[simp] theorem W_int {i : Int} {h : IH} {Q : IV → IH → Prop} : W (bltI .int [.int i] h) Q ↔ Q (.int i) h := by unfold bltI; exact W_ok
@[simp] theorem W_intB {b : Bool} {h : IH} {Q : IV → IH → Prop} : W (bltI .int [.bl b] h) Q ↔ Q (.int (if b then 1 else 0)) h := by unfold bltI; exact W_ok
theorem W_lenL {i : Nat} {xs : List IV} {h : IH} {Q : IV → IH → Prop} (e : h[i]? = some (.lst xs)) : W (bltI .len [.ref i] h) Q ↔ Q (.int xs.length) h := by unfold bltI; simp only [e]; exact W_ok
@[simp] theorem W_lenT {xs : List IV} {h : IH} {Q : IV → IH → Prop} : W (bltI .len [.tup xs] h) Q ↔ Q (.int xs.length) h := by unfold bltI; exact W_ok
@[simp] theorem W_lenS {xs : List IV} {h : IH} {Q : IV → IH → Prop} : W (bltI .len [.lsr xs] h) Q ↔ Q (.int xs.length) h := by unfold bltI; exact W_ok
theorem W_lenSet {i : Nat} {xs : List Int} {h : IH} {Q : IV → IH → Prop} (e : h[i]? = some (.set xs)) (l : xs.length ≤ LIM) : W (bltI .len [.ref i] h) Q ↔ Q (.int xs.length) h := by unfold bltI; simp only [e, if_pos l]; exact W_ok
@[simp] theorem W_max {i j : Int} {h : IH} {Q : IV → IH → Prop} : W (bltI .max [.int i, .int j] h) Q ↔ Q (.int (max i j)) h := by
  unfold bltI
  have e : (if j > i then j else i) = max i j := by split <;> omega
  simp only [W_ok, e]
@[simp] theorem W_min {i j : Int} {h : IH} {Q : IV → IH → Prop} : W (bltI .min [.int i, .int j] h) Q ↔ Q (.int (min i j)) h := by
  unfold bltI
  have e : (if j < i then j else i) = min i j := by split <;> omega
  simp only [W_ok, e]
theorem range_at {N n : Nat} {x : IV} (e : ((List.range N).map fun k : Nat => IV.int k)[n]? = some x) : n < N ∧ x = .int n := by
  have hl := (List.getElem?_eq_some_iff.mp e).1
  simp at hl
  rw [List.getElem?_map, List.getElem?_range hl] at e
  exact ⟨hl, (Option.some.inj e).symm⟩
theorem ints_at {xs : List Int} {n : Nat} {x : IV} (e : (xs.map IV.int)[n]? = some x) : ∃ hn : n < xs.length, x = .int xs[n] := by
  have hl := (List.getElem?_eq_some_iff.mp e).1
  simp at hl
  rw [List.getElem?_map, List.getElem?_eq_getElem hl] at e
  exact ⟨hl, (Option.some.inj e).symm⟩
theorem cut_take (xs : List IV) (n : Nat) : cutI xs none (some (n : Int)) = xs.take n := by
  unfold cutI
  rw [HT.sIx_none, HT.sIx_nat, List.drop_zero, Nat.sub_zero, List.take_eq_take_iff]
  omega
theorem cut_drop (xs : List IV) (n : Nat) : cutI xs (some (n : Int)) none = xs.drop n := by
  unfold cutI
  rw [HT.sIx_none, HT.sIx_nat]
  by_cases hn : n ≤ xs.length
  · rw [Nat.min_eq_left hn, List.take_of_length_le (by simp)]
  · rw [Nat.min_eq_right (by omega), List.drop_of_length_le (Nat.le_refl _), List.drop_of_length_le (by omega)]; simp
theorem ix_list {h : IH} {i : Nat} {xs : List Int} {n : Nat} {Q : IV → IH → Prop} (hx : h[i]? = some (.lst (xs.map .int))) (hn : n < xs.length) : W (ixI (.ref i) (.int n) h) Q ↔ Q (.int xs[n]) h := by
  simp [ixI, seqOf, lstOf, hx, L2.atI, L2.ixN, hn]
/-! lists of the heap -/
theorem W_append {i : Nat} {xs : List IV} {v : IV} {h : IH} {Q : IV → IH → Prop} (hx : h[i]? = some (.lst xs)) (l : xs.length < LIM) : W (methI .append (.ref i) [v] h) Q ↔ Q .non (h.set i (.lst (xs ++ [v]))) := by
  unfold methI; simp only [hx, if_pos l]; exact W_ok
theorem isLst_at {i : Nat} {xs : List IV} {h : IH} (hx : h[i]? = some (.lst xs)) : isLst (.ref i) h = true := by unfold isLst; simp only [hx]
theorem W_listL {i : Nat} {xs : List IV} {h : IH} {Q : IV → IH → Prop} (hx : h[i]? = some (.lst xs)) : W (bltI .list [.ref i] h) Q ↔ Q (.ref h.length) (h ++ [.lst xs]) := by
  unfold bltI seqOf lstOf; simp only [hx]; exact W_ok
@[simp] theorem W_listS {xs : List IV} {h : IH} {Q : IV → IH → Prop} : W (bltI .list [.lsr xs] h) Q ↔ Q (.ref h.length) (h ++ [.lst xs]) := by
  unfold bltI seqOf lstOf; exact W_ok
@[simp] theorem W_listT {xs : List IV} {h : IH} {Q : IV → IH → Prop} : W (bltI .list [.tup xs] h) Q ↔ Q (.ref h.length) (h ++ [.lst xs]) := by
  unfold bltI seqOf; exact W_ok
theorem W_tupleL {i : Nat} {xs : List IV} {h : IH} {Q : IV → IH → Prop} (hx : h[i]? = some (.lst xs)) : W (bltI .tuple [.ref i] h) Q ↔ Q (.tup xs) h := by
  unfold bltI lstOf; simp only [hx]; exact W_ok
theorem W_newL {xs : List IV} {h : IH} {Q : IV → IH → Prop} (l : xs.length ≤ LIM) : W (newL xs h) Q ↔ Q (.ref h.length) (h ++ [.lst xs]) := by unfold newL; simp only [if_pos l]; exact W_ok
theorem W_newT {xs : List IV} {h : IH} {Q : IV → IH → Prop} (l : xs.length ≤ LIM) : W (newT xs h) Q ↔ Q (.tup xs) h := by unfold newT; simp only [if_pos l]; exact W_ok
theorem W_addL {i j : Nat} {xs ys : List IV} {h : IH} {Q : IV → IH → Prop} (hx : h[i]? = some (.lst xs)) (hy : h[j]? = some (.lst ys)) (l : (xs ++ ys).length ≤ LIM) : W (binI .Add (.ref i) (.ref j) h) Q ↔ Q (.ref h.length) (h ++ [.lst (xs ++ ys)]) := by
  unfold binI; simp only [hx, hy]; exact W_newL l
theorem W_slL {i : Nat} {xs : List IV} {lo hi : Option Int} {h : IH} {Q : IV → IH → Prop} (hx : h[i]? = some (.lst xs)) : W (slI (.ref i) lo hi h) Q ↔ Q (.ref h.length) (h ++ [.lst (cutI xs lo hi)]) := by
  unfold slI lstOf; simp only [hx]; exact W_ok
theorem W_setL {i n : Nat} {xs : List IV} {v : IV} {h : IH} {Q : Unit → IH → Prop} (hx : h[i]? = some (.lst xs)) (hn : n < xs.length) : W (setI (.ref i) (.int n) v h) Q ↔ Q () (h.set i (.lst (xs.set n v))) := by
  unfold setI
  have e : L2.ixN xs.length (n : Int) = some n := by unfold L2.ixN; rw [if_pos (by omega), if_pos (by omega), Int.toNat_natCast]
  simp only [hx, e]; exact W_ok
theorem intsOf_map : ∀ xs : List Int, intsOf (xs.map .int) = some xs
  | [] => rfl
  | x :: xs => by
    show (intsOf (xs.map .int)).map (x :: ·) = _
    rw [intsOf_map xs]; rfl
theorem W_setOf {i : Nat} {xs : List Int} {h : IH} {Q : IV → IH → Prop} (hx : h[i]? = some (.lst (xs.map .int))) (l : xs.length + 1 < 4096) : W (bltI .set [.ref i] h) Q ↔ Q (.ref h.length) (h ++ [.set (ded xs)]) := by
  unfold bltI lstOf; simp only [hx, Option.bind_some, intsOf_map, if_pos l]; exact W_ok
theorem W_sorted {i : Nat} {xs : List Int} {h : IH} {Q : IV → IH → Prop} (hx : h[i]? = some (.lst (xs.map .int))) : W (bltI .sorted [.ref i] h) Q ↔ Q (.ref h.length) (h ++ [.lst ((srt xs).map .int)]) := by
  unfold bltI lstOf; simp only [hx, Option.bind_some, intsOf_map]; exact W_ok
theorem data_ints (h : IH) (n : Nat) : ∀ xs : List Int, allM (dataOf h n) (xs.map .int) = some (xs.map PyData.int)
  | [] => by simp [allM]
  | x :: xs => by
    rw [List.map_cons, allM]
    have e : dataOf h n (.int x) = some (.int x) := by cases n <;> rfl
    simp only [e, data_ints h n xs, Option.map_some]; rfl
theorem eqv_ints : ∀ xs ys : List Int, PyData.eqvAll (xs.map .int) (ys.map .int) = decide (xs = ys)
  | [], [] => by simp [PyData.eqvAll]
  | [], y :: ys => by simp [PyData.eqvAll]
  | x :: xs, [] => by simp [PyData.eqvAll]
  | x :: xs, y :: ys => by
    rw [List.map_cons, List.map_cons, PyData.eqvAll, eqv_ints xs ys]
    simp [PyData.eqv]
    by_cases e : x = y <;> simp [e]
theorem eq_lists {h : IH} {i j : Nat} {xs ys : List Int} (hx : h[i]? = some (.lst (xs.map .int))) (hy : h[j]? = some (.lst (ys.map .int))) : eqH h (.ref i) (.ref j) = some (decide (xs = ys)) := by
  unfold eqH
  simp only [eqI, DEEP, dataOf, hx, hy, data_ints, Option.map_some]
  simp only [PyData.eqv, eqv_ints]
@[simp] theorem eqH_int {h : IH} {i j : Int} : eqH h (.int i) (.int j) = some (decide (i = j)) := rfl
@[simp] theorem eqH_bl {h : IH} {i j : Bool} : eqH h (.bl i) (.bl j) = some (decide (i = j)) := rfl
/-! ints that stand once -/
def dd (acc xs : List Int) : List Int := xs.foldl PyProof.Rows.step_dedup acc
theorem ded_dd (xs : List Int) : ded xs = dd [] xs := by
  unfold ded dd PyProof.Rows.firstMet
  congr 1
  refine List.ext_getElem (by simp) fun i h1 h2 => ?_
  simp [List.getElem?_eq_getElem h2]
theorem dd_len : ∀ (xs acc : List Int), (dd acc xs).length ≤ acc.length + xs.length
  | [], acc => by simp [dd]
  | x :: xs, acc => by
    show (dd (PyProof.Rows.step_dedup acc x) xs).length ≤ _
    have := dd_len xs (PyProof.Rows.step_dedup acc x)
    unfold PyProof.Rows.step_dedup at this ⊢
    split at this <;> simp_all <;> omega
theorem dd_eq : ∀ (xs acc : List Int), acc.Nodup → ((dd acc xs).length = acc.length + xs.length ↔ (acc ++ xs).Nodup)
  | [], acc, n => by simp [dd, n]
  | x :: xs, acc, n => by
    show (dd (PyProof.Rows.step_dedup acc x) xs).length = _ ↔ _
    by_cases m : x ∈ acc
    · have e : PyProof.Rows.step_dedup acc x = acc := by unfold PyProof.Rows.step_dedup; rw [if_pos (by simpa using m)]
      rw [e]
      have := dd_len xs acc
      constructor
      · intro h; simp at h; omega
      · intro h
        rw [List.nodup_append] at h
        exact absurd rfl (h.2.2 x m x (by simp))
    · have e : PyProof.Rows.step_dedup acc x = acc ++ [x] := by unfold PyProof.Rows.step_dedup; rw [if_neg (by simpa using m)]
      have n2 : (acc ++ [x]).Nodup := by
        rw [List.nodup_append]
        refine ⟨n, by simp, fun a ha b hb => ?_⟩
        rw [List.mem_singleton] at hb
        intro z; rw [z, hb] at ha; exact m ha
      rw [e]
      have ih := dd_eq xs (acc ++ [x]) n2
      rw [List.append_assoc, List.singleton_append] at ih
      rw [← ih]
      simp only [List.length_append, List.length_cons, List.length_nil]
      constructor <;> intro h <;> omega
theorem ded_lt (xs : List Int) : (ded xs).length < xs.length ↔ ¬ xs.Nodup := by
  rw [ded_dd]
  have a := dd_len xs []
  have b := dd_eq xs [] List.nodup_nil
  simp only [List.length_nil, List.nil_append, Nat.zero_add] at a b
  rw [← b]
  omega
theorem ded_le (xs : List Int) : (ded xs).length ≤ xs.length := by
  rw [ded_dd]
  have a := dd_len xs []
  simpa using a
/-- the body of the law's draw, f its own place; its second part first -/
def drawR (f : Nat) : Ss := (.cons (.ite (.cmp .GtE (.blt .abs (.cons (.var 3) .nil)) (.bin .Pow (.con (.int 10)) (.con (.int 18))))
    (.cons (.set (.var 0) (.con (.int 2)) (.bin .FloorDiv (.blt .abs (.cons (.var 3) .nil)) (.var 1)))
    (.cons (.ret (.bin .Mod (.blt .int (.cons (.blt .abs (.cons (.var 3) .nil)) .nil)) (.var 1)))
    .nil))
    .nil)
  (.cons (.set (.var 0) (.con (.int 4)) (.bin .Add (.ix (.var 0) (.con (.int 4))) (.con (.int 1))))
  (.cons (.asg (.name 4) (.bin .Mod (.blt .int (.cons (.bin .Add (.bin .Add (.bin .Add (.bin .Mult (.ix (.var 0) (.con (.int 3))) (.con (.int 40014))) (.bin .Mult (.var 3) (.con (.int 69069)))) (.bin .Mult (.ix (.var 0) (.con (.int 4))) (.con (.int 22193)))) (.con (.int 7919))) .nil)) (.con (.int 2147483563))))
  (.cons (.asg (.name 4) (.bin .Mod (.blt .int (.cons (.bin .Add (.bin .Mult (.bin .Mod (.bin .Mult (.var 4) (.var 4)) (.con (.int 2147483399))) (.var 4)) (.var 3)) .nil)) (.con (.int 2147483399))))
  (.cons (.set (.var 0) (.con (.int 3)) (.var 4))
  (.cons (.ite (.cmp .Gt (.var 1) (.bin .Pow (.con (.int 10)) (.con (.int 6))))
    (.cons (.ret (.bin .Mod (.blt .int (.cons (.bin .Add (.bin .Mod (.bin .FloorDiv (.var 4) (.con (.int 32))) (.bin .Pow (.con (.int 10)) (.con (.int 6)))) (.bin .Mult (.bin .Pow (.con (.int 10)) (.con (.int 6))) (.call f (.cons (.var 0) (.cons (.bin .Add (.bin .FloorDiv (.var 1) (.bin .Pow (.con (.int 10)) (.con (.int 6)))) (.con (.int 1))) .nil))))) .nil)) (.var 1)))
    .nil)
    .nil)
  (.cons (.ret (.bin .Mod (.bin .FloorDiv (.var 4) (.con (.int 32))) (.var 1)))
  .nil)))))))
def drawB (f : Nat) : Ss := (.cons (.ite (.cmp .Gt (.ix (.var 0) (.con (.int 2))) (.con (.int 0)))
    (.cons (.asg (.name 2) (.bin .Mod (.blt .int (.cons (.ix (.var 0) (.con (.int 2))) .nil)) (.var 1)))
    (.cons (.set (.var 0) (.con (.int 2)) (.bin .FloorDiv (.ix (.var 0) (.con (.int 2))) (.var 1)))
    (.cons (.ret (.var 2))
    .nil)))
    .nil)
  (.cons (.asg (.name 3) (.con (.int 0)))
  (.cons (.ite (.cmp .Lt (.ix (.var 0) (.con (.int 1))) (.blt .len (.cons (.ix (.var 0) (.con (.int 0))) .nil)))
    (.cons (.asg (.name 3) (.ix (.ix (.var 0) (.con (.int 0))) (.ix (.var 0) (.con (.int 1)))))
    (.cons (.set (.var 0) (.con (.int 1)) (.bin .Add (.ix (.var 0) (.con (.int 1))) (.con (.int 1))))
    .nil))
    .nil)
  (drawR f))))
/-- the hand at hp, over the script at s; B: how often it was stirred at most -/
structure Hand (s hp : Nat) (ns : List Int) (B : Nat) (h : IH) : Prop where
  ne : s ≠ hp
  scr : h[s]? = some (.lst (ns.map .int))
  hand : ∃ (p c : Nat) (b m : Int), h[hp]? = some (.lst [.ref s, .int p, .int b, .int m, .int c]) ∧ 0 ≤ b ∧ 0 ≤ m ∧ m < 2147483399 ∧ c ≤ B
theorem Hand.mono {s hp : Nat} {ns : List Int} {B B' : Nat} {h : IH} (x : Hand s hp ns B h) (l : B ≤ B') : Hand s hp ns B' h := by
  obtain ⟨p, c, b, m, e, h1, h2, h3, h4⟩ := x.hand
  exact ⟨x.ne, x.scr, p, c, b, m, e, h1, h2, h3, Nat.le_trans h4 l⟩
theorem Hand.up {s hp : Nat} {ns : List Int} {B : Nat} {h h' : IH} (x : Hand s hp ns B h) (u : Up h h') : Hand s hp ns B h' := by
  obtain ⟨p, c, b, m, e, h1, h2, h3, h4⟩ := x.hand
  exact ⟨x.ne, u.at x.scr, p, c, b, m, u.at e, h1, h2, h3, h4⟩
theorem Hand.upe {s hp q : Nat} {ns : List Int} {B : Nat} {h h' : IH} (x : Hand s hp ns B h) (u : UpE q h h') (n1 : q ≠ s) (n2 : q ≠ hp) : Hand s hp ns B h' := by
  obtain ⟨p, c, b, m, e, h1, h2, h3, h4⟩ := x.hand
  exact ⟨x.ne, u.at n1.symm x.scr, p, c, b, m, u.at n2.symm e, h1, h2, h3, h4⟩
theorem Hand.put {s hp : Nat} {ns : List Int} {B : Nat} {h : IH} (x : Hand s hp ns B h) {p c : Nat} {b m : Int} (h1 : 0 ≤ b) (h2 : 0 ≤ m) (h3 : m < 2147483399) (h4 : c ≤ B) :
    Hand s hp ns B (h.set hp (.lst [.ref s, .int p, .int b, .int m, .int c])) := by
  obtain ⟨_, _, _, _, e, _⟩ := x.hand
  exact ⟨x.ne, by rw [List.getElem?_set_ne (Ne.symm x.ne)]; exact x.scr, p, c, b, m, set_at e, h1, h2, h3, h4⟩

theorem draw_rest {P : List Df} {f k s hp B C p c : Nat} {ns : List Int} {m b mm cell : Int} {v0 : Option IV} {h g : IH} {Q : IV → IH → Prop} (ne : s ≠ hp) (scr : h[s]? = some (.lst (ns.map .int)))
    (hD : h[hp]? = some (.lst [.ref s, .int p, .int b, .int mm, .int c])) (hb : 0 ≤ b) (hm : 0 ≤ mm) (hm2 : mm < 2147483399) (hc : c ≤ B) (hB : B < 1000000) (hC : B + 1 ≤ C) (h1 : 1 ≤ m) (h2 : m < 18446744073709551616) (ug : UpE hp g h)
    (rec : 1000000 < m → ∀ h1, Hand s hp ns (B + 1) h1 → UpE hp g h1 → ∀ Q' : IV → IH → Prop, (∀ r h', 0 ≤ r → r < m / 1000000 + 1 → UpE hp h1 h' → Hand s hp ns C h' → Q' (.int r) h') → W (callF P k f [.ref hp, .int (m / 1000000 + 1)] h1) Q')
    (q : ∀ r h', 0 ≤ r → r < m → UpE hp g h' → Hand s hp ns (if 1000000 < m then C else B + 1) h' → Q (.int r) h') :
    W (eSs (callF P k) (drawR f) [some (.ref hp), some (.int m), none, some (.int cell), v0] h) fun fl h1 => match fl with
      | .nx _ => Q .non h1
      | .ret v => Q v h1
      | _ => False := by
  have x : Hand s hp ns B h := ⟨ne, scr, p, c, b, mm, hD, hb, hm, hm2, hc⟩
  have Bm : B + 1 ≤ (if 1000000 < m then C else B + 1) := by split <;> omega
  have hmp : (0 : Int) < m := by omega
  have habs : (0 : Int) ≤ (cell.natAbs : Int) := by omega
  unfold drawR
  refine W.step ?_
  simp [cmpI, truI, W_pow]
  split
  · refine W.step ?_
    simp [ixI, seqOf, lstOf, hD, L2.atI, L2.ixN, W_div64 hmp h2, setI]
    refine Nxt.go ?_
    simp [ixI, seqOf, lstOf, hD, L2.atI, L2.ixN, W_mod hmp, tgI]
    exact q _ _ (Int.emod_nonneg _ (by omega)) (Int.emod_lt_of_pos _ hmp) (ug.trans (.set hp h _)) ((x.mono (Nat.le_trans (Nat.le_succ B) Bm)).put (Int.ediv_nonneg habs (by omega)) hm hm2 (by omega))
  · rename_i hcell
    have hcell : cell.natAbs < 18446744073709551616 := by omega
    refine Nxt.go ?_
    simp [ixI, seqOf, lstOf, hD, L2.atI, L2.ixN, setI, W_add]
    generalize hg1 : h.set hp (.lst [.ref s, .int p, .int b, .int mm, .int ((c : Int) + 1)]) = g1
    have hD1 : g1[hp]? = some (.lst [.ref s, .int p, .int b, .int mm, .int ((c : Int) + 1)]) := by rw [← hg1]; exact set_at hD
    have x1 : Hand s hp ns (B + 1) g1 := by rw [← hg1]; exact (x.mono (Nat.le_succ B)).put (c := c + 1) hb hm hm2 (by omega)
    have u1 : UpE hp g g1 := by rw [← hg1]; exact ug.trans (.set hp h _)
    refine Nxt.go ?_
    simp [ixI, seqOf, lstOf, hD1, L2.atI, L2.ixN, W_add, W_mod, tgI, W_mul (small64 (i := mm) (by omega)) (small64 (i := 40014) (by omega)), W_mul (small64 (i := cell) (by omega)) (small64 (i := 69069) (by omega)), W_mul (small64 (i := (c : Int) + 1) (by omega)) (small64 (i := 22193) (by omega))]
    generalize hm3 : (mm * 40014 + cell * 69069 + (↑c + 1) * 22193 + 7919) % 2147483563 = m3
    have b3 : 0 ≤ m3 ∧ m3 < 2147483563 := by omega
    refine Nxt.go ?_
    have b4 : 0 ≤ m3 * m3 % 2147483399 ∧ m3 * m3 % 2147483399 < 2147483399 := ⟨Int.emod_nonneg _ (by omega), Int.emod_lt_of_pos _ (by omega)⟩
    simp [ixI, seqOf, lstOf, hD1, L2.atI, L2.ixN, W_add, W_mod, tgI, W_mul (small64 (i := m3) (by omega)) (small64 (i := m3) (by omega)), W_mul (small64 (i := m3 * m3 % 2147483399) (by omega)) (small64 (i := m3) (by omega))]
    generalize hm5 : (m3 * m3 % 2147483399 * m3 + cell) % 2147483399 = m5
    have b5 : 0 ≤ m5 ∧ m5 < 2147483399 := by omega
    refine Nxt.go ?_
    simp [ixI, seqOf, lstOf, hD1, L2.atI, L2.ixN, setI]
    generalize hg2 : g1.set hp (.lst [.ref s, .int p, .int b, .int m5, .int ((c : Int) + 1)]) = g2
    have x2 : Hand s hp ns (B + 1) g2 := by rw [← hg2]; exact x1.put (c := c + 1) hb b5.1 b5.2 (by omega)
    have u2 : UpE hp g g2 := by rw [← hg2]; exact u1.trans (.set hp g1 _)
    refine Nxt.go ?_
    simp [cmpI, truI, W_pow]
    split
    · rename_i big
      refine W.step ?_
      simp [W_div64, W_mod, W_pow, W_add]
      refine rec big g2 x2 u2 _ fun r h' r1 r2 u3 x3 => ?_
      have hr : r.natAbs < 18446744073709551616 := by omega
      simp [W_mul (small64 (i := 1000000) (by omega)) (small64 hr), W_add, W_mod hmp]
      refine q _ _ (Int.emod_nonneg _ (by omega)) (Int.emod_lt_of_pos _ hmp) (u2.trans u3) ?_
      rw [if_pos big]; exact x3
    · rename_i big
      refine Nxt.go ?_
      simp [W_div64, W_mod hmp]
      refine q _ _ (Int.emod_nonneg _ (by omega)) (Int.emod_lt_of_pos _ hmp) u2 ?_
      rw [if_neg big]; exact x2
theorem draw_gen {P : List Df} {f k s hp B C : Nat} {ns : List Int} {m : Int} {h : IH} {Q : IV → IH → Prop} (e : P[f]? = some ⟨2, 5, drawB f⟩) (x : Hand s hp ns B h) (hB : B < 1000000) (hC : B + 1 ≤ C) (h1 : 1 ≤ m) (h2 : m < 18446744073709551616)
    (rec : 1000000 < m → ∀ h1, Hand s hp ns (B + 1) h1 → UpE hp h h1 → ∀ Q' : IV → IH → Prop, (∀ r h', 0 ≤ r → r < m / 1000000 + 1 → UpE hp h1 h' → Hand s hp ns C h' → Q' (.int r) h') → W (callF P k f [.ref hp, .int (m / 1000000 + 1)] h1) Q')
    (q : ∀ r h', 0 ≤ r → r < m → UpE hp h h' → Hand s hp ns (if 1000000 < m then C else B + 1) h' → Q (.int r) h') : W (callF P (k + 1) f [.ref hp, .int m] h) Q := by
  refine W_def e rfl ?_
  obtain ⟨p, c, b, mm, hD, hb, hm, hm2, hc⟩ := x.hand
  have Bm : B + 1 ≤ (if 1000000 < m then C else B + 1) := by split <;> omega
  have hmp : (0 : Int) < m := by omega
  unfold drawB
  refine W.step ?_
  simp [ixI, seqOf, lstOf, hD, L2.atI, L2.ixN, cmpI, truI]
  split
  · rename_i hb0
    refine W.step ?_
    simp [ixI, seqOf, lstOf, hD, L2.atI, L2.ixN, W_mod hmp, tgI]
    refine Nxt.go ?_
    simp [ixI, seqOf, lstOf, hD, L2.atI, L2.ixN, W_div64 hmp h2, setI]
    refine Nxt.go ?_
    simp
    exact q _ _ (Int.emod_nonneg _ (by omega)) (Int.emod_lt_of_pos _ hmp) (.set hp h _) ((x.mono (Nat.le_trans (Nat.le_succ B) Bm)).put (Int.ediv_nonneg hb (by omega)) hm hm2 (by omega))
  · refine Nxt.go ?_
    simp [tgI]
    refine Nxt.go ?_
    simp [ixI, seqOf, lstOf, hD, L2.atI, L2.ixN, cmpI, truI, W_lenL x.scr]
    split
    · rename_i hp1
      have hcell : (ns.map IV.int)[p]? = some (.int ns[p]) := by simp [hp1]
      refine W.step ?_
      simp [ixI, seqOf, lstOf, hD, L2.atI, L2.ixN, x.scr, hp1, tgI]
      refine Nxt.go ?_
      simp [ixI, seqOf, lstOf, hD, L2.atI, L2.ixN, setI, W_add]
      refine draw_rest (p := p + 1) x.ne (by rw [List.getElem?_set_ne (Ne.symm x.ne)]; exact x.scr) (by rw [set_at hD]; rfl) hb hm hm2 hc hB hC h1 h2 (.set hp h _) rec q
    · exact draw_rest x.ne x.scr hD hb hm hm2 hc hB hC h1 h2 (.refl hp h) rec q
/-- draws of up to 10 ** 6, .. ; k + 3 calls deep -/
theorem draw1 {P : List Df} {f k s hp B : Nat} {ns : List Int} {m : Int} {h : IH} {Q : IV → IH → Prop} (e : P[f]? = some ⟨2, 5, drawB f⟩) (x : Hand s hp ns B h) (hB : B < 1000000) (h1 : 1 ≤ m) (h2 : m ≤ 1000000)
    (q : ∀ r h', 0 ≤ r → r < m → UpE hp h h' → Hand s hp ns (B + 1) h' → Q (.int r) h') : W (callF P (k + 1) f [.ref hp, .int m] h) Q := by
  refine draw_gen (C := B + 1) e x hB (Nat.le_refl _) h1 (by omega) (fun z => by omega) ?_
  rw [if_neg (by omega)]
  exact q
theorem draw2 {P : List Df} {f k s hp B : Nat} {ns : List Int} {m : Int} {h : IH} {Q : IV → IH → Prop} (e : P[f]? = some ⟨2, 5, drawB f⟩) (x : Hand s hp ns B h) (hB : B + 2 < 1000000) (h1 : 1 ≤ m) (h2 : m < 1000000000000)
    (q : ∀ r h', 0 ≤ r → r < m → UpE hp h h' → Hand s hp ns (B + 2) h' → Q (.int r) h') : W (callF P (k + 2) f [.ref hp, .int m] h) Q := by
  refine draw_gen (C := B + 2) e x (by omega) (by omega) h1 (by omega) (fun z h1 x1 u1 Q' q' => draw1 e x1 (by omega) (by omega) (by omega) fun r h' a b c d => q' r h' a b c d) fun r h' a b c d => q r h' a b c (d.mono (by split <;> omega))
theorem draw3 {P : List Df} {f k s hp B : Nat} {ns : List Int} {m : Int} {h : IH} {Q : IV → IH → Prop} (e : P[f]? = some ⟨2, 5, drawB f⟩) (x : Hand s hp ns B h) (hB : B + 3 < 1000000) (h1 : 1 ≤ m) (h2 : m < 999999000000000000)
    (q : ∀ r h', 0 ≤ r → r < m → UpE hp h h' → Hand s hp ns (B + 3) h' → Q (.int r) h') : W (callF P (k + 3) f [.ref hp, .int m] h) Q := by
  refine draw_gen (C := B + 3) e x (by omega) (by omega) h1 (by omega) (fun z h1 x1 u1 Q' q' => draw2 e x1 (by omega) (by omega) (by omega) fun r h' a b c d => q' r h' a b c d) fun r h' a b c d => q r h' a b c (d.mono (by split <;> omega))
end Pi
end

namespace Pi
open PySem PySem.Spec PyProof.Rows L2
def topS (i : Nat) : Stmt := PySem.Challenge.pw_wholeon_k06_sizes_of_sets.main.body.getD i (.Pass ⟨0, 0, 0, 0⟩)
def GG : List (Str × Int) := [("LEVELS", 6), ("TUPLES", 12), ("FACTOR_LIMIT", 400)]
def TT : List (Str × List Int) := []
def e_is_integer : Ent := ⟨"is_integer", topS 7, ["thing"], ["thing"], []⟩
-- 0 is_integer(thing): 0 thing
def b_is_integer : Ss := (.cons (.ret (.and (.isi (.var 0) .int) (.not (.isi (.var 0) .bool))))
  .nil)
def e_in_range : Ent := ⟨"in_range", topS 8, ["thing", "low", "high"], ["thing", "low", "high"], []⟩
-- 1 in_range(thing, low, high): 0 thing, 1 low, 2 high
def b_in_range : Ss := (.cons (.ret (.and (.call 0 (.cons (.var 0) .nil)) (.chain .LtE .LtE (.var 1) (.var 0) (.var 2))))
  .nil)
def e_check_set : Ent := ⟨"check_set", topS 9, ["thing"], ["thing"], []⟩
-- 2 check_set(thing): 0 thing
def b_check_set : Ss := (.cons (.ite (.not (.call 7 (.cons (.var 0) .nil)))
    (.cons .never
    .nil)
    .nil)
  .nil)
def e_ascends : Ent := ⟨"ascends", topS 10, ["things", "low", "high", "at"], ["things", "low", "high"], []⟩
-- 3 ascends(things, low, high): 0 things, 1 low, 2 high, 3 at
def b_ascends : Ss := (.cons (.ite (.or (.not (.isi (.var 0) .tuple)) (.cmp .Eq (.blt .len (.cons (.var 0) .nil)) (.con (.int 0))))
    (.cons (.ret (.con (.bl false)))
    .nil)
    .nil)
  (.cons (.for (.name 3) (.rng (.blt .len (.cons (.var 0) .nil)))
    (.cons (.ite (.not (.call 1 (.cons (.ix (.var 0) (.var 3)) (.cons (.var 1) (.cons (.var 2) .nil)))))
      (.cons (.ret (.con (.bl false)))
      .nil)
      .nil)
    (.cons (.ite (.and (.cmp .Gt (.var 3) (.con (.int 0))) (.cmp .GtE (.ix (.var 0) (.bin .Sub (.var 3) (.con (.int 1)))) (.ix (.var 0) (.var 3))))
      (.cons (.ret (.con (.bl false)))
      .nil)
      .nil)
    .nil)))
  (.cons (.ret (.con (.bl true)))
  .nil)))
def e_move_fits : Ent := ⟨"move_fits", topS 11, ["a", "b"], ["a", "b"], []⟩
-- 4 move_fits(a, b): 0 a, 1 b
def b_move_fits : Ss := (.cons (.ret (.and (.call 1 (.cons (.var 0) (.cons (.neg (.con (.int 20))) (.cons (.con (.int 20)) .nil)))) (.and (.cmp .NotEq (.var 0) (.con (.int 0))) (.call 1 (.cons (.var 1) (.cons (.neg (.con (.int 200))) (.cons (.con (.int 200)) .nil)))))))
  .nil)
def e_leaf_fits : Ent := ⟨"leaf_fits", topS 12, ["thing", "kind"], ["thing"], []⟩
-- 5 leaf_fits(thing): 0 thing, 1 kind
def b_leaf_fits : Ss := (.cons (.asg (.name 1) (.ix (.var 0) (.con (.int 0))))
  (.cons (.ite (.cmp .Eq (.var 1) (.con (.str "rests")))
    (.cons (.ret (.and (.cmp .Eq (.blt .len (.cons (.var 0) .nil)) (.con (.int 3))) (.and (.call 1 (.cons (.ix (.var 0) (.con (.int 1))) (.cons (.con (.int 1)) (.cons (.con (.int 60)) .nil)))) (.call 3 (.cons (.ix (.var 0) (.con (.int 2))) (.cons (.con (.int 0)) (.cons (.bin .Sub (.ix (.var 0) (.con (.int 1))) (.con (.int 1))) .nil)))))))
    .nil)
    .nil)
  (.cons (.ite (.cmp .Eq (.var 1) (.con (.str "list")))
    (.cons (.ret (.and (.cmp .Eq (.blt .len (.cons (.var 0) .nil)) (.con (.int 2))) (.and (.call 3 (.cons (.ix (.var 0) (.con (.int 1))) (.cons (.neg (.con (.int 100))) (.cons (.con (.int 100)) .nil)))) (.cmp .LtE (.blt .len (.cons (.ix (.var 0) (.con (.int 1))) .nil)) (.con (.int 12))))))
    .nil)
    .nil)
  (.cons (.ite (.cmp .Eq (.var 1) (.con (.str "powers")))
    (.cons (.ret (.and (.cmp .Eq (.blt .len (.cons (.var 0) .nil)) (.con (.int 2))) (.call 1 (.cons (.ix (.var 0) (.con (.int 1))) (.cons (.con (.int 2)) (.cons (.con (.int 10)) .nil))))))
    .nil)
    .nil)
  (.cons (.ret (.and (.cmp .Eq (.blt .len (.cons (.var 0) .nil)) (.con (.int 1))) (.or (.cmp .Eq (.var 1) (.con (.str "squares"))) (.cmp .Eq (.var 1) (.con (.str "primes"))))))
  .nil)))))
def e_tuples_in : Ent := ⟨"tuples_in", topS 13, ["thing", "levels", "factor", "plain", "kind", "inner", "first", "second"], ["thing", "levels", "factor", "plain"], []⟩
-- 6 tuples_in(thing, levels, factor, plain): 0 thing, 1 levels, 2 factor, 3 plain, 4 kind, 5 inner, 6 first, 7 second
def b_tuples_in : Ss := (.cons (.ite (.or (.cmp .Eq (.var 1) (.con (.int 0))) (.or (.not (.isi (.var 0) .tuple)) (.cmp .Eq (.blt .len (.cons (.var 0) .nil)) (.con (.int 0)))))
    (.cons (.ret (.con (.int 0)))
    .nil)
    .nil)
  (.cons (.asg (.name 4) (.ix (.var 0) (.con (.int 0))))
  (.cons (.ite (.cmp .Eq (.var 4) (.con (.str "moved")))
    (.cons (.ite (.or (.cmp .NotEq (.blt .len (.cons (.var 0) .nil)) (.con (.int 4))) (.or (.not (.call 4 (.cons (.ix (.var 0) (.con (.int 2))) (.cons (.ix (.var 0) (.con (.int 3))) .nil)))) (.cmp .Gt (.blt .abs (.cons (.bin .Mult (.var 2) (.ix (.var 0) (.con (.int 2)))) .nil)) (.con (.int 400)))))
      (.cons (.ret (.con (.int 0)))
      .nil)
      .nil)
    (.cons (.asg (.name 5) (.call 6 (.cons (.ix (.var 0) (.con (.int 1))) (.cons (.bin .Sub (.var 1) (.con (.int 1))) (.cons (.bin .Mult (.var 2) (.ix (.var 0) (.con (.int 2)))) (.cons (.var 3) .nil))))))
    (.cons (.ret (.ife (.cmp .Eq (.var 5) (.con (.int 0))) (.con (.int 0)) (.bin .Add (.var 5) (.con (.int 1)))))
    .nil)))
    .nil)
  (.cons (.ite (.cmp .Eq (.var 4) (.con (.str "either")))
    (.cons (.ite (.cmp .NotEq (.blt .len (.cons (.var 0) .nil)) (.con (.int 3)))
      (.cons (.ret (.con (.int 0)))
      .nil)
      .nil)
    (.cons (.asg (.name 6) (.call 6 (.cons (.ix (.var 0) (.con (.int 1))) (.cons (.bin .Sub (.var 1) (.con (.int 1))) (.cons (.var 2) (.cons (.con (.bl true)) .nil))))))
    (.cons (.asg (.name 7) (.call 6 (.cons (.ix (.var 0) (.con (.int 2))) (.cons (.bin .Sub (.var 1) (.con (.int 1))) (.cons (.var 2) (.cons (.con (.bl true)) .nil))))))
    (.cons (.ret (.ife (.or (.cmp .Eq (.var 6) (.con (.int 0))) (.cmp .Eq (.var 7) (.con (.int 0)))) (.con (.int 0)) (.bin .Add (.bin .Add (.var 6) (.var 7)) (.con (.int 1)))))
    .nil))))
    .nil)
  (.cons (.ite (.or (.not (.call 5 (.cons (.var 0) .nil))) (.and (.var 3) (.and (.cmp .NotEq (.var 4) (.con (.str "rests"))) (.cmp .NotEq (.var 4) (.con (.str "list"))))))
    (.cons (.ret (.con (.int 0)))
    .nil)
    .nil)
  (.cons (.ret (.con (.int 1)))
  .nil))))))
def e_is_set : Ent := ⟨"is_set", topS 14, ["thing"], ["thing"], []⟩
-- 7 is_set(thing): 0 thing
def b_is_set : Ss := (.cons (.ret (.chain .Lt .LtE (.con (.int 0)) (.call 6 (.cons (.var 0) (.cons (.con (.int 6)) (.cons (.con (.int 1)) (.cons (.con (.bl false)) .nil))))) (.con (.int 12))))
  .nil)
def e_finite_numbers : Ent := ⟨"finite_numbers", topS 15, ["numbers", "kind", "inner", "first", "second", "number"], ["numbers"], []⟩
-- 8 finite_numbers(numbers): 0 numbers, 1 kind, 2 inner, 3 first, 4 second, 5 number
def b_finite_numbers : Ss := (.cons (.asg (.name 1) (.ix (.var 0) (.con (.int 0))))
  (.cons (.ite (.cmp .Eq (.var 1) (.con (.str "list")))
    (.cons (.ret (.blt .list (.cons (.ix (.var 0) (.con (.int 1))) .nil)))
    .nil)
    .nil)
  (.cons (.ite (.cmp .Eq (.var 1) (.con (.str "moved")))
    (.cons (.asg (.name 2) (.call 8 (.cons (.ix (.var 0) (.con (.int 1))) .nil)))
    (.cons (.ite (.cmp .Is (.var 2) (.con .non))
      (.cons (.ret (.con .non))
      .nil)
      .nil)
    (.cons (.ret (.blt .sorted (.cons (.lc (.bin .Add (.bin .Mult (.ix (.var 0) (.con (.int 2))) (.var 5)) (.ix (.var 0) (.con (.int 3)))) (.name 5) (.val (.var 2)) .non [5]) .nil)))
    .nil)))
    .nil)
  (.cons (.ite (.cmp .Eq (.var 1) (.con (.str "either")))
    (.cons (.asg (.name 3) (.call 8 (.cons (.ix (.var 0) (.con (.int 1))) .nil)))
    (.cons (.asg (.name 4) (.call 8 (.cons (.ix (.var 0) (.con (.int 2))) .nil)))
    (.cons (.ite (.or (.cmp .Is (.var 3) (.con .non)) (.cmp .Is (.var 4) (.con .non)))
      (.cons (.ret (.con .non))
      .nil)
      .nil)
    (.cons (.ret (.sset (.bin .Add (.var 3) (.var 4))))
    .nil))))
    .nil)
  (.cons (.ret (.con .non))
  .nil)))))
def e_size_of : Ent := ⟨"size_of", topS 16, ["numbers", "found"], ["numbers"], []⟩
-- 9 size_of(numbers): 0 numbers, 1 found
def b_size_of : Ss := (.cons (.drop (.call 2 (.cons (.var 0) .nil)))
  (.cons (.asg (.name 1) (.call 8 (.cons (.var 0) .nil)))
  (.cons (.ret (.ife (.cmp .Is (.var 1) (.con .non)) (.con .non) (.blt .len (.cons (.var 1) .nil))))
  .nil)))
def e_law_hand : Ent := ⟨"_law_hand", topS 18, ["_law_script"], ["_law_script"], []⟩
-- 10 _law_hand(_law_script): 0 _law_script
def b_law_hand : Ss := (.cons (.ret (.lst (.cons (.blt .list (.cons (.var 0) .nil)) (.cons (.con (.int 0)) (.cons (.con (.int 0)) (.cons (.con (.int 0)) (.cons (.con (.int 0)) .nil)))))))
  .nil)
def e_law_draw : Ent := ⟨"_law_draw", topS 19, ["_law_hand_here", "_law_size", "_law_value", "_law_cell", "_law_mixed"], ["_law_hand_here", "_law_size"], []⟩
-- 11 _law_draw(_law_hand_here, _law_size): 0 _law_hand_here, 1 _law_size, 2 _law_value, 3 _law_cell, 4 _law_mixed
def b_law_draw : Ss := (.cons (.ite (.cmp .Gt (.ix (.var 0) (.con (.int 2))) (.con (.int 0)))
    (.cons (.asg (.name 2) (.bin .Mod (.blt .int (.cons (.ix (.var 0) (.con (.int 2))) .nil)) (.var 1)))
    (.cons (.set (.var 0) (.con (.int 2)) (.bin .FloorDiv (.ix (.var 0) (.con (.int 2))) (.var 1)))
    (.cons (.ret (.var 2))
    .nil)))
    .nil)
  (.cons (.asg (.name 3) (.con (.int 0)))
  (.cons (.ite (.cmp .Lt (.ix (.var 0) (.con (.int 1))) (.blt .len (.cons (.ix (.var 0) (.con (.int 0))) .nil)))
    (.cons (.asg (.name 3) (.ix (.ix (.var 0) (.con (.int 0))) (.ix (.var 0) (.con (.int 1)))))
    (.cons (.set (.var 0) (.con (.int 1)) (.bin .Add (.ix (.var 0) (.con (.int 1))) (.con (.int 1))))
    .nil))
    .nil)
  (.cons (.ite (.cmp .GtE (.blt .abs (.cons (.var 3) .nil)) (.bin .Pow (.con (.int 10)) (.con (.int 18))))
    (.cons (.set (.var 0) (.con (.int 2)) (.bin .FloorDiv (.blt .abs (.cons (.var 3) .nil)) (.var 1)))
    (.cons (.ret (.bin .Mod (.blt .int (.cons (.blt .abs (.cons (.var 3) .nil)) .nil)) (.var 1)))
    .nil))
    .nil)
  (.cons (.set (.var 0) (.con (.int 4)) (.bin .Add (.ix (.var 0) (.con (.int 4))) (.con (.int 1))))
  (.cons (.asg (.name 4) (.bin .Mod (.blt .int (.cons (.bin .Add (.bin .Add (.bin .Add (.bin .Mult (.ix (.var 0) (.con (.int 3))) (.con (.int 40014))) (.bin .Mult (.var 3) (.con (.int 69069)))) (.bin .Mult (.ix (.var 0) (.con (.int 4))) (.con (.int 22193)))) (.con (.int 7919))) .nil)) (.con (.int 2147483563))))
  (.cons (.asg (.name 4) (.bin .Mod (.blt .int (.cons (.bin .Add (.bin .Mult (.bin .Mod (.bin .Mult (.var 4) (.var 4)) (.con (.int 2147483399))) (.var 4)) (.var 3)) .nil)) (.con (.int 2147483399))))
  (.cons (.set (.var 0) (.con (.int 3)) (.var 4))
  (.cons (.ite (.cmp .Gt (.var 1) (.bin .Pow (.con (.int 10)) (.con (.int 6))))
    (.cons (.ret (.bin .Mod (.blt .int (.cons (.bin .Add (.bin .Mod (.bin .FloorDiv (.var 4) (.con (.int 32))) (.bin .Pow (.con (.int 10)) (.con (.int 6)))) (.bin .Mult (.bin .Pow (.con (.int 10)) (.con (.int 6))) (.call 11 (.cons (.var 0) (.cons (.bin .Add (.bin .FloorDiv (.var 1) (.bin .Pow (.con (.int 10)) (.con (.int 6)))) (.con (.int 1))) .nil))))) .nil)) (.var 1)))
    .nil)
    .nil)
  (.cons (.ret (.bin .Mod (.bin .FloorDiv (.var 4) (.con (.int 32))) (.var 1)))
  .nil))))))))))
def e_law_leaf : Ent := ⟨"_law_leaf", topS 20, ["_law_hand_here", "_law_plain", "_law_kind", "_law_m", "_law_keep", "_law_rests", "_law_wide", "_law_row", "_law_rest", "_law_k"], ["_law_hand_here", "_law_plain"], []⟩
-- 12 _law_leaf(_law_hand_here, _law_plain): 0 _law_hand_here, 1 _law_plain, 2 _law_kind, 3 _law_m, 4 _law_keep, 5 _law_rests, 6 _law_wide, 7 _law_row, 8 _law_rest, 9 _law_k
def b_law_leaf : Ss := (.cons (.asg (.name 2) (.call 11 (.cons (.var 0) (.cons (.ife (.var 1) (.con (.int 2)) (.con (.int 6))) .nil))))
  (.cons (.ite (.or (.cmp .Eq (.var 2) (.con (.int 0))) (.cmp .Eq (.var 2) (.con (.int 5))))
    (.cons (.asg (.name 3) (.bin .Add (.con (.int 1)) (.call 11 (.cons (.var 0) (.cons (.ife (.cmp .Eq (.call 11 (.cons (.var 0) (.cons (.con (.int 3)) .nil))) (.con (.int 0))) (.con (.int 60)) (.con (.int 12))) .nil)))))
    (.cons (.asg (.name 4) (.bin .Add (.con (.int 1)) (.call 11 (.cons (.var 0) (.cons (.con (.int 4)) .nil)))))
    (.cons (.asg (.name 5) (.lc (.var 8) (.name 8) (.rng (.var 3)) (.som (.cmp .Eq (.call 11 (.cons (.var 0) (.cons (.var 4) .nil))) (.con (.int 0)))) [8]))
    (.cons (.ite (.cmp .Eq (.var 5) (.lst .nil))
      (.cons (.asg (.name 5) (.lst (.cons (.call 11 (.cons (.var 0) (.cons (.var 3) .nil))) .nil)))
      .nil)
      .nil)
    (.cons (.ret (.tup (.cons (.con (.str "rests")) (.cons (.var 3) (.cons (.blt .tuple (.cons (.var 5) .nil)) .nil)))))
    .nil)))))
    .nil)
  (.cons (.ite (.cmp .Eq (.var 2) (.con (.int 1)))
    (.cons (.asg (.name 6) (.ife (.cmp .Eq (.call 11 (.cons (.var 0) (.cons (.con (.int 2)) .nil))) (.con (.int 0))) (.con (.int 201)) (.con (.int 21))))
    (.cons (.asg (.name 7) (.lc (.bin .Sub (.call 11 (.cons (.var 0) (.cons (.var 6) .nil))) (.bin .FloorDiv (.var 6) (.con (.int 2)))) (.name 9) (.rng (.bin .Add (.con (.int 1)) (.call 11 (.cons (.var 0) (.cons (.con (.int 12)) .nil))))) .non [9]))
    (.cons (.ret (.tup (.cons (.con (.str "list")) (.cons (.blt .tuple (.cons (.sset (.var 7)) .nil)) .nil))))
    .nil)))
    .nil)
  (.cons (.ite (.cmp .Eq (.var 2) (.con (.int 2)))
    (.cons (.ret (.tup (.cons (.con (.str "powers")) (.cons (.bin .Add (.con (.int 2)) (.call 11 (.cons (.var 0) (.cons (.con (.int 9)) .nil)))) .nil))))
    .nil)
    .nil)
  (.cons (.ret (.ife (.cmp .Eq (.var 2) (.con (.int 3))) (.tup (.cons (.con (.str "squares")) .nil)) (.tup (.cons (.con (.str "primes")) .nil))))
  .nil)))))
def e_law_tuples : Ent := ⟨"_law_tuples", topS 21, ["_law_numbers"], ["_law_numbers"], []⟩
-- 13 _law_tuples(_law_numbers): 0 _law_numbers
def b_law_tuples : Ss := (.cons (.ite (.cmp .Eq (.ix (.var 0) (.con (.int 0))) (.con (.str "moved")))
    (.cons (.ret (.bin .Add (.con (.int 1)) (.call 13 (.cons (.ix (.var 0) (.con (.int 1))) .nil))))
    .nil)
    .nil)
  (.cons (.ite (.cmp .Eq (.ix (.var 0) (.con (.int 0))) (.con (.str "either")))
    (.cons (.ret (.bin .Add (.bin .Add (.con (.int 1)) (.call 13 (.cons (.ix (.var 0) (.con (.int 1))) .nil))) (.call 13 (.cons (.ix (.var 0) (.con (.int 2))) .nil))))
    .nil)
    .nil)
  (.cons (.ret (.con (.int 1)))
  .nil)))
def e_law_set : Ent := ⟨"_law_set", topS 22, ["_law_hand_here", "_law_levels", "_law_room", "_law_factor", "_law_plain", "_law_pick", "_law_a", "_law_b", "_law_first", "_law_second"], ["_law_hand_here", "_law_levels", "_law_room", "_law_factor", "_law_plain"], []⟩
-- 14 _law_set(_law_hand_here, _law_levels, _law_room, _law_factor, _law_plain): 0 _law_hand_here, 1 _law_levels, 2 _law_room, 3 _law_factor, 4 _law_plain, 5 _law_pick, 6 _law_a, 7 _law_b, 8 _law_first, 9 _law_second
def b_law_set : Ss := (.cons (.asg (.name 5) (.call 11 (.cons (.var 0) (.cons (.con (.int 8)) .nil))))
  (.cons (.ite (.or (.cmp .LtE (.var 1) (.con (.int 1))) (.or (.cmp .LtE (.var 2) (.con (.int 1))) (.cmp .Lt (.var 5) (.con (.int 4)))))
    (.cons (.ret (.call 12 (.cons (.var 0) (.cons (.var 4) .nil))))
    .nil)
    .nil)
  (.cons (.ite (.or (.cmp .Lt (.var 5) (.con (.int 6))) (.cmp .Lt (.var 2) (.con (.int 3))))
    (.cons (.asg (.name 6) (.bin .Add (.con (.int 1)) (.call 11 (.cons (.var 0) (.cons (.blt .min (.cons (.con (.int 20)) (.cons (.bin .FloorDiv (.con (.int 400)) (.blt .abs (.cons (.var 3) .nil))) .nil))) .nil)))))
    (.cons (.ite (.cmp .Eq (.call 11 (.cons (.var 0) (.cons (.con (.int 2)) .nil))) (.con (.int 1)))
      (.cons (.asg (.name 6) (.neg (.var 6)))
      .nil)
      .nil)
    (.cons (.asg (.name 7) (.bin .Sub (.call 11 (.cons (.var 0) (.cons (.con (.int 401)) .nil))) (.con (.int 200))))
    (.cons (.ret (.tup (.cons (.con (.str "moved")) (.cons (.call 14 (.cons (.var 0) (.cons (.bin .Sub (.var 1) (.con (.int 1))) (.cons (.bin .Sub (.var 2) (.con (.int 1))) (.cons (.bin .Mult (.var 3) (.var 6)) (.cons (.var 4) .nil)))))) (.cons (.var 6) (.cons (.var 7) .nil))))))
    .nil))))
    .nil)
  (.cons (.asg (.name 8) (.call 14 (.cons (.var 0) (.cons (.bin .Sub (.var 1) (.con (.int 1))) (.cons (.bin .Sub (.var 2) (.con (.int 2))) (.cons (.var 3) (.cons (.con (.bl true)) .nil)))))))
  (.cons (.asg (.name 9) (.call 14 (.cons (.var 0) (.cons (.bin .Sub (.var 1) (.con (.int 1))) (.cons (.bin .Sub (.bin .Sub (.var 2) (.con (.int 1))) (.call 13 (.cons (.var 8) .nil))) (.cons (.var 3) (.cons (.con (.bl true)) .nil)))))))
  (.cons (.ret (.tup (.cons (.con (.str "either")) (.cons (.var 8) (.cons (.var 9) .nil)))))
  .nil))))))
def e_law_finite : Ent := ⟨"_law_finite", topS 23, ["_law_hand_here", "_law_levels", "_law_factor", "_law_pick", "_law_wide", "_law_row", "_law_a", "_law_k"], ["_law_hand_here", "_law_levels", "_law_factor"], []⟩
-- 15 _law_finite(_law_hand_here, _law_levels, _law_factor): 0 _law_hand_here, 1 _law_levels, 2 _law_factor, 3 _law_pick, 4 _law_wide, 5 _law_row, 6 _law_a, 7 _law_k
def b_law_finite : Ss := (.cons (.asg (.name 3) (.call 11 (.cons (.var 0) (.cons (.con (.int 5)) .nil))))
  (.cons (.ite (.or (.cmp .LtE (.var 1) (.con (.int 1))) (.cmp .Lt (.var 3) (.con (.int 2))))
    (.cons (.asg (.name 4) (.ix (.lst (.cons (.con (.int 201)) (.cons (.con (.int 21)) (.cons (.con (.int 7)) .nil)))) (.call 11 (.cons (.var 0) (.cons (.con (.int 3)) .nil)))))
    (.cons (.asg (.name 5) (.lc (.bin .Sub (.call 11 (.cons (.var 0) (.cons (.var 4) .nil))) (.bin .FloorDiv (.var 4) (.con (.int 2)))) (.name 7) (.rng (.bin .Add (.con (.int 1)) (.call 11 (.cons (.var 0) (.cons (.con (.int 12)) .nil))))) .non [7]))
    (.cons (.ret (.tup (.cons (.con (.str "list")) (.cons (.blt .tuple (.cons (.sset (.var 5)) .nil)) .nil))))
    .nil)))
    .nil)
  (.cons (.ite (.cmp .Eq (.var 3) (.con (.int 2)))
    (.cons (.asg (.name 6) (.ix (.lst (.cons (.con (.int 1)) (.cons (.neg (.con (.int 1))) (.cons (.con (.int 2)) (.cons (.con (.int 3)) (.cons (.neg (.con (.int 4))) (.cons (.con (.int 20)) .nil))))))) (.call 11 (.cons (.var 0) (.cons (.con (.int 6)) .nil)))))
    (.cons (.ite (.cmp .Gt (.blt .abs (.cons (.bin .Mult (.var 2) (.var 6)) .nil)) (.con (.int 400)))
      (.cons (.asg (.name 6) (.con (.int 1)))
      .nil)
      .nil)
    (.cons (.ret (.tup (.cons (.con (.str "moved")) (.cons (.call 15 (.cons (.var 0) (.cons (.bin .Sub (.var 1) (.con (.int 1))) (.cons (.bin .Mult (.var 2) (.var 6)) .nil)))) (.cons (.var 6) (.cons (.bin .Sub (.call 11 (.cons (.var 0) (.cons (.con (.int 401)) .nil))) (.con (.int 200))) .nil))))))
    .nil)))
    .nil)
  (.cons (.ret (.tup (.cons (.con (.str "either")) (.cons (.call 15 (.cons (.var 0) (.cons (.bin .Sub (.var 1) (.con (.int 1))) (.cons (.var 2) .nil)))) (.cons (.call 15 (.cons (.var 0) (.cons (.bin .Sub (.var 1) (.con (.int 2))) (.cons (.var 2) .nil)))) .nil)))))
  .nil))))
def e_law_all : Ent := ⟨"_law_all", topS 24, ["_law_numbers", "_law_inner", "_law_first", "_law_second", "_law_number"], ["_law_numbers"], []⟩
-- 16 _law_all(_law_numbers): 0 _law_numbers, 1 _law_inner, 2 _law_first, 3 _law_second, 4 _law_number
def b_law_all : Ss := (.cons (.ite (.cmp .Eq (.ix (.var 0) (.con (.int 0))) (.con (.str "list")))
    (.cons (.ret (.blt .list (.cons (.ix (.var 0) (.con (.int 1))) .nil)))
    .nil)
    .nil)
  (.cons (.ite (.cmp .Eq (.ix (.var 0) (.con (.int 0))) (.con (.str "moved")))
    (.cons (.asg (.name 1) (.call 16 (.cons (.ix (.var 0) (.con (.int 1))) .nil)))
    (.cons (.ret (.ife (.cmp .Is (.var 1) (.con .non)) (.con .non) (.lc (.bin .Add (.bin .Mult (.ix (.var 0) (.con (.int 2))) (.var 4)) (.ix (.var 0) (.con (.int 3)))) (.name 4) (.val (.var 1)) .non [4])))
    .nil))
    .nil)
  (.cons (.ite (.cmp .Eq (.ix (.var 0) (.con (.int 0))) (.con (.str "either")))
    (.cons (.asg (.name 2) (.call 16 (.cons (.ix (.var 0) (.con (.int 1))) .nil)))
    (.cons (.asg (.name 3) (.call 16 (.cons (.ix (.var 0) (.con (.int 2))) .nil)))
    (.cons (.ret (.ife (.or (.cmp .Is (.var 2) (.con .non)) (.cmp .Is (.var 3) (.con .non))) (.con .non) (.sset (.bin .Add (.var 2) (.var 3)))))
    .nil)))
    .nil)
  (.cons (.ret (.con .non))
  .nil))))
def e_law : Ent := ⟨"law", topS 25, ["_law_script", "_law_hand_here", "_law_turn", "_law_numbers", "_law_row", "_law_told"], ["_law_script"], []⟩
-- 17 law(_law_script): 0 _law_script, 1 _law_hand_here, 2 _law_turn, 3 _law_numbers, 4 _law_row, 5 _law_told
def b_law : Ss := (.cons (.asg (.name 1) (.call 10 (.cons (.var 0) .nil)))
  (.cons (.for (.name 2) (.rng (.bin .Add (.con (.int 3)) (.blt .len (.cons (.var 0) .nil))))
    (.cons (.ite (.cmp .Gt (.call 11 (.cons (.var 1) (.cons (.con (.int 4)) .nil))) (.con (.int 0)))
      (.cons (.asg (.name 3) (.call 15 (.cons (.var 1) (.cons (.con (.int 4)) (.cons (.con (.int 1)) .nil)))))
      .nil)
      (.cons (.asg (.name 3) (.call 14 (.cons (.var 1) (.cons (.con (.int 3)) (.cons (.con (.int 5)) (.cons (.con (.int 1)) (.cons (.cmp .Eq (.call 11 (.cons (.var 1) (.cons (.con (.int 2)) .nil))) (.con (.int 0))) .nil)))))))
      .nil))
    (.cons (.asg (.name 4) (.call 16 (.cons (.var 3) .nil)))
    (.cons (.asg (.name 5) (.call 9 (.cons (.var 3) .nil)))
    (.cons (.ite (.and (.cmp .Is (.var 4) (.con .non)) (.cmp .IsNot (.var 5) (.con .non)))
      (.cons (.ret (.con (.bl false)))
      .nil)
      .nil)
    (.cons (.ite (.and (.cmp .IsNot (.var 4) (.con .non)) (.or (.not (.isi (.var 5) .int)) (.or (.isi (.var 5) .bool) (.cmp .NotEq (.var 5) (.blt .len (.cons (.blt .set (.cons (.var 4) .nil)) .nil))))))
      (.cons (.ret (.con (.bl false)))
      .nil)
      .nil)
    .nil))))))
  (.cons (.ret (.con (.bl true)))
  .nil)))
def EE : List Ent := [e_is_integer, e_in_range, e_check_set, e_ascends, e_move_fits, e_leaf_fits, e_tuples_in, e_is_set, e_finite_numbers, e_size_of, e_law_hand, e_law_draw, e_law_leaf, e_law_tuples, e_law_set, e_law_finite, e_law_all, e_law]
def DD : List Df := [⟨1, 1, b_is_integer⟩, ⟨3, 3, b_in_range⟩, ⟨1, 1, b_check_set⟩, ⟨3, 4, b_ascends⟩, ⟨2, 2, b_move_fits⟩, ⟨1, 2, b_leaf_fits⟩, ⟨4, 8, b_tuples_in⟩, ⟨1, 1, b_is_set⟩, ⟨1, 6, b_finite_numbers⟩, ⟨1, 2, b_size_of⟩, ⟨1, 1, b_law_hand⟩, ⟨2, 5, b_law_draw⟩, ⟨2, 10, b_law_leaf⟩, ⟨1, 1, b_law_tuples⟩, ⟨5, 10, b_law_set⟩, ⟨3, 8, b_law_finite⟩, ⟨1, 5, b_law_all⟩, ⟨1, 6, b_law⟩]
theorem hdLaw : EE.map (fun e => e.df GG TT (EE.map (·.x)) (kwsOf 0 EE)) = DD.map some := by kernel_rfl
theorem hcLaw : EE.all Ent.chk = true := by decide +kernel
end Pi

section
set_option maxHeartbeats 8000000
/-! SetA: the program's sets as data, and what is_set says of good ones. -/
namespace Pi
open PySem
inductive NS where
  | rests (m : Int) (rs : List Int)
  | list (xs : List Int)
  | powers (n : Int)
  | squares
  | primes
  | moved (s : NS) (a b : Int)
  | either (s t : NS)
def NS.iv : NS → IV
  | .rests m rs => .tup [.str "rests", .int m, .tup (rs.map .int)]
  | .list xs => .tup [.str "list", .tup (xs.map .int)]
  | .powers n => .tup [.str "powers", .int n]
  | .squares => .tup [.str "squares"]
  | .primes => .tup [.str "primes"]
  | .moved s a b => .tup [.str "moved", s.iv, .int a, .int b]
  | .either s t => .tup [.str "either", s.iv, t.iv]
def NS.cnt : NS → Nat
  | .moved s _ _ => s.cnt + 1
  | .either s t => s.cnt + t.cnt + 1
  | _ => 1
/-- strictly upwards, between the two bounds -/
def Asc (xs : List Int) (lo hi : Int) : Prop := xs ≠ [] ∧ xs.Pairwise (· < ·) ∧ ∀ x ∈ xs, lo ≤ x ∧ x ≤ hi
def NS.ok : NS → Nat → Int → Bool → Prop
  | .rests m rs, l, _, _ => 1 ≤ l ∧ 1 ≤ m ∧ m ≤ 60 ∧ Asc rs 0 (m - 1) ∧ rs.length ≤ 60
  | .list xs, l, _, _ => 1 ≤ l ∧ Asc xs (-100) 100 ∧ xs.length ≤ 12
  | .powers n, l, _, p => 1 ≤ l ∧ 2 ≤ n ∧ n ≤ 10 ∧ p = false
  | .squares, l, _, p => 1 ≤ l ∧ p = false
  | .primes, l, _, p => 1 ≤ l ∧ p = false
  | .moved s a b, l + 1, f, p => -20 ≤ a ∧ a ≤ 20 ∧ a ≠ 0 ∧ -200 ≤ b ∧ b ≤ 200 ∧ (f * a).natAbs ≤ 400 ∧ s.ok l (f * a) p
  | .either s t, l + 1, f, _ => s.ok l f true ∧ t.ok l f true
  | _, 0, _, _ => False
theorem eqH_str {h : IH} {x y : Str} : eqH h (.str x) (.str y) = some (decide (x = y)) := rfl
theorem ns_isint {k : Nat} {i : Int} {h : IH} {Q : IV → IH → Prop} (q : Q (.bl true) h) : W (callF DD (k + 1) 0 [.int i] h) Q := by
  refine W_def (d := ⟨1, 1, b_is_integer⟩) rfl rfl ?_
  refine W.step ?_
  simp [isIH, truI, q]
theorem ns_inrange {k : Nat} {i a b : Int} {h : IH} {Q : IV → IH → Prop} (h1 : a ≤ i) (h2 : i ≤ b) (q : Q (.bl true) h) : W (callF DD (k + 2) 1 [.int i, .int a, .int b] h) Q := by
  refine W_def (d := ⟨3, 3, b_in_range⟩) rfl rfl ?_
  refine W.step ?_
  simp
  refine ns_isint ?_
  simp [truI, cmpI, h1, h2, q]
theorem ixT {xs : List Int} {n : Nat} {h : IH} {Q : IV → IH → Prop} (hn : n < xs.length) : W (ixI (.tup (xs.map .int)) (.int n) h) Q ↔ Q (.int xs[n]) h := by
  simp [ixI, seqOf, L2.atI, L2.ixN, hn]
theorem ns_ascends {k : Nat} {xs : List Int} {lo hi : Int} {h : IH} {Q : IV → IH → Prop} (ha : Asc xs lo hi) (hl : xs.length ≤ 100000) (q : Q (.bl true) h) : W (callF DD (k + 3) 3 [.tup (xs.map .int), .int lo, .int hi] h) Q := by
  obtain ⟨h0, hp, hb⟩ := ha
  refine W_def (d := ⟨3, 4, b_ascends⟩) rfl rfl ?_
  unfold b_ascends
  refine W.step ?_
  have l0 : xs.length ≠ 0 := fun z => h0 (List.eq_nil_of_length_eq_zero z)
  simp [isIH, truI, cmpI, l0, h0]
  refine Nxt.go ?_
  simp [W_ite]
  refine ⟨by omega, ?_⟩
  refine W_forV (fun n σ h2 => ∃ c, σ = [some (.tup (xs.map .int)), some (.int lo), some (.int hi), c] ∧ h2 = h) ⟨none, rfl, rfl⟩ ?_ ?_
  · rintro n y σ h2 hn ⟨c, rfl, rfl⟩
    obtain ⟨hn', rfl⟩ := range_at hn
    refine ⟨_, rfl, ?_⟩
    refine W.step ?_
    have := hb xs[n] (List.getElem_mem _)
    simp
    rw [ixT hn']
    refine ns_inrange this.1 this.2 ?_
    simp [truI]
    refine Nxt.go ?_
    simp [cmpI, truI]
    by_cases n0 : n = 0
    · subst n0
      (try simp)
    · have np : 0 < n := by omega
      have ec : ((n : Int) - 1) = ((n - 1 : Nat) : Int) := by omega
      have lt : xs[n - 1] < xs[n] := List.pairwise_iff_getElem.mp hp (n - 1) n (by omega) hn' (by omega)
      have nle : ¬ xs[n] ≤ xs[n - 1] := by omega
      simp [np, n0, W_sub, cmpI, truI]
      rw [ec, ixT (by omega), ixT hn']
      simp [nle]
  · rintro σ h2 ⟨c, rfl, rfl⟩
    refine Nxt.go ?_
    simp [q]
theorem ns_movefits {k : Nat} {a b : Int} {h : IH} {Q : IV → IH → Prop} (a1 : -20 ≤ a) (a2 : a ≤ 20) (a0 : a ≠ 0) (b1 : -200 ≤ b) (b2 : b ≤ 200) (q : Q (.bl true) h) : W (callF DD (k + 3) 4 [.int a, .int b] h) Q := by
  refine W_def (d := ⟨2, 2, b_move_fits⟩) rfl rfl ?_
  unfold b_move_fits
  refine W.step ?_
  simp
  refine ns_inrange a1 a2 ?_
  simp [truI, cmpI, a0]
  exact ns_inrange b1 b2 q
/-- a set without inner sets -/
def NS.leaf : NS → Bool
  | .moved .. => false
  | .either .. => false
  | _ => true
theorem ns_leaf {k l : Nat} {f : Int} {p : Bool} {s : NS} {h : IH} {Q : IV → IH → Prop} (hs : s.leaf = true) (ho : s.ok l f p) (q : Q (.bl true) h) : W (callF DD (k + 4) 5 [s.iv] h) Q := by
  refine W_def (d := ⟨1, 2, b_leaf_fits⟩) rfl rfl ?_
  unfold b_leaf_fits
  refine W.step ?_
  cases s with
  | moved s a b => cases hs
  | either s t => cases hs
  | rests m rs =>
    obtain ⟨_, m1, m2, ha, rl⟩ := ho
    simp [NS.iv, ixI, seqOf, L2.atI, L2.ixN, tgI]
    refine Nxt.go ?_
    simp [cmpI, eqH_str, truI]
    refine W.step ?_
    simp [cmpI, truI, ixI, seqOf, L2.atI, L2.ixN]
    refine ns_inrange m1 m2 ?_
    simp [truI, ixI, seqOf, L2.atI, L2.ixN, W_sub]
    exact ns_ascends ha (by omega) q
  | list xs =>
    obtain ⟨_, ha, hl⟩ := ho
    simp [NS.iv, ixI, seqOf, L2.atI, L2.ixN, tgI]
    refine Nxt.go ?_
    simp (decide := true) [cmpI, eqH_str, truI]
    refine Nxt.go ?_
    simp (decide := true) [cmpI, eqH_str, truI]
    refine W.step ?_
    have hl' : (xs.length : Int) ≤ 12 := by omega
    simp [cmpI, truI, ixI, seqOf, L2.atI, L2.ixN]
    refine ns_ascends ha (by omega) ?_
    simp [truI, hl', hl, q, ixI, seqOf, L2.atI, L2.ixN, cmpI]
  | powers n =>
    obtain ⟨_, n1, n2, _⟩ := ho
    simp [NS.iv, ixI, seqOf, L2.atI, L2.ixN, tgI]
    refine Nxt.go ?_
    simp (decide := true) [cmpI, eqH_str, truI]
    refine Nxt.go ?_
    simp (decide := true) [cmpI, eqH_str, truI]
    refine Nxt.go ?_
    simp (decide := true) [cmpI, eqH_str, truI]
    refine W.step ?_
    simp [cmpI, truI, ixI, seqOf, L2.atI, L2.ixN]
    exact ns_inrange n1 n2 q
  | squares =>
    simp [NS.iv, ixI, seqOf, L2.atI, L2.ixN, tgI]
    refine Nxt.go ?_
    simp (decide := true) [cmpI, eqH_str, truI]
    refine Nxt.go ?_
    simp (decide := true) [cmpI, eqH_str, truI]
    refine Nxt.go ?_
    simp (decide := true) [cmpI, eqH_str, truI]
    refine Nxt.go ?_
    simp (decide := true) [cmpI, eqH_str, truI, q]
  | primes =>
    simp [NS.iv, ixI, seqOf, L2.atI, L2.ixN, tgI]
    refine Nxt.go ?_
    simp (decide := true) [cmpI, eqH_str, truI]
    refine Nxt.go ?_
    simp (decide := true) [cmpI, eqH_str, truI]
    refine Nxt.go ?_
    simp (decide := true) [cmpI, eqH_str, truI]
    refine Nxt.go ?_
    simp (decide := true) [cmpI, eqH_str, truI, q]
theorem ns_pos {s : NS} : ∀ {l : Nat} {f : Int} {p : Bool}, s.ok l f p → 1 ≤ l := by
  intro l f p h
  cases l with
  | succ l => omega
  | zero => cases s <;> simp [NS.ok] at h
theorem ns_cnt (s : NS) : 1 ≤ s.cnt := by cases s <;> simp [NS.cnt]
theorem iv_tup (s : NS) : ∃ k xs, s.iv = .tup (.str k :: xs) ∧ k ∈ [("rests" : Str), "list", "powers", "squares", "primes", "moved", "either"] := by
  cases s <;> exact ⟨_, _, rfl, by simp⟩
/-- the rest behind the two kinds with inner sets -/
theorem ns_tuples_leaf {k l : Nat} {f : Int} {p : Bool} {s : NS} {h : IH} {Q : IV → IH → Prop} (hs : s.leaf = true) (ho : s.ok l f p) (hf : small f = true) (q : Q (.int 1) h) : W (callF DD (k + 6) 6 [s.iv, .int l, .int f, .bl p] h) Q := by
  have lp := ns_pos ho
  have l0 : ¬ (l : Int) = 0 := by omega
  have l0' : l ≠ 0 := by omega
  have hleaf := fun (Q : IV → IH → Prop) (q : Q (.bl true) h) => ns_leaf (k := k + 1) hs ho q
  refine W_def (d := ⟨4, 8, b_tuples_in⟩) rfl rfl ?_
  unfold b_tuples_in
  refine W.step ?_
  cases s with
  | moved s a b => cases hs
  | either s t => cases hs
  | rests m rs =>
    simp [NS.iv, cmpI, truI, l0, l0', isIH]
    refine Nxt.go ?_
    simp [ixI, seqOf, L2.atI, L2.ixN, tgI]
    refine Nxt.go ?_
    simp (decide := true) [cmpI, eqH_str, truI]
    refine Nxt.go ?_
    simp (decide := true) [cmpI, eqH_str, truI]
    refine Nxt.go ?_
    simp
    refine hleaf _ ?_
    simp (decide := true) [cmpI, eqH_str, truI]
    cases p <;> (simp (decide := true) [cmpI, eqH_str, truI]; refine Nxt.go ?_; simp [q])
  | list xs =>
    simp [NS.iv, cmpI, truI, l0, l0', isIH]
    refine Nxt.go ?_
    simp [ixI, seqOf, L2.atI, L2.ixN, tgI]
    refine Nxt.go ?_
    simp (decide := true) [cmpI, eqH_str, truI]
    refine Nxt.go ?_
    simp (decide := true) [cmpI, eqH_str, truI]
    refine Nxt.go ?_
    simp
    refine hleaf _ ?_
    simp (decide := true) [cmpI, eqH_str, truI]
    cases p <;> (simp (decide := true) [cmpI, eqH_str, truI]; refine Nxt.go ?_; simp [q])
  | powers n =>
    obtain ⟨_, _, _, rfl⟩ := ho
    simp [NS.iv, cmpI, truI, l0, l0', isIH]
    refine Nxt.go ?_
    simp [ixI, seqOf, L2.atI, L2.ixN, tgI]
    refine Nxt.go ?_
    simp (decide := true) [cmpI, eqH_str, truI]
    refine Nxt.go ?_
    simp (decide := true) [cmpI, eqH_str, truI]
    refine Nxt.go ?_
    simp
    refine hleaf _ ?_
    simp (decide := true) [cmpI, eqH_str, truI]
    refine Nxt.go ?_
    simp [q]
  | squares =>
    obtain ⟨_, rfl⟩ := ho
    simp [NS.iv, cmpI, truI, l0, l0', isIH]
    refine Nxt.go ?_
    simp [ixI, seqOf, L2.atI, L2.ixN, tgI]
    refine Nxt.go ?_
    simp (decide := true) [cmpI, eqH_str, truI]
    refine Nxt.go ?_
    simp (decide := true) [cmpI, eqH_str, truI]
    refine Nxt.go ?_
    simp
    refine hleaf _ ?_
    simp (decide := true) [cmpI, eqH_str, truI]
    refine Nxt.go ?_
    simp [q]
  | primes =>
    obtain ⟨_, rfl⟩ := ho
    simp [NS.iv, cmpI, truI, l0, l0', isIH]
    refine Nxt.go ?_
    simp [ixI, seqOf, L2.atI, L2.ixN, tgI]
    refine Nxt.go ?_
    simp (decide := true) [cmpI, eqH_str, truI]
    refine Nxt.go ?_
    simp (decide := true) [cmpI, eqH_str, truI]
    refine Nxt.go ?_
    simp
    refine hleaf _ ?_
    simp (decide := true) [cmpI, eqH_str, truI]
    refine Nxt.go ?_
    simp [q]
theorem ns_tuples {s : NS} : ∀ {k l : Nat} {f : Int} {p : Bool} {h : IH} {Q : IV → IH → Prop}, s.ok l f p → f.natAbs ≤ 400 → Q (.int s.cnt) h → W (callF DD (k + 6 + l) 6 [s.iv, .int l, .int f, .bl p] h) Q := by
  induction s with
  | moved s a b ih =>
    intro k l f p h Q ho hf q
    cases l with
    | zero => simp [NS.ok] at ho
    | succ l =>
      obtain ⟨a1, a2, a0, b1, b2, fa, ho2⟩ := ho
      have sf : small f = true := small64 (by omega)
      have sa : small a = true := small64 (by omega)
      refine W_def (k := k + 6 + l) (d := ⟨4, 8, b_tuples_in⟩) rfl rfl ?_
      unfold b_tuples_in
      refine W.step ?_
      have l0 : ¬ (l : Int) + 1 = 0 := by omega
      simp [NS.iv, cmpI, truI, isIH, l0]
      refine Nxt.go ?_
      simp [ixI, seqOf, L2.atI, L2.ixN, tgI]
      refine Nxt.go ?_
      simp (decide := true) [cmpI, eqH_str, truI]
      refine W.step ?_
      simp [cmpI, truI, ixI, seqOf, L2.atI, L2.ixN]
      have ek : k + 6 + l = k + l + 3 + 3 := by omega
      rw [ek]
      refine ns_movefits a1 a2 a0 b1 b2 ?_
      have fa' : ¬ (400 : Int) < (f * a).natAbs := by omega
      simp [truI, ixI, seqOf, L2.atI, L2.ixN]
      rw [W_mul sf sa]
      simp [cmpI, truI, fa']
      refine Nxt.go ?_
      simp [ixI, seqOf, L2.atI, L2.ixN, W_sub]
      rw [W_mul sf sa]
      rw [← ek]
      refine ih ho2 fa ?_
      have c0 : ¬ (s.cnt : Int) = 0 := by have := ns_cnt s; omega
      have c0' : s.cnt ≠ 0 := by have := ns_cnt s; omega
      simp [tgI]
      refine Nxt.go ?_
      simp [cmpI, truI, c0, c0', W_add]
      simpa [NS.cnt] using q
  | either s t ih1 ih2 =>
    intro k l f p h Q ho hf q
    cases l with
    | zero => simp [NS.ok] at ho
    | succ l =>
      obtain ⟨ho1, ho2⟩ := ho
      refine W_def (k := k + 6 + l) (d := ⟨4, 8, b_tuples_in⟩) rfl rfl ?_
      unfold b_tuples_in
      refine W.step ?_
      have l0 : ¬ (l : Int) + 1 = 0 := by omega
      simp [NS.iv, cmpI, truI, isIH, l0]
      refine Nxt.go ?_
      simp [ixI, seqOf, L2.atI, L2.ixN, tgI]
      refine Nxt.go ?_
      simp (decide := true) [cmpI, eqH_str, truI]
      refine Nxt.go ?_
      simp (decide := true) [cmpI, eqH_str, truI]
      refine W.step ?_
      simp [cmpI, truI]
      refine Nxt.go ?_
      simp [ixI, seqOf, L2.atI, L2.ixN, W_sub]
      refine ih1 ho1 hf ?_
      simp [tgI]
      refine Nxt.go ?_
      simp [ixI, seqOf, L2.atI, L2.ixN, W_sub]
      refine ih2 ho2 hf ?_
      have c1 : ¬ (s.cnt : Int) = 0 := by have := ns_cnt s; omega
      have c1' : s.cnt ≠ 0 := by have := ns_cnt s; omega
      have c2 : ¬ (t.cnt : Int) = 0 := by have := ns_cnt t; omega
      have c2' : t.cnt ≠ 0 := by have := ns_cnt t; omega
      simp [tgI]
      refine Nxt.go ?_
      simp [cmpI, truI, c1, c1', c2, c2', W_add]
      simpa [NS.cnt] using q
  | rests m rs =>
    intro k l f p h Q ho hf q
    have e : k + 6 + l = k + l + 6 := by omega
    rw [e]
    exact ns_tuples_leaf rfl ho (small64 (by omega)) q
  | list xs =>
    intro k l f p h Q ho hf q
    have e : k + 6 + l = k + l + 6 := by omega
    rw [e]
    exact ns_tuples_leaf rfl ho (small64 (by omega)) q
  | powers n =>
    intro k l f p h Q ho hf q
    have e : k + 6 + l = k + l + 6 := by omega
    rw [e]
    exact ns_tuples_leaf rfl ho (small64 (by omega)) q
  | squares =>
    intro k l f p h Q ho hf q
    have e : k + 6 + l = k + l + 6 := by omega
    rw [e]
    exact ns_tuples_leaf rfl ho (small64 (by omega)) q
  | primes =>
    intro k l f p h Q ho hf q
    have e : k + 6 + l = k + l + 6 := by omega
    rw [e]
    exact ns_tuples_leaf rfl ho (small64 (by omega)) q
theorem ns_isset {k : Nat} {s : NS} {h : IH} {Q : IV → IH → Prop} (ho : s.ok 6 1 false) (hc : s.cnt ≤ 12) (q : Q (.bl true) h) : W (callF DD (k + 13) 7 [s.iv] h) Q := by
  refine W_def (k := k + 6 + 6) (d := ⟨1, 1, b_is_set⟩) rfl rfl ?_
  unfold b_is_set
  refine W.step ?_
  simp
  refine ns_tuples (l := 6) ho (by decide) ?_
  have c1 : (0 : Int) < s.cnt := by have := ns_cnt s; omega
  have c1' : 0 < s.cnt := ns_cnt s
  have c2 : (s.cnt : Int) ≤ 12 := by omega
  simp [cmpI, c1, c1', c2, q]
theorem ns_check {k : Nat} {s : NS} {h : IH} {Q : IV → IH → Prop} (ho : s.ok 6 1 false) (hc : s.cnt ≤ 12) (q : Q .non h) : W (callF DD (k + 14) 2 [s.iv] h) Q := by
  refine W_def (k := k + 13) (d := ⟨1, 1, b_check_set⟩) rfl rfl ?_
  unfold b_check_set
  refine W.step ?_
  simp
  refine ns_isset ho hc ?_
  simp [truI, q]
/-- the numbers of a finite set, as the program tells them and as the law does -/
def NS.fin : NS → Option (List Int)
  | .list xs => some xs
  | .moved s a b => s.fin.map fun F => srt (F.map fun x => a * x + b)
  | .either s t => match s.fin, t.fin with
    | some F, some G => some (sst (F ++ G))
    | _, _ => none
  | _ => none
/-- at most so many of them -/
def NS.top : NS → Nat
  | .list xs => xs.length
  | .moved s _ _ => s.top
  | .either s t => s.top + t.top
  | _ => 0
end Pi
end

section
set_option maxHeartbeats 8000000
/-! SetB: the numbers of finite sets. -/
namespace Pi
open PySem
/-- the law's own list of the numbers -/
def NS.all : NS → Option (List Int)
  | .list xs => some xs
  | .moved s a b => s.all.map fun F => F.map fun x => a * x + b
  | .either s t => match s.all, t.all with
    | some F, some G => some (sst (F ++ G))
    | _, _ => none
  | _ => none
/-- None, or a list of the heap -/
def Res (o : Option (List Int)) (v : IV) (h : IH) : Prop := match o with
  | none => v = .non
  | some F => ∃ i, v = .ref i ∧ h[i]? = some (.lst (F.map .int))
theorem Res.up {o : Option (List Int)} {v : IV} {h h' : IH} (r : Res o v h) (u : Up h h') : Res o v h' := by
  cases o with
  | none => exact r
  | some F => obtain ⟨i, e, r⟩ := r; exact ⟨i, e, u.at r⟩
theorem srt_perm (xs : List Int) : (srt xs).Perm xs := List.mergeSort_perm _ _
theorem srt_asc (xs : List Int) : (srt xs).Pairwise (· ≤ ·) :=
  (List.pairwise_mergeSort (fun a b c h1 h2 => by simp at *; omega) (fun a b => by simp; omega) xs).imp fun h => by simpa using h
theorem srt_uniq {ns ns' : List Int} (pm : ns'.Perm ns) (pw : ns'.Pairwise (· ≤ ·)) : ns' = srt ns :=
  List.Perm.eq_of_pairwise (fun a b _ _ h1 h2 => Int.le_antisymm h1 h2) pw (srt_asc ns) (pm.trans (srt_perm ns).symm)
theorem ded_mem2 (ns : List Int) : (ded ns).Nodup ∧ ∀ k, k ∈ ded ns ↔ k ∈ ns := ded_mem ns
theorem sst_mem (xs : List Int) : (∀ k, k ∈ sst xs ↔ k ∈ xs) ∧ (sst xs).Nodup ∧ (sst xs).length ≤ xs.length := by
  obtain ⟨d1, d2⟩ := ded_mem xs
  have p := srt_perm (ded xs)
  refine ⟨fun k => ?_, p.nodup_iff.mpr d1, ?_⟩
  · show k ∈ srt (ded xs) ↔ _
    rw [p.mem_iff, d2]
  · show (srt (ded xs)).length ≤ _
    rw [p.length_eq]; exact ded_le xs
theorem sst_perm {xs ys : List Int} (p : xs.Perm ys) : sst xs = sst ys := by
  obtain ⟨d1, d2⟩ := ded_mem xs
  obtain ⟨e1, e2⟩ := ded_mem ys
  have q : (ded xs).Perm (ded ys) := (List.perm_ext_iff_of_nodup d1 e1).mpr fun k => by rw [d2, e2, p.mem_iff]
  exact srt_uniq ((srt_perm _).trans q) (srt_asc _)
/-- what the two lists have in common -/
theorem fin_all {s : NS} : ∀ {l : Nat} {f : Int} {p : Bool}, s.ok l f p → (s.fin = none ∧ s.all = none) ∨ ∃ F L, s.fin = some F ∧ s.all = some L ∧ F.Perm L ∧ L.Nodup ∧ L.length ≤ s.top ∧ ∀ x ∈ L, x.natAbs ≤ 2 ^ (10 * s.cnt) := by
  induction s with
  | list xs =>
    intro l f p ho
    obtain ⟨_, ⟨_, hp, hb⟩, hl⟩ := ho
    refine .inr ⟨xs, xs, rfl, rfl, .refl _, hp.imp fun h => Int.ne_of_lt h, Nat.le_refl _, fun x hx => ?_⟩
    have := hb x hx
    show x.natAbs ≤ 2 ^ 10
    omega
  | moved s a b ih =>
    intro l f p ho
    cases l with
    | zero => simp [NS.ok] at ho
    | succ l =>
      obtain ⟨a1, a2, a0, b1, b2, fa, ho2⟩ := ho
      rcases ih ho2 with ⟨e1, e2⟩ | ⟨F, L, e1, e2, pm, nd, ln, bd⟩
      · exact .inl ⟨by rw [NS.fin, e1]; rfl, by rw [NS.all, e2]; rfl⟩
      · refine .inr ⟨_, _, by rw [NS.fin, e1]; rfl, by rw [NS.all, e2]; rfl, (srt_perm _).trans (pm.map _), ?_, by simpa [NS.top] using ln, fun x hx => ?_⟩
        · refine List.Pairwise.map _ (fun x y h => ?_) nd
          intro z
          have : a * x = a * y := by omega
          exact h (Int.eq_of_mul_eq_mul_left a0 this)
        · obtain ⟨y, hy, rfl⟩ := List.mem_map.mp hx
          have h1 := bd y hy
          have h2 : (a * y).natAbs ≤ 20 * 2 ^ (10 * s.cnt) := by rw [Int.natAbs_mul]; exact Nat.mul_le_mul (by omega) h1
          have h3 : 2 ^ (10 * (s.cnt + 1)) = 2 ^ (10 * s.cnt) * 1024 := by rw [Nat.mul_add, Nat.pow_add]
          have h4 : 1 ≤ 2 ^ (10 * s.cnt) := Nat.one_le_pow _ _ (by omega)
          show _ ≤ 2 ^ (10 * (s.cnt + 1))
          rw [h3]
          omega
  | either s t ih1 ih2 =>
    intro l f p ho
    cases l with
    | zero => simp [NS.ok] at ho
    | succ l =>
      obtain ⟨ho1, ho2⟩ := ho
      rcases ih1 ho1 with ⟨e1, e2⟩ | ⟨F, L, e1, e2, pm, nd, ln, bd⟩
      · exact .inl ⟨by rw [NS.fin, e1], by rw [NS.all, e2]⟩
      · rcases ih2 ho2 with ⟨g1, g2⟩ | ⟨G, M, g1, g2, pm2, nd2, ln2, bd2⟩
        · exact .inl ⟨by rw [NS.fin, e1, g1], by rw [NS.all, e2, g2]⟩
        · refine .inr ⟨sst (F ++ G), sst (L ++ M), by rw [NS.fin, e1, g1], by rw [NS.all, e2, g2], ?_, (sst_mem _).2.1, ?_, fun x hx => ?_⟩
          · rw [sst_perm (pm.append pm2)]
          · have := (sst_mem (L ++ M)).2.2
            simp at this
            show _ ≤ s.top + t.top
            omega
          · have h1 := (sst_mem (L ++ M)).1 x |>.mp hx
            show _ ≤ 2 ^ (10 * (s.cnt + t.cnt + 1))
            rcases List.mem_append.mp h1 with h1 | h1
            · exact Nat.le_trans (bd x h1) (Nat.pow_le_pow_right (by omega) (by omega))
            · exact Nat.le_trans (bd2 x h1) (Nat.pow_le_pow_right (by omega) (by omega))
  | rests m rs => intro l f p _; exact .inl ⟨rfl, rfl⟩
  | powers n => intro l f p _; exact .inl ⟨rfl, rfl⟩
  | squares => intro l f p _; exact .inl ⟨rfl, rfl⟩
  | primes => intro l f p _; exact .inl ⟨rfl, rfl⟩
end Pi
end

section
set_option maxHeartbeats 8000000
namespace Pi
open PySem
theorem W_ssetL {i : Nat} {xs : List Int} {h : IH} {Q : IV → IH → Prop} (hx : h[i]? = some (.lst (xs.map .int))) (l : xs.length < 64) : W (match (lstOf h (.ref i)).bind intsOf with
    | some ns => if ns.length < 64 then .ok (.ref h.length) (h ++ [.lst ((sst ns).map .int)]) else .stuck
    | none => .stuck) Q ↔ Q (.ref h.length) (h ++ [.lst ((sst xs).map .int)]) := by
  unfold lstOf
  simp only [hx, Option.bind_some, intsOf_map, if_pos l]
  exact W_ok
theorem cut_lin {a b : Int} {n : Nat} {F : List Int} (hn : n < F.length) : (F.take (n + 1)).map (fun x => a * x + b) = (F.take n).map (fun x => a * x + b) ++ [a * F[n] + b] := by
  have e : F.take (n + 1) = F.take n ++ [F[n]] := by rw [List.take_succ, List.getElem?_eq_getElem hn]; rfl
  rw [e, List.map_append]; rfl
/-- the comprehension of a move -/
theorem lin_lc {Φ : Calls} {p v : Nat} {F : List Int} {σ : Sl} {h : IH} {Q : List IV → IH → Prop} {a b : Int} {t0 t1 : IV} (hv : v < σ.length) (h0 : σ[0]? = some (some (.tup [t0, t1, .int a, .int b]))) (ne : v ≠ 0) (hx : h[p]? = some (.lst (F.map .int))) (hl : F.length < LIM) (sa : small a = true) (sF : ∀ x ∈ F, small x = true)
    (q : Q ((F.map fun x => a * x + b).map .int) h) : W (lcGo (.lst p) (fun x h2 => match tgI (.name v) x (wipeI σ [v]) with
      | some σ2 => (eC Φ .non σ2 h2).bind fun b h3 => if b = true then (eE Φ (.bin .Add (.bin .Mult (.ix (.var 0) (.con (.int 2))) (.var v)) (.ix (.var 0) (.con (.int 3)))) σ2 h3).bind fun v h4 => .ok (some v) h4 else .ok none h3
      | none => .stuck) 0 (wkLen (.lst p) h) [] h) Q := by
  refine W_lcL (xs := F.map .int) (fun m acc h1 => acc = ((F.take m).map fun x => a * x + b).map .int ∧ h1 = h) hx ⟨by simp, rfl⟩ ?_ ?_ ?_
  · rintro m acc h1 _ ⟨_, rfl⟩; exact hx
  · rintro m y acc h1 hm ⟨rfl, rfl⟩
    obtain ⟨hm', rfl⟩ := ints_at hm
    have e1 : ((σ.set v none).set v (some (.int F[m])))[v]? = some (some (.int F[m])) := List.getElem?_set_self (by simpa using hv)
    have e2 : ((σ.set v none).set v (some (.int F[m])))[0]? = some (some (.tup [t0, t1, .int a, .int b])) := by
      rw [List.getElem?_set_ne ne, List.getElem?_set_ne ne]; exact h0
    simp only [tgI, wipeI, W_bind, W_nonC, if_true, W_bin, W_var, W_ix, W_con, e1, e2, W_ok]
    simp [ixI, seqOf, L2.atI, L2.ixN]
    rw [W_mul sa (sF _ (List.getElem_mem _))]
    simp [W_add]
    refine ⟨by (try simp only [List.length_map, List.length_take]); omega, ?_⟩
    have := cut_lin (a := a) (b := b) hm'
    have t2 := congrArg (List.map IV.int) this
    simp at t2
    exact t2.symm
  · rintro acc h1 ⟨rfl, rfl⟩
    have : F.take (F.map IV.int).length = F := by simp
    rw [this]; exact q
theorem ns_fin {s : NS} : ∀ {k l : Nat} {f : Int} {p : Bool} {h : IH} {Q : IV → IH → Prop}, s.ok l f p → s.cnt ≤ 12 → s.top < 64 → (∀ v h', Up h h' → Res s.fin v h' → Q v h') → W (callF DD (k + s.cnt) 8 [s.iv] h) Q := by
  induction s with
  | list xs =>
    intro k l f p h Q ho hc ht q
    refine W_def (k := k) (d := ⟨1, 6, b_finite_numbers⟩) rfl rfl ?_
    unfold b_finite_numbers
    refine W.step ?_
    simp [NS.iv, ixI, seqOf, L2.atI, L2.ixN, tgI]
    refine Nxt.go ?_
    simp [cmpI, eqH_str, truI]
    refine W.step ?_
    simp [ixI, seqOf, L2.atI, L2.ixN]
    exact q _ _ (.app _ _) ⟨_, rfl, new_at _ _⟩
  | moved s a b ih =>
    intro k l f p h Q ho hc ht q
    cases l with
    | zero => simp [NS.ok] at ho
    | succ l =>
      have ho0 := ho
      obtain ⟨a1, a2, a0, b1, b2, fa, ho2⟩ := ho
      refine W_def (k := k + s.cnt) (d := ⟨1, 6, b_finite_numbers⟩) rfl rfl ?_
      unfold b_finite_numbers
      refine W.step ?_
      simp [NS.iv, ixI, seqOf, L2.atI, L2.ixN, tgI]
      refine Nxt.go ?_
      simp (decide := true) [cmpI, eqH_str, truI]
      refine Nxt.go ?_
      simp (decide := true) [cmpI, eqH_str, truI]
      refine W.step ?_
      simp [ixI, seqOf, L2.atI, L2.ixN]
      refine ih ho2 (by unfold NS.cnt at hc; omega) ht fun v h1 u1 r1 => ?_
      simp [tgI]
      refine Nxt.go ?_
      rcases fin_all ho2 with ⟨e1, e2⟩ | ⟨F, L, e1, e2, pm, nd, ln, bd⟩
      · rw [e1] at r1
        have r1 : v = .non := r1
        subst r1
        simp [cmpI, IV.isNon, truI]
        refine W.step ?_
        simp
        exact q _ _ u1 (by rw [NS.fin, e1]; rfl)
      · rw [e1] at r1
        obtain ⟨i, rfl, hi⟩ := r1
        simp [cmpI, IV.isNon, truI]
        refine Nxt.go ?_
        simp [lsAt, hi]
        have lF : F.length < LIM := by rw [pm.length_eq]; unfold LIM; have : s.top < 64 := ht; omega
        refine lin_lc (a := a) (b := b) (t0 := .str "moved") (t1 := s.iv) (by simp) rfl (by decide) hi lF (small64 (by omega)) (fun x hx => ?_) ?_
        · have := bd x (pm.mem_iff.mp hx)
          have hc : s.cnt + 1 ≤ 12 := hc
          exact small_of (k := 10 * s.cnt + 1) (Nat.lt_of_le_of_lt this (Nat.pow_lt_pow_right (by omega) (by omega))) (by omega)
        rw [W_newL (by simp; omega), W_sorted (new_at _ _)]
        exact q _ _ ((u1.trans (.app _ _)).trans (.app _ _)) (by rw [NS.fin, e1]; exact ⟨_, rfl, new_at _ _⟩)
  | either s t ih1 ih2 =>
    intro k l f p h Q ho hc ht q
    cases l with
    | zero => simp [NS.ok] at ho
    | succ l =>
      obtain ⟨ho1, ho2⟩ := ho
      have hc : s.cnt + t.cnt + 1 ≤ 12 := hc
      have ht : s.top + t.top < 64 := ht
      refine W_def (k := k + (s.cnt + t.cnt)) (d := ⟨1, 6, b_finite_numbers⟩) rfl rfl ?_
      unfold b_finite_numbers
      refine W.step ?_
      simp [NS.iv, ixI, seqOf, L2.atI, L2.ixN, tgI]
      refine Nxt.go ?_
      simp (decide := true) [cmpI, eqH_str, truI]
      refine Nxt.go ?_
      simp (decide := true) [cmpI, eqH_str, truI]
      refine Nxt.go ?_
      simp (decide := true) [cmpI, eqH_str, truI]
      refine W.step ?_
      simp [ixI, seqOf, L2.atI, L2.ixN]
      have ek1 : k + (s.cnt + t.cnt) = (k + t.cnt) + s.cnt := by omega
      have ek2 : k + (s.cnt + t.cnt) = (k + s.cnt) + t.cnt := by omega
      rw [ek1]
      refine ih1 ho1 (by omega) (by omega) fun v h1 u1 r1 => ?_
      simp [tgI]
      refine Nxt.go ?_
      simp [ixI, seqOf, L2.atI, L2.ixN]
      rw [← ek1, ek2]
      refine ih2 ho2 (by omega) (by omega) fun v2 h2 u2 r2 => ?_
      have r1 := r1.up u2
      simp [tgI]
      refine Nxt.go ?_
      rcases fin_all ho1 with ⟨e1, e2⟩ | ⟨F, L, e1, e2, pm, nd, ln, bd⟩
      · rw [e1] at r1
        have r1 : v = .non := r1
        subst r1
        simp [cmpI, IV.isNon, truI]
        refine W.step ?_
        simp
        exact q _ _ (u1.trans u2) (by rw [NS.fin, e1]; rfl)
      · rw [e1] at r1
        obtain ⟨i, rfl, hi⟩ := r1
        rcases fin_all ho2 with ⟨g1, g2⟩ | ⟨G, M, g1, g2, pm2, nd2, ln2, bd2⟩
        · rw [g1] at r2
          have r2 : v2 = .non := r2
          subst r2
          simp [cmpI, IV.isNon, truI]
          refine W.step ?_
          simp
          exact q _ _ (u1.trans u2) (by rw [NS.fin, e1, g1]; rfl)
        · rw [g1] at r2
          obtain ⟨j, rfl, hj⟩ := r2
          have lF := pm.length_eq
          have lG := pm2.length_eq
          simp [cmpI, IV.isNon, truI]
          refine Nxt.go ?_
          simp
          rw [W_addL hi hj (by simp [LIM]; omega)]
          rw [← List.map_append]
          refine (W_ssetL (new_at _ _) (by simp; omega)).mpr ?_
          exact q _ _ (((u1.trans u2).trans (.app _ _)).trans (.app _ _)) (by rw [NS.fin, e1, g1]; exact ⟨_, rfl, new_at _ _⟩)
  | rests m rs =>
    intro k l f p h Q ho hc ht q
    refine W_def (k := k) (d := ⟨1, 6, b_finite_numbers⟩) rfl rfl ?_
    unfold b_finite_numbers
    refine W.step ?_
    simp [NS.iv, ixI, seqOf, L2.atI, L2.ixN, tgI]
    refine Nxt.go ?_
    simp (decide := true) [cmpI, eqH_str, truI]
    refine Nxt.go ?_
    simp (decide := true) [cmpI, eqH_str, truI]
    refine Nxt.go ?_
    simp (decide := true) [cmpI, eqH_str, truI]
    refine Nxt.go ?_
    simp
    exact q _ _ (.refl _) rfl
  | powers n =>
    intro k l f p h Q ho hc ht q
    refine W_def (k := k) (d := ⟨1, 6, b_finite_numbers⟩) rfl rfl ?_
    unfold b_finite_numbers
    refine W.step ?_
    simp [NS.iv, ixI, seqOf, L2.atI, L2.ixN, tgI]
    refine Nxt.go ?_
    simp (decide := true) [cmpI, eqH_str, truI]
    refine Nxt.go ?_
    simp (decide := true) [cmpI, eqH_str, truI]
    refine Nxt.go ?_
    simp (decide := true) [cmpI, eqH_str, truI]
    refine Nxt.go ?_
    simp
    exact q _ _ (.refl _) rfl
  | squares =>
    intro k l f p h Q ho hc ht q
    refine W_def (k := k) (d := ⟨1, 6, b_finite_numbers⟩) rfl rfl ?_
    unfold b_finite_numbers
    refine W.step ?_
    simp [NS.iv, ixI, seqOf, L2.atI, L2.ixN, tgI]
    refine Nxt.go ?_
    simp (decide := true) [cmpI, eqH_str, truI]
    refine Nxt.go ?_
    simp (decide := true) [cmpI, eqH_str, truI]
    refine Nxt.go ?_
    simp (decide := true) [cmpI, eqH_str, truI]
    refine Nxt.go ?_
    simp
    exact q _ _ (.refl _) rfl
  | primes =>
    intro k l f p h Q ho hc ht q
    refine W_def (k := k) (d := ⟨1, 6, b_finite_numbers⟩) rfl rfl ?_
    unfold b_finite_numbers
    refine W.step ?_
    simp [NS.iv, ixI, seqOf, L2.atI, L2.ixN, tgI]
    refine Nxt.go ?_
    simp (decide := true) [cmpI, eqH_str, truI]
    refine Nxt.go ?_
    simp (decide := true) [cmpI, eqH_str, truI]
    refine Nxt.go ?_
    simp (decide := true) [cmpI, eqH_str, truI]
    refine Nxt.go ?_
    simp
    exact q _ _ (.refl _) rfl
end Pi
end

section
set_option maxHeartbeats 8000000
namespace Pi
open PySem
theorem ns_size {k : Nat} {s : NS} {h : IH} {Q : IV → IH → Prop} (ho : s.ok 6 1 false) (hc : s.cnt ≤ 12) (ht : s.top < 64) (q : ∀ v h', Up h h' → (match s.fin with | none => v = .non | some F => v = .int F.length) → Q v h') : W (callF DD (k + 15) 9 [s.iv] h) Q := by
  refine W_def (k := k + 14) (d := ⟨1, 2, b_size_of⟩) rfl rfl ?_
  unfold b_size_of
  refine W.step ?_
  simp
  refine ns_check (k := k) ho hc ?_
  refine Nxt.go ?_
  simp
  have ek : k + 14 = (k + 14 - s.cnt) + s.cnt := by omega
  rw [ek]
  refine ns_fin ho hc ht fun v h1 u1 r1 => ?_
  simp [tgI]
  refine Nxt.go ?_
  cases e : s.fin with
  | none =>
    rw [e] at r1 q
    have r1 : v = .non := r1
    subst r1
    simp [cmpI, IV.isNon, truI]
    exact q _ _ u1 rfl
  | some F =>
    rw [e] at r1 q
    obtain ⟨i, rfl, hi⟩ := r1
    simp [cmpI, IV.isNon, truI]
    rw [W_lenL hi]
    simp
    exact q _ _ u1 rfl
theorem ns_all {s : NS} : ∀ {k l : Nat} {f : Int} {p : Bool} {h : IH} {Q : IV → IH → Prop}, s.ok l f p → s.cnt ≤ 12 → s.top < 64 → (∀ v h', Up h h' → Res s.all v h' → Q v h') → W (callF DD (k + s.cnt) 16 [s.iv] h) Q := by
  have leafT : ∀ {k : Nat} {s : NS} {h : IH} {Q : IV → IH → Prop}, (∃ kd xs, s.iv = .tup (.str kd :: xs) ∧ kd ≠ ("list" : Str) ∧ kd ≠ ("moved" : Str) ∧ kd ≠ ("either" : Str)) → Q .non h → W (callF DD (k + 1) 16 [s.iv] h) Q := by
    rintro k s h Q ⟨kd, xs, e, n1, n2, n3⟩ q
    rw [e]
    refine W_def (k := k) (d := ⟨1, 5, b_law_all⟩) rfl rfl ?_
    unfold b_law_all
    have ix0 : ∀ Q : IV → IH → Prop, W (ixI (.tup (.str kd :: xs)) (.int 0) h) Q ↔ Q (.str kd) h := fun Q => by
      simp [ixI, seqOf, L2.atI, L2.ixN]
    refine W.step ?_
    simp [ix0, cmpI, eqH_str, truI, n1]
    refine Nxt.go ?_
    simp [ix0, cmpI, eqH_str, truI, n2]
    refine Nxt.go ?_
    simp [ix0, cmpI, eqH_str, truI, n3]
    refine Nxt.go ?_
    simp [q]
  induction s with
  | list xs =>
    intro k l f p h Q ho hc ht q
    refine W_def (k := k) (d := ⟨1, 5, b_law_all⟩) rfl rfl ?_
    unfold b_law_all
    refine W.step ?_
    simp [NS.iv, ixI, seqOf, L2.atI, L2.ixN, cmpI, eqH_str, truI]
    refine W.step ?_
    simp [ixI, seqOf, L2.atI, L2.ixN]
    exact q _ _ (.app _ _) ⟨_, rfl, new_at _ _⟩
  | moved s a b ih =>
    intro k l f p h Q ho hc ht q
    cases l with
    | zero => simp [NS.ok] at ho
    | succ l =>
      obtain ⟨a1, a2, a0, b1, b2, fa, ho2⟩ := ho
      refine W_def (k := k + s.cnt) (d := ⟨1, 5, b_law_all⟩) rfl rfl ?_
      unfold b_law_all
      refine W.step ?_
      simp (decide := true) [NS.iv, ixI, seqOf, L2.atI, L2.ixN, cmpI, eqH_str, truI]
      refine Nxt.go ?_
      simp (decide := true) [ixI, seqOf, L2.atI, L2.ixN, cmpI, eqH_str, truI]
      refine W.step ?_
      simp [ixI, seqOf, L2.atI, L2.ixN]
      refine ih ho2 (by unfold NS.cnt at hc; omega) ht fun v h1 u1 r1 => ?_
      simp [tgI]
      refine Nxt.go ?_
      rcases fin_all ho2 with ⟨e1, e2⟩ | ⟨F, L, e1, e2, pm, nd, ln, bd⟩
      · rw [e2] at r1
        have r1 : v = .non := r1
        subst r1
        simp [cmpI, IV.isNon, truI]
        exact q _ _ u1 (by rw [NS.all, e2]; rfl)
      · rw [e2] at r1
        obtain ⟨i, rfl, hi⟩ := r1
        simp [cmpI, IV.isNon, truI]
        simp [lsAt, hi]
        have lF : L.length < LIM := by unfold LIM; have : s.top < 64 := ht; omega
        refine lin_lc (a := a) (b := b) (t0 := .str "moved") (t1 := s.iv) (by simp) rfl (by decide) hi lF (small64 (by omega)) (fun x hx => ?_) ?_
        · have := bd x hx
          have hc : s.cnt + 1 ≤ 12 := hc
          exact small_of (k := 10 * s.cnt + 1) (Nat.lt_of_le_of_lt this (Nat.pow_lt_pow_right (by omega) (by omega))) (by omega)
        rw [W_newL (by simp; omega)]
        exact q _ _ (u1.trans (.app _ _)) (by rw [NS.all, e2]; exact ⟨_, rfl, new_at _ _⟩)
  | either s t ih1 ih2 =>
    intro k l f p h Q ho hc ht q
    cases l with
    | zero => simp [NS.ok] at ho
    | succ l =>
      obtain ⟨ho1, ho2⟩ := ho
      have hc : s.cnt + t.cnt + 1 ≤ 12 := hc
      have ht : s.top + t.top < 64 := ht
      refine W_def (k := k + (s.cnt + t.cnt)) (d := ⟨1, 5, b_law_all⟩) rfl rfl ?_
      unfold b_law_all
      refine W.step ?_
      simp (decide := true) [NS.iv, ixI, seqOf, L2.atI, L2.ixN, cmpI, eqH_str, truI]
      refine Nxt.go ?_
      simp (decide := true) [ixI, seqOf, L2.atI, L2.ixN, cmpI, eqH_str, truI]
      refine Nxt.go ?_
      simp (decide := true) [ixI, seqOf, L2.atI, L2.ixN, cmpI, eqH_str, truI]
      refine W.step ?_
      simp [ixI, seqOf, L2.atI, L2.ixN]
      have ek1 : k + (s.cnt + t.cnt) = (k + t.cnt) + s.cnt := by omega
      have ek2 : k + (s.cnt + t.cnt) = (k + s.cnt) + t.cnt := by omega
      rw [ek1]
      refine ih1 ho1 (by omega) (by omega) fun v h1 u1 r1 => ?_
      simp [tgI]
      refine Nxt.go ?_
      simp [ixI, seqOf, L2.atI, L2.ixN]
      rw [← ek1, ek2]
      refine ih2 ho2 (by omega) (by omega) fun v2 h2 u2 r2 => ?_
      have r1 := r1.up u2
      simp [tgI]
      refine Nxt.go ?_
      rcases fin_all ho1 with ⟨e1, e2⟩ | ⟨F, L, e1, e2, pm, nd, ln, bd⟩
      · rw [e2] at r1
        have r1 : v = .non := r1
        subst r1
        simp [cmpI, IV.isNon, truI]
        exact q _ _ (u1.trans u2) (by rw [NS.all, e2]; rfl)
      · rw [e2] at r1
        obtain ⟨i, rfl, hi⟩ := r1
        rcases fin_all ho2 with ⟨g1, g2⟩ | ⟨G, M, g1, g2, pm2, nd2, ln2, bd2⟩
        · rw [g2] at r2
          have r2 : v2 = .non := r2
          subst r2
          simp [cmpI, IV.isNon, truI]
          exact q _ _ (u1.trans u2) (by rw [NS.all, e2, g2]; rfl)
        · rw [g2] at r2
          obtain ⟨j, rfl, hj⟩ := r2
          simp [cmpI, IV.isNon, truI]
          rw [W_addL hi hj (by simp [LIM]; omega)]
          rw [← List.map_append]
          refine (W_ssetL (new_at _ _) (by simp; omega)).mpr ?_
          exact q _ _ (((u1.trans u2).trans (.app _ _)).trans (.app _ _)) (by rw [NS.all, e2, g2]; exact ⟨_, rfl, new_at _ _⟩)
  | rests m rs =>
    intro k l f p h Q ho hc ht q
    exact leafT ⟨_, _, rfl, by decide, by decide, by decide⟩ (q _ _ (.refl _) rfl)
  | powers n =>
    intro k l f p h Q ho hc ht q
    exact leafT ⟨_, _, rfl, by decide, by decide, by decide⟩ (q _ _ (.refl _) rfl)
  | squares =>
    intro k l f p h Q ho hc ht q
    exact leafT ⟨_, _, rfl, by decide, by decide, by decide⟩ (q _ _ (.refl _) rfl)
  | primes =>
    intro k l f p h Q ho hc ht q
    exact leafT ⟨_, _, rfl, by decide, by decide, by decide⟩ (q _ _ (.refl _) rfl)
end Pi
end

section
set_option maxHeartbeats 8000000
namespace Pi
open PySem
theorem hdraw06 : DD[11]? = some ⟨2, 5, drawB 11⟩ := rfl
theorem ok_mono {s : NS} : ∀ {l : Nat} {f : Int} {p : Bool}, s.ok l f p → s.ok (l + 1) f p := by
  induction s with
  | moved s a b ih =>
    intro l f p ho
    cases l with
    | zero => simp [NS.ok] at ho
    | succ l => obtain ⟨h1, h2, h3, h4, h5, h6, h7⟩ := ho; exact ⟨h1, h2, h3, h4, h5, h6, ih h7⟩
  | either s t ih1 ih2 =>
    intro l f p ho
    cases l with
    | zero => simp [NS.ok] at ho
    | succ l => exact ⟨ih1 ho.1, ih2 ho.2⟩
  | rests m rs => intro l f p ho; exact ⟨by have := ho.1; omega, ho.2⟩
  | list xs => intro l f p ho; exact ⟨by have := ho.1; omega, ho.2⟩
  | powers n => intro l f p ho; exact ⟨by have := ho.1; omega, ho.2⟩
  | squares => intro l f p ho; exact ⟨by have := ho.1; omega, ho.2⟩
  | primes => intro l f p ho; exact ⟨by have := ho.1; omega, ho.2⟩
theorem ok_up {s : NS} {l m : Nat} {f : Int} {p : Bool} (ho : s.ok l f p) (h : l ≤ m) : s.ok m f p := by
  obtain ⟨d, rfl⟩ := Nat.exists_eq_add_of_le h
  induction d with
  | zero => exact ho
  | succ d ih => exact ok_mono (ih (by omega))
theorem sst_asc {xs : List Int} {lo hi : Int} (h0 : xs ≠ []) (hb : ∀ x ∈ xs, lo ≤ x ∧ x ≤ hi) : Asc (sst xs) lo hi := by
  obtain ⟨m1, m2, m3⟩ := sst_mem xs
  refine ⟨fun z => ?_, ?_, fun x hx => hb x ((m1 x).mp hx)⟩
  · obtain ⟨y, ys, rfl⟩ := List.exists_cons_of_ne_nil h0
    have := (m1 y).mpr List.mem_cons_self
    rw [z] at this; cases this
  · have h1 : (sst xs).Pairwise (· ≤ ·) := srt_asc _
    exact (h1.and m2).imp fun h => by omega
/-- rows of drawn numbers -/
structure RowD (ns : List Int) (B : Nat) (lo hi : Int) (h0 : IH) (n : Nat) (acc : List IV) (h : IH) : Prop where
  ex : ∃ xs : List Int, acc = xs.map .int ∧ xs.length = n ∧ (∀ x ∈ xs, lo ≤ x ∧ x ≤ hi) ∧ Hand 0 1 ns (B + n) h ∧ UpE 1 h0 h
theorem m_handS {k : Nat} {ns : List Int} {Q : IV → IH → Prop} (hl : ns.length ≤ 63) (q : ∀ h', Hand 0 1 ns 0 h' → Q (.ref 1) h') : W (callF DD (k + 1) 10 [.lsr (ns.map .int)] []) Q := by
  refine W_def (d := ⟨1, 1, b_law_hand⟩) rfl rfl ?_
  refine W.step ?_
  simp [newL, LIM]
  refine q _ ?_
  exact ⟨by decide, by simp, 0, 0, 0, 0, by simp, by decide, by decide, by decide, by decide⟩
/-- the comprehension of a drawn row, wide numbers about 0 -/
theorem row_lc {k v g : Nat} {ns : List Int} {N : Nat} {σ : Sl} {h : IH} {Q : List IV → IH → Prop} {B : Nat} {wd : Int} (hv : v < σ.length) (hg : σ[g]? = some (some (.int wd))) (h1 : σ[0]? = some (some (.ref 1))) (ne : v ≠ g) (n0 : v ≠ 0) (x : Hand 0 1 ns B h) (hB : B + 100 < 1000000) (hN : N ≤ 60) (w1 : 1 ≤ wd) (w2 : wd ≤ 201)
    (q : ∀ (xs : List Int) h', xs.length = N → (∀ x ∈ xs, -100 ≤ x ∧ x ≤ 100) → Hand 0 1 ns (B + N) h' → UpE 1 h h' → Q (xs.map .int) h') :
    W (lcGo (.vals ((List.range N).map fun k : Nat => IV.int k)) (fun x h2 => match tgI (.name v) x (wipeI σ [v]) with
      | some σ2 => (eC (callF DD (k + 1)) .non σ2 h2).bind fun b h3 => if b = true then (eE (callF DD (k + 1)) (.bin .Sub (.call 11 (.cons (.var 0) (.cons (.var g) .nil))) (.bin .FloorDiv (.var g) (.con (.int 2)))) σ2 h3).bind fun v h4 => .ok (some v) h4 else .ok none h3
      | none => .stuck) 0 (wkLen (.vals ((List.range N).map fun k : Nat => IV.int k)) h) [] h) Q := by
  have hwk : wkLen (.vals ((List.range N).map fun k : Nat => IV.int k)) h = ((List.range N).map fun k : Nat => IV.int k).length := rfl
  rw [hwk]
  refine W_lcV (RowD ns B (-100) 100 h) ⟨[], rfl, rfl, fun _ m => (nomatch m), x, .refl 1 h⟩ ?_ ?_
  · rintro n y acc h2 hn ⟨xs, rfl, hl, hb, x2, u2⟩
    obtain ⟨hn', rfl⟩ := range_at hn
    have e1 : ((σ.set v none).set v (some (.int n)))[0]? = some (some (.ref 1)) := by
      rw [List.getElem?_set_ne n0, List.getElem?_set_ne n0]; exact h1
    have e2 : ((σ.set v none).set v (some (.int n)))[g]? = some (some (.int wd)) := by
      rw [List.getElem?_set_ne ne, List.getElem?_set_ne ne]; exact hg
    simp only [tgI, wipeI, W_bind, W_nonC, if_true, W_bin, W_call, W_consE, W_nilE, W_var, W_con, e1, e2, W_ok]
    refine draw1 hdraw06 x2 (by omega) w1 (by omega) fun r h3 r0 r1 u3 x3 => ?_
    rw [W_div64 (by decide) (by decide)]
    rw [W_sub]
    have hLIM : LIM = 1000000 := rfl
    refine ⟨by simp only [List.length_map]; omega, ⟨xs ++ [r - wd / 2], by simp, by simp [hl], fun z hz => ?_, x3.mono (by omega), u2.trans u3⟩⟩
    rcases List.mem_append.mp hz with hz | hz
    · exact hb z hz
    · rw [List.mem_singleton.mp hz]; omega
  · rintro acc h2 ⟨xs, rfl, hl, hb, x2, u2⟩
    simp at hl x2
    exact q xs h2 hl hb x2 u2
/-- how many tuples, how many lists a drawn finite set has -/
def CC : Nat → Nat
  | 0 => 1
  | 1 => 1
  | n + 2 => 1 + CC (n + 1) + CC n
def TC : Nat → Nat
  | 0 => 1
  | 1 => 1
  | n + 2 => TC (n + 1) + TC n
theorem CC_pos : ∀ n, 1 ≤ CC n
  | 0 => by decide
  | 1 => by decide
  | n + 2 => by unfold CC; omega
theorem TC_pos : ∀ n, 1 ≤ TC n
  | 0 => by decide
  | 1 => by decide
  | n + 2 => by have := TC_pos (n + 1); unfold TC; omega
def listB : Ss := (.cons (.asg (.name 4) (.ix (.lst (.cons (.con (.int 201)) (.cons (.con (.int 21)) (.cons (.con (.int 7)) .nil)))) (.call 11 (.cons (.var 0) (.cons (.con (.int 3)) .nil)))))
    (.cons (.asg (.name 5) (.lc (.bin .Sub (.call 11 (.cons (.var 0) (.cons (.var 4) .nil))) (.bin .FloorDiv (.var 4) (.con (.int 2)))) (.name 7) (.rng (.bin .Add (.con (.int 1)) (.call 11 (.cons (.var 0) (.cons (.con (.int 12)) .nil))))) .non [7]))
    (.cons (.ret (.tup (.cons (.con (.str "list")) (.cons (.blt .tuple (.cons (.sset (.var 5)) .nil)) .nil))))
    .nil)))
def finR : Ss := (.cons (.ite (.cmp .Eq (.var 3) (.con (.int 2)))
    (.cons (.asg (.name 6) (.ix (.lst (.cons (.con (.int 1)) (.cons (.neg (.con (.int 1))) (.cons (.con (.int 2)) (.cons (.con (.int 3)) (.cons (.neg (.con (.int 4))) (.cons (.con (.int 20)) .nil))))))) (.call 11 (.cons (.var 0) (.cons (.con (.int 6)) .nil)))))
    (.cons (.ite (.cmp .Gt (.blt .abs (.cons (.bin .Mult (.var 2) (.var 6)) .nil)) (.con (.int 400)))
      (.cons (.asg (.name 6) (.con (.int 1)))
      .nil)
      .nil)
    (.cons (.ret (.tup (.cons (.con (.str "moved")) (.cons (.call 15 (.cons (.var 0) (.cons (.bin .Sub (.var 1) (.con (.int 1))) (.cons (.bin .Mult (.var 2) (.var 6)) .nil)))) (.cons (.var 6) (.cons (.bin .Sub (.call 11 (.cons (.var 0) (.cons (.con (.int 401)) .nil))) (.con (.int 200))) .nil))))))
    .nil)))
    .nil)
  (.cons (.ret (.tup (.cons (.con (.str "either")) (.cons (.call 15 (.cons (.var 0) (.cons (.bin .Sub (.var 1) (.con (.int 1))) (.cons (.var 2) .nil)))) (.cons (.call 15 (.cons (.var 0) (.cons (.bin .Sub (.var 1) (.con (.int 2))) (.cons (.var 2) .nil)))) .nil)))))
  .nil))
theorem Nxt.imp {Φ : Calls} {r : Ss} {Q R : Fl → IH → Prop} {fl : Fl} {h : IH} (w : Nxt Φ r Q fl h) (k : ∀ fl h, Q fl h → R fl h) : Nxt Φ r R fl h := by
  cases fl with
  | nx σ => exact W.imp w k
  | ret v => exact k _ _ w
  | bk σ => exact k _ _ w
  | ct σ => exact k _ _ w
theorem g_finite (ns : List Int) : ∀ (lv : Nat) {k B : Nat} {f : Int} {h : IH} {Q : IV → IH → Prop}, lv ≤ 4 → Hand 0 1 ns B h → B + 20 * CC lv + 200 < 1000000 → f ≠ 0 → f.natAbs ≤ 400 →
    (∀ (s : NS) h', (∀ p, s.ok (lv + 2) f p) → s.cnt ≤ CC lv → s.top ≤ 12 * TC lv → Hand 0 1 ns (B + 20 * s.cnt) h' → UpE 1 h h' → Q s.iv h') → W (callF DD (k + (lv + 3)) 15 [.ref 1, .int lv, .int f] h) Q := by
  intro lv
  induction lv using Nat.strongRecOn with
  | ind lv ih =>
    intro k B f h Q l4 x hB f0 f4 q
    refine W_def (k := k + (lv + 2)) (d := ⟨3, 8, b_law_finite⟩) rfl rfl ?_
    unfold b_law_finite
    refine W.step ?_
    simp
    refine draw1 (k := k + (lv + 1)) hdraw06 x (by omega) (by omega) (by omega) fun r h1 r0 r1 u1 x1 => ?_
    simp [tgI]
    refine Nxt.go ?_
    by_cases hlist : (lv : Int) ≤ 1 ∨ r < 2
    · have hw : W (eSs (callF DD (k + (lv + 2))) listB [some (.ref 1), some (.int lv), some (.int f), some (.int r), none, none, none, none] h1) fun fl h1 => match fl with | .nx _ => False | .ret v => Q v h1 | _ => False := by
        unfold listB
        refine W.step ?_
        simp
        rw [W_newL (by simp [LIM])]
        have hz := new_at h1 (.lst [.int 201, .int 21, .int 7])
        have x2 := x1.up (.app h1 [.lst [.int 201, .int 21, .int 7]])
        have u2 : UpE 1 h (h1 ++ [.lst [.int 201, .int 21, .int 7]]) := u1.trans ((Up.app h1 _).e 1)
        have zd : h1.length ≠ 1 := by obtain ⟨_, _, _, _, e, _⟩ := x1.hand; have := lt_of_at e; omega
        generalize h1 ++ [IO.lst [.int 201, .int 21, .int 7]] = h2 at hz x2 u2
        generalize h1.length = zp at hz zd
        refine draw1 (k := k + (lv + 1)) hdraw06 x2 (by omega) (by omega) (by omega) fun r2 h3 r20 r21 u3 x3 => ?_
        have hz3 := u3.at zd hz
        have hwd : ∃ wd : Int, 1 ≤ wd ∧ wd ≤ 201 ∧ ∀ Q : IV → IH → Prop, W (ixI (.ref zp) (.int r2) h3) Q ↔ Q (.int wd) h3 := by
          have rr : r2 = 0 ∨ r2 = 1 ∨ r2 = 2 := by omega
          rcases rr with rfl | rfl | rfl
          · exact ⟨201, by decide, by decide, fun Q => by simp [ixI, seqOf, lstOf, hz3, L2.atI, L2.ixN]⟩
          · exact ⟨21, by decide, by decide, fun Q => by simp [ixI, seqOf, lstOf, hz3, L2.atI, L2.ixN]⟩
          · exact ⟨7, by decide, by decide, fun Q => by simp [ixI, seqOf, lstOf, hz3, L2.atI, L2.ixN]⟩
        obtain ⟨wd, w1, w2, ixw⟩ := hwd
        rw [ixw]
        simp [tgI]
        refine Nxt.go ?_
        simp
        refine draw1 (k := k + (lv + 1)) hdraw06 x3 (by omega) (by omega) (by omega) fun c h4 c0 c1 u4 x4 => ?_
        obtain ⟨N, rfl⟩ : ∃ N : Nat, c = N := ⟨c.toNat, by omega⟩
        have eN : (1 + (N : Int)).toNat = N + 1 := by omega
        simp [W_add, W_ite, eN]
        refine ⟨by omega, ?_⟩
        refine row_lc (k := k + (lv + 1)) (B := B + 1 + 1 + 1) (wd := wd) (by simp) rfl rfl (by decide) (by decide) x4 (by omega) (by omega) w1 w2 fun xs h5 hl hb x5 u5 => ?_
        rw [W_newL (by simp [LIM]; omega)]
        have hx := new_at h5 (.lst (xs.map .int))
        have x6 := x5.up (.app h5 [.lst (xs.map .int)])
        have u6 : UpE 1 h (h5 ++ [.lst (xs.map .int)]) := (((u2.trans u3).trans u4).trans u5).trans ((Up.app h5 _).e 1)
        generalize h5 ++ [IO.lst (xs.map .int)] = h6 at hx x6 u6
        generalize h5.length = xp at hx
        simp [tgI]
        refine Nxt.go ?_
        simp
        refine (W_ssetL hx (by omega)).mpr ?_
        rw [W_tupleL (new_at _ _)]
        (try simp only [W_nilE])
        rw [W_newT (by simp [LIM])]
        (try simp)
        have l12 := (sst_mem xs).2.2
        refine q (.list (sst xs)) _ (fun p => ⟨by omega, sst_asc (fun z => by rw [z] at hl; simp at hl) hb, by omega⟩) (CC_pos lv) ?_ ((x6.up (.app h6 _)).mono (by show _ ≤ B + 20 * 1; omega)) (u6.trans ((Up.app h6 _).e 1))
        show (sst xs).length ≤ 12 * TC lv
        have := TC_pos lv
        omega
      have hw2 : W (eSs (callF DD (k + (lv + 2))) listB [some (.ref 1), some (.int lv), some (.int f), some (.int r), none, none, none, none] h1) (Nxt (callF DD (k + (lv + 2))) finR fun fl h1 => match fl with | .nx _ => Q .non h1 | .ret v => Q v h1 | _ => False) := hw.imp fun fl h q => by
        cases fl with
        | ret v => exact q
        | nx _ => exact q.elim
        | bk _ => exact q.elim
        | ct _ => exact q.elim
      by_cases c1 : (lv : Int) ≤ 1
      · simp [c1, cmpI, truI]
        exact hw2
      · have c2 : r < 2 := hlist.resolve_left c1
        simp [c1, c2, cmpI, truI]
        exact hw2
    · have c1 : ¬ (lv : Int) ≤ 1 := fun z => hlist (.inl z)
      have c2 : ¬ r < 2 := fun z => hlist (.inr z)
      simp [c1, c2, cmpI, truI]
      show Nxt _ finR _ _ _
      obtain ⟨n, rfl⟩ : ∃ n, lv = n + 2 := ⟨lv - 2, by omega⟩
      have en1 : (((n + 2 : Nat) : Int) - 1) = ((n + 1 : Nat) : Int) := by omega
      have en2 : (((n + 2 : Nat) : Int) - 2) = ((n : Nat) : Int) := by omega
      unfold finR
      refine Nxt.go ?_
      simp [cmpI, truI]
      by_cases r2 : r = 2
      · simp [r2]
        refine W.step ?_
        simp
        rw [W_newL (by simp [LIM])]
        have hz := new_at h1 (.lst [.int 1, .int (-1), .int 2, .int 3, .int (-4), .int 20])
        have x2 := x1.up (.app h1 [.lst [.int 1, .int (-1), .int 2, .int 3, .int (-4), .int 20]])
        have u2 : UpE 1 h (h1 ++ [.lst [.int 1, .int (-1), .int 2, .int 3, .int (-4), .int 20]]) := u1.trans ((Up.app h1 _).e 1)
        have zd : h1.length ≠ 1 := by obtain ⟨_, _, _, _, e, _⟩ := x1.hand; have := lt_of_at e; omega
        generalize h1 ++ [IO.lst [.int 1, .int (-1), .int 2, .int 3, .int (-4), .int 20]] = h2 at hz x2 u2
        generalize h1.length = zp at hz zd
        refine draw1 (k := k + (n + 2 + 1)) hdraw06 x2 (by omega) (by omega) (by omega) fun r3 h3 r30 r31 u3 x3 => ?_
        have hz3 := u3.at zd hz
        have hwd : ∃ a : Int, -20 ≤ a ∧ a ≤ 20 ∧ a ≠ 0 ∧ ∀ Q : IV → IH → Prop, W (ixI (.ref zp) (.int r3) h3) Q ↔ Q (.int a) h3 := by
          have rr : r3 = 0 ∨ r3 = 1 ∨ r3 = 2 ∨ r3 = 3 ∨ r3 = 4 ∨ r3 = 5 := by omega
          rcases rr with rfl | rfl | rfl | rfl | rfl | rfl
          · exact ⟨1, by decide, by decide, by decide, fun Q => by simp [ixI, seqOf, lstOf, hz3, L2.atI, L2.ixN]⟩
          · exact ⟨-1, by decide, by decide, by decide, fun Q => by simp [ixI, seqOf, lstOf, hz3, L2.atI, L2.ixN]⟩
          · exact ⟨2, by decide, by decide, by decide, fun Q => by simp [ixI, seqOf, lstOf, hz3, L2.atI, L2.ixN]⟩
          · exact ⟨3, by decide, by decide, by decide, fun Q => by simp [ixI, seqOf, lstOf, hz3, L2.atI, L2.ixN]⟩
          · exact ⟨-4, by decide, by decide, by decide, fun Q => by simp [ixI, seqOf, lstOf, hz3, L2.atI, L2.ixN]⟩
          · exact ⟨20, by decide, by decide, by decide, fun Q => by simp [ixI, seqOf, lstOf, hz3, L2.atI, L2.ixN]⟩
        obtain ⟨a, w1, w2, w0, ixw⟩ := hwd
        rw [ixw]
        simp [tgI]
        have sf : small f = true := small64 (by omega)
        have fin : ∀ a : Int, -20 ≤ a → a ≤ 20 → a ≠ 0 → (f * a).natAbs ≤ 400 → Nxt (callF DD (k + (n + 2 + 2))) (.cons (.ret (.tup (.cons (.con (.str "moved")) (.cons (.call 15 (.cons (.var 0) (.cons (.bin .Sub (.var 1) (.con (.int 1))) (.cons (.bin .Mult (.var 2) (.var 6)) .nil)))) (.cons (.var 6) (.cons (.bin .Sub (.call 11 (.cons (.var 0) (.cons (.con (.int 401)) .nil))) (.con (.int 200))) .nil)))))) .nil)
            (fun fl h1 => match fl with | .nx _ => False | .ret v => Q v h1 | _ => False) (.nx [some (.ref 1), some (.int ((n : Int) + 2)), some (.int f), some (.int 2), none, none, some (.int a), none]) h3 := by
          intro a w1 w2 w0 fa
          have sa : small a = true := small64 (by omega)
          refine Nxt.go ?_
          simp [W_sub]
          rw [W_mul sf sa]
          have e1 : ((n : Int) + 2 - 1) = ((n + 1 : Nat) : Int) := by omega
          have ek1 : k + (n + 2 + 2) = k + ((n + 1) + 3) := by omega
          rw [e1, ek1]
          have cc : CC (n + 2) = 1 + CC (n + 1) + CC n := rfl
          have tt : TC (n + 2) = TC (n + 1) + TC n := rfl
          have cn := CC_pos n
          refine ih (n + 1) (by omega) (by omega) x3 (by omega) (fun z => by rcases Int.mul_eq_zero.mp z with z | z <;> omega) fa fun s h4 o1 k1 t1 x4 u4 => ?_
          refine draw1 (k := k + (n + 1 + 2)) hdraw06 x4 (by omega) (by omega) (by omega) fun b h5 b0 b1 u5 x5 => ?_
          rw [W_sub]
          rw [W_newT (by simp [LIM])]
          refine q (.moved s a (b - 200)) h5 (fun p => ⟨w1, w2, w0, by omega, by omega, fa, o1 p⟩) (by show s.cnt + 1 ≤ _; omega) (by show s.top ≤ _; omega) (x5.mono (by show _ ≤ B + 20 * (s.cnt + 1); omega)) ((((u2.trans u3).trans u4).trans u5))
        refine Nxt.go ?_
        simp
        rw [W_mul sf (small64 (by omega))]
        simp [cmpI, truI]
        subst r2
        split
        · refine W.step ?_
          simp [tgI]
          refine (show Nxt _ _ _ _ _ from ?_)
          exact Nxt.imp (fin 1 (by decide) (by decide) (by decide) (by omega)) fun fl h q => by cases fl <;> first | exact q | exact q.elim
        · exact Nxt.imp (fin a w1 w2 w0 (by omega)) fun fl h q => by cases fl <;> first | exact q | exact q.elim
      · simp [r2]
        refine Nxt.go ?_
        simp [W_sub]
        have e1 : ((n : Int) + 2 - 1) = ((n + 1 : Nat) : Int) := by omega
        have ek1 : k + (n + 2 + 2) = k + ((n + 1) + 3) := by omega
        have ek2 : k + ((n + 1) + 3) = (k + 1) + (n + 3) := by omega
        have cc : CC (n + 2) = 1 + CC (n + 1) + CC n := rfl
        have tt : TC (n + 2) = TC (n + 1) + TC n := rfl
        rw [e1, ek1]
        refine ih (n + 1) (by omega) (by omega) x1 (by omega) f0 f4 fun s h2 o1 k1 t1 x2 u2 => ?_
        rw [ek2]
        refine ih n (by omega) (by omega) x2 (by omega) f0 f4 fun t h3 o2 k2 t2 x3 u3 => ?_
        rw [W_newT (by simp [LIM])]
        exact q (.either s t) h3 (fun p => ⟨o1 true, ok_up (o2 true) (by omega)⟩) (by show s.cnt + t.cnt + 1 ≤ _; omega) (by show s.top + t.top ≤ _; omega) (x3.mono (by show _ ≤ B + 20 * (s.cnt + t.cnt + 1); omega)) ((u1.trans u2).trans u3)
end Pi
end

section
set_option maxHeartbeats 8000000
namespace Pi
open PySem
theorem ns_tup13 {s : NS} : ∀ {k : Nat} {h : IH} {Q : IV → IH → Prop}, Q (.int s.cnt) h → W (callF DD (k + s.cnt) 13 [s.iv] h) Q := by
  have leafT : ∀ {k : Nat} {s : NS} {h : IH} {Q : IV → IH → Prop}, (∃ kd xs, s.iv = .tup (.str kd :: xs) ∧ kd ≠ ("moved" : Str) ∧ kd ≠ ("either" : Str)) → Q (.int 1) h → W (callF DD (k + 1) 13 [s.iv] h) Q := by
    rintro k s h Q ⟨kd, xs, e, n2, n3⟩ q
    rw [e]
    refine W_def (k := k) (d := ⟨1, 1, b_law_tuples⟩) rfl rfl ?_
    unfold b_law_tuples
    have ix0 : ∀ Q : IV → IH → Prop, W (ixI (.tup (.str kd :: xs)) (.int 0) h) Q ↔ Q (.str kd) h := fun Q => by
      simp [ixI, seqOf, L2.atI, L2.ixN]
    refine W.step ?_
    simp [ix0, cmpI, eqH_str, truI, n2]
    refine Nxt.go ?_
    simp [ix0, cmpI, eqH_str, truI, n3]
    refine Nxt.go ?_
    simp [q]
  induction s with
  | moved s a b ih =>
    intro k h Q q
    refine W_def (k := k + s.cnt) (d := ⟨1, 1, b_law_tuples⟩) rfl rfl ?_
    unfold b_law_tuples
    refine W.step ?_
    simp (decide := true) [NS.iv, ixI, seqOf, L2.atI, L2.ixN, cmpI, eqH_str, truI]
    refine W.step ?_
    simp [ixI, seqOf, L2.atI, L2.ixN]
    refine ih ?_
    simp [W_add]
    have e : (1 : Int) + s.cnt = ((NS.moved s a b).cnt : Int) := by show _ = ((s.cnt + 1 : Nat) : Int); omega
    rw [e]; exact q
  | either s t ih1 ih2 =>
    intro k h Q q
    refine W_def (k := k + (s.cnt + t.cnt)) (d := ⟨1, 1, b_law_tuples⟩) rfl rfl ?_
    unfold b_law_tuples
    refine W.step ?_
    simp (decide := true) [NS.iv, ixI, seqOf, L2.atI, L2.ixN, cmpI, eqH_str, truI]
    refine Nxt.go ?_
    simp (decide := true) [ixI, seqOf, L2.atI, L2.ixN, cmpI, eqH_str, truI]
    refine W.step ?_
    simp [ixI, seqOf, L2.atI, L2.ixN]
    have ek1 : k + (s.cnt + t.cnt) = (k + t.cnt) + s.cnt := by omega
    have ek2 : k + (s.cnt + t.cnt) = (k + s.cnt) + t.cnt := by omega
    rw [ek1]
    refine ih1 ?_
    simp [W_add]
    rw [← ek1, ek2]
    refine ih2 ?_
    rw [W_add]
    have e : (1 : Int) + s.cnt + t.cnt = ((NS.either s t).cnt : Int) := by show _ = ((s.cnt + t.cnt + 1 : Nat) : Int); omega
    rw [e]; exact q
  | list xs => intro k h Q q; exact leafT ⟨_, _, rfl, by decide, by decide⟩ q
  | rests m rs => intro k h Q q; exact leafT ⟨_, _, rfl, by decide, by decide⟩ q
  | powers n => intro k h Q q; exact leafT ⟨_, _, rfl, by decide, by decide⟩ q
  | squares => intro k h Q q; exact leafT ⟨_, _, rfl, by decide, by decide⟩ q
  | primes => intro k h Q q; exact leafT ⟨_, _, rfl, by decide, by decide⟩ q
/-- the rests that are kept -/
structure RestI (ns : List Int) (B : Nat) (h0 : IH) (n : Nat) (acc : List IV) (h : IH) : Prop where
  ex : ∃ xs : List Int, acc = xs.map .int ∧ xs.length ≤ n ∧ xs.Pairwise (· < ·) ∧ (∀ x ∈ xs, 0 ≤ x ∧ x < n) ∧ Hand 0 1 ns (B + n) h ∧ UpE 1 h0 h
def leafR : Ss := (.cons (.ite (.or (.cmp .Eq (.var 2) (.con (.int 0))) (.cmp .Eq (.var 2) (.con (.int 5))))
    (.cons (.asg (.name 3) (.bin .Add (.con (.int 1)) (.call 11 (.cons (.var 0) (.cons (.ife (.cmp .Eq (.call 11 (.cons (.var 0) (.cons (.con (.int 3)) .nil))) (.con (.int 0))) (.con (.int 60)) (.con (.int 12))) .nil)))))
    (.cons (.asg (.name 4) (.bin .Add (.con (.int 1)) (.call 11 (.cons (.var 0) (.cons (.con (.int 4)) .nil)))))
    (.cons (.asg (.name 5) (.lc (.var 8) (.name 8) (.rng (.var 3)) (.som (.cmp .Eq (.call 11 (.cons (.var 0) (.cons (.var 4) .nil))) (.con (.int 0)))) [8]))
    (.cons (.ite (.cmp .Eq (.var 5) (.lst .nil))
      (.cons (.asg (.name 5) (.lst (.cons (.call 11 (.cons (.var 0) (.cons (.var 3) .nil))) .nil)))
      .nil)
      .nil)
    (.cons (.ret (.tup (.cons (.con (.str "rests")) (.cons (.var 3) (.cons (.blt .tuple (.cons (.var 5) .nil)) .nil)))))
    .nil)))))
    .nil)
  (.cons (.ite (.cmp .Eq (.var 2) (.con (.int 1)))
    (.cons (.asg (.name 6) (.ife (.cmp .Eq (.call 11 (.cons (.var 0) (.cons (.con (.int 2)) .nil))) (.con (.int 0))) (.con (.int 201)) (.con (.int 21))))
    (.cons (.asg (.name 7) (.lc (.bin .Sub (.call 11 (.cons (.var 0) (.cons (.var 6) .nil))) (.bin .FloorDiv (.var 6) (.con (.int 2)))) (.name 9) (.rng (.bin .Add (.con (.int 1)) (.call 11 (.cons (.var 0) (.cons (.con (.int 12)) .nil))))) .non [9]))
    (.cons (.ret (.tup (.cons (.con (.str "list")) (.cons (.blt .tuple (.cons (.sset (.var 7)) .nil)) .nil))))
    .nil)))
    .nil)
  (.cons (.ite (.cmp .Eq (.var 2) (.con (.int 2)))
    (.cons (.ret (.tup (.cons (.con (.str "powers")) (.cons (.bin .Add (.con (.int 2)) (.call 11 (.cons (.var 0) (.cons (.con (.int 9)) .nil)))) .nil))))
    .nil)
    .nil)
  (.cons (.ret (.ife (.cmp .Eq (.var 2) (.con (.int 3))) (.tup (.cons (.con (.str "squares")) .nil)) (.tup (.cons (.con (.str "primes")) .nil))))
  .nil))))
def leafL : Ss := (.cons (.asg (.name 7) (.lc (.bin .Sub (.call 11 (.cons (.var 0) (.cons (.var 6) .nil))) (.bin .FloorDiv (.var 6) (.con (.int 2)))) (.name 9) (.rng (.bin .Add (.con (.int 1)) (.call 11 (.cons (.var 0) (.cons (.con (.int 12)) .nil))))) .non [9]))
    (.cons (.ret (.tup (.cons (.con (.str "list")) (.cons (.blt .tuple (.cons (.sset (.var 7)) .nil)) .nil))))
    .nil))
def leafU : Ss := (.cons (.ret (.tup (.cons (.con (.str "rests")) (.cons (.var 3) (.cons (.blt .tuple (.cons (.var 5) .nil)) .nil)))))
    .nil)
def leafT2 : Ss := (.cons (.asg (.name 4) (.bin .Add (.con (.int 1)) (.call 11 (.cons (.var 0) (.cons (.con (.int 4)) .nil)))))
    (.cons (.asg (.name 5) (.lc (.var 8) (.name 8) (.rng (.var 3)) (.som (.cmp .Eq (.call 11 (.cons (.var 0) (.cons (.var 4) .nil))) (.con (.int 0)))) [8]))
    (.cons (.ite (.cmp .Eq (.var 5) (.lst .nil))
      (.cons (.asg (.name 5) (.lst (.cons (.call 11 (.cons (.var 0) (.cons (.var 3) .nil))) .nil)))
      .nil)
      .nil)
    leafU)))
def leafS : Ss := (.cons (.asg (.name 3) (.bin .Add (.con (.int 1)) (.call 11 (.cons (.var 0) (.cons (.ife (.cmp .Eq (.call 11 (.cons (.var 0) (.cons (.con (.int 3)) .nil))) (.con (.int 0))) (.con (.int 60)) (.con (.int 12))) .nil)))))
    leafT2)
def leafV : Ss := (.cons (.ite (.cmp .Eq (.var 2) (.con (.int 1)))
    (.cons (.asg (.name 6) (.ife (.cmp .Eq (.call 11 (.cons (.var 0) (.cons (.con (.int 2)) .nil))) (.con (.int 0))) (.con (.int 201)) (.con (.int 21))))
    (.cons (.asg (.name 7) (.lc (.bin .Sub (.call 11 (.cons (.var 0) (.cons (.var 6) .nil))) (.bin .FloorDiv (.var 6) (.con (.int 2)))) (.name 9) (.rng (.bin .Add (.con (.int 1)) (.call 11 (.cons (.var 0) (.cons (.con (.int 12)) .nil))))) .non [9]))
    (.cons (.ret (.tup (.cons (.con (.str "list")) (.cons (.blt .tuple (.cons (.sset (.var 7)) .nil)) .nil))))
    .nil)))
    .nil)
  (.cons (.ite (.cmp .Eq (.var 2) (.con (.int 2)))
    (.cons (.ret (.tup (.cons (.con (.str "powers")) (.cons (.bin .Add (.con (.int 2)) (.call 11 (.cons (.var 0) (.cons (.con (.int 9)) .nil)))) .nil))))
    .nil)
    .nil)
  (.cons (.ret (.ife (.cmp .Eq (.var 2) (.con (.int 3))) (.tup (.cons (.con (.str "squares")) .nil)) (.tup (.cons (.con (.str "primes")) .nil))))
  .nil)))
theorem leaf_rest {ns : List Int} {k B : Nat} {p : Bool} {r : Int} {h : IH} {Q : IV → IH → Prop} (r0 : 0 ≤ r) (r6 : r < 6) (rp : p = true → r < 2) (x : Hand 0 1 ns B h) (hB : B + 200 < 1000000)
    (q : ∀ (s : NS) h', (∀ f, s.ok 1 f p) → s.cnt = 1 → s.top ≤ 12 → Hand 0 1 ns (B + 79) h' → UpE 1 h h' → Q s.iv h') :
    Nxt (callF DD (k + 1)) leafR (fun fl h1 => match fl with | .nx _ => Q .non h1 | .ret v => Q v h1 | _ => False) (.nx [some (.ref 1), some (.bl p), some (.int r), none, none, none, none, none, none, none]) h := by
  have hLIM : LIM = 1000000 := rfl
  unfold leafR
  refine Nxt.go ?_
  by_cases c05 : r = 0 ∨ r = 5
  · have hbl : W (eSs (callF DD (k + 1)) leafS [some (.ref 1), some (.bl p), some (.int r), none, none, none, none, none, none, none] h) fun fl h1 => match fl with | .nx _ => False | .ret v => Q v h1 | _ => False := by
      unfold leafS
      refine W.step ?_
      simp
      refine draw1 (k := k) hdraw06 x (by omega) (by omega) (by omega) fun r2 h1 _ _ u1 x1 => ?_
      suffices rest : ∀ mx : Int, 1 ≤ mx → mx ≤ 60 → ∀ Q2 : IV → IH → Prop, (∀ r h', 0 ≤ r → r < mx → UpE 1 h1 h' → Hand 0 1 ns (B + 1 + 1) h' → Q2 (.int r) h') → W (callF DD (k + 1) 11 [.ref 1, .int mx] h1) Q2 by
        have go : ∀ (m : Int) h2, 1 ≤ m → m ≤ 60 → UpE 1 h1 h2 → Hand 0 1 ns (B + 2) h2 → Nxt (callF DD (k + 1)) leafT2 (fun fl h1 => match fl with | .nx _ => False | .ret v => Q v h1 | _ => False) (.nx [some (.ref 1), some (.bl p), some (.int r), some (.int m), none, none, none, none, none, none]) h2 := by
          intro m h2 m1 m2 u2 x2
          unfold leafT2
          refine Nxt.go ?_
          simp
          refine draw1 (k := k) hdraw06 x2 (by omega) (by omega) (by omega) fun kp h3 kp0 kp1 u3 x3 => ?_
          simp [W_add, tgI]
          refine Nxt.go ?_
          obtain ⟨M, rfl⟩ : ∃ M : Nat, m = M := ⟨m.toNat, by omega⟩
          simp [W_ite]
          refine ⟨by omega, ?_⟩
          have hwk : wkLen (.vals ((List.range M).map fun k : Nat => IV.int k)) h3 = ((List.range M).map fun k : Nat => IV.int k).length := rfl
          rw [hwk]
          refine W_lcV (RestI ns (B + 3) h3) ⟨[], rfl, Nat.le_refl _, .nil, fun _ m => (nomatch m), x3, .refl 1 h3⟩ ?_ ?_
          · rintro n y acc h4 hn ⟨xs, rfl, hl, hp, hb, x4, u4⟩
            obtain ⟨hn', rfl⟩ := range_at hn
            simp [tgI, wipeI]
            refine draw1 (k := k) hdraw06 x4 (by omega) (by omega) (by omega) fun z h5 _ _ u5 x5 => ?_
            simp [cmpI, truI]
            split
            · simp
              refine ⟨by omega, ⟨xs ++ [(n : Int)], by simp, by simp; omega, ?_, fun w hw => ?_, x5.mono (by omega), u4.trans u5⟩⟩
              · rw [List.pairwise_append]
                refine ⟨hp, List.pairwise_singleton .., fun a ha b hb2 => ?_⟩
                rw [List.mem_singleton.mp hb2]
                have := hb a ha; omega
              · rcases List.mem_append.mp hw with hw | hw
                · have := hb w hw; omega
                · rw [List.mem_singleton.mp hw]; omega
            · simp
              exact ⟨xs, rfl, by omega, hp, fun w hw => by have := hb w hw; omega, x5.mono (by omega), u4.trans u5⟩
          rintro acc h4 ⟨xs, rfl, hl, hp, hb, x4, u4⟩
          simp at hl x4 hb
          rw [W_newL (by simp; omega)]
          have hx := new_at h4 (.lst (xs.map .int))
          have x5 : Hand 0 1 ns (B + 63) (h4 ++ [.lst (xs.map .int)]) := (x4.up (.app h4 [.lst (xs.map .int)])).mono (by omega)
          have u5 : UpE 1 h (h4 ++ [.lst (xs.map .int)]) := (((u1.trans u2).trans u3).trans u4).trans ((Up.app h4 _).e 1)
          have zd : h4.length ≠ 1 := by obtain ⟨_, _, _, _, e, _⟩ := x4.hand; have := lt_of_at e; omega
          generalize h4 ++ [IO.lst (xs.map .int)] = h5 at hx x5 u5
          generalize h4.length = xp at hx zd
          simp [tgI]
          have fin : ∀ (ys : List Int) (yp : Nat) h6, h6[yp]? = some (.lst (ys.map .int)) → ys ≠ [] → ys.Pairwise (· < ·) → (∀ y ∈ ys, 0 ≤ y ∧ y < M) → ys.length ≤ 60 → Hand 0 1 ns (B + 64) h6 → UpE 1 h h6 → Nxt (callF DD (k + 1)) leafU (fun fl h1 => match fl with | .nx _ => False | .ret v => Q v h1 | _ => False) (.nx [some (.ref 1), some (.bl p), some (.int r), some (.int M), some (.int (1 + kp)), some (.ref yp), none, none, none, none]) h6 := by
            intro ys yp h6 hy y0 yw yb yl x6 u6
            unfold leafU
            refine Nxt.go ?_
            simp
            rw [W_tupleL hy]
            (try simp only [W_nilE])
            rw [W_newT (by simp [LIM])]
            (try simp)
            exact q (.rests M ys) _ (fun f => ⟨by decide, by omega, by omega, ⟨y0, yw, fun y hy => by have := yb y hy; omega⟩, yl⟩) rfl (by show 0 ≤ 12; decide) (x6.mono (by omega)) u6
          refine Nxt.go ?_
          simp
          rw [W_newL (by simp)]
          have hx2 := (Up.app h5 [IO.lst []]).at hx
          have he : (h5 ++ [IO.lst []])[h5.length]? = some (.lst (([] : List Int).map .int)) := new_at h5 (.lst [])
          have x6 := x5.up (.app h5 [IO.lst []])
          have u6 := u5.trans ((Up.app h5 [IO.lst []]).e 1)
          simp [cmpI, eq_lists hx2 he, truI]
          by_cases hz : xs = []
          · simp [hz]
            refine W.step ?_
            simp
            refine draw1 (k := k) hdraw06 x6 (by omega) (by omega) (by omega) fun z h7 z0 z1 u7 x7 => ?_
            rw [W_newL (by simp [LIM])]
            simp [tgI]
            exact fin [z] _ _ (new_at h7 (.lst [.int z])) (by simp) (List.pairwise_singleton ..) (fun y hy => by rw [List.mem_singleton.mp hy]; omega) (by simp) ((x7.up (.app h7 _)).mono (by omega)) ((u6.trans u7).trans ((Up.app h7 _).e 1))
          · simp [hz]
            exact fin xs xp _ hx2 hz hp hb (by omega) (x6.mono (by omega)) u6
        simp [cmpI, truI]
        split
        · refine rest 60 (by decide) (by decide) _ fun m h2 m0 m1 u2 x2 => ?_
          simp [W_add, tgI]
          exact go _ _ (by omega) (by omega) u2 x2
        · refine rest 12 (by decide) (by decide) _ fun m h2 m0 m1 u2 x2 => ?_
          simp [W_add, tgI]
          exact go _ _ (by omega) (by omega) u2 x2
      intro mx m1 m2 Q2 q2
      exact draw1 (k := k) hdraw06 x1 (by omega) (by omega) (by omega) q2
    have hbl2 : W (eSs (callF DD (k + 1)) leafS [some (.ref 1), some (.bl p), some (.int r), none, none, none, none, none, none, none] h) (Nxt (callF DD (k + 1)) leafV fun fl h1 => match fl with | .nx _ => Q .non h1 | .ret v => Q v h1 | _ => False) := hbl.imp fun fl h q => by
      cases fl with
      | ret v => exact q
      | nx _ => exact q.elim
      | bk _ => exact q.elim
      | ct _ => exact q.elim
    by_cases c0 : r = 0
    · simp [c0, cmpI, truI]
      rw [c0] at hbl2
      exact hbl2
    · have c5 : r = 5 := c05.resolve_left c0
      subst c5
      simp [cmpI, truI]
      exact hbl2
  · have c0 : r ≠ 0 := fun z => c05 (.inl z)
    have c5 : r ≠ 5 := fun z => c05 (.inr z)
    simp [cmpI, truI, c0, c5]
    refine Nxt.go ?_
    by_cases c1 : r = 1
    · subst c1
      simp [cmpI, truI]
      refine W.step ?_
      simp
      refine draw1 (k := k) hdraw06 x (by omega) (by omega) (by omega) fun r2 h1 _ _ u1 x1 => ?_
      have hw : ∃ wd : Int, 1 ≤ wd ∧ wd ≤ 201 ∧ ∀ Q : IV → IH → Prop, (Q (.int wd) h1 → W (if decide (r2 = 0) = true then (Out.ok (.int 201) h1) else Out.ok (.int 21) h1) Q) := by
        by_cases z : r2 = 0
        · exact ⟨201, by decide, by decide, fun Q q => by simp [z, q]⟩
        · exact ⟨21, by decide, by decide, fun Q q => by simp [z, q]⟩
      suffices rest : ∀ wd : Int, 1 ≤ wd → wd ≤ 201 → Nxt (callF DD (k + 1)) leafL (fun fl h1 => match fl with | .nx _ => False | .ret v => Q v h1 | _ => False) (.nx [some (.ref 1), some (.bl p), some (.int 1), none, none, none, some (.int wd), none, none, none]) h1 by
        simp [cmpI, truI]
        split
        · simp [tgI]
          exact (rest 201 (by decide) (by decide)).imp fun fl h q => by cases fl <;> first | exact q | exact q.elim
        · simp [tgI]
          exact (rest 21 (by decide) (by decide)).imp fun fl h q => by cases fl <;> first | exact q | exact q.elim
      intro wd w1 w2
      unfold leafL
      refine Nxt.go ?_
      simp
      refine draw1 (k := k) hdraw06 x1 (by omega) (by omega) (by omega) fun c h4 c0 c1 u4 x4 => ?_
      obtain ⟨N, rfl⟩ : ∃ N : Nat, c = N := ⟨c.toNat, by omega⟩
      have eN : (1 + (N : Int)).toNat = N + 1 := by omega
      simp [W_add, W_ite, eN]
      refine ⟨by omega, ?_⟩
      refine row_lc (k := k) (B := B + 1 + 1) (wd := wd) (by simp) rfl rfl (by decide) (by decide) x4 (by omega) (by omega) w1 w2 fun xs h5 hl hb x5 u5 => ?_
      rw [W_newL (by simp [LIM]; omega)]
      have hx := new_at h5 (.lst (xs.map .int))
      have x6 := x5.up (.app h5 [.lst (xs.map .int)])
      have u6 : UpE 1 h (h5 ++ [.lst (xs.map .int)]) := ((u1.trans u4).trans u5).trans ((Up.app h5 _).e 1)
      generalize h5 ++ [IO.lst (xs.map .int)] = h6 at hx x6 u6
      generalize h5.length = xp at hx
      simp [tgI]
      refine Nxt.go ?_
      simp
      refine (W_ssetL hx (by omega)).mpr ?_
      rw [W_tupleL (new_at _ _)]
      (try simp only [W_nilE])
      rw [W_newT (by simp [LIM])]
      (try simp)
      have l12 := (sst_mem xs).2.2
      exact q (.list (sst xs)) _ (fun f => ⟨by decide, sst_asc (fun z => by rw [z] at hl; simp at hl) hb, by omega⟩) rfl (by show (sst xs).length ≤ 12; omega) ((x6.up (.app h6 _)).mono (by omega)) (u6.trans ((Up.app h6 _).e 1))
    · have pf : p = false := by
        cases p with
        | false => rfl
        | true => have := rp rfl; omega
      subst pf
      simp [cmpI, truI, c1]
      refine Nxt.go ?_
      by_cases c2 : r = 2
      · subst c2
        simp [cmpI, truI]
        refine W.step ?_
        simp
        refine draw1 (k := k) hdraw06 x (by omega) (by omega) (by omega) fun n h1 n0 n1 u1 x1 => ?_
        rw [W_add]
        rw [W_newT (by simp [LIM])]
        (try simp)
        exact q (.powers (2 + n)) _ (fun f => ⟨by decide, by omega, by omega, rfl⟩) rfl (by show 0 ≤ 12; decide) (x1.mono (by omega)) u1
      · simp [cmpI, truI, c2]
        refine Nxt.go ?_
        by_cases c3 : r = 3
        · subst c3
          simp [cmpI, truI]
          rw [W_newT (by simp [LIM])]
          exact q .squares _ (fun f => ⟨by decide, rfl⟩) rfl (by decide) (x.mono (by omega)) (.refl 1 h)
        · simp [cmpI, truI, c3]
          rw [W_newT (by simp [LIM])]
          exact q .primes _ (fun f => ⟨by decide, rfl⟩) rfl (by decide) (x.mono (by omega)) (.refl 1 h)
end Pi
end

section
set_option maxHeartbeats 8000000
namespace Pi
open PySem
theorem g_leaf {ns : List Int} {k B : Nat} {p : Bool} {h : IH} {Q : IV → IH → Prop} (x : Hand 0 1 ns B h) (hB : B + 300 < 1000000)
    (q : ∀ (s : NS) h', (∀ f, s.ok 1 f p) → s.cnt = 1 → s.top ≤ 12 → Hand 0 1 ns (B + 80) h' → UpE 1 h h' → Q s.iv h') : W (callF DD (k + 2) 12 [.ref 1, .bl p] h) Q := by
  refine W_def (k := k + 1) (d := ⟨2, 10, b_law_leaf⟩) rfl rfl ?_
  unfold b_law_leaf
  refine W.step ?_
  cases p with
  | true =>
    simp [truI]
    refine draw1 (k := k) hdraw06 x (by omega) (by omega) (by omega) fun r h1 r0 r1 u1 x1 => ?_
    simp [tgI]
    exact leaf_rest (k := k) r0 (by omega) (fun _ => r1) x1 (by omega) fun s h' o c t x' u' => q s h' o c t (x'.mono (by omega)) (u1.trans u')
  | false =>
    simp [truI]
    refine draw1 (k := k) hdraw06 x (by omega) (by omega) (by omega) fun r h1 r0 r1 u1 x1 => ?_
    simp [tgI]
    exact leaf_rest (k := k) r0 r1 (fun z => by cases z) x1 (by omega) fun s h' o c t x' u' => q s h' o c t (x'.mono (by omega)) (u1.trans u')
def setM2 : Ss := (.cons (.asg (.name 7) (.bin .Sub (.call 11 (.cons (.var 0) (.cons (.con (.int 401)) .nil))) (.con (.int 200))))
    (.cons (.ret (.tup (.cons (.con (.str "moved")) (.cons (.call 14 (.cons (.var 0) (.cons (.bin .Sub (.var 1) (.con (.int 1))) (.cons (.bin .Sub (.var 2) (.con (.int 1))) (.cons (.bin .Mult (.var 3) (.var 6)) (.cons (.var 4) .nil)))))) (.cons (.var 6) (.cons (.var 7) .nil))))))
    .nil))
def setM : Ss := (.cons (.asg (.name 6) (.bin .Add (.con (.int 1)) (.call 11 (.cons (.var 0) (.cons (.blt .min (.cons (.con (.int 20)) (.cons (.bin .FloorDiv (.con (.int 400)) (.blt .abs (.cons (.var 3) .nil))) .nil))) .nil)))))
    (.cons (.ite (.cmp .Eq (.call 11 (.cons (.var 0) (.cons (.con (.int 2)) .nil))) (.con (.int 1)))
      (.cons (.asg (.name 6) (.neg (.var 6)))
      .nil)
      .nil)
    setM2))
def setE : Ss := (.cons (.asg (.name 8) (.call 14 (.cons (.var 0) (.cons (.bin .Sub (.var 1) (.con (.int 1))) (.cons (.bin .Sub (.var 2) (.con (.int 2))) (.cons (.var 3) (.cons (.con (.bl true)) .nil)))))))
  (.cons (.asg (.name 9) (.call 14 (.cons (.var 0) (.cons (.bin .Sub (.var 1) (.con (.int 1))) (.cons (.bin .Sub (.bin .Sub (.var 2) (.con (.int 1))) (.call 13 (.cons (.var 8) .nil))) (.cons (.var 3) (.cons (.con (.bl true)) .nil)))))))
  (.cons (.ret (.tup (.cons (.con (.str "either")) (.cons (.var 8) (.cons (.var 9) .nil)))))
  .nil)))
theorem g_set (ns : List Int) : ∀ (lv : Nat) {k B room : Nat} {f : Int} {p : Bool} {h : IH} {Q : IV → IH → Prop}, 1 ≤ lv → lv ≤ 3 → room ≤ 5 → Hand 0 1 ns B h → B + 100 * room + 600 < 1000000 → f ≠ 0 → f.natAbs ≤ 400 →
    (∀ (s : NS) h', s.ok lv f p → s.cnt ≤ max room 1 → s.top ≤ 12 * s.cnt → Hand 0 1 ns (B + 100 * s.cnt) h' → UpE 1 h h' → Q s.iv h') → W (callF DD (k + (lv + 8)) 14 [.ref 1, .int lv, .int room, .int f, .bl p] h) Q := by
  intro lv
  induction lv with
  | zero => intro k B room f p h Q l1; omega
  | succ n ih =>
    intro k B room f p h Q l1 l3 r5 x hB f0 f4 q
    refine W_def (k := k + (n + 8)) (d := ⟨5, 10, b_law_set⟩) rfl rfl ?_
    unfold b_law_set
    refine W.step ?_
    simp
    refine draw1 (k := k + (n + 7)) hdraw06 x (by omega) (by omega) (by omega) fun r h1 r0 r1 u1 x1 => ?_
    simp [tgI]
    refine Nxt.go ?_
    have leafc : ∀ Q2 : IV → IH → Prop, (∀ v h', Q v h' → Q2 v h') → W (callF DD (k + (n + 8)) 12 [.ref 1, .bl p] h1) Q2 := fun Q2 k2 =>
      g_leaf (k := k + (n + 6)) x1 (by omega) fun s h' o c t x' u' => k2 _ _ (q s h' (ok_up (o f) (by omega)) (by omega) (by omega) (x'.mono (by omega)) (u1.trans u'))
    by_cases a1 : (n : Int) + 1 ≤ 1
    · simp [cmpI, truI, a1]
      refine W.step ?_
      simp
      exact leafc _ fun v h' q => q
    by_cases a2 : (room : Int) ≤ 1
    · simp [cmpI, truI, a1, a2]
      refine W.step ?_
      simp
      exact leafc _ fun v h' q => q
    by_cases a3 : r < 4
    · simp [cmpI, truI, a1, a2, a3]
      refine W.step ?_
      simp
      exact leafc _ fun v h' q => q
    simp [cmpI, truI, a1, a2, a3]
    refine Nxt.go ?_
    have e1 : ((n : Int) + 1 - 1) = (n : Int) := by omega
    have mvd : W (eSs (callF DD (k + (n + 8))) setM [some (.ref 1), some (.int ((n : Int) + 1)), some (.int room), some (.int f), some (.bl p), some (.int r), none, none, none, none] h1) fun fl h1 => match fl with | .nx _ => False | .ret v => Q v h1 | _ => False := by
      unfold setM
      refine W.step ?_
      have fp : (0 : Int) < f.natAbs := by omega
      simp
      rw [W_div64 (by omega) (by omega)]
      simp
      have mn : 1 ≤ min 20 (400 / (f.natAbs : Int)) := by
        have : 1 ≤ 400 / (f.natAbs : Int) := by
          apply Int.le_ediv_of_mul_le (by omega); omega
        omega
      refine draw1 (k := k + (n + 7)) hdraw06 x1 (by omega) mn (by omega) fun a h2 a0 aM u2 x2 => ?_
      have fa : (f * (1 + a)).natAbs ≤ 400 := by
        rw [Int.natAbs_mul]
        have h3 : 1 + a ≤ 400 / (f.natAbs : Int) := by omega
        have h4 := Int.mul_le_of_le_ediv (show (0 : Int) < f.natAbs by omega) h3
        have h5 : ((1 + a).natAbs : Int) = 1 + a := by omega
        have h6 : ((f.natAbs * (1 + a).natAbs : Nat) : Int) ≤ 400 := by
          rw [Int.natCast_mul, h5, Int.mul_comm]; exact h4
        omega
      simp [W_add, tgI]
      have fin : ∀ a : Int, -20 ≤ a → a ≤ 20 → a ≠ 0 → (f * a).natAbs ≤ 400 → ∀ h3, Hand 0 1 ns (B + 3) h3 → UpE 1 h h3 → Nxt (callF DD (k + (n + 8))) setM2 (fun fl h1 => match fl with | .nx _ => False | .ret v => Q v h1 | _ => False)
          (.nx [some (.ref 1), some (.int ((n : Int) + 1)), some (.int room), some (.int f), some (.bl p), some (.int r), some (.int a), none, none, none]) h3 := by
        intro a w1 w2 w0 fa h3 x3 u3
        unfold setM2
        refine Nxt.go ?_
        simp
        refine draw1 (k := k + (n + 7)) hdraw06 x3 (by omega) (by omega) (by omega) fun b h4 b0 b1 u4 x4 => ?_
        simp [W_sub, tgI]
        refine Nxt.go ?_
        simp [W_sub]
        rw [W_mul (small64 (by omega)) (small64 (by omega))]
        have er : ((room : Int) - 1) = ((room - 1 : Nat) : Int) := by omega
        rw [er]
        refine ih (by omega) (by omega) (by omega) x4 (by omega) (fun z => by rcases Int.mul_eq_zero.mp z with z | z <;> omega) fa fun s h5 o c t x5 u5 => ?_
        rw [W_newT (by simp [LIM])]
        (try simp)
        exact q (.moved s a (b - 200)) h5 ⟨w1, w2, w0, by omega, by omega, fa, o⟩ (by show s.cnt + 1 ≤ _; omega) (by show s.top ≤ 12 * (s.cnt + 1); omega) (x5.mono (by show _ ≤ B + 100 * (s.cnt + 1); omega)) ((u3.trans u4).trans u5)
      refine Nxt.go ?_
      simp
      refine draw1 (k := k + (n + 7)) hdraw06 x2 (by omega) (by omega) (by omega) fun z h3 z0 z1 u3 x3 => ?_
      simp [cmpI, truI]
      split
      · refine W.step ?_
        simp [tgI]
        exact fin (-(1 + a)) (by omega) (by omega) (by omega) (by rw [Int.mul_neg, Int.natAbs_neg]; exact fa) h3 (x3.mono (by omega)) ((u1.trans u2).trans u3)
      · exact fin (1 + a) (by omega) (by omega) (by omega) fa h3 (x3.mono (by omega)) ((u1.trans u2).trans u3)
    have mvd2 : W (eSs (callF DD (k + (n + 8))) setM [some (.ref 1), some (.int ((n : Int) + 1)), some (.int room), some (.int f), some (.bl p), some (.int r), none, none, none, none] h1) (Nxt (callF DD (k + (n + 8))) setE fun fl h1 => match fl with | .nx _ => Q .non h1 | .ret v => Q v h1 | _ => False) := mvd.imp fun fl h q => by
      cases fl with
      | ret v => exact q
      | nx _ => exact q.elim
      | bk _ => exact q.elim
      | ct _ => exact q.elim
    by_cases b1 : r < 6
    · simp [cmpI, truI, b1]
      exact mvd2
    by_cases b2 : (room : Int) < 3
    · simp [cmpI, truI, b1, b2]
      exact mvd2
    simp [cmpI, truI, b1, b2]
    show Nxt _ setE _ _ _
    unfold setE
    refine Nxt.go ?_
    have er : ((room : Int) - 2) = ((room - 2 : Nat) : Int) := by omega
    simp [W_sub]
    rw [er]
    refine ih (by omega) (by omega) (by omega) x1 (by omega) f0 f4 fun s h2 o1 c1 t1 x2 u2 => ?_
    simp [tgI]
    refine Nxt.go ?_
    simp [W_sub]
    have ek : k + (n + 8) = (k + (n + 8) - s.cnt) + s.cnt := by omega
    rw [ek]
    refine ns_tup13 ?_
    rw [← ek]
    have er2 : ((room : Int) - 1 - s.cnt) = ((room - 1 - s.cnt : Nat) : Int) := by omega
    simp [W_sub]
    rw [er2]
    refine ih (by omega) (by omega) (by omega) x2 (by omega) f0 f4 fun t h3 o2 c2 t2 x3 u3 => ?_
    simp [tgI]
    refine Nxt.go ?_
    simp
    rw [W_newT (by simp [LIM])]
    have := ns_cnt t
    exact q (.either s t) h3 ⟨o1, o2⟩ (by show s.cnt + t.cnt + 1 ≤ _; omega) (by show s.top + t.top ≤ 12 * (s.cnt + t.cnt + 1); omega) (x3.mono (by show _ ≤ B + 100 * (s.cnt + t.cnt + 1); omega)) ((u1.trans u2).trans u3)
end Pi
end

section
set_option maxHeartbeats 8000000
namespace Pi
open PySem
theorem ns_plain {s : NS} : ∀ {l : Nat} {f : Int} {p : Bool}, s.ok l f p → s.ok l f false := by
  induction s with
  | moved s a b ih =>
    intro l f p ho
    cases l with
    | zero => simp [NS.ok] at ho
    | succ l => obtain ⟨h1, h2, h3, h4, h5, h6, h7⟩ := ho; exact ⟨h1, h2, h3, h4, h5, h6, ih h7⟩
  | either s t ih1 ih2 =>
    intro l f p ho
    cases l with
    | zero => simp [NS.ok] at ho
    | succ l => exact ho
  | rests m rs => intro l f p ho; exact ho
  | list xs => intro l f p ho; exact ho
  | powers n => intro l f p ho; exact ⟨ho.1, ho.2.1, ho.2.2.1, rfl⟩
  | squares => intro l f p ho; exact ⟨ho.1, rfl⟩
  | primes => intro l f p ho; exact ⟨ho.1, rfl⟩
def turnR : Ss := (.cons (.asg (.name 4) (.call 16 (.cons (.var 3) .nil)))
    (.cons (.asg (.name 5) (.call 9 (.cons (.var 3) .nil)))
    (.cons (.ite (.and (.cmp .Is (.var 4) (.con .non)) (.cmp .IsNot (.var 5) (.con .non)))
      (.cons (.ret (.con (.bl false)))
      .nil)
      .nil)
    (.cons (.ite (.and (.cmp .IsNot (.var 4) (.con .non)) (.or (.not (.isi (.var 5) .int)) (.or (.isi (.var 5) .bool) (.cmp .NotEq (.var 5) (.blt .len (.cons (.blt .set (.cons (.var 4) .nil)) .nil))))))
      (.cons (.ret (.con (.bl false)))
      .nil)
      .nil)
    .nil))))
def turnS : Ss := (.cons (.ite (.cmp .Gt (.call 11 (.cons (.var 1) (.cons (.con (.int 4)) .nil))) (.con (.int 0)))
      (.cons (.asg (.name 3) (.call 15 (.cons (.var 1) (.cons (.con (.int 4)) (.cons (.con (.int 1)) .nil)))))
      .nil)
      (.cons (.asg (.name 3) (.call 14 (.cons (.var 1) (.cons (.con (.int 3)) (.cons (.con (.int 5)) (.cons (.con (.int 1)) (.cons (.cmp .Eq (.call 11 (.cons (.var 1) (.cons (.con (.int 2)) .nil))) (.con (.int 0))) .nil)))))))
      .nil))
    turnR)
theorem m_turn06 {ns : List Int} {n : Nat} {t a3 a4 a5 : Option IV} {h : IH} {Q : Fl → IH → Prop} (hn : n ≤ 66) (x : Hand 0 1 ns (700 * n) h)
    (q : ∀ a3 a4 a5 h', Hand 0 1 ns (700 * (n + 1)) h' → Q (.nx [some (.lsr (ns.map .int)), some (.ref 1), t, a3, a4, a5]) h') :
    W (eSs (callF DD 59) turnS [some (.lsr (ns.map .int)), some (.ref 1), t, a3, a4, a5] h) Q := by
  have rest : ∀ (s : NS) h1, s.ok 6 1 false → s.cnt ≤ 12 → s.top < 64 → Hand 0 1 ns (700 * n + 600) h1 → Nxt (callF DD 59) turnR Q (.nx [some (.lsr (ns.map .int)), some (.ref 1), t, some s.iv, a4, a5]) h1 := by
    intro s h1 ho hc ht x1
    unfold turnR
    refine Nxt.go ?_
    simp
    have ek : 59 = (59 - s.cnt) + s.cnt := by omega
    rw [ek]
    refine ns_all ho hc ht fun v h2 u2 r2 => ?_
    rw [← ek]
    simp [tgI]
    refine Nxt.go ?_
    simp
    refine ns_size (k := 44) ho hc ht fun w h3 u3 r3 => ?_
    have r2 := r2.up u3
    have x3 := (x1.up u2).up u3
    simp [tgI]
    rcases fin_all ho with ⟨e1, e2⟩ | ⟨F, L, e1, e2, pm, nd, ln, bd⟩
    · rw [e2] at r2
      rw [e1] at r3
      have r2 : v = .non := r2
      have r3 : w = .non := r3
      subst r2 r3
      refine Nxt.go ?_
      simp [cmpI, IV.isNon, truI]
      refine Nxt.go ?_
      simp [cmpI, IV.isNon, truI]
      exact q _ _ _ _ (x3.mono (by omega))
    · rw [e2] at r2
      rw [e1] at r3
      obtain ⟨i, rfl, hi⟩ := r2
      have r3 : w = .int F.length := r3
      subst r3
      refine Nxt.go ?_
      simp [cmpI, IV.isNon, truI]
      refine Nxt.go ?_
      simp [cmpI, IV.isNon, truI, isIH]
      rw [W_setOf hi (by omega)]
      have hs := new_at h3 (.set (ded L))
      have x4 := x3.up (.app h3 [.set (ded L)])
      generalize h3 ++ [IO.set (ded L)] = h4 at hs x4
      have dl : (ded L).length = F.length := by
        have h1 := ded_lt L
        have h2 := ded_le L
        have h3 := pm.length_eq
        have h4 : ¬ (ded L).length < L.length := fun z => (h1.mp z) nd
        omega
      have hFL := pm.length_eq
      have hDL := ded_le L
      have hLIM : LIM = 1000000 := rfl
      rw [W_lenSet hs (by omega)]
      simp [cmpI, truI, dl]
      exact q _ _ _ _ (x4.mono (by omega))
  unfold turnS
  refine W.step ?_
  simp
  refine draw1 (k := 58) hdraw06 x (by omega) (by omega) (by omega) fun r h1 r0 r1 u1 x1 => ?_
  simp [cmpI, truI]
  split
  · refine W.step ?_
    simp
    refine g_finite ns 4 (k := 52) (by omega) x1 (by have : CC 4 = 9 := rfl; omega) (by decide) (by decide) fun s h2 o c tp x2 u2 => ?_
    have c9 : CC 4 = 9 := rfl
    have t5 : TC 4 = 5 := rfl
    simp [tgI]
    exact rest s h2 (o false) (by omega) (by omega) (x2.mono (by omega))
  · refine W.step ?_
    simp
    refine draw1 (k := 58) hdraw06 x1 (by omega) (by omega) (by omega) fun z h2 z0 z1 u2 x2 => ?_
    simp [cmpI]
    refine g_set ns 3 (k := 48) (room := 5) (by omega) (by omega) (by omega) x2 (by omega) (by decide) (by decide) fun s h3 o c tp x3 u3 => ?_
    simp [tgI]
    have c5 : s.cnt ≤ 5 := c
    exact rest s h3 (ok_up (ns_plain o) (by omega)) (by omega) (by omega) (x3.mono (by omega))
theorem math06 (ns : List Int) (hl : ns.length ≤ 63) : ∃ h', callF DD 60 17 [.lsr (ns.map IV.int)] [] = .ok (.bl true) h' := by
  suffices w : W (callF DD (59 + 1) 17 [.lsr (ns.map IV.int)] []) fun v _ => v = .bl true by
    obtain ⟨v, h, e, rfl⟩ := w
    exact ⟨h, e⟩
  refine W_def (d := ⟨1, 6, b_law⟩) rfl rfl ?_
  unfold b_law
  refine W.step ?_
  simp [tgI]
  refine m_handS hl fun h1 x1 => ?_
  refine Nxt.go ?_
  simp [W_add, W_ite]
  refine ⟨by omega, ?_⟩
  obtain ⟨N, hN⟩ : ∃ N : Nat, N = (3 + (ns.length : Int)).toNat := ⟨_, rfl⟩
  rw [← hN]
  refine W_forV (fun m σ h4 => ∃ a2 a3 a4 a5, σ = [some (.lsr (ns.map .int)), some (.ref 1), a2, a3, a4, a5] ∧ Hand 0 1 ns (700 * m) h4) ⟨_, _, _, _, rfl, x1⟩ ?_ ?_
  · rintro m y σ h4 hm ⟨a2, a3, a4, a5, rfl, x4⟩
    obtain ⟨hm, rfl⟩ := range_at hm
    refine ⟨_, rfl, ?_⟩
    exact m_turn06 (n := m) (by omega) x4 fun a3 a4 a5 h' x' => ⟨_, _, _, _, rfl, x'⟩
  · rintro σ h4 ⟨a2, a3, a4, a5, rfl, x4⟩
    refine Nxt.go ?_
    simp
end Pi
end
open PySem PySem.W PyProof.Rows
set_option maxHeartbeats 0 in
theorem PySem.Challenge.cw_wholeon_k06_sizes_of_sets_holds : PySem.Challenge.rw_wholeon_k06_sizes_of_sets.Holds := by
  w_on; o_law; k_head; (case hw => w_witness2)
  k_fill
  refine Pi.pi_walk (ents := Pi.EE) (dfs := Pi.DD) (G := Pi.GG) (T := Pi.TT) (x := "_law_script") (e := Pi.e_law) 60 17 rfl rfl ⟨rfl, by decide, by decide⟩ (fun w h Y => PySem.W.kIn_of Y) Pi.hdLaw Pi.hcLaw rfl rfl rfl ?F Pi.math06
  intro w mg h KX N Xp
  refine ⟨?G, ?T, ?B, ?O, ?E⟩
  case G =>
    unfold Pi.GG
    refine Pi.g_cons (by first | exact ⟨_, PySem.W.mg_of KX N (by k_is)⟩ | exact Pi.g_loose Xp.2 (by simp)) ?_
    refine Pi.g_cons (by first | exact ⟨_, PySem.W.mg_of KX N (by k_is)⟩ | exact Pi.g_loose Xp.2 (by simp)) ?_
    refine Pi.g_cons (by first | exact ⟨_, PySem.W.mg_of KX N (by k_is)⟩ | exact Pi.g_loose Xp.2 (by simp)) ?_
    exact Pi.g_nil
  case T =>
    unfold Pi.TT
    exact Pi.t_nil
  case B =>
    intro b
    cases b <;> exact PySem.W.mg_none_of KX N (by k_is)
  case O =>
    unfold Pi.others
    repeat (refine Pi.n_cons (PySem.W.mg_none_of KX N (by k_is)) ?_)
    exact Pi.n_nil
  case E =>
    unfold Pi.EE
    refine Pi.h_cons (Pi.has_mk (by k_is) (by k_is) (by k_is) (by k_is) (fun _ _ _ _ _ _ us hl => match us, hl with | [_], _ => rfl) Pi.w_nil) ?_
    refine Pi.h_cons (Pi.has_mk (by k_is) (by k_is) (by k_is) (by k_is) (fun _ _ _ _ _ _ us hl => match us, hl with | [_, _, _], _ => rfl) Pi.w_nil) ?_
    refine Pi.h_cons (Pi.has_mk (by k_is) (by k_is) (by k_is) (by k_is) (fun _ _ _ _ _ _ us hl => match us, hl with | [_], _ => rfl) Pi.w_nil) ?_
    refine Pi.h_cons (Pi.has_mk (by k_is) (by k_is) (by k_is) (by k_is) (fun _ _ _ _ _ _ us hl => match us, hl with | [_, _, _], _ => rfl) Pi.w_nil) ?_
    refine Pi.h_cons (Pi.has_mk (by k_is) (by k_is) (by k_is) (by k_is) (fun _ _ _ _ _ _ us hl => match us, hl with | [_, _], _ => rfl) Pi.w_nil) ?_
    refine Pi.h_cons (Pi.has_mk (by k_is) (by k_is) (by k_is) (by k_is) (fun _ _ _ _ _ _ us hl => match us, hl with | [_], _ => rfl) Pi.w_nil) ?_
    refine Pi.h_cons (Pi.has_mk (by k_is) (by k_is) (by k_is) (by k_is) (fun _ _ _ _ _ _ us hl => match us, hl with | [_, _, _, _], _ => rfl) Pi.w_nil) ?_
    refine Pi.h_cons (Pi.has_mk (by k_is) (by k_is) (by k_is) (by k_is) (fun _ _ _ _ _ _ us hl => match us, hl with | [_], _ => rfl) Pi.w_nil) ?_
    refine Pi.h_cons (Pi.has_mk (by k_is) (by k_is) (by k_is) (by k_is) (fun _ _ _ _ _ _ us hl => match us, hl with | [_], _ => rfl) Pi.w_nil) ?_
    refine Pi.h_cons (Pi.has_mk (by k_is) (by k_is) (by k_is) (by k_is) (fun _ _ _ _ _ _ us hl => match us, hl with | [_], _ => rfl) Pi.w_nil) ?_
    refine Pi.h_cons (Pi.has_mk (by k_is) (by k_is) (by k_is) (by k_is) (fun _ _ _ _ _ _ us hl => match us, hl with | [_], _ => rfl) Pi.w_nil) ?_
    refine Pi.h_cons (Pi.has_mk (by k_is) (by k_is) (by k_is) (by k_is) (fun _ _ _ _ _ _ us hl => match us, hl with | [_, _], _ => rfl) Pi.w_nil) ?_
    refine Pi.h_cons (Pi.has_mk (by k_is) (by k_is) (by k_is) (by k_is) (fun _ _ _ _ _ _ us hl => match us, hl with | [_, _], _ => rfl) Pi.w_nil) ?_
    refine Pi.h_cons (Pi.has_mk (by k_is) (by k_is) (by k_is) (by k_is) (fun _ _ _ _ _ _ us hl => match us, hl with | [_], _ => rfl) Pi.w_nil) ?_
    refine Pi.h_cons (Pi.has_mk (by k_is) (by k_is) (by k_is) (by k_is) (fun _ _ _ _ _ _ us hl => match us, hl with | [_, _, _, _, _], _ => rfl) Pi.w_nil) ?_
    refine Pi.h_cons (Pi.has_mk (by k_is) (by k_is) (by k_is) (by k_is) (fun _ _ _ _ _ _ us hl => match us, hl with | [_, _, _], _ => rfl) Pi.w_nil) ?_
    refine Pi.h_cons (Pi.has_mk (by k_is) (by k_is) (by k_is) (by k_is) (fun _ _ _ _ _ _ us hl => match us, hl with | [_], _ => rfl) Pi.w_nil) ?_
    refine Pi.h_cons (Pi.has_mk (by k_is) (by k_is) (by k_is) (by k_is) (fun _ _ _ _ _ _ us hl => match us, hl with | [_], _ => rfl) Pi.w_nil) ?_
    exact Pi.h_nil
