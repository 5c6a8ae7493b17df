import PyProof.Rows.All
import Wide.All
import OpenK.AllK
import Wide.FinOn
import HandS.SetFor
import KE.GoesMore
import KE.GoesEnum
import HandS.Iter
import KE.SortData
import KE.DataEq
import KE.KDictKeyed
import KE.KeyNested
import HandS.ForMost
import HandS.ForExc
import HandS.Defaults
import HandS.Property
import HandS.OwnEq
import HandS.TupSets
import HandS.Codes
import HandS.Strs
import HandS.TupAny
import HandS.TupMul
import KE.KDictCopyH
import HandS.More
import HandS.TupLen
import HandS.IsInst
import PyProof.InstEq
import KE.KDictDisplayH
import HandS.Style
import HandS.Comp
import HandS.Head0
import HandS.Head1
import HandS.Head2
import HandS.HeadEnd
import HandS.HeadHook1
import HandS.HeadHook2
import KE.KStateDown
import Lean
import PySem.Challenge.RW_tworivals_k86_whole_readers_of_both
set_option Elab.async false
set_option linter.all false
set_option maxRecDepth 100000
section
set_option maxHeartbeats 4000000
/-! EvL: sets. -/
namespace Ev
open PySem PySem.Spec PyProof.Rows L2
/-- an empty set, as the call makes it -/
def nuSet (w : World) : Obj := { cls := .type "set", dict := none, data := .set #[] 0 (.fresh 0 0 (!w.params.followText "set-order")) }
section
variable {P : Program} {w : World} {A : Around} {E : Value → Shared → Prop} {s : Shared}
/-- set(xs), a list of ints -/
theorem set_of_ints {l : Addr} {items : Array Value} (ns : List Int) {Q : Value → Shared → Prop} (hh : A.handled = none) (hl : s.heap.IsList l items) (hit : IntsAre items.toList ns) (hb : ns.length + 1 < scanBound)
    (h : ∀ (h' : Heap) (k c : Nat), SetR w h' s.heap.objs.size (fun j => decide (j ∈ ns)) c → (∀ b o, s.heap.get? b = some o → h'.get? b = some o) → Q (.ref s.heap.objs.size) { s with heap := h', toks := k }) :
    wpAny (model P w) A (call (.type "set") [.ref l]) Q E s := by
  have lenE : items.size = ns.length := by have := hit.length; rwa [Array.length_toList] at this
  obtain ⟨c0, t0, mro0⟩ := F.called_set.mro
  have made0 := F.called_set.made; have sub0 := F.called_set.sub
  refine wpAny_call <| codeAny_of_tree ?_
  show wpAny _ _ (callAny (.type "set") _) _ _ _
  refine wpAny_pure <| And.intro (Code.quiet_builtin _ <| by decide +kernel) <| codeAny_builtin F.entry_type_call ?_
  rw [Around.under_plain (weight_type_call_type "set" [Value.ref l] []) rfl]
  have nt0 := F.called_set.notType; have cr0 := F.called_set.canCreate
  have tc0 := F.typeCall_set_1 (.ref l)
  repeat (any_goals (first | assumption | wp_step))
  have atS : (s.heap.push (nuSet w)).get? s.heap.objs.size = some (nuSet w) := Heap.get?_push_size _ rfl
  refine codeAny_mono (code_set_led1 (.ref l) (E := E) (Q₁ := fun v t => v = .ref s.heap.objs.size ∧ t = { s with heap := s.heap.push (nuSet w) }) (And.intro rfl rfl)) fun r t ht => ?_
  rcases r with e | fl
  case error => exact ht
  case ok =>
    cases fl with
    | ret v =>
      obtain ⟨rfl, rfl⟩ := ht
      have tyS : Shared.TypeIs { s with heap := s.heap.push (nuSet w) } (.ref s.heap.objs.size) "set" := ⟨_, atS, rfl⟩
      have li0 := F.called_set.init.lookup; have bi0 := F.called_set.init.bind (.ref s.heap.objs.size)
      repeat (any_goals (first | assumption | wp_step))
      refine codeAny_mono (codeAny_call_builtin (R := wants (fun r t => r = .none ∧ ∃ h' k c, t = { s with heap := h', toks := k } ∧ SetR w h' s.heap.objs.size (fun j => decide (j ∈ ns)) c ∧ ∀ b o, s.heap.get? b = some o → h'.get? b = some o) E)
        F.called_set.init.plain F.entry_set_init (check_set_init_1 tyS ?_)) fun r2 t2 ht2 => ?_
      · obtain ⟨⟨lc, ld, lx, lsl⟩, atL, lcls, nl, ldat⟩ := hl
        simp only at lcls ldat
        subst lcls ldat
        have atL' : (s.heap.push (nuSet w)).get? l = some { cls := .type "list", dict := ld, data := .seq items nl, slots := lsl } := Heap.get?_push_of_some _ atL
        have s1 := F.sub_list_set; have s2 := F.sub_list_frozenset
        have nd : (Value.type "list" == Value.type "dict") = false := by decide
        have isL : (s.heap.push (nuSet w)).IsList l items := ⟨_, atL', rfl, nl, rfl⟩
        unfold Builtin.«set.__init__» noKeywords Builtin.Frozenset.updateFrom
        generalize hPI : pyIter = PI
        wp_walk
        subst hPI
        refine wpAny_pyIter_list isL ?_
        refine wpAny_bind <| wpAny_runValue ?_
        have ltL : l < s.heap.objs.size := Heap.lt_size atL
        have hh3 : A.in1.in1.in1.handled = none := by simp [hh]
        have szE : (s.heap.push (nuSet w)).objs.size = s.heap.objs.size + 1 := Heap.size_push ..
        have lI : l ≠ (s.heap.push (nuSet w)).objs.size := szE ▸ Nat.ne_of_lt (Nat.lt_succ_of_lt ltL)
        have sI : s.heap.objs.size ∉ [(s.heap.push (nuSet w)).objs.size, l] := by
          rw [szE]; simp only [List.mem_cons, List.not_mem_nil, or_false, not_or]
          exact And.intro (Nat.ne_of_lt (Nat.lt_succ_self _)) (Nat.ne_of_gt ltL)
        have vals : ∀ (i : Nat) (v : Value), items[i]? = some v → ∃ k t, ns[i]? = some k ∧ v = .int k t := fun i v hv => by
          have hi : i < ns.length := lenE ▸ (Array.getElem?_eq_some_iff.mp hv).1
          obtain ⟨t, e⟩ := PyProof.Rows.IntsAre.int_at hit i v (by rwa [Array.getElem?_toList])
          exact ⟨ns[i], t, List.getElem?_eq_getElem hi, by rw [e, List.getD_eq_getElem?_getD, List.getElem?_eq_getElem hi]; rfl⟩
        refine set_update_ints ((Walks.list hh3 _ l lI items).toS) s.heap.objs.size sI ns lenE hb vals (items.size - 0) 0 _ (by omega) (Nat.zero_le _)
          ⟨⟨_, Heap.get?_push_size _ rfl, rfl, rfl⟩, isL.push _⟩ ?start ?fin
        case start => exact ⟨0, Nat.le_refl 0, setR_new_at (Heap.get?_push_of_some _ atS)⟩
        case fin =>
          intro t c mv _ R
          obtain ⟨h', g2, d', k, o2⟩ := t
          obtain rfl : g2 = s.gens := mv.gens
          obtain rfl : d' = s.drawn := mv.drawn
          obtain rfl : o2 = s.os := mv.os
          show wpAny _ _ _ _ _ _
          refine wpAny_pure ?_
          show wpAny _ _ (ret Value.none) _ _ _
          refine wpAny_pure (And.intro rfl ⟨h', k, c, rfl, R, fun b o e => ?_⟩)
          have lt := Heap.lt_size e
          refine mv.heap b o ?_ (Heap.get?_push_of_some _ (Heap.get?_push_of_some _ e))
          simp only [List.mem_cons, List.not_mem_nil, or_false, not_or]
          rw [szE]
          exact And.intro (Nat.ne_of_lt lt) (Nat.ne_of_lt (Nat.lt_succ_of_lt lt))
      · rcases r2 with e | f2
        case error => exact ht2
        case ok =>
          cases f2 with
          | ret r =>
            obtain ⟨rfl, h', k, c, rfl, R, keep⟩ := ht2
            repeat (any_goals (first | assumption | wp_step))
            exact h _ _ _ R keep
          | _ => exact ht2.elim
    | _ => exact ht.elim
end
end Ev
end

section
set_option maxHeartbeats 2000000
/-! EvT0: enumerate(a tuple). -/
namespace Ev
open PySem PySem.Spec PyProof.Rows L2
/-- the iterator object of a tuple -/
def tupIt (t : Addr) : Obj := { cls := .type "tuple_iterator", data := .fields #[.ref t, .int 0 0] }
/-- the enumerate object over the iterator at it -/
def enuOb (it : Addr) : Obj := { cls := .type "enumerate", data := .fields #[.none, .bool false, .ref it, rawInt 0, .none, .none] }
theorem enu_new {v : Value} {o : Obj} {Hh : Heap → Prop} (B : Begins v o Hh) : Meets (Builtin.«enumerate.__new__» ⟨[.type "enumerate", v], []⟩) (fun _ R s => Hh s.heap ∧ R (.ok (.ret (.ref (s.heap.push o).objs.size))) { s with heap := (s.heap.push o).push (enuOb s.heap.objs.size) }) :=
  .of_wp fun prog w A R s hyp => by
    obtain ⟨hp, gs, dr, tk, os⟩ := s
    obtain ⟨hv, fin⟩ := hyp
    have subE := sub_enumerate
    have itS : ∀ {A' : Around} {E Q : Value → Shared → Prop}, Q (.ref hp.objs.size) ⟨hp.push o, gs, dr, tk, os⟩ → wpAny (model prog w) A' (pyIter v) Q E ⟨hp, gs, dr, tk, os⟩ := fun q => B.iter prog w _ _ _ _ hv q
    wp_walk using itS
    refine wpAny_stack_any fun _ => wpAny_pure ?_
    split
    · rename_i c _ _ _ _ _
      cases c == Value.type "enumerate" <;>
        (wp_walk using itS
         exact ⟨_, rfl, fin⟩)
    · wp_walk using itS
      exact ⟨_, rfl, fin⟩
theorem call_enuT {P : Program} {w : World} {A : Around} {E : Value → Shared → Prop} {s : Shared} {t : Addr} {items : Array Value} {Q : Value → Shared → Prop} (ht : s.heap.IsTuple t items)
    (h : ∀ h', IsEnum h' (s.heap.objs.size + 1) s.heap.objs.size 0 .none → h'.IsTupleIter s.heap.objs.size t 0 → (∀ b o, s.heap.get? b = some o → h'.get? b = some o) → Q (.ref (s.heap.objs.size + 1)) { s with heap := h' }) :
    wpAny (model P w) A (call (.type "enumerate") [.ref t]) Q E s := by
  refine callType_new F.called_enumerate (by decide) (F.typeCall_enumerate_1 _) (F.newCall_enumerate_1 _) (fun obj => F.args_object_init_2 obj _) F.entry_enumerate_new (enu_new (begins_tuple t items)) (And.intro ht ?_)
  have sz : (s.heap.push (tupIt t)).objs.size = s.heap.objs.size + 1 := Heap.size_push ..
  have at1 : ((s.heap.push (tupIt t)).push (enuOb s.heap.objs.size)).get? (s.heap.objs.size + 1) = some (enuOb s.heap.objs.size) := by
    have := Heap.get?_push_size (s.heap.push (tupIt t)) (o := enuOb s.heap.objs.size) rfl
    rwa [sz] at this
  have at0 : ((s.heap.push (tupIt t)).push (enuOb s.heap.objs.size)).get? s.heap.objs.size = some (tupIt t) := Heap.get?_push_of_some _ (Heap.get?_push_size _ rfl)
  show _ ∧ _
  show (Shared.TypeIs _ (.ref (s.heap.push (tupIt t)).objs.size) _) ∧ Q (.ref (s.heap.push (tupIt t)).objs.size) _
  rw [sz]
  exact And.intro ⟨_, at1, rfl⟩ (h _ at1 ⟨_, at0, rfl, rfl⟩ fun b o x => Heap.get?_push_of_some _ (Heap.get?_push_of_some _ x))
/-- the tuple at a, each item in a new pair -/
def IteT (K : PySem.W.Frag) (a : Addr) : It :=
  ⟨fun i H => ∃ (xs : List V) (x : V), SqT K H a xs ∧ xs[i]? = some x, fun i H v H' => ∃ T x, v = .ref T ∧ H T = none ∧ H' = upd H T (.tup [.int (i : Nat), x]) ∧ ∀ xs, SqT K H a xs → xs[i]? = some x, fun i H => ∃ xs : List V, SqT K H a xs ∧ xs.length = i⟩
theorem turn_enuT {P : Program} {w : World} {K : PySem.W.Frag} {elts : List Expr} {kk : Nat} {tpos : Pos} (a e it : Addr) : Turn P w K (.Tuple elts kk tpos) (IteT K a) [e, it] e (fun i h => ((∃ old, IsEnum h e it ((i : Nat) : Int) old) ∧ h.IsTupleIter it a i) ∧ e ≠ it ∧ a ≠ it ∧ a ≠ e) where
  mem := by simp
  obj := fun i h st b hb => by
    obtain ⟨⟨⟨old, he⟩, o, ho, _, hd⟩, _⟩ := st
    rcases List.mem_cons.mp hb with z | z
    · rw [z]; exact ⟨_, he, fun v q => nomatch q⟩
    · rw [List.mem_singleton.mp z]; exact ⟨o, ho, fun v q => by rw [hd] at q; cases q⟩
  keep := fun i h h' ⟨⟨⟨old, he⟩, hi⟩, ne⟩ k => ⟨⟨⟨old, k e (by simp) _ he⟩, hi.at fun o q => k it (by simp) o q⟩, ne⟩
  item := by
    intro X hP hw hK hc i pins s σ H E I fpk ⟨⟨⟨old, he⟩, hit⟩, n1, n2, n3⟩ ⟨xs, x, hq, hx⟩
    subst hP hw hK
    obtain ⟨its, rv, p, _⟩ := I.tuple hq
    obtain ⟨u, hu, ru⟩ := rv.get hx
    have lte : e < s.heap.objs.size := Heap.lt_size he
    have lti : it < s.heap.objs.size := let ⟨_, q, _⟩ := hit; Heap.lt_size q
    have D := Draws.tuple (prog := X.prog) (w := X.w) (A := X.A.in1) (I.ok.hd hc) it a n2 its.toArray
    have lt : i < its.toArray.size := by
      rw [List.size_toArray]
      exact (List.getElem?_eq_some_iff.mp hu).1
    refine wpAny_pyNext_enum_itemD D he ⟨hit, p⟩ lt n1 (by simp [n1, Ne.symm n3]) fun y h1 tk hy out st2 hT _ keep1 => ?_
    have ey : y = u := by
      have : its.toArray[i]? = some u := by simpa using hu
      rw [this] at hy
      exact (Option.some.inj hy).symm
    subst ey
    refine ⟨_, rfl, wpAny_letOwnedTupleGo_enum (s := { s with heap := h1, toks := tk + 1 }) out fun h2 he2 sb => ?_⟩
    have hT2 : h2.get? s.heap.objs.size = some { cls := .type "tuple", data := .seq #[.int i tk, y] } := (sb.2 _ (Nat.ne_of_gt lte)).trans hT
    have new : ObjOk X.prog X.w (upd H s.heap.objs.size (.tup [.int (i : Nat), x])) h2 s.heap.objs.size (.tup [.int (i : Nat), x]) :=
      And.intro (by show 2 ≤ sizeLine; decide) ⟨[.int i tk, y], .cons ⟨_, rfl⟩ (.cons ru .nil), _, hT2, rfl, _, rfl⟩
    have I2 : Inv X pins σ (upd H s.heap.objs.size (.tup [.int (i : Nat), x])) { s with heap := h2, toks := tk + 1 } :=
      I.turnedNew (ch := [e, it]) (fun b o hb q => (sb.2 b fun z => hb (by simp [z])).trans (keep1 b o (fun z => hb (by simp [z])) (fun z => hb (by simp [z])) q)) fpk (Nat.le_refl _) new
    refine ⟨.ref s.heap.objs.size, _, I2, rfl, ⟨_, x, rfl, I.hok.fresh (Nat.le_refl _), rfl, fun ys hy => by rw [I.tuple_inj hy hq]; exact hx⟩, ⟨⟨⟨y, ?_⟩, st2.1.at fun o q => (sb.2 it (Ne.symm n1)).trans q⟩, n1, n2, n3⟩, fun b hb => ?_⟩
    · rw [show ((i + 1 : Nat) : Int) = (i : Int) + 1 by omega]
      exact he2
    · have ltb : b < s.heap.objs.size := by
        rcases List.mem_cons.mp hb with z | z
        · rw [z]; exact lte
        · rw [List.mem_singleton.mp z]; exact lti
      rw [upd_ne (Nat.ne_of_lt ltb)]
      exact (fpk b hb).1
  done := by
    intro X hP hw hK hc i pins s σ H E I fpk ⟨⟨⟨old, he⟩, hit⟩, n1, n2, n3⟩ ⟨xs, hq, hx⟩
    subst hP hw hK
    obtain ⟨its, rv, p, _⟩ := I.tuple hq
    obtain ⟨f0, f1, f2, f3, f4, f5⟩ := fpk it (by simp)
    have D := Draws.tuple (prog := X.prog) (w := X.w) (A := X.A.in1) (I.ok.hd hc) it a n2 its.toArray
    have el : i = its.toArray.size := by rw [List.size_toArray, ← rv.length, hx]
    exact wpAny_pyNext_enum_endD D he ⟨el ▸ hit, p⟩ fun h' eb => And.intro rfl (I.turned (t' := s.toks) (fun b o hb q => eb b o hb q) f0 f1 f3 f4 f5)
  self := fun A i s Q E ⟨⟨⟨_, he⟩, _⟩, _⟩ h => wpAny_pyIter_enum he h
end Ev
end

section
/-! EvA: values, objects, the small language, its weakest preconditions. -/
namespace Ev
open PySem

/-- values: tuples by value, lists and dicts and instances by address -/
inductive PV where
  | non | bl (b : Bool) | int (i : Int) | str (x : Str) | tup (xs : List PV) | fl (xs : List PV) | ref (a : Addr) | fn (i : Nat) | ty (n : String)
  deriving Inhabited
mutual
def PV.beq : PV → PV → Bool
  | .non, .non => true
  | .bl a, .bl b => a == b
  | .int a, .int b => decide (a = b)
  | .str a, .str b => decide (a = b)
  | .tup a, .tup b => PV.beqs a b
  | .fl a, .fl b => PV.beqs a b
  | .ref a, .ref b => Nat.beq a b
  | .fn a, .fn b => Nat.beq a b
  | .ty a, .ty b => decide (a = b)
  | _, _ => false
def PV.beqs : List PV → List PV → Bool
  | [], [] => true
  | a :: as, b :: bs => PV.beq a b && PV.beqs as bs
  | _, _ => false
end
mutual
theorem PV.beq_self : ∀ a : PV, PV.beq a a = true
  | .non => rfl
  | .bl a => by simp [PV.beq]
  | .int a => by simp [PV.beq]
  | .str a => by simp [PV.beq]
  | .tup a => by rw [PV.beq]; exact PV.beqs_self a
  | .fl a => by rw [PV.beq]; exact PV.beqs_self a
  | .ref a => by simp [PV.beq]
  | .fn a => by simp [PV.beq]
  | .ty a => by simp [PV.beq]
theorem PV.beqs_self : ∀ a : List PV, PV.beqs a a = true
  | [] => rfl
  | a :: as => by rw [PV.beqs, PV.beq_self a, PV.beqs_self as]; rfl
end
mutual
theorem PV.eq_of_beq : ∀ a b : PV, PV.beq a b = true → a = b
  | .non, b, h => by cases b <;> simp [PV.beq] at h ⊢
  | .bl a, b, h => by cases b <;> simp [PV.beq] at h ⊢ <;> exact h
  | .int a, b, h => by cases b <;> simp [PV.beq] at h ⊢ <;> exact h
  | .str a, b, h => by cases b <;> simp [PV.beq] at h ⊢ <;> exact h
  | .tup a, b, h => by
    cases b <;> simp [PV.beq] at h ⊢
    exact PV.eqs_of_beqs a _ h
  | .fl a, b, h => by
    cases b <;> simp [PV.beq] at h ⊢
    exact PV.eqs_of_beqs a _ h
  | .ref a, b, h => by cases b <;> simp [PV.beq] at h ⊢ <;> exact h
  | .fn a, b, h => by cases b <;> simp [PV.beq] at h ⊢ <;> exact h
  | .ty a, b, h => by cases b <;> simp [PV.beq] at h ⊢ <;> exact h
theorem PV.eqs_of_beqs : ∀ a b : List PV, PV.beqs a b = true → a = b
  | [], b, h => by cases b <;> simp [PV.beqs] at h ⊢
  | a :: as, b, h => by
    cases b with
    | nil => simp [PV.beqs] at h
    | cons b bs =>
      rw [PV.beqs, Bool.and_eq_true] at h
      rw [PV.eq_of_beq a b h.1, PV.eqs_of_beqs as bs h.2]
end
instance : DecidableEq PV := fun a b => if h : PV.beq a b = true then isTrue (PV.eq_of_beq a b h) else isFalse fun e => h (e ▸ PV.beq_self a)

/-- objects -/
inductive MO where
  | lst (xs : List PV) | dct (kvs : List (PV × PV)) | set (xs : List PV) | ins (C : Nat) (fs : List (Str × PV))
abbrev MH := Addr → Option MO
def mup (M : MH) (a : Addr) (o : MO) : MH := fun b => if b = a then some o else M b
theorem mup_same {M : MH} {a : Addr} {o : MO} : mup M a o a = some o := if_pos rfl
theorem mup_ne {M : MH} {a b : Addr} {o : MO} (h : b ≠ a) : mup M a o b = M b := if_neg h
theorem mup_mup {M : MH} {a : Addr} {o u : MO} : mup (mup M a o) a u = mup M a u := by
  funext b; unfold mup; split <;> rfl

/-! ### the language -/
inductive Bop | add | sub | mul | fdiv | mod | pow
  deriving DecidableEq, Repr
inductive Cop | eq | ne | lt | le | gt | ge | is_ | isnt | in_ | nin
  deriving DecidableEq, Repr
inductive Blt | len | abs | max | min | int | tuple | list | sorted | set | divmod | all | any | sum | bool | dict
  deriving DecidableEq, Repr
inductive Mth | append | extend | pop | get | update
  deriving DecidableEq, Repr
inductive Ty1 | int | bool | str | tuple | list | cls (C : Nat)
  deriving DecidableEq, Repr
mutual
inductive E
  | var (i : Nat) | int (i : Int) | bl (b : Bool) | non | str (s : Str) | gc (x : Nat) | fn (x : Nat)
  | bin (op : Bop) (a b : E) | neg (a : E) | not (a : E) | and (a b : E) | or (a b : E) | ite (t a b : E)
  | cmp (op : Cop) (a b : E) | chain (o1 o2 : Cop) (a b c : E)
  | tup (es : Es) | lst (es : Es) | dct (es : Es)
  | idx (a i : E) | slc (a : E) (lo hi : E) | rev (a : E)
  | fld (a : E) (f : Str)
  | call (f : Nat) (es : Es) | calk (f : Nat) (es zs : Es) (p : List Nat) | calv (i : Nat) (es : Es)
  | blt (b : Blt) (es : Es) | mak (C : Nat) (es : Es) | mth (m : Mth) (o : E) (es : Es) | omt (o : E) (m : Str) (es : Es)
  | isi (a : E) (ts : List Ty1)
  | cmpr (elt : E) (tg : Tg) (it : It) (ifs : Es) (own : List Nat)
inductive Es | nil | cons (e : E) (r : Es)
inductive It | of (e : E) | enum (e : E) | zip (a b : E) | range (es : Es) | items (e : E) | vals (e : E)
inductive Tg | nm (i : Nat) | tup (ts : Tgs) | idx (a i : E) | fld (a : E) (f : Str)
inductive Tgs | nil | cons (t : Tg) (r : Tgs)
end
def Tgs.len : Tgs → Nat
  | .nil => 0
  | .cons _ r => r.len + 1
mutual
inductive S
  | exp (e : E) | asg (t : Tg) (e : E) | par (is : List Nat) (es : Es) | ret (e : E) | retn | ifs (t : E) (a b : Ss) | whl (t : E) (b : Ss) | for_ (t : Tg) (i : It) (b : Ss) | pas | brk | cnt | rai
inductive Ss | nil | cons (s : S) (r : Ss)
end
structure Fn where
  np : Nat
  ns : Nat
  body : Ss
/-- the program's tables: constants, classes: attributes, __init__, methods, properties, __eq__ -/
structure Tab where
  cs : Nat → Option PV
  fld : Nat → Str → Bool
  init : Nat → Option Nat
  meth : Nat → Str → Option Nat
  prop : Nat → Str → Option Nat
  eqm : Nat → Option Nat

/-! ### operations -/
inductive R | val (v : PV) | new (o : MO)
def lstOf (M : MH) : PV → Option (List PV)
  | .ref a => match M a with
    | some (.lst xs) => some xs
    | _ => none
  | .fl xs => some xs
  | _ => none
/-- a list of the heap -/
def lsM (M : MH) : PV → Option (List PV)
  | .ref a => match M a with
    | some (.lst xs) => some xs
    | _ => none
  | _ => none
def seqOf (M : MH) : PV → Option (List PV)
  | .tup xs => some xs
  | v => lstOf M v
def atI (xs : List PV) (i : Int) : Option PV := if 0 ≤ i then xs[i.toNat]? else if 0 ≤ (xs.length : Int) + i then xs[((xs.length : Int) + i).toNat]? else none
/-- plain keys: ints, texts, tuples of such -/
def keyN : Nat → PV → Bool
  | _, .int _ => true
  | _, .str _ => true
  | n + 1, .tup xs => xs.all (keyN n)
  | _, _ => false
def keyOk (k : PV) : Bool := keyN 4 k
def isTup : PV → Bool
  | .tup _ => true
  | _ => false
/-- a key that may be asked of this dict -/
def keyFit (kvs : List (PV × PV)) (k : PV) : Bool := keyOk k && kvs.all fun p => isTup p.1 == isTup k
def dget (kvs : List (PV × PV)) (k : PV) : Option PV := match kvs with
  | [] => none
  | (q, v) :: r => if q = k then some v else dget r k
def dput (kvs : List (PV × PV)) (k v : PV) : List (PV × PV) := match kvs with
  | [] => [(k, v)]
  | (q, u) :: r => if q = k then (q, v) :: r else (q, u) :: dput r k v
def mapO {α β : Type} (f : α → Option β) : List α → Option (List β)
  | [] => some []
  | x :: xs => match f x, mapO f xs with
    | some d, some ds => some (d :: ds)
    | _, _ => none
/-- closed data: lists are read through the heap -/
def den (M : MH) : Nat → PV → Option PyData
  | _, .non => some .none
  | _, .bl b => some (.bool b)
  | _, .int i => some (.int i)
  | _, .str x => some (.str x)
  | n + 1, .tup xs => (mapO (den M n) xs).map .tuple
  | n + 1, .fl xs => (mapO (den M n) xs).map .list
  | n + 1, .ref a => match M a with
    | some (.lst xs) => (mapO (den M n) xs).map .list
    | _ => none
  | _, _ => none
/-- how deep data are looked at -/
def dD : Nat := 12
def eqR (M : MH) (x y : PV) : Option Bool := match den M dD x, den M dD y with
  | some d, some e => some (PyData.eqv d e)
  | _, _ => none
def truthy (M : MH) : PV → Option Bool
  | .non => some false
  | .bl b => some b
  | .int i => some (i != 0)
  | .tup xs => some !xs.isEmpty
  | .fl xs => some !xs.isEmpty
  | .ref a => match M a with
    | some (.lst xs) => some !xs.isEmpty
    | _ => none
  | _ => none
/-- the order of sorting, for alike closed values -/
def toD (v : PV) : Option PyData := den (fun _ => none) dD v
def toD0 (v : PV) : PyData := (toD v).getD .none
def leP (a b : PV) : Bool := !PySem.W.dataLt (toD0 b) (toD0 a)
def sortP (xs : List PV) : List PV := xs.mergeSort leP
def neTup : PyData → Bool
  | .tuple (_ :: _) => true
  | _ => false
def noTup : PyData → Bool
  | .none => false
  | .tuple _ => false
  | _ => true
def sortable (xs : List PV) : Bool := match mapO toD xs with
  | some ds => ds.all (fun d => ds.all (PySem.W.alike d)) && (ds.all neTup || ds.all noTup)
  | none => false
/-- ints; tuples of ints -/
def intOf : PV → Option Int
  | .int i => some i
  | _ => none
def intTup : PV → Option (List Int)
  | .tup xs => mapO intOf xs
  | _ => none
/-- tuples of equally many ints, none below 0 -/
def tupsFit (xs : List PV) : Bool := match mapO intTup xs with
  | some [] => true
  | some (y :: ys) => decide (y ≠ []) && (y :: ys).all fun z => decide (z.length = y.length) && z.all fun i => decide (0 ≤ i)
  | none => false
def dedup : List PV → List PV
  | [] => []
  | x :: r => if x ∈ r then dedup r else x :: dedup r
def cMul (i j : Int) : Bool := (decide (-(2 ^ 64) < i) && decide (i < 2 ^ 64)) || (decide (-(2 ^ 64) < j) && decide (j < 2 ^ 64))
def cDiv (j : Int) : Bool := decide (0 < j) && decide (j < 1073741824)
def binR (M : MH) : Bop → PV → PV → Option R
  | .add, .int i, .int j => some (.val (.int (i + j)))
  | .add, .tup xs, .tup ys => if xs.length + ys.length ≤ sizeLine then some (.val (.tup (xs ++ ys))) else none
  | .add, .str x, .str y => if x.length + y.length ≤ sizeLine then some (.val (.str (x ++ y))) else none
  | .add, x, y => match lsM M x, lsM M y with
    | some xs, some ys => some (.new (.lst (xs ++ ys)))
    | _, _ => none
  | .sub, .int i, .int j => some (.val (.int (i - j)))
  | .mul, .int i, .int j => if cMul i j then some (.val (.int (i * j))) else none
  | .mul, .tup xs, .int j => if xs ≠ [] ∧ 2 ≤ j ∧ j ≤ 1000 ∧ xs.length ≤ 1000 then some (.val (.tup (List.replicate j.toNat xs).flatten)) else none
  | .mul, x, .int j => match lsM M x with
    | some xs => if -(2 ^ 63) ≤ j ∧ j < 2 ^ 63 then some (.new (.lst (List.replicate j.toNat xs).flatten)) else none
    | none => none
  | .fdiv, .int i, .int j => if cDiv j then some (.val (.int (i / j))) else none
  | .mod, .int i, .int j => if 0 < j then some (.val (.int (i % j))) else none
  | .pow, .int i, .int j => if 0 ≤ j ∧ j ≤ 1000 ∧ i.natAbs ≤ 1000 then some (.val (.int (i ^ j.toNat))) else none
  | _, _, _ => none
def lenOf (M : MH) : PV → Option Nat
  | .tup xs => some xs.length
  | .fl xs => some xs.length
  | .str x => if x.length ≤ sizeLine then some x.length else none
  | .ref a => match M a with
    | some (.lst xs) => some xs.length
    | some (.dct xs) => some xs.length
    | some (.set xs) => some xs.length
    | _ => none
  | _ => none
/-- what a walk over it yields -/
def itemsOf (M : MH) : PV → Option (List PV)
  | .tup xs => some xs
  | .fl xs => some xs
  | .ref a => match M a with
    | some (.lst xs) => some xs
    | some (.dct kvs) => some (kvs.map (·.1))
    | _ => none
  | _ => none
def mxI : Int → List PV → Option Int
  | m, [] => some m
  | m, .int i :: r => mxI (if i > m then i else m) r
  | _, _ => none
def mnI : Int → List PV → Option Int
  | m, [] => some m
  | m, .int i :: r => mnI (if i < m then i else m) r
  | _, _ => none
def blOf : PV → Option Bool
  | .bl b => some b
  | _ => none
def pairsOf : List PV → Option (List (PV × PV))
  | [] => some []
  | .tup [k, v] :: r => (pairsOf r).map ((k, v) :: ·)
  | _ => none
def mergeP (kvs : List (PV × PV)) (more : List (PV × PV)) : List (PV × PV) := more.foldl (fun d p => dput d p.1 p.2) kvs
def bltR (M : MH) : Blt → List PV → Option R
  | .len, [v] => (lenOf M v).map fun n => .val (.int n)
  | .abs, [.int i] => some (.val (.int (if i < 0 then -i else i)))
  | .max, [.int i, .int j] => some (.val (.int (if j > i then j else i)))
  | .min, [.int i, .int j] => some (.val (.int (if j < i then j else i)))
  | .max, [v] => match lstOf M v with
    | some (.int i :: r) => (mxI i r).map fun m => .val (.int m)
    | _ => none
  | .min, [v] => match lstOf M v with
    | some (.int i :: r) => (mnI i r).map fun m => .val (.int m)
    | _ => none
  | .int, [.int i] => some (.val (.int i))
  | .int, [.bl b] => some (.val (.int (if b then 1 else 0)))
  | .bool, [.int i] => some (.val (.bl (i != 0)))
  | .bool, [.bl b] => some (.val (.bl b))
  | .tuple, [v] => match seqOf M v with
    | some xs => some (.val (.tup xs))
    | none => none
  | .list, [v] => match itemsOf M v with
    | some xs => some (.new (.lst xs))
    | none => none
  | .sorted, [v] => match lstOf M v with
    | some xs => if sortable xs then some (.new (.lst (sortP xs))) else none
    | none => (match v with
      | .ref a => (match M a with
        | some (.set xs) => if xs.length < 64 ∧ ((mapO intOf xs).isSome || tupsFit xs) = true then some (.new (.lst (sortP xs))) else none
        | _ => none)
      | _ => none)
  | .set, [v] => match lstOf M v with
    | some xs => if xs.length < 64 ∧ ((mapO intOf xs).isSome || (mapO intTup xs).isSome) = true then some (.new (.set (dedup xs))) else none
    | none => none
  | .divmod, [.int i, .int j] => if cDiv j then some (.val (.tup [.int (i / j), .int (i % j)])) else none
  | .all, [v] => match lstOf M v with
    | some xs => (mapO blOf xs).map fun bs => .val (.bl (bs.all id))
    | none => none
  | .any, [v] => match lstOf M v with
    | some xs => (mapO blOf xs).map fun bs => .val (.bl (bs.any id))
    | none => none
  | .sum, [v] => match lstOf M v with
    | some xs => (mapO intOf xs).map fun is => .val (.int is.sum)
    | none => none
  | _, _ => none
/-- a value's type -/
inductive Ty2 | bi (n : String) | cl (C : Nat)
  deriving DecidableEq
def tyP (M : MH) : PV → Option Ty2
  | .non => some (.bi "NoneType")
  | .bl _ => some (.bi "bool")
  | .int _ => some (.bi "int")
  | .str _ => some (.bi "str")
  | .tup _ => some (.bi "tuple")
  | .fl _ => some (.bi "list")
  | .ref a => match M a with
    | some (.lst _) => some (.bi "list")
    | some (.ins c _) => some (.cl c)
    | _ => none
  | _ => none
def isi1 (t : Ty2) : Ty1 → Bool
  | .int => t == .bi "int" || t == .bi "bool"
  | .bool => t == .bi "bool"
  | .str => t == .bi "str"
  | .tuple => t == .bi "tuple"
  | .list => t == .bi "list"
  | .cls C => t == .cl C
def cmpR (M : MH) : Cop → PV → PV → Option Bool
  | .eq, x, y => eqR M x y
  | .ne, x, y => (eqR M x y).map not
  | .lt, .int i, .int j => some (decide (i < j))
  | .le, .int i, .int j => some (decide (i ≤ j))
  | .gt, .int i, .int j => some (decide (j < i))
  | .ge, .int i, .int j => some (decide (j ≤ i))
  | .is_, x, .non => some (decide (x = .non))
  | .isnt, x, .non => some !(decide (x = .non))
  | .in_, x, y => match y with
    | .ref a => (match M a with
      | some (.dct kvs) => if keyFit kvs x then some (dget kvs x).isSome else none
      | some (.lst xs) => match den M dD x, mapO (den M dD) xs with
        | some d, some ds => some (ds.any fun e => PyData.eqv e d)
        | _, _ => none
      | _ => none)
    | .tup xs => match den M dD x, mapO (den M dD) xs with
      | some d, some ds => some (ds.any fun e => PyData.eqv e d)
      | _, _ => none
    | _ => none
  | .nin, x, y => match y with
    | .ref a => (match M a with
      | some (.dct kvs) => if keyFit kvs x then some !(dget kvs x).isSome else none
      | some (.lst xs) => match den M dD x, mapO (den M dD) xs with
        | some d, some ds => some !(ds.any fun e => PyData.eqv e d)
        | _, _ => none
      | _ => none)
    | .tup xs => match den M dD x, mapO (den M dD) xs with
      | some d, some ds => some !(ds.any fun e => PyData.eqv e d)
      | _, _ => none
    | _ => none
  | _, _, _ => none
def idxR (M : MH) (o i : PV) : Option PV := match seqOf M o with
  | some xs => (match i with
    | .int k => atI xs k
    | _ => none)
  | none => (match o with
    | .ref a => (match M a with
      | some (.dct kvs) => if keyFit kvs i then dget kvs i else none
      | _ => none)
    | _ => none)
/-- a slice's bound: n items, the default d -/
def bnd (n : Nat) (d : Nat) : PV → Option Nat
  | .non => some d
  | .int i => some (if i < 0 then (i + (n : Int)).toNat else min i.toNat n)
  | _ => none
def isPt : PV → Bool
  | .non => true
  | .int _ => true
  | _ => false
def slcR (M : MH) (o lo hi : PV) : Option R := match seqOf M o with
  | some xs => (match bnd xs.length 0 lo, bnd xs.length xs.length hi with
    | some a, some b => (match o with
      | .tup _ => some (.val (.tup ((xs.take b).drop a)))
      | _ => some (.new (.lst ((xs.take b).drop a))))
    | _, _ => none)
  | none => none
def revR (M : MH) (o : PV) : Option R := match o with
  | .tup xs => some (.val (.tup xs.reverse))
  | _ => match lstOf M o with
    | some xs => some (.new (.lst xs.reverse))
    | none => none
def okO : MO → Prop
  | .lst xs => xs.length ≤ sizeLine
  | .dct xs => xs.length ≤ sizeLine
  | .set xs => xs.length ≤ sizeLine
  | .ins _ fs => fs.length ≤ 100
def res (r : Option R) (M : MH) (Q : PV → MH → Prop) : Prop := match r with
  | some (.val v) => Q v M
  | some (.new o) => okO o ∧ ∀ p, M p = none → Q (.ref p) (mup M p o)
  | none => False
def pput (f : Str) (v : PV) : List (Str × PV) → List (Str × PV)
  | [] => [(f, v)]
  | (g, x) :: r => if g = f then (g, v) :: r else (g, x) :: pput f v r

/-! ### weakest preconditions -/
abbrev St := List (Option PV)
structure Ends where
  nx : St → MH → Prop
  rt : PV → MH → Prop
  bk : St → MH → Prop := fun _ _ => False
  ct : St → MH → Prop := fun _ _ => False
def wipe : List Nat → St → St
  | [], σ => σ
  | i :: r, σ => (wipe r σ).set i none
/-- a loop over items; g: what is walked stays -/
def forL (g : MH → Prop) (dn : St → MH → Prop) (step : PV → St → MH → (St → MH → Prop) → Prop) : List PV → St → MH → Prop
  | [], σ, M => g M ∧ dn σ M
  | x :: r, σ, M => g M ∧ step x σ M (forL g dn step r)
def cmpL (g : MH → Prop) (dn : MH → Prop) (step : PV → MH → (MH → Prop) → Prop) : List PV → MH → Prop
  | [], M => g M ∧ dn M
  | x :: r, M => g M ∧ step x M (cmpL g dn step r)
/-- it stays -/
def stays (M : MH) : PV → MH → Prop
  | .ref a => fun M' => M' a = M a
  | _ => fun _ => True
def rngL (lo : Int) : Nat → List PV
  | 0 => []
  | n + 1 => .int lo :: rngL (lo + 1) n
def rngOf : List PV → Option (List PV)
  | [.int j] => if -(2 ^ 62) ≤ j ∧ j < 2 ^ 62 then some (rngL 0 j.toNat) else none
  | [.int i, .int j] => if (-(2 ^ 62) ≤ i ∧ i < 2 ^ 62) ∧ (-(2 ^ 62) ≤ j ∧ j < 2 ^ 62) then some (rngL i (j - i).toNat) else none
  | _ => none
def enumL (i : Int) : List PV → List PV
  | [] => []
  | x :: r => .tup [.int i, x] :: enumL (i + 1) r
def zipL : List PV → List PV → List PV
  | x :: r, y :: q => .tup [x, y] :: zipL r q
  | _, _ => []
def dctOf (M : MH) : PV → Option (List (PV × PV))
  | .ref a => match M a with
    | some (.dct kvs) => some kvs
    | _ => none
  | _ => none
def appR (M : MH) (m : Mth) (o : PV) (vs : List PV) (Q : PV → MH → Prop) : Prop := match o with
  | .ref a => (match m, M a, vs with
    | .append, some (.lst xs), [v] => xs.length < sizeLine ∧ Q .non (mup M a (.lst (xs ++ [v])))
    | .extend, some (.lst xs), [v] => (match lsM M v with
      | some ys => xs.length + ys.length ≤ sizeLine ∧ Q .non (mup M a (.lst (xs ++ ys)))
      | none => False)
    | .pop, some (.lst xs), [] => (match xs.getLast? with
      | some v => Q v (mup M a (.lst xs.dropLast))
      | none => False)
    | .get, some (.dct kvs), [k] => keyFit kvs k = true ∧ Q ((dget kvs k).getD .non) M
    | .get, some (.dct kvs), [k, d] => keyFit kvs k = true ∧ Q ((dget kvs k).getD d) M
    | _, _, _ => False)
  | _ => False
def setR (M : MH) (o i v : PV) (K : MH → Prop) : Prop := match o with
  | .ref a => (match M a with
    | some (.lst xs) => (match i with
      | .int k => (0 ≤ k ∧ k < xs.length) ∧ K (mup M a (.lst (xs.set k.toNat v)))
      | _ => False)
    | some (.dct kvs) => keyFit kvs i = true ∧ kvs.length < sizeLine ∧ K (mup M a (.dct (dput kvs i v)))
    | _ => False)
  | _ => False
abbrev CT := Nat → List PV → MH → (PV → MH → Prop) → Prop
/-- an instance's class -/
def insC (M : MH) : PV → Option Nat
  | .ref a => match M a with
    | some (.ins c _) => some c
    | _ => none
  | _ => none
def isEq : Cop → Bool
  | .eq => true
  | .ne => true
  | _ => false
/-- == and !=: by __eq__ of two instances of one class, else of data -/
def wpCmp (T : Tab) (C : CT) (op : Cop) (x y : PV) (M : MH) (Q : PV → MH → Prop) : Prop := match (if isEq op then insC M x else none) with
  | some c => (match T.eqm c with
    | some g => insC M y = some c ∧ C g [x, y] M fun v M' => ∃ b, v = .bl b ∧ Q (.bl (if op = .eq then b else !b)) M'
    | none => False)
  | none => (match cmpR M op x y with
    | some b => Q (.bl b) M
    | none => False)
def wpFld (T : Tab) (C : CT) (o : PV) (f : Str) (M : MH) (Q : PV → MH → Prop) : Prop := match o with
  | .ref a => (match M a with
    | some (.ins c fs) => (match fs.lookup f with
      | some v => T.fld c f = true ∧ Q v M
      | none => (match T.prop c f with
        | some g => C g [o] M Q
        | none => False))
    | _ => False)
  | _ => False
/-- the method of an instance -/
def metOf (T : Tab) (M : MH) (o : PV) (m : Str) : Option Nat := match o with
  | .ref a => (match M a with
    | some (.ins c fs) => if (fs.lookup m).isNone then T.meth c m else none
    | _ => none)
  | _ => none
/-- the classes are known -/
def isiOk (T : Tab) (t : Ty2) (ts : List Ty1) : Bool := (match t with
  | .cl c => (T.init c).isSome
  | _ => true) && ts.all fun u => match u with
  | .cls c => (T.init c).isSome
  | _ => true
/-- the built-in type has the method -/
def mthOn (M : MH) (m : Mth) : PV → Bool
  | .ref a => match m, M a with
    | .append, some (.lst _) => true
    | .extend, some (.lst _) => true
    | .pop, some (.lst _) => true
    | .get, some (.dct _) => true
    | _, _ => false
  | _ => false
def wpMak (T : Tab) (C : CT) (c : Nat) (vs : List PV) (M : MH) (Q : PV → MH → Prop) : Prop := match T.init c with
  | some g => ∀ p, M p = none → C g (.ref p :: vs) (mup M p (.ins c [])) fun v M' => v = .non ∧ Q (.ref p) M'
  | none => False
def pairUp : List PV → Option (List (PV × PV))
  | [] => some []
  | k :: v :: r => (pairUp r).map ((k, v) :: ·)
  | _ => none
section
variable (T : Tab) (C : CT)
mutual
def wpE : E → St → MH → (PV → MH → Prop) → Prop
  | .var i, σ, M, Q => match σ[i]? with
    | some (some v) => Q v M
    | _ => False
  | .int i, _, M, Q => Q (.int i) M
  | .bl b, _, M, Q => Q (.bl b) M
  | .non, _, M, Q => Q .non M
  | .str s, _, M, Q => Q (.str s) M
  | .gc x, _, M, Q => match T.cs x with
    | some v => Q v M
    | none => False
  | .fn x, _, M, Q => Q (.fn x) M
  | .bin op a b, σ, M, Q => wpE a σ M fun x M1 => wpE b σ M1 fun y M2 => res (binR M2 op x y) M2 Q
  | .neg a, σ, M, Q => wpE a σ M fun x M1 => match x with
    | .int i => Q (.int (-i)) M1
    | _ => False
  | .not a, σ, M, Q => wpE a σ M fun x M1 => match truthy M1 x with
    | some b => Q (.bl !b) M1
    | none => False
  | .and a b, σ, M, Q => wpE a σ M fun x M1 => match truthy M1 x with
    | some true => wpE b σ M1 Q
    | some false => Q x M1
    | none => False
  | .or a b, σ, M, Q => wpE a σ M fun x M1 => match truthy M1 x with
    | some true => Q x M1
    | some false => wpE b σ M1 Q
    | none => False
  | .ite t a b, σ, M, Q => wpE t σ M fun x M1 => match truthy M1 x with
    | some true => wpE a σ M1 Q
    | some false => wpE b σ M1 Q
    | none => False
  | .cmp op a b, σ, M, Q => wpE a σ M fun x M1 => wpE b σ M1 fun y M2 => wpCmp T C op x y M2 Q
  | .chain o1 o2 a b c, σ, M, Q => wpE a σ M fun x M1 => wpE b σ M1 fun y M2 => match cmpR M2 o1 x y with
    | some true => wpE c σ M2 fun z M3 => match cmpR M3 o2 y z with
      | some k => Q (.bl k) M3
      | none => False
    | some false => Q (.bl false) M2
    | none => False
  | .tup es, σ, M, Q => wpEs es σ M fun vs M1 => vs.length ≤ sizeLine ∧ Q (.tup vs) M1
  | .lst es, σ, M, Q => wpEs es σ M fun vs M1 => vs.length ≤ sizeLine ∧ ∀ p, M1 p = none → Q (.ref p) (mup M1 p (.lst vs))
  | .dct es, σ, M, Q => ∀ p, M p = none → wpEs es σ (mup M p (.dct [])) fun vs M1 => M1 p = some (.dct []) ∧ match pairUp vs with
    | some kvs => (kvs.all fun p => isTup p.1 && keyOk p.1) = true ∧ kvs.length ≤ 15 ∧ Q (.ref p) (mup M1 p (.dct (mergeP [] kvs)))
    | none => False
  | .idx a i, σ, M, Q => wpE a σ M fun x M1 => wpE i σ M1 fun y M2 => match idxR M2 x y with
    | some v => Q v M2
    | none => False
  | .slc a lo hi, σ, M, Q => wpE a σ M fun x M1 => wpE lo σ M1 fun y M2 => isPt y = true ∧ wpE hi σ M2 fun z M3 => res (slcR M3 x y z) M3 Q
  | .rev a, σ, M, Q => wpE a σ M fun x M1 => res (revR M1 x) M1 Q
  | .fld a f, σ, M, Q => wpE a σ M fun x M1 => wpFld T C x f M1 Q
  | .call f es, σ, M, Q => wpEs es σ M fun vs M1 => C f vs M1 Q
  | .calk f es zs p, σ, M, Q => wpEs es σ M fun vs M1 => wpEs zs σ M1 fun ws M2 => C f (p.map fun i => (vs ++ ws).getD i .non) M2 Q
  | .calv i es, σ, M, Q => match σ[i]? with
    | some (some (.fn f)) => wpEs es σ M fun vs M1 => C f vs M1 Q
    | _ => False
  | .blt b es, σ, M, Q => wpEs es σ M fun vs M1 => res (bltR M1 b vs) M1 Q
  | .mak c es, σ, M, Q => wpEs es σ M fun vs M1 => wpMak T C c vs M1 Q
  | .mth m o es, σ, M, Q => wpE o σ M fun x M1 => mthOn M1 m x = true ∧ wpEs es σ M1 fun vs M2 => appR M2 m x vs Q
  | .omt o m es, σ, M, Q => wpE o σ M fun x M1 => match metOf T M1 x m with
    | some g => wpEs es σ M1 fun vs M2 => C g (x :: vs) M2 Q
    | none => False
  | .isi a ts, σ, M, Q => isiOk T (.bi "") ts = true ∧ wpE a σ M fun x M1 => match tyP M1 x with
    | some t => isiOk T t ts = true ∧ Q (.bl (ts.any (isi1 t))) M1
    | none => False
  | .cmpr elt tg it ifs own, σ, M, Q => wpI it σ M fun xs g M1 => ∀ D, M1 D = none →
    cmpL g (fun M' => Q (.ref D) M') (fun x M2 K => wpTg tg x (wipe own σ) M2 fun σ2 M3 => wpIfs ifs σ2 M3 fun b M4 =>
      if b = true then wpE elt σ2 M4 fun y M5 => ∃ acc, M5 D = some (.lst acc) ∧ acc.length < sizeLine ∧ K (mup M5 D (.lst (acc ++ [y]))) else K M4) xs (mup M1 D (.lst []))
def wpEs : Es → St → MH → (List PV → MH → Prop) → Prop
  | .nil, _, M, Q => Q [] M
  | .cons e r, σ, M, Q => wpE e σ M fun v M1 => wpEs r σ M1 fun vs M2 => Q (v :: vs) M2
def wpIfs : Es → St → MH → (Bool → MH → Prop) → Prop
  | .nil, _, M, Q => Q true M
  | .cons e r, σ, M, Q => wpE e σ M fun x M1 => match truthy M1 x with
    | some true => wpIfs r σ M1 Q
    | some false => Q false M1
    | none => False
def wpI : It → St → MH → (List PV → (MH → Prop) → MH → Prop) → Prop
  | .of e, σ, M, Q => wpE e σ M fun v M1 => match seqOf M1 v with
    | some xs => Q xs (stays M1 v) M1
    | none => False
  | .enum e, σ, M, Q => wpE e σ M fun v M1 => match seqOf M1 v with
    | some xs => Q (enumL 0 xs) (stays M1 v) M1
    | none => False
  | .zip a b, σ, M, Q => wpE a σ M fun v M1 => wpE b σ M1 fun u M2 => match seqOf M2 v, seqOf M2 u with
    | some xs, some ys => Q (zipL xs ys) (fun M' => stays M2 v M' ∧ stays M2 u M') M2
    | _, _ => False
  | .range es, σ, M, Q => wpEs es σ M fun vs M1 => match rngOf vs with
    | some xs => Q xs (fun _ => True) M1
    | none => False
  | .items e, σ, M, Q => wpE e σ M fun v M1 => match dctOf M1 v with
    | some kvs => Q (kvs.map fun p => .tup [p.1, p.2]) (stays M1 v) M1
    | none => False
  | .vals e, σ, M, Q => wpE e σ M fun v M1 => match dctOf M1 v with
    | some kvs => Q (kvs.map fun p => p.2) (stays M1 v) M1
    | none => False
def wpTg : Tg → PV → St → MH → (St → MH → Prop) → Prop
  | .nm i, v, σ, M, K => K (σ.set i (some v)) M
  | .tup ts, v, σ, M, K => match v with
    | .tup xs => xs.length = ts.len ∧ wpTgs ts xs σ M K
    | _ => False
  | .idx a i, v, σ, M, K => wpE a σ M fun x M1 => wpE i σ M1 fun y M2 => setR M2 x y v fun M3 => K σ M3
  | .fld a f, v, σ, M, K => wpE a σ M fun x M1 => match x with
    | .ref p => (match M1 p with
      | some (.ins c fs) => T.fld c f = true ∧ fs.length < 100 ∧ K σ (mup M1 p (.ins c (pput f v fs)))
      | _ => False)
    | _ => False
def wpTgs : Tgs → List PV → St → MH → (St → MH → Prop) → Prop
  | .nil, vs, σ, M, K => vs = [] ∧ K σ M
  | .cons t r, vs, σ, M, K => match vs with
    | v :: vs => wpTg t v σ M fun σ1 M1 => wpTgs r vs σ1 M1 K
    | [] => False
end
def whN (c : St → MH → (PV → MH → Prop) → Prop) (b : Ends → St → MH → Prop) (D : Ends) : Nat → St → MH → Prop
  | 0, _, _ => False
  | n + 1, σ, M => c σ M fun x M1 => match truthy M1 x with
    | some true => b { D with nx := whN c b D n, ct := whN c b D n, bk := D.nx } σ M1
    | some false => D.nx σ M1
    | none => False
def setAll : List Nat → List PV → St → St
  | i :: is, v :: vs, σ => setAll is vs (σ.set i (some v))
  | _, _, σ => σ
mutual
def wpS : S → Ends → St → MH → Prop
  | .exp e, D, σ, M => wpE T C e σ M fun _ M1 => D.nx σ M1
  | .asg t e, D, σ, M => wpE T C e σ M fun v M1 => wpTg T C t v σ M1 D.nx
  | .par is es, D, σ, M => wpEs T C es σ M fun vs M1 => vs.length = is.length ∧ D.nx (setAll is vs σ) M1
  | .ret e, D, σ, M => wpE T C e σ M D.rt
  | .retn, D, _, M => D.rt .non M
  | .ifs t a b, D, σ, M => wpE T C t σ M fun x M1 => match truthy M1 x with
    | some true => wpSs a D σ M1
    | some false => wpSs b D σ M1
    | none => False
  | .whl t b, D, σ, M => ∃ n, whN (wpE T C t) (wpSs b) D n σ M
  | .for_ t i b, D, σ, M => wpI T C i σ M fun xs g M1 => forL g D.nx (fun x σ1 M2 K => wpTg T C t x σ1 M2 fun σ2 M3 => wpSs b { D with nx := K, ct := K, bk := D.nx } σ2 M3) xs σ M1
  | .pas, D, σ, M => D.nx σ M
  | .brk, D, σ, M => D.bk σ M
  | .cnt, D, σ, M => D.ct σ M
  | .rai, _, _, _ => False
def wpSs : Ss → Ends → St → MH → Prop
  | .nil, D, σ, M => D.nx σ M
  | .cons s r, D, σ, M => wpS s { D with nx := wpSs r D } σ M
end
end
/-- a def's promise at so many levels of calls -/
def Cn (T : Tab) (F : Nat → Option Fn) : Nat → CT
  | 0 => fun _ _ _ _ => False
  | k + 1 => fun f vs M Q => match F f with
    | some fn => vs.length = fn.np ∧ wpSs T (Cn T F k) fn.body { nx := fun _ M' => Q .non M', rt := Q } (vs.map some ++ List.replicate (fn.ns - fn.np) none) M
    | none => False
end Ev
end

section
/-! EvB: the weakest preconditions are monotone. -/
namespace Ev
open PySem
section
variable {T : Tab} {C : CT}
def CMono (C : CT) : Prop := ∀ f vs M (Q Q' : PV → MH → Prop), (∀ v M', Q v M' → Q' v M') → C f vs M Q → C f vs M Q'
theorem res_mono {r : Option R} {M : MH} {Q Q' : PV → MH → Prop} (h : ∀ v M', Q v M' → Q' v M') (w : res r M Q) : res r M Q' := by
  cases r with
  | none => exact w
  | some r =>
    cases r with
    | val v => exact h _ _ w
    | new o => exact ⟨w.1, fun p hp => h _ _ (w.2 p hp)⟩
theorem appR_mono {M : MH} {m : Mth} {o : PV} {vs : List PV} {Q Q' : PV → MH → Prop} (h : ∀ v M', Q v M' → Q' v M') (w : appR M m o vs Q) : appR M m o vs Q' := by
  unfold appR at w ⊢
  split at w
  · split at w <;> first
      | exact ⟨w.1, h _ _ w.2⟩
      | exact ⟨w.1, h _ _ w.2⟩
      | (split at w <;> first | exact ⟨w.1, h _ _ w.2⟩ | exact h _ _ w | exact ⟨w.1, w.2.1, h _ _ w.2.2⟩ | exact w)
      | exact w
  · exact w
theorem setR_mono {M : MH} {o i v : PV} {K K' : MH → Prop} (h : ∀ M', K M' → K' M') (w : setR M o i v K) : setR M o i v K' := by
  unfold setR at w ⊢
  split at w
  · split at w
    · split at w
      · exact ⟨w.1, h _ w.2⟩
      · exact w
    · exact ⟨w.1, w.2.1, h _ w.2.2⟩
    · exact w
  · exact w
theorem wpCmp_mono (hC : CMono C) {op : Cop} {x y : PV} {M : MH} {Q Q' : PV → MH → Prop} (h : ∀ v M', Q v M' → Q' v M') (w : wpCmp T C op x y M Q) : wpCmp T C op x y M Q' := by
  unfold wpCmp at w ⊢
  split at w
  · split at w
    · exact ⟨w.1, hC _ _ _ _ _ (fun v M' ⟨b, e, q⟩ => ⟨b, e, h _ _ q⟩) w.2⟩
    · exact w
  · split at w
    · exact h _ _ w
    · exact w
theorem wpFld_mono (hC : CMono C) {o : PV} {f : Str} {M : MH} {Q Q' : PV → MH → Prop} (h : ∀ v M', Q v M' → Q' v M') (w : wpFld T C o f M Q) : wpFld T C o f M Q' := by
  unfold wpFld at w ⊢
  split at w
  · split at w
    · split at w
      · exact ⟨w.1, h _ _ w.2⟩
      · split at w
        · exact hC _ _ _ _ _ h w
        · exact w
    · exact w
  · exact w
theorem wpMak_mono (hC : CMono C) {c : Nat} {vs : List PV} {M : MH} {Q Q' : PV → MH → Prop} (h : ∀ v M', Q v M' → Q' v M') (w : wpMak T C c vs M Q) : wpMak T C c vs M Q' := by
  unfold wpMak at w ⊢
  split at w
  · exact fun p hp => hC _ _ _ _ _ (fun v M' q => ⟨q.1, h _ _ q.2⟩) (w p hp)
  · exact w
theorem cmpL_mono {g : MH → Prop} {dn dn' : MH → Prop} {step step' : PV → MH → (MH → Prop) → Prop} (hd : ∀ M, dn M → dn' M) (hs : ∀ x M (K K' : MH → Prop), (∀ M, K M → K' M) → step x M K → step' x M K') :
    ∀ (xs : List PV) (M : MH), cmpL g dn step xs M → cmpL g dn' step' xs M
  | [], _, h => ⟨h.1, hd _ h.2⟩
  | _ :: r, _, h => ⟨h.1, hs _ _ _ _ (cmpL_mono hd hs r) h.2⟩
theorem forL_mono {g : MH → Prop} {dn dn' : St → MH → Prop} {step step' : PV → St → MH → (St → MH → Prop) → Prop} (hd : ∀ σ M, dn σ M → dn' σ M)
    (hs : ∀ x σ M (K K' : St → MH → Prop), (∀ σ M, K σ M → K' σ M) → step x σ M K → step' x σ M K') : ∀ (xs : List PV) (σ : St) (M : MH), forL g dn step xs σ M → forL g dn' step' xs σ M
  | [], _, _, h => ⟨h.1, hd _ _ h.2⟩
  | _ :: r, _, _, h => ⟨h.1, hs _ _ _ _ _ (forL_mono hd hs r) h.2⟩
mutual
theorem wpE_mono (hC : CMono C) : ∀ (e : E) (σ : St) (M : MH) (Q Q' : PV → MH → Prop), (∀ v M', Q v M' → Q' v M') → wpE T C e σ M Q → wpE T C e σ M Q'
  | .var i, σ, M, Q, Q', h, w => by
    simp only [wpE] at w ⊢
    split at w
    · exact h _ _ w
    · exact w
  | .int i, σ, M, Q, Q', h, w => h _ _ w
  | .bl b, σ, M, Q, Q', h, w => h _ _ w
  | .non, σ, M, Q, Q', h, w => h _ _ w
  | .str s, σ, M, Q, Q', h, w => h _ _ w
  | .gc x, σ, M, Q, Q', h, w => by
    simp only [wpE] at w ⊢
    split at w
    · exact h _ _ w
    · exact w
  | .fn x, σ, M, Q, Q', h, w => h _ _ w
  | .bin op a b, σ, M, Q, Q', h, w => by
    simp only [wpE] at w ⊢
    exact wpE_mono hC a _ _ _ _ (fun x M1 w1 => wpE_mono hC b _ _ _ _ (fun y M2 w2 => res_mono h w2) w1) w
  | .neg a, σ, M, Q, Q', h, w => by
    simp only [wpE] at w ⊢
    refine wpE_mono hC a _ _ _ _ (fun x M1 w1 => ?_) w
    split at w1
    · exact h _ _ w1
    · exact w1
  | .not a, σ, M, Q, Q', h, w => by
    simp only [wpE] at w ⊢
    refine wpE_mono hC a _ _ _ _ (fun x M1 w1 => ?_) w
    split at w1
    · exact h _ _ w1
    · exact w1
  | .and a b, σ, M, Q, Q', h, w => by
    simp only [wpE] at w ⊢
    refine wpE_mono hC a _ _ _ _ (fun x M1 w1 => ?_) w
    split at w1
    · exact wpE_mono hC b _ _ _ _ h w1
    · exact h _ _ w1
    · exact w1
  | .or a b, σ, M, Q, Q', h, w => by
    simp only [wpE] at w ⊢
    refine wpE_mono hC a _ _ _ _ (fun x M1 w1 => ?_) w
    split at w1
    · exact h _ _ w1
    · exact wpE_mono hC b _ _ _ _ h w1
    · exact w1
  | .ite t a b, σ, M, Q, Q', h, w => by
    simp only [wpE] at w ⊢
    refine wpE_mono hC t _ _ _ _ (fun x M1 w1 => ?_) w
    split at w1
    · exact wpE_mono hC a _ _ _ _ h w1
    · exact wpE_mono hC b _ _ _ _ h w1
    · exact w1
  | .cmp op a b, σ, M, Q, Q', h, w => by
    simp only [wpE] at w ⊢
    exact wpE_mono hC a _ _ _ _ (fun x M1 w1 => wpE_mono hC b _ _ _ _ (fun y M2 w2 => wpCmp_mono hC h w2) w1) w
  | .chain o1 o2 a b c, σ, M, Q, Q', h, w => by
    simp only [wpE] at w ⊢
    refine wpE_mono hC a _ _ _ _ (fun x M1 w1 => wpE_mono hC b _ _ _ _ (fun y M2 w2 => ?_) w1) w
    split at w2
    · refine wpE_mono hC c _ _ _ _ (fun z M3 w3 => ?_) w2
      split at w3
      · exact h _ _ w3
      · exact w3
    · exact h _ _ w2
    · exact w2
  | .tup es, σ, M, Q, Q', h, w => by
    simp only [wpE] at w ⊢
    exact wpEs_mono hC es _ _ _ _ (fun vs M1 w1 => ⟨w1.1, h _ _ w1.2⟩) w
  | .lst es, σ, M, Q, Q', h, w => by
    simp only [wpE] at w ⊢
    exact wpEs_mono hC es _ _ _ _ (fun vs M1 w1 => ⟨w1.1, fun p hp => h _ _ (w1.2 p hp)⟩) w
  | .dct es, σ, M, Q, Q', h, w => by
    simp only [wpE] at w ⊢
    intro p hp
    refine wpEs_mono hC es _ _ _ _ (fun vs M1 w1 => ⟨w1.1, ?_⟩) (w p hp)
    have w2 := w1.2
    split at w2
    · exact ⟨w2.1, w2.2.1, h _ _ w2.2.2⟩
    · exact w2
  | .idx a i, σ, M, Q, Q', h, w => by
    simp only [wpE] at w ⊢
    refine wpE_mono hC a _ _ _ _ (fun x M1 w1 => wpE_mono hC i _ _ _ _ (fun y M2 w2 => ?_) w1) w
    split at w2
    · exact h _ _ w2
    · exact w2
  | .slc a lo hi, σ, M, Q, Q', h, w => by
    simp only [wpE] at w ⊢
    exact wpE_mono hC a _ _ _ _ (fun x M1 w1 => wpE_mono hC lo _ _ _ _ (fun y M2 w2 => ⟨w2.1, wpE_mono hC hi _ _ _ _ (fun z M3 w3 => res_mono h w3) w2.2⟩) w1) w
  | .rev a, σ, M, Q, Q', h, w => by
    simp only [wpE] at w ⊢
    exact wpE_mono hC a _ _ _ _ (fun x M1 w1 => res_mono h w1) w
  | .fld a f, σ, M, Q, Q', h, w => by
    simp only [wpE] at w ⊢
    exact wpE_mono hC a _ _ _ _ (fun x M1 w1 => wpFld_mono hC h w1) w
  | .call f es, σ, M, Q, Q', h, w => by
    simp only [wpE] at w ⊢
    exact wpEs_mono hC es _ _ _ _ (fun vs M1 w1 => hC _ _ _ _ _ h w1) w
  | .calk f es zs p, σ, M, Q, Q', h, w => by
    simp only [wpE] at w ⊢
    exact wpEs_mono hC es _ _ _ _ (fun vs M1 w1 => wpEs_mono hC zs _ _ _ _ (fun ws M2 w2 => hC _ _ _ _ _ h w2) w1) w
  | .calv i es, σ, M, Q, Q', h, w => by
    simp only [wpE] at w ⊢
    split at w
    · exact wpEs_mono hC es _ _ _ _ (fun vs M1 w1 => hC _ _ _ _ _ h w1) w
    · exact w
  | .blt b es, σ, M, Q, Q', h, w => by
    simp only [wpE] at w ⊢
    exact wpEs_mono hC es _ _ _ _ (fun vs M1 w1 => res_mono h w1) w
  | .mak c es, σ, M, Q, Q', h, w => by
    simp only [wpE] at w ⊢
    exact wpEs_mono hC es _ _ _ _ (fun vs M1 w1 => wpMak_mono hC h w1) w
  | .mth m o es, σ, M, Q, Q', h, w => by
    simp only [wpE] at w ⊢
    exact wpE_mono hC o _ _ _ _ (fun x M1 w1 => ⟨w1.1, wpEs_mono hC es _ _ _ _ (fun vs M2 w2 => appR_mono h w2) w1.2⟩) w
  | .omt o m es, σ, M, Q, Q', h, w => by
    simp only [wpE] at w ⊢
    refine wpE_mono hC o _ _ _ _ (fun x M1 w1 => ?_) w
    split at w1
    · exact wpEs_mono hC es _ _ _ _ (fun vs M2 w2 => hC _ _ _ _ _ h w2) w1
    · exact w1
  | .isi a ts, σ, M, Q, Q', h, w => by
    simp only [wpE] at w ⊢
    refine ⟨w.1, wpE_mono hC a _ _ _ _ (fun x M1 w1 => ?_) w.2⟩
    split at w1
    · exact ⟨w1.1, h _ _ w1.2⟩
    · exact w1
  | .cmpr elt tg it ifs own, σ, M, Q, Q', h, w => by
    simp only [wpE] at w ⊢
    refine wpI_mono hC it _ _ _ _ (fun xs g M1 w1 D hD => ?_) w
    refine cmpL_mono (fun M' q => h _ _ q) (fun x M2 K K' hk w2 => ?_) _ _ (w1 D hD)
    refine wpTg_mono hC tg _ _ _ _ _ (fun σ2 M3 w3 => wpIfs_mono hC ifs _ _ _ _ (fun b M4 w4 => ?_) w3) w2
    split at w4
    · rename_i hb
      rw [if_pos hb]
      exact wpE_mono hC elt _ _ _ _ (fun y M5 ⟨acc, e1, e2, q⟩ => ⟨acc, e1, e2, hk _ q⟩) w4
    · rename_i hb
      rw [if_neg hb]
      exact hk _ w4
theorem wpEs_mono (hC : CMono C) : ∀ (es : Es) (σ : St) (M : MH) (Q Q' : List PV → MH → Prop), (∀ v M', Q v M' → Q' v M') → wpEs T C es σ M Q → wpEs T C es σ M Q'
  | .nil, σ, M, Q, Q', h, w => h _ _ w
  | .cons e r, σ, M, Q, Q', h, w => by
    simp only [wpEs] at w ⊢
    exact wpE_mono hC e _ _ _ _ (fun x M1 w1 => wpEs_mono hC r _ _ _ _ (fun vs M2 w2 => h _ _ w2) w1) w
theorem wpIfs_mono (hC : CMono C) : ∀ (es : Es) (σ : St) (M : MH) (Q Q' : Bool → MH → Prop), (∀ v M', Q v M' → Q' v M') → wpIfs T C es σ M Q → wpIfs T C es σ M Q'
  | .nil, σ, M, Q, Q', h, w => h _ _ w
  | .cons e r, σ, M, Q, Q', h, w => by
    simp only [wpIfs] at w ⊢
    refine wpE_mono hC e _ _ _ _ (fun x M1 w1 => ?_) w
    split at w1
    · exact wpIfs_mono hC r _ _ _ _ h w1
    · exact h _ _ w1
    · exact w1
theorem wpI_mono (hC : CMono C) : ∀ (i : It) (σ : St) (M : MH) (Q Q' : List PV → (MH → Prop) → MH → Prop), (∀ v g M', Q v g M' → Q' v g M') → wpI T C i σ M Q → wpI T C i σ M Q'
  | .of e, σ, M, Q, Q', h, w => by
    simp only [wpI] at w ⊢
    refine wpE_mono hC e _ _ _ _ (fun x M1 w1 => ?_) w
    split at w1
    · exact h _ _ _ w1
    · exact w1
  | .enum e, σ, M, Q, Q', h, w => by
    simp only [wpI] at w ⊢
    refine wpE_mono hC e _ _ _ _ (fun x M1 w1 => ?_) w
    split at w1
    · exact h _ _ _ w1
    · exact w1
  | .zip a b, σ, M, Q, Q', h, w => by
    simp only [wpI] at w ⊢
    refine wpE_mono hC a _ _ _ _ (fun x M1 w1 => wpE_mono hC b _ _ _ _ (fun y M2 w2 => ?_) w1) w
    split at w2
    · exact h _ _ _ w2
    · exact w2
  | .range es, σ, M, Q, Q', h, w => by
    simp only [wpI] at w ⊢
    refine wpEs_mono hC es _ _ _ _ (fun x M1 w1 => ?_) w
    split at w1
    · exact h _ _ _ w1
    · exact w1
  | .items e, σ, M, Q, Q', h, w => by
    simp only [wpI] at w ⊢
    refine wpE_mono hC e _ _ _ _ (fun x M1 w1 => ?_) w
    split at w1
    · exact h _ _ _ w1
    · exact w1
  | .vals e, σ, M, Q, Q', h, w => by
    simp only [wpI] at w ⊢
    refine wpE_mono hC e _ _ _ _ (fun x M1 w1 => ?_) w
    split at w1
    · exact h _ _ _ w1
    · exact w1
theorem wpTg_mono (hC : CMono C) : ∀ (t : Tg) (v : PV) (σ : St) (M : MH) (K K' : St → MH → Prop), (∀ σ M', K σ M' → K' σ M') → wpTg T C t v σ M K → wpTg T C t v σ M K'
  | .nm i, v, σ, M, K, K', h, w => h _ _ w
  | .tup ts, v, σ, M, K, K', h, w => by
    simp only [wpTg] at w ⊢
    split at w
    · exact ⟨w.1, wpTgs_mono hC ts _ _ _ _ _ h w.2⟩
    · exact w
  | .idx a i, v, σ, M, K, K', h, w => by
    simp only [wpTg] at w ⊢
    exact wpE_mono hC a _ _ _ _ (fun x M1 w1 => wpE_mono hC i _ _ _ _ (fun y M2 w2 => setR_mono (fun M3 q => h _ _ q) w2) w1) w
  | .fld a f, v, σ, M, K, K', h, w => by
    simp only [wpTg] at w ⊢
    refine wpE_mono hC a _ _ _ _ (fun x M1 w1 => ?_) w
    split at w1
    · split at w1
      · exact ⟨w1.1, w1.2.1, h _ _ w1.2.2⟩
      · exact w1
    · exact w1
theorem wpTgs_mono (hC : CMono C) : ∀ (t : Tgs) (v : List PV) (σ : St) (M : MH) (K K' : St → MH → Prop), (∀ σ M', K σ M' → K' σ M') → wpTgs T C t v σ M K → wpTgs T C t v σ M K'
  | .nil, v, σ, M, K, K', h, w => ⟨w.1, h _ _ w.2⟩
  | .cons t r, v, σ, M, K, K', h, w => by
    simp only [wpTgs] at w ⊢
    split at w
    · exact wpTg_mono hC t _ _ _ _ _ (fun σ1 M1 w1 => wpTgs_mono hC r _ _ _ _ _ h w1) w
    · exact w
end
structure Ends.le (D D' : Ends) : Prop where
  nx : ∀ σ M, D.nx σ M → D'.nx σ M
  rt : ∀ v M, D.rt v M → D'.rt v M
  bk : ∀ σ M, D.bk σ M → D'.bk σ M
  ct : ∀ σ M, D.ct σ M → D'.ct σ M
theorem Ends.le.refl (D : Ends) : D.le D := ⟨fun _ _ h => h, fun _ _ h => h, fun _ _ h => h, fun _ _ h => h⟩
theorem whN_mono {c c' : St → MH → (PV → MH → Prop) → Prop} {b : Ends → St → MH → Prop} {D D' : Ends} (hc : ∀ σ M Q Q', (∀ v M', Q v M' → Q' v M') → c σ M Q → c' σ M Q') (hb : ∀ D D' σ M, D.le D' → b D σ M → b D' σ M) (hD : D.le D') :
    ∀ n σ M, whN c b D n σ M → whN c' b D' n σ M
  | 0, _, _, h => h
  | n + 1, σ, M, h => by
    have ih := whN_mono hc hb hD n
    refine hc _ _ _ _ (fun x M1 w => ?_) h
    split at w
    · exact hb { D with nx := whN c b D n, ct := whN c b D n, bk := D.nx } _ _ _ ⟨ih, hD.rt, hD.nx, ih⟩ w
    · exact hD.nx _ _ w
    · exact w
mutual
theorem wpS_mono (hC : CMono C) : ∀ (s : S) (D D' : Ends) (σ : St) (M : MH), D.le D' → wpS T C s D σ M → wpS T C s D' σ M
  | .exp e, D, D', σ, M, h, w => by
    simp only [wpS] at w ⊢
    exact wpE_mono hC e _ _ _ _ (fun _ M1 w1 => h.nx _ _ w1) w
  | .asg t e, D, D', σ, M, h, w => by
    simp only [wpS] at w ⊢
    exact wpE_mono hC e _ _ _ _ (fun v M1 w1 => wpTg_mono hC t _ _ _ _ _ h.nx w1) w
  | .par is es, D, D', σ, M, h, w => by
    simp only [wpS] at w ⊢
    exact wpEs_mono hC es _ _ _ _ (fun vs M1 w1 => ⟨w1.1, h.nx _ _ w1.2⟩) w
  | .ret e, D, D', σ, M, h, w => by
    simp only [wpS] at w ⊢
    exact wpE_mono hC e _ _ _ _ h.rt w
  | .retn, D, D', σ, M, h, w => h.rt _ _ w
  | .ifs t a b, D, D', σ, M, h, w => by
    simp only [wpS] at w ⊢
    refine wpE_mono hC t _ _ _ _ (fun x M1 w1 => ?_) w
    split at w1
    · exact wpSs_mono hC a _ _ _ _ h w1
    · exact wpSs_mono hC b _ _ _ _ h w1
    · exact w1
  | .whl t b, D, D', σ, M, h, w => by
    simp only [wpS] at w ⊢
    obtain ⟨n, w⟩ := w
    exact ⟨n, whN_mono (fun σ M Q Q' hq => wpE_mono hC t σ M Q Q' hq) (fun D D' σ M hd => wpSs_mono hC b D D' σ M hd) h n σ M w⟩
  | .for_ t i b, D, D', σ, M, h, w => by
    simp only [wpS] at w ⊢
    refine wpI_mono hC i _ _ _ _ (fun xs g M1 w1 => ?_) w
    refine forL_mono h.nx (fun x σ1 M2 K K' hk w2 => ?_) _ _ _ w1
    exact wpTg_mono hC t _ _ _ _ _ (fun σ2 M3 w3 => wpSs_mono hC b { D with nx := K, ct := K, bk := D.nx } _ _ _ ⟨hk, h.rt, h.nx, hk⟩ w3) w2
  | .pas, D, D', σ, M, h, w => h.nx _ _ w
  | .brk, D, D', σ, M, h, w => h.bk _ _ w
  | .cnt, D, D', σ, M, h, w => h.ct _ _ w
  | .rai, D, D', σ, M, h, w => w
theorem wpSs_mono (hC : CMono C) : ∀ (s : Ss) (D D' : Ends) (σ : St) (M : MH), D.le D' → wpSs T C s D σ M → wpSs T C s D' σ M
  | .nil, D, D', σ, M, h, w => h.nx _ _ w
  | .cons s r, D, D', σ, M, h, w => by
    simp only [wpSs] at w ⊢
    exact wpS_mono hC s { D with nx := wpSs T C r D } _ _ _ ⟨fun σ M w1 => wpSs_mono hC r _ _ _ _ h w1, h.rt, h.bk, h.ct⟩ w
end
theorem Cn_mono (T : Tab) (F : Nat → Option Fn) : ∀ k, CMono (Cn T F k)
  | 0 => fun _ _ _ _ _ _ w => w
  | k + 1 => fun f vs M Q Q' h w => by
    unfold Cn at w ⊢
    split at w
    · exact ⟨w.1, wpSs_mono (Cn_mono T F k) _ { nx := fun _ M' => Q .non M', rt := Q } _ _ _ ⟨fun _ M' q => h _ _ q, fun v M' q => h _ _ q, fun _ _ z => z, fun _ _ z => z⟩ w.2⟩
    · exact w
end
end Ev
end

section
/-! EvC: from the program's text to the small language. -/
namespace Ev
open PySem
/-- the names that a text's part sees -/
structure TC where
  N : List Str
  sc : Scope
  fnB : Str → Bool
  fns : List (Str × List Str)
  cns : List Str
  cls : List Str
  /-- calls with keywords: the def, how many positional arguments, the keywords -/
  kwl : List (Nat × Nat × List Str)
def ixOf (x : Str) : List Str → Option Nat
  | [] => none
  | y :: r => if y = x then some 0 else (ixOf x r).map (· + 1)
def ixFn (x : Str) : List (Str × List Str) → Option Nat
  | [] => none
  | y :: r => if y.1 = x then some 0 else (ixFn x r).map (· + 1)
def TC.kind (tc : TC) (x : Str) : Option NameKind := tc.sc.names.lookup x
def TC.vis (tc : TC) (x : Str) : Bool := match tc.kind x with
  | some .local => true
  | some .cell => true
  | some .free => true
  | _ => false
def TC.gl (tc : TC) (x : Str) : Bool := match tc.kind x with
  | some .globalImplicit => true
  | _ => false
/-- may be stored -/
def TC.sto (tc : TC) (x : Str) : Bool := match tc.kind x with
  | some .local => true
  | some .cell => tc.fnB x
  | _ => false
def trBop : Operator → Option Bop
  | .Add => some .add
  | .Sub => some .sub
  | .Mult => some .mul
  | .FloorDiv => some .fdiv
  | .Mod => some .mod
  | .Pow => some .pow
  | _ => none
def trCop : CmpOp → Cop
  | .Eq => .eq
  | .NotEq => .ne
  | .Lt => .lt
  | .LtE => .le
  | .Gt => .gt
  | .GtE => .ge
  | .Is => .is_
  | .IsNot => .isnt
  | .In => .in_
  | .NotIn => .nin
/-- built-in functions and types by name -/
def blts : List (Str × Blt) := [("len", .len), ("abs", .abs), ("max", .max), ("min", .min), ("int", .int), ("tuple", .tuple), ("list", .list), ("sorted", .sorted), ("set", .set), ("divmod", .divmod), ("all", .all), ("any", .any), ("sum", .sum), ("bool", .bool), ("dict", .dict)]
def mths : List (Str × Mth) := [("append", .append), ("extend", .extend), ("pop", .pop), ("get", .get), ("update", .update)]
def tyOf1 (tc : TC) (x : Str) : Option Ty1 := if tc.gl x = true ∧ (x == ("__debug__" : Str)) = false then
    (if x = "int" then some .int else if x = "bool" then some .bool else if x = "str" then some .str else if x = "tuple" then some .tuple else if x = "list" then some .list else (ixOf x tc.cls).map .cls)
  else none
def tysOf (tc : TC) : List Expr → Option (List Ty1)
  | [] => some []
  | .Name x _ :: r => match tyOf1 tc x, tysOf tc r with
    | some t, some ts => some (t :: ts)
    | _, _ => none
  | _ => none
def Es.len : Es → Nat
  | .nil => 0
  | .cons _ r => r.len + 1
/-- the order of the parameters among the arguments: positional ones first, then the keywords' -/
def permOf (ps : List Str) (np : Nat) (kws : List Str) : Option (List Nat) := if np + kws.length = ps.length ∧ kws.Nodup then
    (List.range ps.length).mapM fun i => if i < np then some i else (ixOf (ps.getD i "") kws).map (· + np)
  else none
def kwNames : List Keyword → Option (List Str)
  | [] => some []
  | ⟨some n, _, _⟩ :: r => (kwNames r).map (n :: ·)
  | _ => none
def kwVals : List Keyword → List Expr
  | [] => []
  | ⟨_, v, _⟩ :: r => v :: kwVals r
def relSc (scope sc : Scope) : Scope :=
  { scope with names := scope.names.map fun (n, k) => if (k == .free && sc.kind == .function && sc.names.lookup n == some .cell) then (n, .cell) else (n, k) }
def ownOf (N : List Str) : List (Str × NameKind) → List (Str × Nat)
  | [] => []
  | (n, k) :: r => if k = .local ∨ k = .cell then (match ixOf n N with
    | some i => (n, i) :: ownOf N r
    | none => ownOf N r) else ownOf N r
def TC.blk (tc : TC) (scope : Scope) : TC := { tc with sc := relSc scope tc.sc, fnB := fun x => scope.names.lookup x == some .cell }
/-- enumerate asks for a tuple of names -/
def itOk : It → Expr → Bool
  | .enum _, .Tuple .. => true
  | .enum _, _ => false
  | _, _ => true
mutual
def tgIn (own : List Nat) : Tg → Bool
  | .nm i => own.contains i
  | .tup ts => tgsIn own ts
  | _ => false
def tgsIn (own : List Nat) : Tgs → Bool
  | .nil => true
  | .cons t r => tgIn own t && tgsIn own r
end
/-- a list comprehension's value may be stored on the fly -/
def isComp : Expr → Bool
  | .ListComp .. => true
  | .SetComp .. => true
  | .DictComp .. => true
  | _ => false
def plainName (tc : TC) : Expr → Option (Str × Nat)
  | .Name x pos => (match tc.kind x with
    | some .local => (ixOf x tc.N).map fun i => (x, i)
    | _ => none)
  | _ => none
mutual
def trE : Nat → TC → Expr → Option E
  | 0, _, _ => none
  | n + 1, tc, e => match e with
    | .Constant (.int i) _ _ => some (.int i)
    | .Constant (.bool b) _ _ => some (.bl b)
    | .Constant .none _ _ => some .non
    | .Constant (.str s) _ _ => some (.str s)
    | .Name x _ => if x == ("__debug__" : Str) || x == ("__classdict__" : Str) then none else
      if tc.vis x then (ixOf x tc.N).map .var
      else if tc.gl x then (match ixOf x tc.cns with
        | some i => some (.gc i)
        | none => (ixFn x tc.fns).map .fn)
      else none
    | .BinOp a op b _ => match trBop op, trE n tc a, trE n tc b with
      | some o, some a', some b' => some (.bin o a' b')
      | _, _, _ => none
    | .UnaryOp .Not a _ => (trE n tc a).map .not
    | .UnaryOp .USub a _ => (trE n tc a).map .neg
    | .BoolOp op es _ => trB n tc op es
    | .IfExp t a b _ => match trE n tc t, trE n tc a, trE n tc b with
      | some t', some a', some b' => some (.ite t' a' b')
      | _, _, _ => none
    | .Compare a [o] [b] _ => match trE n tc a, trE n tc b with
      | some a', some b' => some (.cmp (trCop o) a' b')
      | _, _ => none
    | .Compare a [o1, o2] [b, c] _ => match trE n tc a, trE n tc b, trE n tc c with
      | some a', some b', some c' => some (.chain (trCop o1) (trCop o2) a' b' c')
      | _, _, _ => none
    | .Tuple es _ _ => (trEs n tc es).map .tup
    | .List es _ => (trEs n tc es).map .lst
    | .Dict [] [] _ => some (.dct .nil)
    | .Dict [some k] [v] _ => match trE n tc k, trE n tc v with
      | some k', some v' => some (.dct (.cons k' (.cons v' .nil)))
      | _, _ => none
    | .Subscript v (.Slice lo hi none _) _ => match trE n tc v, trO n tc lo, trO n tc hi with
      | some v', some l', some h' => some (.slc v' l' h')
      | _, _, _ => none
    | .Subscript _ (.Slice ..) _ => none
    | .Subscript v i _ => match trE n tc v, trE n tc i with
      | some v', some i' => some (.idx v' i')
      | _, _ => none
    | .Attribute v f _ => match trE n tc v with
      | some v' => some (.fld v' f)
      | none => none
    | .Call (.Name f _) es kws _ => if f == ("__debug__" : Str) || f == ("super" : Str) || f == ("__classdict__" : Str) then none else
      if tc.vis f then (match kws, ixOf f tc.N, trEs n tc es with
        | [], some i, some es' => some (.calv i es')
        | _, _, _ => none)
      else if tc.gl f then (match ixFn f tc.fns with
        | some i => (match kws with
          | [] => (trEs n tc es).map (.call i)
          | _ => match kwNames kws, trEs n tc es, trEs n tc (kwVals kws) with
            | some ks, some es1, some es2 => (match permOf ((tc.fns.getD i ("", [])).2) es1.len ks with
              | some p => if tc.kwl.contains (i, es1.len, ks) then some (.calk i es1 es2 p) else none
              | none => none)
            | _, _, _ => none)
        | none => (match kws with
          | [] => (match ixOf f tc.cls with
            | some c => (trEs n tc es).map (.mak c)
            | none => if f = "isinstance" then (match es with
                | [a, .Tuple ts _ _] => (match trE n tc a, tysOf tc ts with
                  | some a', some ts' => if ts'.length ≤ 100 then some (.isi a' ts') else none
                  | _, _ => none)
                | [a, .Name t p] => (match trE n tc a, tysOf tc [.Name t p] with
                  | some a', some ts' => some (.isi a' ts')
                  | _, _ => none)
                | _ => none)
              else (match blts.lookup f with
                | some b => (trEs n tc es).map (.blt b)
                | none => none))
          | _ => none))
      else none
    | .Call (.Attribute o m apos) es [] pos => if (apos.endLine == pos.line && decide (es.length < 30)) = true then
        (match mths.lookup m with
        | some mm => (match trE n tc o, trEs n tc es with
          | some o', some es' => some (.mth mm o' es')
          | _, _ => none)
        | none => (match trE n tc o, trEs n tc es with
          | some o', some es' => some (.omt o' m es')
          | _, _ => none))
      else none
    | .ListComp elt [⟨tg, it, ifs, 0⟩] scope _ =>
      let own := ownOf tc.N scope.names
      match trIt n tc it, trTg n (tc.blk scope) tg, trEs n (tc.blk scope) ifs, trE n (tc.blk scope) elt with
      | some it', some tg', some ifs', some e' => if itOk it' tg && tgIn (own.map (·.2)) tg' && L2.blkC tc.N tc.sc scope own then some (.cmpr e' tg' it' ifs' (own.map (·.2))) else none
      | _, _, _, _ => none
    | _ => none
def trO : Nat → TC → Option Expr → Option E
  | 0, _, _ => none
  | n + 1, tc, o => match o with
    | none => some .non
    | some e => trE n tc e
def trB : Nat → TC → BoolOp → List Expr → Option E
  | 0, _, _, _ => none
  | n + 1, tc, op, es => match es with
    | [a] => trE n tc a
    | a :: b :: r => match trE n tc a, trB n tc op (b :: r) with
      | some a', some r' => some (match op with
        | .And => .and a' r'
        | .Or => .or a' r')
      | _, _ => none
    | [] => none
def trEs : Nat → TC → List Expr → Option Es
  | 0, _, _ => none
  | n + 1, tc, es => match es with
    | [] => some .nil
    | e :: r => match trE n tc e, trEs n tc r with
      | some e', some r' => some (.cons e' r')
      | _, _ => none
def trIt : Nat → TC → Expr → Option It
  | 0, _, _ => none
  | n + 1, tc, e => match e with
    | .Call (.Name f _) es [] _ => if tc.gl f && (ixFn f tc.fns).isNone && (ixOf f tc.cls).isNone && f = "range" && (es.length == 1 || es.length == 2) then (trEs n tc es).map .range
      else if tc.gl f && (ixFn f tc.fns).isNone && (ixOf f tc.cls).isNone && f = "enumerate" then (match es with
        | [a] => (trE n tc a).map .enum
        | _ => none)
      else (trE n tc e).map .of
    | e => (trE n tc e).map .of
def trTg : Nat → TC → Expr → Option Tg
  | 0, _, _ => none
  | n + 1, tc, e => match e with
    | .Name x _ => if tc.sto x then (ixOf x tc.N).map .nm else none
    | .Tuple es _ _ => (trTgs n tc es).map .tup
    | .Subscript _ (.Slice ..) _ => none
    | .Subscript o i _ => match trE n tc o, trE n tc i with
      | some o', some i' => some (.idx o' i')
      | _, _ => none
    | .Attribute o f _ => match trE n tc o with
      | some o' => some (.fld o' f)
      | none => none
    | _ => none
def trTgs : Nat → TC → List Expr → Option Tgs
  | 0, _, _ => none
  | n + 1, tc, es => match es with
    | [] => some .nil
    | e :: r => match trTg n tc e, trTgs n tc r with
      | some e', some r' => some (.cons e' r')
      | _, _ => none
end
/-- names that are stored from the right: all on the first one's line -/
def swL (ts : List Expr) : Nat := (ts.head?.map (·.pos.line)).getD 0
def swN (tc : TC) (ts : List Expr) : List Str := ts.filterMap fun
  | .Name id pos => if tc.kind id == some .local && pos.line == swL ts then some id else none
  | _ => none
/-- stored from the right: two or three plain local names -/
def swp (tc : TC) (ts vs : List Expr) : Bool :=
  !(!(ts.length == 2 || ts.length == 3) || vs.length != ts.length) && !((swN tc ts).length != ts.length || (swN tc ts).eraseDups.length != (swN tc ts).length) && !(vs.all (foldedForSure 8))
/-- a list comprehension and the name that takes it on the fly -/
def onFly (tc : TC) (t e : Expr) : Bool := match t, e with
  | .Name y py, .ListComp _ _ scope pos => tc.kind y == some .local && py.line == pos.line && !(scope.names.any fun (n, k) => n == y && (k == .local || k == .cell))
  | .Name _ _, _ => !(isComp e)
  | _, _ => true
mutual
def trS : Nat → TC → Stmt → Option S
  | 0, _, _ => none
  | n + 1, tc, s => match s with
    | .Expr (.Constant (.str _) _ _) _ => some .pas
    | .Expr e _ => if isComp e then none else (trE n tc e).map .exp
    | .Pass _ => some .pas
    | .Break _ => some .brk
    | .Continue _ => some .cnt
    | .Return none _ => some .retn
    | .Return (some e) _ => (trE n tc e).map .ret
    | .Raise .. => some .rai
    | .Assign [.Tuple ts _ _] (.Tuple vs _ _) _ => if swp tc ts vs then
        (if vs.all (constantsAlone 8) then none else
          match (swN tc ts).mapM (fun x => ixOf x tc.N), trEs n tc vs with
          | some is, some vs' => if is.Nodup then some (.par is vs') else none
          | _, _ => none)
      else (match trTgs n tc ts, trEs n tc vs with
        | some ts', some vs' => some (.asg (.tup ts') (.tup vs'))
        | _, _ => none)
    | .Assign [t] e _ => if onFly tc t e then (match trTg n tc t, trE n tc e with
      | some t', some e' => some (.asg t' e')
      | _, _ => none) else none
    | .If t a b _ => match trE n tc t, trSs n tc a, trSs n tc b with
      | some t', some a', some b' => some (.ifs t' a' b')
      | _, _, _ => none
    | .While t b [] _ => match trE n tc t, trSs n tc b with
      | some t', some b' => some (.whl t' b')
      | _, _ => none
    | .For t i b [] _ => match trTg n tc t, trIt n tc i, trSs n tc b with
      | some t', some i', some b' => if itOk i' t then some (.for_ t' i' b') else none
      | _, _, _ => none
    | _ => none
def trSs : Nat → TC → List Stmt → Option Ss
  | 0, _, _ => none
  | n + 1, tc, ss => match ss with
    | [] => some .nil
    | s :: r => match trS n tc s, trSs n tc r with
      | some s', some r' => some (.cons s' r')
      | _, _ => none
end
/-! names of a def: parameters, its own names, those of its comprehensions -/
mutual
def cnE : Nat → Expr → List Str
  | 0, _ => []
  | n + 1, e => match e with
    | .BinOp a _ b _ => cnE n a ++ cnE n b
    | .UnaryOp _ a _ => cnE n a
    | .BoolOp _ es _ => cnEs n es
    | .IfExp t a b _ => cnE n t ++ cnE n a ++ cnE n b
    | .Compare a _ bs _ => cnE n a ++ cnEs n bs
    | .Tuple es _ _ => cnEs n es
    | .List es _ => cnEs n es
    | .Dict _ vs _ => cnEs n vs
    | .Subscript v i _ => cnE n v ++ cnE n i
    | .Slice l u s _ => cnO n l ++ cnO n u ++ cnO n s
    | .Attribute v _ _ => cnE n v
    | .Call f es kws _ => cnE n f ++ cnEs n es ++ cnEs n (kwVals kws)
    | .ListComp elt gs sc _ => sc.names.filterMap (fun p => if p.2 = .local ∨ p.2 = .cell then some p.1 else none) ++ cnE n elt ++ cnG n gs
    | _ => []
def cnO : Nat → Option Expr → List Str
  | 0, _ => []
  | n + 1, o => match o with
    | none => []
    | some e => cnE n e
def cnEs : Nat → List Expr → List Str
  | 0, _ => []
  | n + 1, es => match es with
    | [] => []
    | e :: r => cnE n e ++ cnEs n r
def cnG : Nat → List Comprehension → List Str
  | 0, _ => []
  | n + 1, gs => match gs with
    | [] => []
    | ⟨t, i, fs, _⟩ :: r => cnE n t ++ cnE n i ++ cnEs n fs ++ cnG n r
end
mutual
def cnS : Nat → Stmt → List Str
  | 0, _ => []
  | n + 1, s => match s with
    | .Expr e _ => cnE n e
    | .Return o _ => cnO n o
    | .Assign ts e _ => cnEs n ts ++ cnE n e
    | .If t a b _ => cnE n t ++ cnSs n a ++ cnSs n b
    | .While t b _ _ => cnE n t ++ cnSs n b
    | .For t i b _ _ => cnE n t ++ cnE n i ++ cnSs n b
    | _ => []
def cnSs : Nat → List Stmt → List Str
  | 0, _ => []
  | n + 1, ss => match ss with
    | [] => []
    | s :: r => cnS n s ++ cnSs n r
end
def fuelT : Nat := 300
/-- a def's text: parameters, body, scope -/
structure Df where
  ps : List Str
  body : List Stmt
  sc : Scope
def Df.N (d : Df) : List Str := (d.ps ++ (d.sc.names.filterMap fun p => if p.2 = .local ∨ p.2 = .cell then some p.1 else none) ++ cnSs fuelT d.body).eraseDups
structure Env1 where
  fns : List (Str × List Str)
  cns : List Str
  cls : List Str
  kwl : List (Nat × Nat × List Str)
def Df.tc (d : Df) (g : Env1) : TC := ⟨d.N, d.sc, fun _ => true, g.fns, g.cns, g.cls, g.kwl⟩
def Df.tr (d : Df) (g : Env1) : Option Fn := (trSs fuelT (d.tc g) d.body).map fun b => ⟨d.ps.length, d.N.length, b⟩
end Ev
end

section
/-! EvD: the tables of a program's text. -/
namespace Ev
open PySem
def dfOf : Stmt → Option (Str × Df)
  | .FunctionDef n a b _ _ _ sc _ _ _ => some (n, ⟨a.args.map (·.arg), b, sc⟩)
  | _ => none
/-- the top defs by name -/
def topsOf : List Stmt → List (Str × Df)
  | [] => []
  | s :: r => (match dfOf s with
    | some p => [p]
    | none => []) ++ topsOf r
/-- the methods: class, name -/
def metsOf : List Stmt → List (Str × Str × Df)
  | [] => []
  | .ClassDef n _ _ body _ _ _ _ _ _ _ :: r => (body.filterMap fun s => (dfOf s).map fun p => (n, p.1, p.2)) ++ metsOf r
  | _ :: r => metsOf r
def clsOf : List Stmt → List Str
  | [] => []
  | .ClassDef n _ _ _ _ _ _ _ _ _ _ :: rest => n :: clsOf rest
  | _ :: rest => clsOf rest
def cnsOf : List Stmt → List Str
  | [] => []
  | .Assign [.Name x _] _ _ :: rest => (if x = "__name__" then [] else [x]) ++ cnsOf rest
  | _ :: rest => cnsOf rest
/-- all defs: the top ones first -/
def dfsOf (b : List Stmt) : List Df := (topsOf b).map (·.2) ++ (metsOf b).map (·.2.2)
def gEnv (b : List Stmt) (kwl : List (Nat × Nat × List Str)) : Env1 := ⟨(topsOf b).map fun p => (p.1, p.2.ps), cnsOf b, clsOf b, kwl⟩
end Ev
end

section
/-! EvE: how values and objects lie in the layer's heap. -/
namespace Ev
open PySem PySem.Spec PyProof.Rows L2
/-- the facts of the module -/
structure Wd where
  P : Program
  w : World
  K : PySem.W.Frag
  mg : Str → Option Value
  base : Heap
  fa : Nat → Addr
  ca : Nat → Addr
/-- a list that never changes -/
def FzL (K : PySem.W.Frag) (H : Hp) (a : Addr) (xs : List V) : Prop :=
  (∃ o, H a = some (.frz o (.lst xs))) ∨
    ∃ (o : Obj) (its : Array Value) (n : Nat), K.lookup a = some o ∧ o.cls = .type "list" ∧ o.dict = none ∧ o.data = .seq its n ∧ its.size ≤ sizeLine ∧ Vals xs its.toList
theorem FzL.sq {K : PySem.W.Frag} {H : Hp} {a : Addr} {xs : List V} (h : FzL K H a xs) : SqL K H a xs := by
  rcases h with h | h
  · exact .inl (.inr h)
  · exact .inr h
mutual
def RelP (W : Wd) (H : Hp) : PV → V → Prop
  | .non, v => v = .non
  | .bl b, v => v = .bl b
  | .int i, v => v = .int i
  | .str x, v => v = .str x
  | .tup xs, v => ∃ a vs, v = .ref a ∧ SqT W.K H a vs ∧ RelPs W H xs vs
  | .fl xs, v => ∃ a vs, v = .ref a ∧ FzL W.K H a vs ∧ RelPs W H xs vs
  | .ref a, v => v = .ref a
  | .fn i, v => v = .ref (W.fa i) ∧ PySem.W.keepIn W.K (.ref (W.fa i)) = true
  | .ty n, v => v = .ty n
def RelPs (W : Wd) (H : Hp) : List PV → List V → Prop
  | [], vs => vs = []
  | x :: xs, vs => ∃ v r, vs = v :: r ∧ RelP W H x v ∧ RelPs W H xs r
end
/-- what never changes stays -/
structure Grow (H H' : Hp) : Prop where
  tup : ∀ b xs, H b = some (.tup xs) → H' b = some (.tup xs)
  frz : ∀ b o u, H b = some (.frz o u) → H' b = some (.frz o u)
theorem Grow.refl (H : Hp) : Grow H H := ⟨fun _ _ h => h, fun _ _ _ h => h⟩
theorem Grow.trans {H H1 H2 : Hp} (a : Grow H H1) (b : Grow H1 H2) : Grow H H2 := ⟨fun c xs h => b.tup c xs (a.tup c xs h), fun c o u h => b.frz c o u (a.frz c o u h)⟩
theorem Grow.new {H : Hp} {p : Addr} {o : HO} (hp : H p = none) : Grow H (upd H p o) := ⟨fun b xs h => by rw [upd_ne (ne_of_none h hp)]; exact h, fun b q u h => by rw [upd_ne (ne_of_none h hp)]; exact h⟩
theorem Grow.set {H : Hp} {p : Addr} {o u : HO} (hp : H p = some u) (n1 : ∀ xs, u ≠ .tup xs) (n2 : ∀ o' u', u ≠ .frz o' u') : Grow H (upd H p o) := by
  refine ⟨fun b xs h => ?_, fun b q u' h => ?_⟩
  · have : b ≠ p := fun e => by subst e; rw [hp] at h; cases h; exact n1 xs rfl
    rw [upd_ne this]; exact h
  · have : b ≠ p := fun e => by subst e; rw [hp] at h; cases h; exact n2 _ _ rfl
    rw [upd_ne this]; exact h
theorem SqT.grow {K : PySem.W.Frag} {H H' : Hp} (g : Grow H H') {a : Addr} {xs : List V} (h : SqT K H a xs) : SqT K H' a xs := by
  rcases h with (h | ⟨o, h⟩) | h
  · exact .inl (.inl (g.tup _ _ h))
  · exact .inl (.inr ⟨o, g.frz _ _ _ h⟩)
  · exact .inr h
theorem FzL.grow {K : PySem.W.Frag} {H H' : Hp} (g : Grow H H') {a : Addr} {xs : List V} (h : FzL K H a xs) : FzL K H' a xs := by
  rcases h with ⟨o, h⟩ | h
  · exact .inl ⟨o, g.frz _ _ _ h⟩
  · exact .inr h
section
variable {W : Wd}
mutual
theorem RelP.grow {H H' : Hp} (g : Grow H H') : ∀ (x : PV) (v : V), RelP W H x v → RelP W H' x v
  | .non, v, h => h
  | .bl b, v, h => h
  | .int i, v, h => h
  | .str x, v, h => h
  | .tup xs, v, h => by
    simp only [RelP] at h ⊢
    obtain ⟨a, vs, e, q, r⟩ := h
    exact ⟨a, vs, e, SqT.grow g q, RelPs.grow g xs vs r⟩
  | .fl xs, v, h => by
    simp only [RelP] at h ⊢
    obtain ⟨a, vs, e, q, r⟩ := h
    exact ⟨a, vs, e, q.grow g, RelPs.grow g xs vs r⟩
  | .ref a, v, h => h
  | .fn i, v, h => h
  | .ty n, v, h => h
theorem RelPs.grow {H H' : Hp} (g : Grow H H') : ∀ (xs : List PV) (vs : List V), RelPs W H xs vs → RelPs W H' xs vs
  | [], vs, h => h
  | x :: xs, vs, h => by
    simp only [RelPs] at h ⊢
    obtain ⟨v, r, e, h1, h2⟩ := h
    exact ⟨v, r, e, RelP.grow g x v h1, RelPs.grow g xs r h2⟩
end
theorem RelPs.nil {H : Hp} : RelPs W H [] [] := by simp only [RelPs]
theorem RelPs.cons {H : Hp} {x : PV} {v : V} {xs : List PV} {vs : List V} (h : RelP W H x v) (r : RelPs W H xs vs) : RelPs W H (x :: xs) (v :: vs) := by
  simp only [RelPs]
  exact ⟨v, vs, rfl, h, r⟩
theorem RelPs.uncons {H : Hp} {x : PV} {xs : List PV} {v : V} {vs : List V} (h : RelPs W H (x :: xs) (v :: vs)) : RelP W H x v ∧ RelPs W H xs vs := by
  simp only [RelPs] at h
  obtain ⟨v', r, e, h1, h2⟩ := h
  cases e
  exact ⟨h1, h2⟩
theorem RelPs.length {H : Hp} : ∀ {xs : List PV} {vs : List V}, RelPs W H xs vs → xs.length = vs.length
  | [], vs, h => by
    simp only [RelPs] at h
    subst h
    rfl
  | x :: xs, vs, h => by
    simp only [RelPs] at h
    obtain ⟨v, r, e, _, h2⟩ := h
    rw [e, List.length_cons, List.length_cons, RelPs.length h2]
theorem RelPs.get {H : Hp} : ∀ {xs : List PV} {vs : List V} {i : Nat} {x : PV}, RelPs W H xs vs → xs[i]? = some x → ∃ v, vs[i]? = some v ∧ RelP W H x v
  | [], _, i, _, _, e => by simp at e
  | y :: xs, vs, 0, x, h, e => by
    simp only [RelPs] at h
    obtain ⟨v, r, e', h1, _⟩ := h
    simp at e
    subst e e'
    exact ⟨v, rfl, h1⟩
  | y :: xs, vs, i + 1, x, h, e => by
    simp only [RelPs] at h
    obtain ⟨v, r, e', _, h2⟩ := h
    subst e'
    obtain ⟨u, hu, q⟩ := RelPs.get h2 (by simpa using e)
    exact ⟨u, by simpa using hu, q⟩
theorem RelPs.get' {H : Hp} : ∀ {xs : List PV} {vs : List V} {i : Nat} {v : V}, RelPs W H xs vs → vs[i]? = some v → ∃ x, xs[i]? = some x ∧ RelP W H x v
  | [], vs, i, v, h, e => by simp only [RelPs] at h; subst h; simp at e
  | y :: xs, vs, 0, x, h, e => by
    simp only [RelPs] at h
    obtain ⟨v, r, e', h1, _⟩ := h
    subst e'
    simp at e
    subst e
    exact ⟨y, rfl, h1⟩
  | y :: xs, vs, i + 1, x, h, e => by
    simp only [RelPs] at h
    obtain ⟨v, r, e', _, h2⟩ := h
    subst e'
    obtain ⟨u, hu, q⟩ := RelPs.get' h2 (by simpa using e)
    exact ⟨u, by simpa using hu, q⟩
theorem RelPs.append {H : Hp} : ∀ {xs ys : List PV} {vs ws : List V}, RelPs W H xs vs → RelPs W H ys ws → RelPs W H (xs ++ ys) (vs ++ ws)
  | [], ys, vs, ws, h, q => by simp only [RelPs] at h; subst h; exact q
  | x :: xs, ys, vs, ws, h, q => by
    simp only [RelPs] at h
    obtain ⟨v, r, e, h1, h2⟩ := h
    subst e
    exact RelPs.cons h1 (RelPs.append h2 q)
theorem RelPs.take {H : Hp} : ∀ {xs : List PV} {vs : List V} (n : Nat), RelPs W H xs vs → RelPs W H (xs.take n) (vs.take n)
  | _, _, 0, _ => by simpa using RelPs.nil
  | [], vs, n + 1, h => by simp only [RelPs] at h; subst h; simpa using RelPs.nil
  | x :: xs, vs, n + 1, h => by
    simp only [RelPs] at h
    obtain ⟨v, r, e, h1, h2⟩ := h
    subst e
    exact RelPs.cons h1 (RelPs.take n h2)
theorem RelPs.drop {H : Hp} : ∀ {xs : List PV} {vs : List V} (n : Nat), RelPs W H xs vs → RelPs W H (xs.drop n) (vs.drop n)
  | _, _, 0, h => h
  | [], vs, n + 1, h => by simp only [RelPs] at h; subst h; simpa using RelPs.nil
  | x :: xs, vs, n + 1, h => by
    simp only [RelPs] at h
    obtain ⟨v, r, e, h1, h2⟩ := h
    subst e
    exact RelPs.drop n h2
theorem RelPs.set {H : Hp} : ∀ {xs : List PV} {vs : List V} (i : Nat) {x : PV} {v : V}, RelPs W H xs vs → RelP W H x v → RelPs W H (xs.set i x) (vs.set i v)
  | [], vs, i, x, v, h, q => by simp only [RelPs] at h; subst h; simpa using RelPs.nil
  | y :: xs, vs, 0, x, v, h, q => by
    simp only [RelPs] at h
    obtain ⟨u, r, e, h1, h2⟩ := h
    subst e
    exact RelPs.cons q h2
  | y :: xs, vs, i + 1, x, v, h, q => by
    simp only [RelPs] at h
    obtain ⟨u, r, e, h1, h2⟩ := h
    subst e
    exact RelPs.cons h1 (RelPs.set i h2 q)
theorem RelPs.reverse {H : Hp} : ∀ {xs : List PV} {vs : List V}, RelPs W H xs vs → RelPs W H xs.reverse vs.reverse
  | [], vs, h => by simp only [RelPs] at h; subst h; simpa using RelPs.nil
  | x :: xs, vs, h => by
    simp only [RelPs] at h
    obtain ⟨v, r, e, h1, h2⟩ := h
    subst e
    rw [List.reverse_cons, List.reverse_cons]
    exact RelPs.append (RelPs.reverse h2) (RelPs.cons h1 RelPs.nil)
end

/-! ### dicts, sets -/
def toNK : PV → Option NestedKey
  | .int i => some (.num i)
  | .str x => some (.text x)
  | .tup xs => (go xs).map .tup
  | _ => none
where go : List PV → Option (List NestedKey)
  | [] => some []
  | x :: xs => match toNK x, go xs with
    | some k, some ks => some (k :: ks)
    | _, _ => none
/-- a dict whose keys are tuples, by its entries -/
def DicT (W : Wd) (a : Addr) (xs : List (NestedKey × Addr × Value)) : HO := .ext fun h => xs.length ≤ sizeLine ∧ ∃ o es ep, h.get? a = some o ∧ o.ExactDict ∧ o.data = .dict es ep ∧ es.toList = xs.map (entryOfKey (nestedKind W.P W.w)) ∧ (xs.map (·.1)).Nodup
def pvKey : PV → Option L2.Key
  | .int i => some (.inl i)
  | .str x => some (.inr x)
  | _ => none
inductive EntK (W : Wd) (H : Hp) : List (PV × PV) → List (L2.Key × V) → Prop
  | nil : EntK W H [] []
  | cons {k v q u kvs ks} : pvKey k = some q → RelP W H v u → EntK W H kvs ks → EntK W H ((k, v) :: kvs) ((q, u) :: ks)
inductive EntT (W : Wd) (H : Hp) : List (PV × PV) → List (NestedKey × Addr × Value) → Prop
  | nil : EntT W H [] []
  | cons {k v nk b u x kvs xs} : isTup k = true → keyOk k = true → toNK k = some nk → RelP W H k (.ref b) → RelP W H v u → RelV u x → EntT W H kvs xs → EntT W H ((k, v) :: kvs) ((nk, b, x) :: xs)
inductive Flds (W : Wd) (H : Hp) : List (Str × PV) → List (Str × V) → Prop
  | nil : Flds W H [] []
  | cons {f x v fs hs} : RelP W H x v → Flds W H fs hs → Flds W H ((f, x) :: fs) ((f, v) :: hs)
/-- a set of ints, or of tuples of ints -/
def SetRel (W : Wd) (H : Hp) (a : Addr) (xs : List PV) : Prop :=
  (∃ (S : Int → Bool) (is : List Int), H a = some (L2.SetO W.w a S is.length) ∧ mapO intOf xs = some is ∧ is.Nodup ∧ ∀ k, S k = true ↔ k ∈ is)
  ∨ ∃ (L : List (Addr × List Int)) (ys : List (List Int)), H a = some (L2.SetTO W.P W.w a L) ∧ mapO intTup xs = some ys ∧ ys.Nodup ∧ (∀ p ∈ L, SqT W.K H p.1 (p.2.map V.int)) ∧ (∀ k, k ∈ L.map (·.2) ↔ k ∈ ys)
def OkM (W : Wd) (H : Hp) (a : Addr) : MO → Prop
  | .lst xs => ∃ vs, H a = some (.lst vs) ∧ RelPs W H xs vs
  | .dct kvs => (∃ ks, H a = some (.dK ks) ∧ EntK W H kvs ks) ∨ ∃ xs, H a = some (DicT W a xs) ∧ (a == sysModules) = false ∧ EntT W H kvs xs
  | .set xs => SetRel W H a xs
  | .ins C fs => ∃ dx hs, H a = some (.ins (W.ca C) dx hs) ∧ Flds W H fs hs
def Emb (W : Wd) (M : MH) (H : Hp) : Prop := ∀ a o, M a = some o → OkM W H a o
inductive EmbS (W : Wd) (H : Hp) : St → L2.St → Prop
  | nl : EmbS W H [] []
  | un {s h u} : EmbS W H s h → EmbS W H (none :: s) (u :: h)
  | sm {s h x v} : RelP W H x v → EmbS W H s h → EmbS W H (some x :: s) (some v :: h)
end Ev
end

section
/-! EvF: the readings, and the rules of names, constants, operators on ints, displays. -/
namespace Ev
open PySem PySem.Spec PyProof.Rows L2
/-- what is wanted in the layer's words, of what is wanted of values -/
def Aft (W : Wd) (H : Hp) (Q : VK) : PV → MH → Prop := fun v M' => ∀ H' x, Grow H H' → Emb W M' H' → RelP W H' v x → Q x H'
def rdE (W : Wd) (T : Tab) (C : CT) (e : E) : TE := fun σ H Q => ∃ st M, EmbS W H st σ ∧ Emb W M H ∧ wpE T C e st M (Aft W H Q)
def rdEs (W : Wd) (T : Tab) (C : CT) (es : Es) : TA := fun σ H Q => ∃ st M, EmbS W H st σ ∧ Emb W M H ∧ wpEs T C es st M (fun vs M' => ∀ H' xs, Grow H H' → Emb W M' H' → RelPs W H' vs xs → Q xs H')
/-- a test: the value's truth -/
def rdT (W : Wd) (T : Tab) (C : CT) (e : E) : TT := fun σ H Q => ∃ st M, EmbS W H st σ ∧ Emb W M H ∧ wpE T C e st M (fun v M' => ∃ b, truthy M' v = some b ∧ ∀ H', Grow H H' → Emb W M' H' → Q b H')
section
variable {W : Wd} {T : Tab} {C : CT} {X : Cx} {H H' : Hp}
theorem EmbS.grow (g : Grow H H') : ∀ {st : St} {σ : L2.St}, EmbS W H st σ → EmbS W H' st σ
  | _, _, .nl => .nl
  | _, _, .un h => .un (EmbS.grow g h)
  | _, _, .sm r h => .sm (RelP.grow g _ _ r) (EmbS.grow g h)
theorem EmbS.get : ∀ {st : St} {σ : L2.St} {i : Nat} {v : PV}, EmbS W H st σ → st[i]? = some (some v) → ∃ x, σ[i]? = some (some x) ∧ RelP W H v x
  | _, _, _, _, .nl, e => by simp at e
  | _, _, 0, _, .un h, e => by simp at e
  | _, _, 0, _, .sm r h, e => by simp at e; subst e; exact ⟨_, rfl, r⟩
  | _, _, i + 1, _, .un h, e => by
    obtain ⟨x, e1, r⟩ := EmbS.get h (by simpa using e)
    exact ⟨x, by simpa using e1, r⟩
  | _, _, i + 1, _, .sm _ h, e => by
    obtain ⟨x, e1, r⟩ := EmbS.get h (by simpa using e)
    exact ⟨x, by simpa using e1, r⟩
theorem EmbS.set {v : PV} {x : V} (r : RelP W H v x) : ∀ {st : St} {σ : L2.St} (i : Nat), EmbS W H st σ → EmbS W H (st.set i (some v)) (σ.set i (some x))
  | _, _, _, .nl => .nl
  | _, _, 0, .un h => .sm r h
  | _, _, 0, .sm _ h => .sm r h
  | _, _, i + 1, .un h => .un (EmbS.set r i h)
  | _, _, i + 1, .sm q h => .sm q (EmbS.set r i h)
theorem EmbS.unset : ∀ {st : St} {σ : L2.St} (i : Nat) (u : Option V), EmbS W H st σ → EmbS W H (st.set i none) (σ.set i u)
  | _, _, _, _, .nl => .nl
  | _, _, 0, _, .un h => .un h
  | _, _, 0, _, .sm _ h => .un h
  | _, _, i + 1, u, .un h => .un (EmbS.unset i u h)
  | _, _, i + 1, u, .sm q h => .sm q (EmbS.unset i u h)
theorem EmbS.wipe {st : St} {σ : L2.St} (h : EmbS W H st σ) : ∀ vs : List Nat, EmbS W H (Ev.wipe vs st) (L2.wipe σ vs)
  | [] => h
  | v :: vs => by
    unfold Ev.wipe L2.wipe
    exact EmbS.unset v none (EmbS.wipe h vs)
theorem EmbS.args : ∀ {vs : List PV} {xs : List V}, RelPs W H vs xs → EmbS W H (vs.map some) (xs.map some)
  | [], _, h => by simp only [RelPs] at h; subst h; exact .nl
  | v :: vs, _, h => by
    simp only [RelPs] at h
    obtain ⟨x, r, e, h1, h2⟩ := h
    subst e
    exact .sm h1 (EmbS.args h2)
theorem EmbS.app : ∀ {st st' : St} {σ σ' : L2.St}, EmbS W H st σ → EmbS W H st' σ' → EmbS W H (st ++ st') (σ ++ σ')
  | _, _, _, _, .nl, q => q
  | _, _, _, _, .un h, q => .un (EmbS.app h q)
  | _, _, _, _, .sm r h, q => .sm r (EmbS.app h q)
theorem EmbS.empty : ∀ n : Nat, EmbS W H (List.replicate n none) (List.replicate n none)
  | 0 => .nl
  | n + 1 => .un (EmbS.empty n)
theorem Emb.fresh {M : MH} (em : Emb W M H) {p : Addr} (hp : H p = none) : M p = none := by
  cases e : M p with
  | none => rfl
  | some o =>
    have k := em p o e
    cases o with
    | lst xs => obtain ⟨vs, h, _⟩ := k; rw [hp] at h; cases h
    | dct kvs =>
      rcases k with ⟨ks, h, _⟩ | ⟨xs, h, _⟩
      · rw [hp] at h; cases h
      · rw [hp] at h; cases h
    | set xs =>
      rcases k with ⟨S, is, h, _⟩ | ⟨L, ys, h, _⟩
      · rw [hp] at h; cases h
      · rw [hp] at h; cases h
    | ins c fs => obtain ⟨dx, hs, h, _⟩ := k; rw [hp] at h; cases h
theorem EntK.grow (g : Grow H H') : ∀ {kvs : List (PV × PV)} {ks : List (L2.Key × V)}, EntK W H kvs ks → EntK W H' kvs ks
  | _, _, .nil => .nil
  | _, _, .cons h1 h2 t => .cons h1 (RelP.grow g _ _ h2) (EntK.grow g t)
theorem EntT.grow (g : Grow H H') : ∀ {kvs : List (PV × PV)} {xs : List (NestedKey × Addr × Value)}, EntT W H kvs xs → EntT W H' kvs xs
  | _, _, .nil => .nil
  | _, _, .cons a b c d e f t => .cons a b c (RelP.grow g _ _ d) (RelP.grow g _ _ e) f (EntT.grow g t)
theorem Flds.grow (g : Grow H H') : ∀ {fs : List (Str × PV)} {hs : List (Str × V)}, Flds W H fs hs → Flds W H' fs hs
  | _, _, .nil => .nil
  | _, _, .cons h1 t => .cons (RelP.grow g _ _ h1) (Flds.grow g t)
/-- objects that are kept -/
theorem OkM.keep (g : Grow H H') {a : Addr} {o : MO} (h : OkM W H a o) (k : H' a = H a) : OkM W H' a o := by
  cases o with
  | lst xs => obtain ⟨vs, h, r⟩ := h; exact ⟨vs, k.trans h, RelPs.grow g _ _ r⟩
  | dct kvs =>
    rcases h with ⟨ks, h, r⟩ | ⟨xs, h, z, r⟩
    · exact .inl ⟨ks, k.trans h, r.grow g⟩
    · exact .inr ⟨xs, k.trans h, z, r.grow g⟩
  | set xs =>
    rcases h with ⟨S, is, h, q⟩ | ⟨L, ys, h, q1, q2, q3, q4⟩
    · exact .inl ⟨S, is, k.trans h, q⟩
    · exact .inr ⟨L, ys, k.trans h, q1, q2, fun p hp => SqT.grow g (q3 p hp), q4⟩
  | ins c fs => obtain ⟨dx, hs, h, r⟩ := h; exact ⟨dx, hs, k.trans h, r.grow g⟩
/-- an untracked thing is laid -/
theorem Emb.lay {M : MH} (em : Emb W M H) {p : Addr} {o : HO} (hp : H p = none) : Emb W M (upd H p o) := fun a u e => by
  refine (em a u e).keep (Grow.new hp) (upd_ne fun z => ?_)
  subst z
  rw [em.fresh hp] at e
  cases e
/-- a new object -/
theorem Emb.new {M : MH} (em : Emb W M H) {p : Addr} {o : HO} {u : MO} (hp : H p = none) (h : OkM W (upd H p o) p u) : Emb W (mup M p u) (upd H p o) := fun a v e => by
  by_cases z : a = p
  · subst z
    rw [mup_same] at e
    cases e
    exact h
  · rw [mup_ne z] at e
    exact (em a v e).keep (Grow.new hp) (upd_ne z)
/-- a written object -/
theorem Emb.put {M : MH} (em : Emb W M H) {p : Addr} {o : HO} {u : MO} (g : Grow H (upd H p o)) (h : OkM W (upd H p o) p u) : Emb W (mup M p u) (upd H p o) := fun a v e => by
  by_cases z : a = p
  · subst z
    rw [mup_same] at e
    cases e
    exact h
  · rw [mup_ne z] at e
    exact (em a v e).keep g (upd_ne z)

/-! ### weakening -/
theorem _root_.L2.PE.imp {e : Expr} {t t' : TE} (h : PE X e t) (k : ∀ σ H Q, t' σ H Q → t σ H Q) : PE X e t' := ⟨fun pins s σ H Q I q => h.run pins s σ H Q I (k _ _ _ q)⟩
theorem _root_.L2.PT.imp {e : Expr} {t t' : TT} (h : PT X e t) (k : ∀ σ H Q, t' σ H Q → t σ H Q) : PT X e t' := ⟨fun pins s σ H Q I q => h.run pins s σ H Q I (k _ _ _ q)⟩
theorem _root_.L2.PA.imp {e : List Expr} {t t' : TA} (h : PA X e t) (k : ∀ σ H Q, t' σ H Q → t σ H Q) : PA X e t' := ⟨fun pos pins s σ H Q I q => h.run pos pins s σ H Q I (k _ _ _ q)⟩
theorem _root_.L2.PS.imp {e : Stmt} {t t' : TS} (h : PS X e t) (k : ∀ D σ H, t' D σ H → t D σ H) : PS X e t' := ⟨fun pins s σ H D I q => h.run pins s σ H D I (k _ _ _ q)⟩
theorem _root_.L2.PSs.imp {e : List Stmt} {t t' : TS} (h : PSs X e t) (k : ∀ D σ H, t' D σ H → t D σ H) : PSs X e t' := ⟨fun pins s σ H D I q => h.run pins s σ H D I (k _ _ _ q)⟩

/-! ### parts one behind another -/
variable (hC : CMono C)
include hC
/-- the first part -/
theorem one {a : E} {st : St} {M : MH} {σ : L2.St} {R : PV → MH → Prop} {r : V → Hp → Prop} (es : EmbS W H st σ) (em : Emb W M H) (w : wpE T C a st M R)
    (k : ∀ H1 M1 v x, Grow H H1 → Emb W M1 H1 → RelP W H1 v x → R v M1 → r x H1) : rdE W T C a σ H r :=
  ⟨st, M, es, em, wpE_mono hC a _ _ _ _ (fun v M1 q H1 x g e rl => k H1 M1 v x g e rl q) w⟩
theorem oneEs {a : Es} {st : St} {M : MH} {σ : L2.St} {R : List PV → MH → Prop} {r : List V → Hp → Prop} (es : EmbS W H st σ) (em : Emb W M H) (w : wpEs T C a st M R)
    (k : ∀ H1 M1 v x, Grow H H1 → Emb W M1 H1 → RelPs W H1 v x → R v M1 → r x H1) : rdEs W T C a σ H r :=
  ⟨st, M, es, em, wpEs_mono hC a _ _ _ _ (fun v M1 q H1 x g e rl => k H1 M1 v x g e rl q) w⟩
/-- two parts -/
theorem two {a b : E} {st : St} {M : MH} {σ : L2.St} {R : PV → PV → MH → Prop} {r : V → V → Hp → Prop} (es : EmbS W H st σ) (em : Emb W M H) (w : wpE T C a st M fun x M1 => wpE T C b st M1 fun y M2 => R x y M2)
    (k : ∀ H2 M2 v u x y, Grow H H2 → Emb W M2 H2 → RelP W H2 v x → RelP W H2 u y → R v u M2 → r x y H2) : rdE W T C a σ H fun x H1 => rdE W T C b σ H1 fun y H2 => r x y H2 :=
  one hC es em w fun H1 M1 v x g1 em1 r1 w1 => one hC (es.grow g1) em1 w1 fun H2 M2 u y g2 em2 r2 w2 => k H2 M2 v u x y (g1.trans g2) em2 (RelP.grow g2 _ _ r1) r2 w2
omit hC
/-- what comes of an operation -/
theorem res_val {r : Option R} {M : MH} {v : PV} {H0 : Hp} {x : V} {Q : VK} (e : r = some (.val v)) (h : res r M (Aft W H0 Q)) (g : Grow H0 H) (em : Emb W M H) (rl : RelP W H v x) : Q x H := by
  subst e
  exact h H x g em rl
theorem res_new {r : Option R} {M : MH} {o : MO} {H0 : Hp} {Q : VK} (e : r = some (.new o)) (h : res r M (Aft W H0 Q)) (g : Grow H0 H) (em : Emb W M H) (p : Addr) (hp : H p = none) (u : HO) (k : OkM W (upd H p u) p o) : Q (.ref p) (upd H p u) := by
  subst e
  exact h.2 p (em.fresh hp) _ _ (g.trans (Grow.new hp)) (em.new hp k) rfl
/-- the same heap: a value that lies there -/
theorem aft_val {M : MH} {v : PV} {H0 : Hp} {x : V} {Q : VK} (h : Aft W H0 Q v M) (g : Grow H0 H) (em : Emb W M H) (rl : RelP W H v x) : Q x H := h H x g em rl

/-! ### names, constants -/
theorem pe_var' {i : Nat} {x : Str} {pos : Pos} (hN : X.N[i]? = some x) (hv : Vis X.env.scope x) (hd : (x == ("__debug__" : Str)) = false) (hcd : (x == ("__classdict__" : Str)) = false) : PE X (.Name x pos) (rdE W T C (.var i)) :=
  (pe_var hN hv hd hcd).imp fun σ H Q ⟨st, M, es, em, w⟩ => by
    simp only [wpE] at w
    split at w
    · rename_i v e
      obtain ⟨u, e1, r⟩ := es.get e
      exact ⟨u, e1, aft_val w (Grow.refl _) em r⟩
    · exact w.elim
theorem pe_int' {i j pos} : PE X (.Constant (.int i) j pos) (rdE W T C (.int i)) := pe_int.imp fun σ H Q ⟨st, M, es, em, w⟩ => aft_val w (Grow.refl _) em rfl
theorem pe_bl' {b j pos} : PE X (.Constant (.bool b) j pos) (rdE W T C (.bl b)) := pe_bl.imp fun σ H Q ⟨st, M, es, em, w⟩ => aft_val w (Grow.refl _) em rfl
theorem pe_non' {j pos} : PE X (.Constant .none j pos) (rdE W T C .non) := pe_non.imp fun σ H Q ⟨st, M, es, em, w⟩ => aft_val w (Grow.refl _) em rfl
theorem pe_str' {x j pos} : PE X (.Constant (.str x) j pos) (rdE W T C (.str x)) := pe_str.imp fun σ H Q ⟨st, M, es, em, w⟩ => aft_val w (Grow.refl _) em rfl
/-- a constant of the module -/
theorem pe_gc' {x : Str} {i : Nat} {v : PV} {y : V} {u : Value} {pos : Pos} (hg : Gl X x) (hm : X.mg x = some u) (r : RelV y u) (hv : T.cs i = some v) (hr : ∀ H, RelP W H v y) (hd : (x == ("__debug__" : Str)) = false) : PE X (.Name x pos) (rdE W T C (.gc i)) :=
  (pe_glob hg hm r hd).imp fun σ H Q ⟨st, M, es, em, w⟩ => by
    simp only [wpE, hv] at w
    exact aft_val w (Grow.refl _) em (hr H)
theorem pe_fn' {x : Str} {i : Nat} {pos : Pos} (hg : Gl X x) (hm : X.mg x = some (.ref (W.fa i))) (hk : PySem.W.keepIn W.K (.ref (W.fa i)) = true) (hd : (x == ("__debug__" : Str)) = false) : PE X (.Name x pos) (rdE W T C (.fn i)) :=
  (pe_glob hg hm (v := .ref (W.fa i)) rfl hd).imp fun σ H Q ⟨st, M, es, em, w⟩ => aft_val w (Grow.refl _) em ⟨rfl, hk⟩

/-! ### arguments, displays -/
theorem starEach_one {e : Expr} {r : List Expr} {env : Env} (h : ∀ v p, e ≠ .Starred v p) : starEach (e :: r) env = (false, eval e env) :: starEach r env := by
  cases e <;> first
    | rfl
    | exact absurd rfl (h _ _)
theorem pa_nil' : PA X [] (rdEs W T C .nil) := pa_nil.imp fun σ H Q ⟨st, M, es, em, w⟩ => w H [] (Grow.refl _) em RelPs.nil
theorem pa_cons' (hC : CMono C) {e : Expr} {es : List Expr} {e' : E} {es' : Es} (h : ∀ v p, e ≠ .Starred v p) (ha : PE X e (rdE W T C e')) (hr : PA X es (rdEs W T C es')) : PA X (e :: es) (rdEs W T C (.cons e' es')) :=
  (pa_cons ha hr (starEach_one h)).imp fun σ H Q ⟨st, M, es, em, w⟩ => by
    simp only [wpEs] at w
    refine one hC es em w fun H1 M1 v x g1 em1 r1 w1 => ?_
    exact oneEs hC (es.grow g1) em1 w1 fun H2 M2 vs xs g2 em2 r2 w2 => w2 H2 (x :: xs) (g1.trans g2) em2 (RelPs.cons (RelP.grow g2 _ _ r1) r2)
theorem pe_tup' (hC : CMono C) {es : List Expr} {k : Nat} {pos : Pos} {es' : Es} (ha : PA X es (rdEs W T C es')) : PE X (.Tuple es k pos) (rdE W T C (.tup es')) :=
  (pe_tup ha).imp fun σ H Q ⟨st, M, es, em, w⟩ => by
    simp only [wpE] at w
    refine oneEs hC es em w fun H1 M1 vs xs g1 em1 r1 w1 => ⟨by rw [← r1.length]; exact w1.1, fun p hp => ?_⟩
    refine w1.2 _ _ (g1.trans (Grow.new hp)) (em1.lay hp) ?_
    simp only [RelP]
    exact ⟨p, xs, rfl, SqT.of upd_same, RelPs.grow (Grow.new hp) _ _ r1⟩
theorem pe_lst' (hC : CMono C) {es : List Expr} {pos : Pos} {es' : Es} (ha : PA X es (rdEs W T C es')) : PE X (.List es pos) (rdE W T C (.lst es')) :=
  (pe_lst ha).imp fun σ H Q ⟨st, M, es, em, w⟩ => by
    simp only [wpE] at w
    refine oneEs hC es em w fun H1 M1 vs xs g1 em1 r1 w1 => ⟨by rw [← r1.length]; exact w1.1, fun p hp => ?_⟩
    exact w1.2 p (em1.fresh hp) _ _ (g1.trans (Grow.new hp)) (em1.new hp ⟨xs, upd_same, RelPs.grow (Grow.new hp) _ _ r1⟩) rfl
end
end Ev
end

section
/-! EvG: operators. -/
namespace Ev
open PySem PySem.Spec PyProof.Rows L2
/-- the context fits the facts -/
structure Fit (W : Wd) (X : Cx) : Prop where
  prog : X.prog = W.P
  w : X.w = W.w
  K : X.K = W.K
  calm : X.calm = true
  room : X.A.units + 100 < cLine
section
variable {W : Wd} {T : Tab} {C : CT} {X : Cx} {H H' : Hp} {M : MH}
theorem Aft.up {H0 H : Hp} {Q : VK} {v : PV} (g : Grow H0 H) (h : Aft W H0 Q v M) : Aft W H Q v M := fun H' x g' em rl => h H' x (g.trans g') em rl
theorem res.imp {r : Option R} {Q Q' : PV → MH → Prop} (h : res r M Q) (k : ∀ v M', Q v M' → Q' v M') : res r M Q' := by
  cases r with
  | none => exact h
  | some r =>
    cases r with
    | val v => exact k _ _ h
    | new o => exact ⟨h.1, fun p hp => k _ _ (h.2 p hp)⟩
theorem res.up {r : Option R} {H0 H : Hp} {Q : VK} (g : Grow H0 H) (h : res r M (Aft W H0 Q)) : res r M (Aft W H Q) := h.imp fun _ _ k => k.up g
theorem lsM_some {v : PV} {x : V} {xs : List PV} (h : lsM M v = some xs) (em : Emb W M H) (r : RelP W H v x) : ∃ a vs, v = .ref a ∧ x = .ref a ∧ M a = some (.lst xs) ∧ H a = some (.lst vs) ∧ RelPs W H xs vs := by
  unfold lsM at h
  split at h
  · rename_i a
    split at h
    · rename_i ys e
      cases h
      obtain ⟨vs, h1, h2⟩ := em a _ e
      exact ⟨a, vs, rfl, r, e, h1, h2⟩
    · cases h
  · cases h
theorem lstOf_some {v : PV} {x : V} {xs : List PV} (h : lstOf M v = some xs) (em : Emb W M H) (r : RelP W H v x) : ∃ a vs, x = .ref a ∧ SqL W.K H a vs ∧ RelPs W H xs vs := by
  unfold lstOf at h
  split at h
  · rename_i a
    split at h
    · rename_i ys e
      cases h
      obtain ⟨vs, h1, h2⟩ := em a _ e
      exact ⟨a, vs, r, SqL.of h1, h2⟩
    · cases h
  · rename_i ys
    cases h
    simp only [RelP] at r
    obtain ⟨a, vs, e, q, r⟩ := r
    exact ⟨a, vs, e, q.sq, r⟩
  · cases h
theorem seqOf_some {v : PV} {x : V} {xs : List PV} (h : seqOf M v = some xs) (em : Emb W M H) (r : RelP W H v x) : ∃ a vs, x = .ref a ∧ (((∀ ys, v ≠ .tup ys) ∧ SqL W.K H a vs) ∨ (v = .tup xs ∧ SqT W.K H a vs)) ∧ RelPs W H xs vs := by
  unfold seqOf at h
  split at h
  · rename_i ys
    cases h
    simp only [RelP] at r
    obtain ⟨a, vs, e, q, r⟩ := r
    exact ⟨a, vs, e, .inr ⟨rfl, q⟩, r⟩
  · rename_i n
    obtain ⟨a, vs, e, q, r⟩ := lstOf_some h em r
    exact ⟨a, vs, e, .inl ⟨fun ys e => n ys e, q⟩, r⟩
theorem RelPs.rep {xs : List PV} {vs : List V} (h : RelPs W H xs vs) : ∀ k : Nat, RelPs W H (List.replicate k xs).flatten (List.replicate k vs).flatten
  | 0 => by simpa using RelPs.nil
  | k + 1 => by
    rw [List.replicate_succ, List.replicate_succ, List.flatten_cons, List.flatten_cons]
    exact RelPs.append h (RelPs.rep h k)
theorem RelPs.nil_iff {xs : List PV} {vs : List V} (h : RelPs W H xs vs) : xs = [] ↔ vs = [] := by
  rw [← List.length_eq_zero_iff, h.length, List.length_eq_zero_iff]
/-- two values in, something out -/
def rB (W : Wd) (r : MH → PV → PV → Option R) : R2 := fun x y H Q => ∃ M v u, Emb W M H ∧ RelP W H v x ∧ RelP W H u y ∧ res (r M v u) M (Aft W H Q)
def opOf : Bop → Operator
  | .add => .Add
  | .sub => .Sub
  | .mul => .Mult
  | .fdiv => .FloorDiv
  | .mod => .Mod
  | .pow => .Pow
theorem flen {α : Type} (k : Nat) (xs : List α) : (List.replicate k xs).flatten.length = xs.length * k := by
  induction k with
  | zero => simp
  | succ k ih => rw [List.replicate_succ, List.flatten_cons, List.length_append, ih, Nat.mul_succ, Nat.add_comm]
theorem op_bin (G : Fit W X) (op : Bop) : OpR X (binaryOp (opOf op)) (rB W fun M => binR M op) := by
  intro pins s σ H x y v u Q I rx ry ⟨M, a, b, em, ra, rb, w⟩
  replace w : res (binR M op a b) M (Aft W H Q) := w
  unfold binR at w
  split at w
  · exact op_add pins s σ H x y v u Q I rx ry ⟨_, _, ra, rb, aft_val w (Grow.refl _) em rfl⟩
  · rename_i xs ys
    split at w
    · rename_i hl
      simp only [RelP] at ra rb
      obtain ⟨p, vs, ex, sx, r1⟩ := ra
      obtain ⟨q, ws, ey, sy, r2⟩ := rb
      refine op_catA pins s σ H x y v u Q I rx ry ⟨p, q, vs, ws, ex, ey, G.K ▸ sx, G.K ▸ sy, by rw [← r1.length, ← r2.length]; exact hl, fun e => ?_, fun _ e => ?_, fun _ _ l hn => ?_⟩
      · refine aft_val w (Grow.refl _) em ?_
        rw [r1.nil_iff.mpr e, List.nil_append]
        simp only [RelP]
        exact ⟨q, ws, rfl, sy, r2⟩
      · refine aft_val w (Grow.refl _) em ?_
        rw [r2.nil_iff.mpr e, List.append_nil]
        simp only [RelP]
        exact ⟨p, vs, rfl, sx, r1⟩
      · refine w _ _ (Grow.new hn) (em.lay hn) ?_
        simp only [RelP]
        exact ⟨l, _, rfl, SqT.of upd_same, RelPs.append (RelPs.grow (Grow.new hn) _ _ r1) (RelPs.grow (Grow.new hn) _ _ r2)⟩
    · exact w.elim
  · split at w
    · rename_i hl
      exact op_add_str pins s σ H x y v u Q I rx ry ⟨_, _, ra, rb, hl, aft_val w (Grow.refl _) em rfl⟩
    · exact w.elim
  · split at w
    · rename_i e1 e2
      obtain ⟨p, vs, _, ex, _, h1, r1⟩ := lsM_some e1 em ra
      obtain ⟨q, ws, _, ey, _, h2, r2⟩ := lsM_some e2 em rb
      have hl := w.1
      simp only [okO, List.length_append] at hl
      refine op_cat pins s σ H x y v u Q I rx ry ⟨p, q, vs, ws, ex, ey, h1, h2, by rw [← r1.length, ← r2.length]; exact hl, fun l hn => ?_⟩
      exact res_new rfl w (Grow.refl _) em l hn _ ⟨_, upd_same, RelPs.append (RelPs.grow (Grow.new hn) _ _ r1) (RelPs.grow (Grow.new hn) _ _ r2)⟩
    · exact w.elim
  · exact op_sub pins s σ H x y v u Q I rx ry ⟨_, _, ra, rb, aft_val w (Grow.refl _) em rfl⟩
  · split at w
    · rename_i hc
      refine op_mul pins s σ H x y v u Q I rx ry ⟨_, _, ra, rb, ?_, aft_val w (Grow.refl _) em rfl⟩
      unfold cMul at hc
      simpa [CMul] using hc
    · exact w.elim
  · split at w
    · rename_i hc
      simp only [RelP] at ra
      obtain ⟨p, vs, ex, sx, r1⟩ := ra
      refine op_repT pins s σ H x y v u Q I rx ry ⟨p, _, vs, ex, rb, G.K ▸ sx, fun e => hc.1 (r1.nil_iff.mpr e), hc.2.1, hc.2.2.1, by rw [← r1.length]; exact hc.2.2.2, fun l hn => ?_⟩
      refine w _ _ (Grow.new hn) (em.lay hn) ?_
      simp only [RelP]
      exact ⟨l, _, rfl, SqT.of upd_same, RelPs.rep (RelPs.grow (Grow.new hn) _ _ r1) _⟩
    · exact w.elim
  · split at w
    · rename_i e1
      split at w
      · rename_i hj
        obtain ⟨p, vs, _, ex, _, h1, r1⟩ := lsM_some e1 em ra
        have hl := w.1
        simp only [okO, flen] at hl
        refine op_rep pins s σ H x y v u Q I rx ry ⟨p, _, vs, ex, rb, h1, hj.1, hj.2, by rw [← r1.length]; exact hl, fun l hn => ?_⟩
        exact res_new rfl w (Grow.refl _) em l hn _ ⟨_, upd_same, RelPs.rep (RelPs.grow (Grow.new hn) _ _ r1) _⟩
      · exact w.elim
    · exact w.elim
  · split at w
    · rename_i hc
      refine op_fdiv pins s σ H x y v u Q I rx ry ⟨_, _, ra, rb, ?_, aft_val w (Grow.refl _) em rfl⟩
      unfold cDiv at hc
      simpa [CDiv] using hc
    · exact w.elim
  · split at w
    · rename_i hc
      exact op_mod pins s σ H x y v u Q I rx ry ⟨_, _, ra, rb, hc, aft_val w (Grow.refl _) em rfl⟩
    · exact w.elim
  · split at w
    · rename_i hc
      refine op_pow pins s σ H x y v u Q I rx ry ⟨_, _, ra, rb, ⟨hc.1, by omega, by omega⟩, aft_val w (Grow.refl _) em rfl⟩
    · exact w.elim
  · exact w.elim
theorem pe_bin' (hC : CMono C) (G : Fit W X) {op : Bop} {a b : Expr} {pos : Pos} {a' b' : E} (ha : PE X a (rdE W T C a')) (hb : PE X b (rdE W T C b')) : PE X (.BinOp a (opOf op) b pos) (rdE W T C (.bin op a' b')) :=
  (pe_op (op_bin G op) ha hb).imp fun σ H Q ⟨st, M, es, em, w⟩ => by
    simp only [wpE] at w
    exact two hC es em w fun H2 M2 v u x y g em2 r1 r2 w2 => ⟨M2, v, u, em2, r1, r2, w2.up g⟩
theorem pe_neg' (hC : CMono C) {a : Expr} {pos : Pos} {a' : E} (ha : PE X a (rdE W T C a')) : PE X (.UnaryOp .USub a pos) (rdE W T C (.neg a')) :=
  (pe_un un_neg ha).imp fun σ H Q ⟨st, M, es, em, w⟩ => by
    simp only [wpE] at w
    refine one hC es em w fun H1 M1 v x g em1 r w => ?_
    split at w
    · exact ⟨_, r, aft_val w g em1 rfl⟩
    · exact w.elim
end
end Ev
end

section
/-! EvH: dicts. -/
namespace Ev
open PySem PySem.Spec PyProof.Rows L2
section
variable {W : Wd} {T : Tab} {C : CT} {X : Cx} {H H' : Hp} {M : MH} {pins : List (Addr × Obj)} {s : Shared} {σ : L2.St}
theorem pvKey_inj {a b : PV} {q : L2.Key} (h1 : pvKey a = some q) (h2 : pvKey b = some q) : a = b := by
  unfold pvKey at h1 h2
  split at h1 <;> split at h2 <;> simp_all
  all_goals first
    | (subst h1; simp at h2; simp [h2]; done)
    | (subst h1; simp at h2; done)
theorem pvKey_tup {a : PV} {q : L2.Key} (h1 : pvKey a = some q) : isTup a = false := by
  unfold pvKey at h1
  split at h1 <;> simp_all [isTup]
theorem pvKey_some {a : PV} (h : keyOk a = true) (t : isTup a = false) : ∃ q, pvKey a = some q := by
  cases a <;> simp_all [keyOk, keyN, pvKey, isTup]
theorem pvKey_rel {a : PV} {q : L2.Key} {x : V} (h1 : pvKey a = some q) (r : RelP W H a x) : x = kV q := by
  unfold pvKey at h1
  split at h1 <;> simp_all
  all_goals subst h1; simpa [RelP, kV] using r
mutual
theorem toNK_inj : ∀ {a b : PV} {n : NestedKey}, toNK a = some n → toNK b = some n → a = b
  | .int i, b, n, h, k => by
    simp only [toNK, Option.some.injEq] at h
    subst h
    cases b <;> simp_all [toNK]
  | .str i, b, n, h, k => by
    simp only [toNK, Option.some.injEq] at h
    subst h
    cases b <;> simp_all [toNK]
  | .tup xs, b, n, h, k => by
    simp only [toNK, Option.map_eq_some_iff] at h
    obtain ⟨ks, h1, rfl⟩ := h
    cases b with
    | tup ys =>
      simp only [toNK, Option.map_eq_some_iff, NestedKey.tup.injEq, exists_eq_right] at k
      rw [toNKs_inj h1 k]
    | _ => simp [toNK] at k
  | .non, b, n, h, k => by simp [toNK] at h
  | .bl _, b, n, h, k => by simp [toNK] at h
  | .fl _, b, n, h, k => by simp [toNK] at h
  | .ref _, b, n, h, k => by simp [toNK] at h
  | .fn _, b, n, h, k => by simp [toNK] at h
  | .ty _, b, n, h, k => by simp [toNK] at h
theorem toNKs_inj : ∀ {a b : List PV} {n : List NestedKey}, toNK.go a = some n → toNK.go b = some n → a = b
  | [], b, n, h, k => by
    simp only [toNK.go, Option.some.injEq] at h
    subst h
    cases b with
    | nil => rfl
    | cons y ys =>
      simp only [toNK.go] at k
      split at k <;> simp at k
  | x :: xs, b, n, h, k => by
    simp only [toNK.go] at h
    split at h
    · rename_i k1 ks1 e1 e2
      cases h
      cases b with
      | nil => simp [toNK.go] at k
      | cons y ys =>
        simp only [toNK.go] at k
        split at k
        · rename_i k2 ks2 f1 f2
          cases k
          rw [toNK_inj e1 f1, toNKs_inj e2 f2]
        · cases k
    · cases h
end
theorem toNK_some : ∀ (n : Nat) (a : PV), keyN n a = true → ∃ k, toNK a = some k ∧ k.depth ≤ n := by
  intro n
  induction n with
  | zero =>
    intro a h
    cases a <;> simp [keyN] at h <;> simp [toNK, NestedKey.depth]
  | succ n ih =>
    intro a h
    cases a with
    | int i => simp [toNK, NestedKey.depth]
    | str x => simp [toNK, NestedKey.depth]
    | tup xs =>
      simp only [keyN] at h
      have : ∃ ks, toNK.go xs = some ks ∧ NestedKey.depthAll ks ≤ n := by
        revert h
        induction xs with
        | nil => intro _; exact ⟨[], rfl, by simp [NestedKey.depthAll]⟩
        | cons x xs ihx =>
          intro h
          rw [List.all_cons, Bool.and_eq_true] at h
          obtain ⟨k, h1, h2⟩ := ih x h.1
          obtain ⟨ks, h3, h4⟩ := ihx h.2
          exact ⟨k :: ks, by simp only [toNK.go, h1, h3], by simp only [NestedKey.depthAll]; omega⟩
      obtain ⟨ks, h1, h2⟩ := this
      exact ⟨.tup ks, by simp only [toNK, h1, Option.map_some], by simp only [NestedKey.depth]; omega⟩
    | _ => simp [keyN] at h
mutual
theorem nested_is (I : L2.Inv X pins σ H s) (G : Fit W X) : ∀ {a : PV} {n : NestedKey} {x : V} {u : Value}, toNK a = some n → RelP W H a x → RelV x u → NestedIs s.heap n u
  | .int i, n, x, u, h, r, q => by
    simp only [toNK, Option.some.injEq] at h
    simp only [RelP] at r
    subst h r
    obtain ⟨t, rfl⟩ := q
    exact .int i t
  | .str i, n, x, u, h, r, q => by
    simp only [toNK, Option.some.injEq] at h
    simp only [RelP] at r
    subst h r
    obtain ⟨t, rfl⟩ := q
    exact .text i t
  | .tup xs, n, x, u, h, r, q => by
    simp only [toNK, Option.map_eq_some_iff] at h
    obtain ⟨ks, h1, rfl⟩ := h
    simp only [RelP] at r
    obtain ⟨p, vs, rfl, sq, r1⟩ := r
    cases q
    rw [← G.K] at sq
    obtain ⟨its, rv, ⟨o, ho, hc, m, hd⟩, _⟩ := I.tuple sq
    exact .tup ho hc hd (by simpa using nested_all I G h1 r1 rv)
  | .non, n, x, u, h, r, q => by simp [toNK] at h
  | .bl _, n, x, u, h, r, q => by simp [toNK] at h
  | .fl _, n, x, u, h, r, q => by simp [toNK] at h
  | .ref _, n, x, u, h, r, q => by simp [toNK] at h
  | .fn _, n, x, u, h, r, q => by simp [toNK] at h
  | .ty _, n, x, u, h, r, q => by simp [toNK] at h
theorem nested_all (I : L2.Inv X pins σ H s) (G : Fit W X) : ∀ {a : List PV} {n : List NestedKey} {x : List V} {u : List Value}, toNK.go a = some n → RelPs W H a x → Vals x u → NestedAll s.heap n u
  | [], n, x, u, h, r, q => by
    simp only [toNK.go, Option.some.injEq] at h
    simp only [RelPs] at r
    subst h r
    cases q
    exact .nil
  | y :: ys, n, x, u, h, r, q => by
    simp only [toNK.go] at h
    split at h
    · rename_i k1 ks1 e1 e2
      cases h
      simp only [RelPs] at r
      obtain ⟨v, vs, rfl, r1, r2⟩ := r
      cases q with
      | cons q1 q2 => exact .cons (nested_is I G e1 r1 q1) (nested_all I G e2 r2 q2)
    · cases h
end
theorem room_nk (G : Fit W X) : (nestedKind X.prog X.w).room X.A.in1 := by
  have := G.room
  show X.A.units + 1 + 8 < cLine
  omega
/-- a tuple that is a key -/
theorem key_is (I : L2.Inv X pins σ H s) (G : Fit W X) {k : PV} {y : V} {u : Value} (t : isTup k = true) (ok : keyOk k = true) (r : RelP W H k y) (q : RelV y u) : ∃ nk b, toNK k = some nk ∧ y = .ref b ∧ u = .ref b ∧ (nestedKind X.prog X.w).is s.heap nk b := by
  obtain ⟨nk, h1, h2⟩ := toNK_some 4 k ok
  cases k with
  | tup xs =>
    have r' := r
    simp only [RelP] at r'
    obtain ⟨b, vs, rfl, _, _⟩ := r'
    cases q
    exact ⟨nk, b, h1, rfl, rfl, nested_is I G h1 r rfl, by omega⟩
  | _ => simp [isTup] at t

/-! #### the entries -/
theorem EntK.scal : ∀ {kvs : List (PV × PV)} {ks : List (L2.Key × V)}, EntK W H kvs ks → (kvs.all fun p => isTup p.1 == true) = true → kvs = [] ∧ ks = []
  | _, _, .nil, _ => ⟨rfl, rfl⟩
  | _, _, .cons h _ _, a => by
    rw [List.all_cons, Bool.and_eq_true] at a
    have := pvKey_tup h
    simp_all
theorem EntT.tups : ∀ {kvs : List (PV × PV)} {xs : List (NestedKey × Addr × Value)}, EntT W H kvs xs → (kvs.all fun p => isTup p.1 == false) = true → kvs = [] ∧ xs = []
  | _, _, .nil, _ => ⟨rfl, rfl⟩
  | _, _, .cons h _ _ _ _ _ _, a => by
    rw [List.all_cons, Bool.and_eq_true] at a
    simp_all
theorem EntK.length : ∀ {kvs : List (PV × PV)} {ks : List (L2.Key × V)}, EntK W H kvs ks → kvs.length = ks.length
  | _, _, .nil => rfl
  | _, _, .cons _ _ t => by simp [EntK.length t]
theorem EntT.length : ∀ {kvs : List (PV × PV)} {ks : List (NestedKey × Addr × Value)}, EntT W H kvs ks → kvs.length = ks.length
  | _, _, .nil => rfl
  | _, _, .cons _ _ _ _ _ _ t => by simp [EntT.length t]
theorem EntK.get {k : PV} {q : L2.Key} (hk : pvKey k = some q) : ∀ {kvs : List (PV × PV)} {ks : List (L2.Key × V)}, EntK W H kvs ks → (dget kvs k = none ∧ valV ks q = none) ∨ ∃ v u, dget kvs k = some v ∧ valV ks q = some u ∧ RelP W H v u
  | _, _, .nil => .inl ⟨rfl, valV_nil⟩
  | _, _, .cons (k := k') (v := v) (q := q') (u := u) (kvs := kvs) (ks := ks) h1 h2 t => by
    by_cases e : k' = k
    · subst e
      rw [hk] at h1
      cases h1
      exact .inr ⟨v, u, by simp [dget], valV_pos rfl, h2⟩
    · have : ¬ q' = q := fun z => e (pvKey_inj h1 (z ▸ hk))
      rw [show dget ((k', v) :: kvs) k = dget kvs k by simp [dget, e], valV_neg (p := (q', u)) this]
      exact EntK.get hk t
theorem EntK.absent {k : PV} {q : L2.Key} (hk : pvKey k = some q) {kvs : List (PV × PV)} {ks : List (L2.Key × V)} (h : EntK W H kvs ks) : (ks.any fun kv => decide (kv.1 = q)) = (dget kvs k).isSome := by
  rw [valV_any]
  rcases h.get hk with ⟨a, b⟩ | ⟨v, u, a, b, _⟩ <;> rw [a, b] <;> rfl
theorem EntK.same {k : PV} {q : L2.Key} {y : V} (hk : pvKey k = some q) : ∀ {kvs : List (PV × PV)} {ks : List (L2.Key × V)}, EntK W H kvs ks → dget kvs k = none → (ks.map fun kv => if kv.1 = q then (kv.1, y) else kv) = ks
  | _, _, .nil, _ => rfl
  | _, _, .cons (k := k') (v := v) (q := q') (u := u) (kvs := kvs) (ks := ks) h1 h2 t, n => by
    by_cases e : k' = k
    · subst e; simp [dget] at n
    · have : ¬ q' = q := fun z => e (pvKey_inj h1 (z ▸ hk))
      rw [List.map_cons, if_neg this, EntK.same hk t (by simpa [dget, e] using n)]
theorem EntK.none_of {k : PV} {q : L2.Key} (hk : pvKey k = some q) : ∀ {kvs : List (PV × PV)} {ks : List (L2.Key × V)}, EntK W H kvs ks → q ∉ ks.map (·.1) → dget kvs k = none := fun {kvs ks} h n => by
  rcases h.get hk with ⟨a, b⟩ | ⟨v, u, a, b, _⟩
  · exact a
  · exfalso
    unfold valV at b
    obtain ⟨p, e1, e2⟩ := Option.map_eq_some_iff.mp b
    have h1 := List.mem_of_find?_eq_some e1
    have h2 := List.find?_some e1
    exact n (List.mem_map.mpr ⟨p, h1, by simpa using h2⟩)
theorem EntK.repl {k v : PV} {q : L2.Key} {y : V} (hk : pvKey k = some q) (ry : RelP W H v y) : ∀ {kvs : List (PV × PV)} {ks : List (L2.Key × V)}, EntK W H kvs ks → (ks.map (·.1)).Nodup → (dget kvs k).isSome = true → EntK W H (dput kvs k v) (ks.map fun kv => if kv.1 = q then (kv.1, y) else kv)
  | _, _, .nil, _, n => by simp [dget] at n
  | _, _, .cons (k := k') (v := v') (q := q') (u := u) (kvs := kvs) (ks := ks) h1 h2 t, nd, n => by
    rw [List.map_cons, List.nodup_cons] at nd
    by_cases e : k' = k
    · subst e
      rw [hk] at h1
      cases h1
      rw [List.map_cons, if_pos rfl, t.same hk (t.none_of hk nd.1), show dput ((k', v') :: kvs) k' v = (k', v) :: kvs by simp [dput]]
      exact .cons hk ry t
    · have : ¬ q' = q := fun z => e (pvKey_inj h1 (z ▸ hk))
      rw [List.map_cons, if_neg this, show dput ((k', v') :: kvs) k v = (k', v') :: dput kvs k v by simp [dput, e]]
      exact .cons h1 h2 (EntK.repl hk ry t nd.2 (by simpa [dget, e] using n))
theorem dput_new {kvs : List (PV × PV)} {k v : PV} (h : dget kvs k = none) : dput kvs k v = kvs ++ [(k, v)] := by
  induction kvs with
  | nil => rfl
  | cons p r ih =>
    obtain ⟨k', v'⟩ := p
    by_cases e : k' = k
    · subst e; simp [dget] at h
    · simp only [dget, e, if_false] at h
      simp only [dput, e, if_false, ih h, List.cons_append]
theorem EntK.snoc {k v : PV} {q : L2.Key} {y : V} (hk : pvKey k = some q) (ry : RelP W H v y) : ∀ {kvs : List (PV × PV)} {ks : List (L2.Key × V)}, EntK W H kvs ks → EntK W H (kvs ++ [(k, v)]) (ks ++ [(q, y)])
  | _, _, .nil => .cons hk ry .nil
  | _, _, .cons h1 h2 t => .cons h1 h2 (EntK.snoc hk ry t)
theorem EntK.put {k v : PV} {q : L2.Key} {y : V} (hk : pvKey k = some q) (ry : RelP W H v y) {kvs : List (PV × PV)} {ks : List (L2.Key × V)} (h : EntK W H kvs ks) (nd : (ks.map (·.1)).Nodup) : EntK W H (dput kvs k v) (putK ks q y) := by
  unfold putK
  rw [h.absent hk]
  cases e : dget kvs k with
  | none =>
    rw [if_neg (by simp), dput_new e]
    exact h.snoc hk ry
  | some z =>
    rw [if_pos (by rfl)]
    exact h.repl hk ry nd (by rw [e]; rfl)
theorem atKey_cons {p : NestedKey × Addr × Value} {r : List (NestedKey × Addr × Value)} {k : NestedKey} : atKey (p :: r) k = if p.1 = k then some p.2 else atKey r k := by
  unfold atKey
  rw [List.find?_cons]
  by_cases e : p.1 = k
  · rw [if_pos e]; simp [e]
  · rw [if_neg e]; simp [e]
theorem EntT.get {k : PV} {q : NestedKey} (hk : toNK k = some q) : ∀ {kvs : List (PV × PV)} {ks : List (NestedKey × Addr × Value)}, EntT W H kvs ks → (dget kvs k = none ∧ atKey ks q = none) ∨ ∃ v p u, dget kvs k = some v ∧ atKey ks q = some p ∧ RelP W H v u ∧ RelV u p.2
  | _, _, .nil => .inl ⟨rfl, rfl⟩
  | _, _, .cons (k := k') (v := v) (nk := q') (b := b) (u := u) (x := x) (kvs := kvs) (xs := ks) h1 h2 h3 h4 h5 h6 t => by
    rw [atKey_cons]
    by_cases e : k' = k
    · subst e
      rw [hk] at h3
      cases h3
      exact .inr ⟨v, (b, x), u, by simp [dget], if_pos rfl, h5, h6⟩
    · have : ¬ q' = q := fun z => e (toNK_inj h3 (z ▸ hk))
      rw [show dget ((k', v) :: kvs) k = dget kvs k by simp [dget, e], if_neg this]
      exact EntT.get hk t
theorem EntT.none_of {k : PV} {q : NestedKey} (hk : toNK k = some q) : ∀ {kvs : List (PV × PV)} {ks : List (NestedKey × Addr × Value)}, EntT W H kvs ks → q ∉ ks.map (·.1) → dget kvs k = none := fun {kvs ks} h n => by
  rcases h.get hk with ⟨a, b⟩ | ⟨v, p, u, a, b, _⟩
  · exact a
  · exfalso
    unfold atKey at b
    obtain ⟨p, e1, e2⟩ := Option.map_eq_some_iff.mp b
    have h1 := List.mem_of_find?_eq_some e1
    have h2 := List.find?_some e1
    exact n (List.mem_map.mpr ⟨p, h1, by simpa using h2⟩)
theorem EntT.repl {k v : PV} {q : NestedKey} {y : V} {z : Value} (hk : toNK k = some q) (ry : RelP W H v y) (rz : RelV y z) : ∀ {kvs : List (PV × PV)} {ks : List (NestedKey × Addr × Value)}, EntT W H kvs ks → (ks.map (·.1)).Nodup → (dget kvs k).isSome = true → EntT W H (dput kvs k v) (ks.map (putAt q z))
  | _, _, .nil, _, n => by simp [dget] at n
  | _, _, .cons (k := k') (v := v') (nk := q') (b := b) (u := u) (x := x) (kvs := kvs) (xs := ks) h1 h2 h3 h4 h5 h6 t, nd, n => by
    rw [List.map_cons, List.nodup_cons] at nd
    by_cases e : k' = k
    · subst e
      rw [hk] at h3
      cases h3
      rw [List.map_cons, map_putAt_of_not_mem ks q z nd.1, show dput ((k', v') :: kvs) k' v = (k', v) :: kvs by simp [dput]]
      unfold putAt
      rw [if_pos rfl]
      exact .cons h1 h2 hk h4 ry rz t
    · have : ¬ q' = q := fun z => e (toNK_inj h3 (z ▸ hk))
      rw [List.map_cons, show dput ((k', v') :: kvs) k v = (k', v') :: dput kvs k v by simp [dput, e]]
      unfold putAt
      rw [if_neg this]
      exact .cons h1 h2 h3 h4 h5 h6 (EntT.repl hk ry rz t nd.2 (by simpa [dget, e] using n))
theorem EntT.snoc {k v : PV} {q : NestedKey} {b : Addr} {y : V} {z : Value} (ht : isTup k = true) (ho : keyOk k = true) (hk : toNK k = some q) (rk : RelP W H k (.ref b)) (ry : RelP W H v y) (rz : RelV y z) : ∀ {kvs : List (PV × PV)} {ks : List (NestedKey × Addr × Value)}, EntT W H kvs ks → EntT W H (kvs ++ [(k, v)]) (ks ++ [(q, b, z)])
  | _, _, .nil => .cons ht ho hk rk ry rz .nil
  | _, _, .cons h1 h2 h3 h4 h5 h6 t => .cons h1 h2 h3 h4 h5 h6 (EntT.snoc ht ho hk rk ry rz t)
theorem EntT.put {k v : PV} {q : NestedKey} {b : Addr} {y : V} {z : Value} (ht : isTup k = true) (ho : keyOk k = true) (hk : toNK k = some q) (rk : RelP W H k (.ref b)) (ry : RelP W H v y) (rz : RelV y z) {kvs : List (PV × PV)} {ks : List (NestedKey × Addr × Value)} (h : EntT W H kvs ks) (nd : (ks.map (·.1)).Nodup) : EntT W H (dput kvs k v) (storedH ks q b z) := by
  rcases h.get hk with ⟨a, e⟩ | ⟨w, p, u, a, e, _⟩
  · rw [storedH_new e, dput_new a]
    exact h.snoc ht ho hk rk ry rz
  · rw [storedH_old e]
    exact h.repl hk ry rz nd (by rw [a]; rfl)
theorem storedH_len (ks : List (NestedKey × Addr × Value)) (q : NestedKey) (b : Addr) (z : Value) : (storedH ks q b z).length ≤ ks.length + 1 := by
  unfold storedH
  split
  · simp
  · simp

/-! #### the two forms of the empty dict -/
theorem DicT.ok {a : Addr} {xs : List (NestedKey × Addr × Value)} {h : Heap} (G : Fit W X) (hz : xs.length ≤ sizeLine) {o : Obj} {es : Array DictEntry} {ep : Nat} (h1 : h.get? a = some o) (h2 : o.ExactDict) (h3 : o.data = .dict es ep)
    (h4 : es.toList = xs.map (entryOfKey (nestedKind X.prog X.w))) (h5 : (xs.map (·.1)).Nodup) : ObjOk X.prog X.w H h a (DicT W a xs) := by
  rw [G.prog, G.w] at h4
  refine ⟨⟨hz, o, es, ep, h1, h2, h3, h4, h5⟩, ⟨o, h1⟩, fun g1 g2 ⟨z, o, es, ep, q1, q⟩ k => ⟨z, o, es, ep, k o q1, q⟩⟩
theorem Inv.dctK (I : L2.Inv X pins σ H s) (G : Fit W X) (em : Emb W M H) {a : Addr} {kvs : List (PV × PV)} (hM : M a = some (.dct kvs)) (hs : (kvs.all fun p => isTup p.1 == false) = true) :
    ∃ H1 ks, L2.Inv X pins σ H1 s ∧ Grow H H1 ∧ Emb W M H1 ∧ H1 a = some (.dK ks) ∧ EntK W H1 kvs ks ∧ (ks.map (·.1)).Nodup := by
  rcases em a _ hM with ⟨ks, h1, h2⟩ | ⟨xs, h1, h2, h3⟩
  · refine ⟨H, ks, I, Grow.refl _, em, h1, h2, ?_⟩
    obtain ⟨_, _, vs, rel, o, es, ep, _, _, _, _, _, nd⟩ := dk_of I.hok h1
    rw [rel.keys]
    exact nd
  · obtain ⟨rfl, rfl⟩ := h3.tups hs
    obtain ⟨⟨_, o, es, ep, q1, q2, q3, q4, q5⟩, _⟩ := I.hok a _ h1
    have g : Grow H (upd H a (.dK [])) := Grow.set h1 (fun _ z => nomatch z) fun _ _ z => nomatch z
    have hes : es = #[] := by
      rw [List.map_nil] at q4
      exact Array.toList_inj.mp q4
    subst hes
    refine ⟨upd H a (.dK []), [], I.write (t' := s.toks) (x := a) (e := a) (by rw [h1]; exact True.intro) (.inl rfl) (fun b u _ e => e) ⟨o, q1⟩ ?_, g, ?_, upd_same, .nil, List.nodup_nil⟩
    · exact ⟨Nat.zero_le _, h2, [], .nil, o, #[], ep, q1, q2, q3, fun e he => by simp at he, .nil, List.nodup_nil⟩
    · have := em.put (u := .dct []) g (.inl ⟨[], upd_same, .nil⟩)
      intro b u e
      refine this b u ?_
      by_cases z : b = a
      · subst z; rw [mup_same]; rw [hM] at e; exact e
      · rw [mup_ne z]; exact e
theorem Inv.dctT (I : L2.Inv X pins σ H s) (G : Fit W X) (em : Emb W M H) {a : Addr} {kvs : List (PV × PV)} (hM : M a = some (.dct kvs)) (hs : (kvs.all fun p => isTup p.1 == true) = true) :
    ∃ H1 xs, L2.Inv X pins σ H1 s ∧ Grow H H1 ∧ Emb W M H1 ∧ H1 a = some (DicT W a xs) ∧ EntT W H1 kvs xs ∧ (a == sysModules) = false := by
  rcases em a _ hM with ⟨ks, h1, h2⟩ | ⟨xs, h1, h2, h3⟩
  · obtain ⟨rfl, rfl⟩ := h2.scal hs
    obtain ⟨_, hd, vs, rel, o, es, ep, q1, q2, q3, _, q4, _⟩ := dk_of I.hok h1
    cases rel
    have g : Grow H (upd H a (DicT W a [])) := Grow.set h1 (fun _ z => nomatch z) fun _ _ z => nomatch z
    have hes : es = #[] := by
      have : es.toList = [] := by
        generalize es.toList = l at q4
        cases q4
        rfl
      exact Array.toList_inj.mp this
    subst hes
    refine ⟨upd H a (DicT W a []), [], I.write (t' := s.toks) (x := a) (e := a) (by rw [h1]; exact True.intro) (.inl rfl) (fun b u _ e => e) ⟨o, q1⟩ (DicT.ok G (Nat.zero_le _) q1 q2 q3 rfl List.nodup_nil), g, ?_, upd_same, .nil, hd⟩
    have := em.put (u := .dct []) g (.inr ⟨[], upd_same, hd, .nil⟩)
    intro b u e
    refine this b u ?_
    by_cases z : b = a
    · subst z; rw [mup_same]; rw [hM] at e; exact e
    · rw [mup_ne z]; exact e
  · exact ⟨H, xs, I, Grow.refl _, em, h1, h3, h2⟩
/-- the entries' keys are keys there -/
theorem EntT.dict (I : L2.Inv X pins σ H s) (G : Fit W X) {a : Addr} {kvs : List (PV × PV)} {xs : List (NestedKey × Addr × Value)} (hH : H a = some (DicT W a xs)) (h : EntT W H kvs xs) : s.heap.DictOfH (nestedKind X.prog X.w) a xs ∧ xs.length ≤ sizeLine := by
  obtain ⟨⟨z, o, es, ep, q1, q2, q3, q4, q5⟩, _⟩ := I.hok a _ hH
  refine ⟨⟨o, es, ep, q1, q2, q3, by rw [G.prog, G.w]; exact q4, ?_, q5⟩, z⟩
  clear hH z q1 q2 q3 q4 q5 o es ep
  rename_i k0
  clear k0
  induction h with
  | nil => intro x hx; cases hx
  | cons h1 h2 h3 h4 _ _ _ ih =>
    intro x hx
    rcases List.mem_cons.mp hx with rfl | hx
    · obtain ⟨nk, b, e1, e2, _, e3⟩ := key_is I G h1 h2 h4 rfl
      rw [h3] at e1
      cases e1
      cases e2
      exact e3
    · exact ih x hx
end
end Ev
end

section
/-! EvI: truth, not, and, or, if-else, comparisons. -/
namespace Ev
open PySem PySem.Spec PyProof.Rows L2
section
variable {W : Wd} {T : Tab} {C : CT} {X : Cx} {H H' : Hp} {M : MH} {pins : List (Addr × Obj)} {s : Shared} {σ : L2.St} {st : St}
theorem ift {p q : Prop} (h : p) : if true = true then p else q := by rw [if_pos rfl]; exact h
theorem iff' {p q : Prop} (h : q) : if false = true then p else q := by rw [if_neg (by decide)]; exact h
theorem RelPs.isEmpty {xs : List PV} {vs : List V} (h : RelPs W H xs vs) : xs.isEmpty = vs.isEmpty := by
  have := h.length
  cases xs <;> cases vs <;> simp_all
theorem tru_rel (G : Fit W X) (em : Emb W M H) {v : PV} {x : V} {b : Bool} (h : truthy M v = some b) (r : RelP W H v x) : TruV X.K x H b := by
  unfold truthy at h
  split at h
  · cases h; simp only [RelP] at r; subst r; rfl
  · cases h; simp only [RelP] at r; subst r; rfl
  · cases h; simp only [RelP] at r; subst r; rfl
  · rename_i xs
    cases h; simp only [RelP] at r
    obtain ⟨a, vs, rfl, sq, q⟩ := r
    exact .inr (.inl ⟨vs, G.K ▸ sq, by rw [q.isEmpty]⟩)
  · rename_i xs
    cases h; simp only [RelP] at r
    obtain ⟨a, vs, rfl, sq, q⟩ := r
    exact .inl ⟨vs, G.K ▸ sq.sq, by rw [q.isEmpty]⟩
  · rename_i a
    split at h
    · rename_i xs e
      cases h
      simp only [RelP] at r
      subst r
      obtain ⟨vs, h1, q⟩ := em a _ e
      exact .inl ⟨vs, SqL.of h1, by rw [q.isEmpty]⟩
    · cases h
  · cases h
variable (hC : CMono C)
include hC
/-- a part is run -/
theorem run1 {e : Expr} {a : E} {R : PV → MH → Prop} {Q' : Value → Shared → Prop} (ha : PE X e (rdE W T C a)) (I : L2.Inv X pins σ H s) (es : EmbS W H st σ) (em : Emb W M H) (w : wpE T C a st M R)
    (k : ∀ v s1 H1 M1 pv x, L2.Inv X pins σ H1 s1 → RelV x v → Grow H H1 → Emb W M1 H1 → RelP W H1 pv x → R pv M1 → Q' v s1) : wpAny (model X.prog X.w) X.A (eval e X.env) Q' X.xe s :=
  thn (ha.run pins s σ H _ I (one (r := fun x H1 => ∃ M1 pv, Grow H H1 ∧ Emb W M1 H1 ∧ RelP W H1 pv x ∧ R pv M1) hC es em w fun H1 M1 pv x g em1 r q => ⟨M1, pv, g, em1, r, q⟩))
    fun v s1 ⟨x, H1, I1, rx, M1, pv, g, em1, r, q⟩ => k v s1 H1 M1 pv x I1 rx g em1 r q
/-- a test is run -/
theorem runT {e : Expr} {a : E} {R : PV → MH → Prop} {Q' : Bool → Shared → Prop} (ha : PT X e (rdT W T C a)) (I : L2.Inv X pins σ H s) (es : EmbS W H st σ) (em : Emb W M H) (w : wpE T C a st M R)
    (t : ∀ pv M1, R pv M1 → ∃ b, truthy M1 pv = some b)
    (k : ∀ c s1 H1 M1 pv, L2.Inv X pins σ H1 s1 → Grow H H1 → Emb W M1 H1 → truthy M1 pv = some c → R pv M1 → Q' c s1) : wpAny (model X.prog X.w) X.A (isTrue e X.env (eval e X.env)) Q' X.xe s :=
  thn (ha.run pins s σ H (fun c H1 => ∃ M1 pv, Grow H H1 ∧ Emb W M1 H1 ∧ truthy M1 pv = some c ∧ R pv M1) I ⟨st, M, es, em, wpE_mono hC a _ _ _ _ (fun v M1 q => by
    obtain ⟨b, e⟩ := t v M1 q
    exact ⟨b, e, fun H1 g em1 => ⟨M1, v, g, em1, e, q⟩⟩) w⟩)
    fun c s1 ⟨H1, I1, M1, pv, g, em1, r, q⟩ => k c s1 H1 M1 pv I1 g em1 r q
/-- the truth of what was evaluated -/
theorem pt_plain' (G : Fit W X) {e : Expr} {a : E} (ha : PE X e (rdE W T C a)) (he : ∀ whole, isTrue e X.env whole = (do let v ← whole; standAt e.pos; holding [v] (PySem.truthy v))) : PT X e (rdT W T C a) :=
  (pt_truth ha he).imp fun σ H Q ⟨st, M, es, em, w⟩ => by
    refine one hC es em w fun H1 M1 v x g em1 r q => ?_
    obtain ⟨b, e, q⟩ := q
    exact ⟨b, tru_rel G em1 e r, q H1 g em1⟩
omit hC in
theorem un_not (G : Fit W X) : UnR X (unaryOp .Not) (fun x H Q => ∃ k, TruV X.K x H k ∧ Q (.bl !k) H) := by
  intro pins s σ H x v Q I rx ⟨k, t, q⟩
  refine not_of (thn (tru_ok pins s σ H x v (fun c H1 => c = k ∧ H1 = H) I rx ⟨k, t, rfl, rfl⟩) fun c s1 ⟨H1, I1, e1, e2⟩ => ?_)
  subst e1 e2
  exact ⟨.bl !c, H1, I1, rfl, q⟩
theorem pe_not' (G : Fit W X) {a : Expr} {pos : Pos} {a' : E} (ha : PE X a (rdE W T C a')) : PE X (.UnaryOp .Not a pos) (rdE W T C (.not a')) :=
  (pe_un (un_not G) ha).imp fun σ H Q ⟨st, M, es, em, w⟩ => by
    simp only [wpE] at w
    refine one hC es em w fun H1 M1 v x g em1 r q => ?_
    split at q
    · rename_i b e
      exact ⟨b, tru_rel G em1 e r, aft_val q g em1 rfl⟩
    · exact q.elim
theorem pt_not' {a : Expr} {pos : Pos} {a' : E} (ha : PT X a (rdT W T C a')) : PT X (.UnaryOp .Not a pos) (rdT W T C (.not a')) :=
  (pt_not ha).imp fun σ H Q ⟨st, M, es, em, w⟩ => by
    simp only [wpE] at w
    refine ⟨st, M, es, em, wpE_mono hC a' _ _ _ _ (fun v M1 q => ?_) w⟩
    split at q
    · rename_i b e
      obtain ⟨c, e1, q⟩ := q
      cases e1
      exact ⟨b, e, q⟩
    · exact q.elim
theorem pe_and' (G : Fit W X) {a b : Expr} {rest : List Expr} {pos : Pos} {a' b' : E} (ha : PE X a (rdE W T C a')) (hb : PE X (.BoolOp .And (b :: rest) pos) (rdE W T C b')) : PE X (.BoolOp .And (a :: b :: rest) pos) (rdE W T C (.and a' b')) := by
  refine ⟨fun pins s σ H Q I ⟨st, M, es, em, w⟩ => ?_⟩
  simp only [wpE] at w
  refine BoolOp_and (run1 hC ha I es em w fun v s1 H1 M1 pv x I1 rx g em1 r q => ?_)
  split at q
  · rename_i e
    refine thn (tru_ok pins s1 σ H1 x v (fun c H2 => c = true ∧ H2 = H1) I1 rx ⟨_, tru_rel G em1 e r, rfl, rfl⟩) fun c s2 ⟨H2, I2, e1, e2⟩ => ?_
    subst e1 e2
    exact hb.run pins s2 σ H2 Q I2 ⟨st, M1, es.grow g, em1, wpE_mono hC b' _ _ _ _ (fun v M' z => z.up g) q⟩
  · rename_i e
    refine thn (tru_ok pins s1 σ H1 x v (fun c H2 => c = false ∧ H2 = H1) I1 rx ⟨_, tru_rel G em1 e r, rfl, rfl⟩) fun c s2 ⟨H2, I2, e1, e2⟩ => ?_
    subst e1 e2
    exact ⟨x, H2, I2, rx, q H2 x g em1 r⟩
  · exact q.elim
theorem pe_or' (G : Fit W X) {a b : Expr} {rest : List Expr} {pos : Pos} {a' b' : E} (ha : PE X a (rdE W T C a')) (hb : PE X (.BoolOp .Or (b :: rest) pos) (rdE W T C b')) : PE X (.BoolOp .Or (a :: b :: rest) pos) (rdE W T C (.or a' b')) := by
  refine ⟨fun pins s σ H Q I ⟨st, M, es, em, w⟩ => ?_⟩
  simp only [wpE] at w
  refine BoolOp_or (run1 hC ha I es em w fun v s1 H1 M1 pv x I1 rx g em1 r q => ?_)
  split at q
  · rename_i e
    refine thn (tru_ok pins s1 σ H1 x v (fun c H2 => c = true ∧ H2 = H1) I1 rx ⟨_, tru_rel G em1 e r, rfl, rfl⟩) fun c s2 ⟨H2, I2, e1, e2⟩ => ?_
    subst e1 e2
    exact ⟨x, H2, I2, rx, q H2 x g em1 r⟩
  · rename_i e
    refine thn (tru_ok pins s1 σ H1 x v (fun c H2 => c = false ∧ H2 = H1) I1 rx ⟨_, tru_rel G em1 e r, rfl, rfl⟩) fun c s2 ⟨H2, I2, e1, e2⟩ => ?_
    subst e1 e2
    exact hb.run pins s2 σ H2 Q I2 ⟨st, M1, es.grow g, em1, wpE_mono hC b' _ _ _ _ (fun v M' z => z.up g) q⟩
  · exact q.elim
omit hC in
theorem rdT.up {a : E} {Q : Bool → Hp → Prop} (hC : CMono C) {H0 : Hp} (g : Grow H0 H) (es : EmbS W H st σ) (em : Emb W M H) (w : wpE T C a st M (fun v M' => ∃ b, truthy M' v = some b ∧ ∀ H', Grow H0 H' → Emb W M' H' → Q b H')) : rdT W T C a σ H Q :=
  ⟨st, M, es, em, wpE_mono hC a _ _ _ _ (fun v M' ⟨b, e, q⟩ => ⟨b, e, fun H' g' em' => q H' (g.trans g') em'⟩) w⟩
theorem pw_and' {a b : Expr} {rest : List Expr} {pos : Pos} {a' b' : E} (ha : PT X a (rdT W T C a')) (hb : PW X (.BoolOp .And (b :: rest) pos) (rdT W T C b')) : PW X (.BoolOp .And (a :: b :: rest) pos) (rdT W T C (.and a' b')) := by
  have h := pw_and (pos := pos) ha hb
  refine ⟨fun wh pins s σ H Q I ⟨st, M, es, em, w⟩ => h.run wh pins s σ H Q I ?_⟩
  simp only [wpE] at w
  refine ⟨st, M, es, em, wpE_mono hC a' _ _ _ _ (fun v M1 q => ?_) w⟩
  split at q
  · rename_i e
    exact ⟨true, e, fun H' g em' => ift (rdT.up hC g (es.grow g) em' q)⟩
  · rename_i e
    obtain ⟨c, e1, q⟩ := q
    rw [e] at e1
    cases e1
    exact ⟨false, e, fun H' g em' => iff' (q H' g em')⟩
  · exact q.elim
theorem pw_or' {a b : Expr} {rest : List Expr} {pos : Pos} {a' b' : E} (ha : PT X a (rdT W T C a')) (hb : PW X (.BoolOp .Or (b :: rest) pos) (rdT W T C b')) : PW X (.BoolOp .Or (a :: b :: rest) pos) (rdT W T C (.or a' b')) := by
  have h := pw_or (pos := pos) ha hb
  refine ⟨fun wh pins s σ H Q I ⟨st, M, es, em, w⟩ => h.run wh pins s σ H Q I ?_⟩
  simp only [wpE] at w
  refine ⟨st, M, es, em, wpE_mono hC a' _ _ _ _ (fun v M1 q => ?_) w⟩
  split at q
  · rename_i e
    obtain ⟨c, e1, q⟩ := q
    rw [e] at e1
    cases e1
    exact ⟨true, e, fun H' g em' => ift (q H' g em')⟩
  · rename_i e
    exact ⟨false, e, fun H' g em' => iff' (rdT.up hC g (es.grow g) em' q)⟩
  · exact q.elim
theorem pe_ite' {c a b : Expr} {pos : Pos} {c' a' b' : E} (hc : PT X c (rdT W T C c')) (ha : PE X a (rdE W T C a')) (hb : PE X b (rdE W T C b')) : PE X (.IfExp c a b pos) (rdE W T C (.ite c' a' b')) :=
  (pe_ifExp hc ha hb).imp fun σ H Q ⟨st, M, es, em, w⟩ => by
    simp only [wpE] at w
    refine ⟨st, M, es, em, wpE_mono hC c' _ _ _ _ (fun v M1 q => ?_) w⟩
    split at q
    · rename_i e
      exact ⟨true, e, fun H' g em' => ift ⟨st, M1, es.grow g, em', wpE_mono hC a' _ _ _ _ (fun v M' z => z.up g) q⟩⟩
    · rename_i e
      exact ⟨false, e, fun H' g em' => iff' ⟨st, M1, es.grow g, em', wpE_mono hC b' _ _ _ _ (fun v M' z => z.up g) q⟩⟩
    · exact q.elim
theorem pt_ite' {c a b : Expr} {pos : Pos} {c' a' b' : E} (hc : PT X c (rdT W T C c')) (ha : PT X a (rdT W T C a')) (hb : PT X b (rdT W T C b')) : PT X (.IfExp c a b pos) (rdT W T C (.ite c' a' b')) := by
  refine ⟨fun pins s σ H Q I ⟨st, M, es, em, w⟩ => ?_⟩
  simp only [wpE] at w
  refine isTrue_IfExp (runT hC hc I es em w (fun pv M1 q => ?_) fun c s1 H1 M1 pv I1 g em1 e q => ?_)
  · split at q
    · exact ⟨_, ‹_›⟩
    · exact ⟨_, ‹_›⟩
    · exact q.elim
  · rw [e] at q
    cases c with
    | true => exact ha.run pins s1 σ H1 Q I1 (rdT.up hC g (es.grow g) em1 q)
    | false => exact hb.run pins s1 σ H1 Q I1 (rdT.up hC g (es.grow g) em1 q)
omit hC

/-! #### closed data -/
theorem dpl_ofMapO {n : Nat} (em : Emb W M H) (ih : ∀ (v : PV) (x : V) (d : PyData), den M n v = some d → RelP W H v x → Dp W.K H x d ∧ d.plain = true ∧ d.depth ≤ n) : ∀ (xs : List PV) (vs : List V) (ds : List PyData), mapO (den M n) xs = some ds → RelPs W H xs vs → DpAll W.K H vs ds ∧ PyData.plainAll ds = true ∧ PyData.depthAll ds ≤ n
  | [], vs, ds, h, r => by
    simp only [mapO, Option.some.injEq] at h
    simp only [RelPs] at r
    subst h r
    exact ⟨.nil, rfl, Nat.zero_le _⟩
  | y :: ys, vs, ds, h, r => by
    simp only [mapO] at h
    split at h
    · rename_i d ds' e1 e2
      cases h
      simp only [RelPs] at r
      obtain ⟨v, vs', rfl, r1, r2⟩ := r
      obtain ⟨a1, a2, a3⟩ := ih y v d e1 r1
      obtain ⟨b1, b2, b3⟩ := dpl_ofMapO em ih ys vs' ds' e2 r2
      refine ⟨.cons a1 b1, ?_, ?_⟩
      · simp only [PyData.plainAll, a2, b2, Bool.and_self]
      · simp only [PyData.depthAll]
        omega
    · cases h
theorem den_dp (em : Emb W M H) : ∀ (n : Nat) (v : PV) (x : V) (d : PyData), den M n v = some d → RelP W H v x → Dp W.K H x d ∧ d.plain = true ∧ d.depth ≤ n := by
  intro n
  induction n with
  | zero =>
    intro v x d h r
    cases v <;> simp only [den, Option.some.injEq, reduceCtorEq] at h <;> subst h <;> simp only [RelP] at r <;> subst r
    · exact ⟨.non, rfl, Nat.le_refl _⟩
    · exact ⟨.bl _, rfl, Nat.le_refl _⟩
    · exact ⟨.int _, rfl, Nat.le_refl _⟩
    · exact ⟨.str _, rfl, Nat.le_refl _⟩
  | succ n ih =>
    intro v x d h r
    cases v with
    | non => simp only [den, Option.some.injEq] at h; subst h; simp only [RelP] at r; subst r; exact ⟨.non, rfl, Nat.zero_le _⟩
    | bl b => simp only [den, Option.some.injEq] at h; subst h; simp only [RelP] at r; subst r; exact ⟨.bl _, rfl, Nat.zero_le _⟩
    | int b => simp only [den, Option.some.injEq] at h; subst h; simp only [RelP] at r; subst r; exact ⟨.int _, rfl, Nat.zero_le _⟩
    | str b => simp only [den, Option.some.injEq] at h; subst h; simp only [RelP] at r; subst r; exact ⟨.str _, rfl, Nat.zero_le _⟩
    | tup xs =>
      simp only [den, Option.map_eq_some_iff] at h
      obtain ⟨ds, h, rfl⟩ := h
      simp only [RelP] at r
      obtain ⟨a, vs, rfl, sq, q⟩ := r
      obtain ⟨b1, b2, b3⟩ := dpl_ofMapO em ih xs vs ds h q
      exact ⟨.tup sq b1, by simp only [PyData.plain, b2], by simp only [PyData.depth]; omega⟩
    | fl xs =>
      simp only [den, Option.map_eq_some_iff] at h
      obtain ⟨ds, h, rfl⟩ := h
      simp only [RelP] at r
      obtain ⟨a, vs, rfl, sq, q⟩ := r
      obtain ⟨b1, b2, b3⟩ := dpl_ofMapO em ih xs vs ds h q
      exact ⟨.lst sq.sq b1, by simp only [PyData.plain, b2], by simp only [PyData.depth]; omega⟩
    | ref a =>
      simp only [den] at h
      split at h
      · rename_i xs e
        simp only [Option.map_eq_some_iff] at h
        obtain ⟨ds, h, rfl⟩ := h
        simp only [RelP] at r
        subst r
        obtain ⟨vs, h1, q⟩ := em a _ e
        obtain ⟨b1, b2, b3⟩ := dpl_ofMapO em ih xs vs ds h q
        exact ⟨.lst (SqL.of h1) b1, by simp only [PyData.plain, b2], by simp only [PyData.depth]; omega⟩
      · cases h
    | fn _ => simp [den] at h
    | ty _ => simp [den] at h
/-- the data of a value, read off the heap -/
theorem den_reads (I : L2.Inv X pins σ H s) (G : Fit W X) (em : Emb W M H) {n : Nat} {v : PV} {x : V} {d : PyData} {u : Value} (h : den M n v = some d) (r : RelP W H v x) (q : RelV x u) : ∃ as, Reads s.heap u d as := by
  obtain ⟨h1, _, _⟩ := den_dp em n v x d h r
  rw [← G.K] at h1
  exact Dp.reads I d x u h1 q

/-! #### comparisons without __eq__ -/
def rCm (W : Wd) (op : Cop) : R2 := fun x y H Q => ∃ M v u b, Emb W M H ∧ RelP W H v x ∧ RelP W H u y ∧ cmpR M op v u = some b ∧ ∀ H', Grow H H' → Emb W M H' → Q (.bl b) H'
theorem rel_non {v : PV} {x : V} (r : RelP W H v x) : decide (v = .non) = decide (x = .non) := by
  cases v <;> simp only [RelP] at r
  all_goals first
    | (subst r; simp; done)
    | (obtain ⟨a, vs, rfl, _⟩ := r; simp; done)
    | (rw [r.1]; simp; done)
/-- the items of a list or tuple with what lies beside it -/
theorem in_of (I : L2.Inv X pins σ H s) (G : Fit W X) (em : Emb W M H) {xs : List PV} {vs : List V} {d : PyData} {ds : List PyData} {p : PV} {x : V} {v : Value} (r : RelP W H p x) (rx : RelV x v) (e1 : den M dD p = some d) (e2 : mapO (den M dD) xs = some ds) (q : RelPs W H xs vs) :
    (∃ as, Reads s.heap v d as) ∧ d.plain = true ∧ PyData.plainAll ds = true ∧ DpAll X.K H vs ds ∧ X.A.units + 1 + min (PyData.depthAll ds) d.depth < cLine := by
  obtain ⟨a1, a2, a3⟩ := den_dp em _ _ _ _ e1 r
  obtain ⟨b1, b2, b3⟩ := dpl_ofMapO em (den_dp em dD) xs vs ds e2 q
  refine ⟨den_reads I G em e1 r rx, a2, b2, G.K ▸ b1, ?_⟩
  have := G.room
  have : dD = 12 := rfl
  omega
/-- a dict is asked for a key -/
theorem dct_look (I : L2.Inv X pins σ H s) (G : Fit W X) (em : Emb W M H) {p : Addr} {kvs : List (PV × PV)} {k : PV} {y : V} {u : Value} (hM : M p = some (.dct kvs)) (hf : keyFit kvs k = true) (rk : RelP W H k y) (ry : RelV y u) :
    (∃ H1 q ks, L2.Inv X pins σ H1 s ∧ Grow H H1 ∧ Emb W M H1 ∧ H1 p = some (.dK ks) ∧ y = kV q ∧ isTup k = false ∧ pvKey k = some q ∧ EntK W H1 kvs ks ∧ (ks.map (·.1)).Nodup) ∨
    ∃ H1 xs nk b, L2.Inv X pins σ H1 s ∧ Grow H H1 ∧ Emb W M H1 ∧ H1 p = some (DicT W p xs) ∧ (p == sysModules) = false ∧ y = .ref b ∧ u = .ref b ∧ isTup k = true ∧ keyOk k = true ∧ toNK k = some nk ∧ (nestedKind X.prog X.w).is s.heap nk b ∧ EntT W H1 kvs xs ∧
      s.heap.DictOfH (nestedKind X.prog X.w) p xs ∧ xs.length ≤ sizeLine := by
  unfold keyFit at hf
  rw [Bool.and_eq_true] at hf
  cases t : isTup k with
  | false =>
    rw [t] at hf
    obtain ⟨q, hq⟩ := pvKey_some hf.1 t
    obtain ⟨H1, ks, I1, g, em1, h1, en, nd⟩ := Inv.dctK I G em hM hf.2
    exact .inl ⟨H1, q, ks, I1, g, em1, h1, pvKey_rel hq rk, rfl, hq, en, nd⟩
  | true =>
    rw [t] at hf
    obtain ⟨H1, xs, I1, g, em1, h1, en, hs⟩ := Inv.dctT I G em hM hf.2
    obtain ⟨nk, b, e1, e2, e3, e4⟩ := key_is I G t hf.1 rk ry
    obtain ⟨dd, hz⟩ := en.dict I1 G h1
    exact .inr ⟨H1, xs, nk, b, I1, g, em1, h1, hs, e2, e3, rfl, hf.1, e1, e4, en, dd, hz⟩
theorem op_cm (G : Fit W X) (op : CmpOp) : OpR X (compareOp op) (rCm W (trCop op)) := by
  intro pins s σ H x y v u Q I rx ry ⟨M, a, b, k, em, ra, rb, h, w⟩
  have hr := G.room
  have hd : dD = 12 := rfl
  have q := w H (Grow.refl _) em
  cases op with
  | Eq =>
    simp only [trCop, cmpR, eqR] at h
    split at h
    · rename_i d e e1 e2
      cases h
      obtain ⟨as, r1⟩ := den_reads I G em e1 ra rx
      obtain ⟨bs, r2⟩ := den_reads I G em e2 rb ry
      obtain ⟨_, p1, z1⟩ := den_dp em _ _ _ _ e1 ra
      obtain ⟨_, p2, z2⟩ := den_dp em _ _ _ _ e2 rb
      exact SeqAt.eq_plain r1 r2 p1 p2 (by omega) ⟨.bl _, H, I, rfl, q⟩
    · cases h
  | NotEq =>
    simp only [trCop, cmpR, eqR] at h
    split at h
    · rename_i d e e1 e2
      cases h
      obtain ⟨as, r1⟩ := den_reads I G em e1 ra rx
      obtain ⟨bs, r2⟩ := den_reads I G em e2 rb ry
      obtain ⟨_, p1, z1⟩ := den_dp em _ _ _ _ e1 ra
      obtain ⟨_, p2, z2⟩ := den_dp em _ _ _ _ e2 rb
      exact SeqAt.ne_plain r1 r2 p1 p2 (by omega) ⟨.bl _, H, I, rfl, q⟩
    · cases h
  | Lt =>
    cases a <;> cases b <;> simp only [trCop, cmpR, reduceCtorEq, Option.some.injEq] at h
    subst h
    exact op_lt pins s σ H x y v u Q I rx ry ⟨_, _, ra, rb, q⟩
  | LtE =>
    cases a <;> cases b <;> simp only [trCop, cmpR, reduceCtorEq, Option.some.injEq] at h
    subst h
    exact op_le pins s σ H x y v u Q I rx ry ⟨_, _, ra, rb, q⟩
  | Gt =>
    cases a <;> cases b <;> simp only [trCop, cmpR, reduceCtorEq, Option.some.injEq] at h
    subst h
    exact op_gt pins s σ H x y v u Q I rx ry ⟨_, _, ra, rb, q⟩
  | GtE =>
    cases a <;> cases b <;> simp only [trCop, cmpR, reduceCtorEq, Option.some.injEq] at h
    subst h
    exact op_ge pins s σ H x y v u Q I rx ry ⟨_, _, ra, rb, q⟩
  | Is =>
    cases b <;> simp only [trCop, cmpR, reduceCtorEq, Option.some.injEq] at h
    subst h
    rw [rel_non ra] at q
    exact op_isN pins s σ H x y v u Q I rx ry ⟨rb, q⟩
  | IsNot =>
    cases b <;> simp only [trCop, cmpR, reduceCtorEq, Option.some.injEq] at h
    subst h
    rw [rel_non ra] at q
    exact op_notN pins s σ H x y v u Q I rx ry ⟨rb, q⟩
  | In =>
    cases b <;> simp only [trCop, cmpR, reduceCtorEq] at h
    · rename_i xs
      split at h
      · rename_i d ds e1 e2
        cases h
        simp only [RelP] at rb
        obtain ⟨p, vs, rfl, sq, rs⟩ := rb
        obtain ⟨⟨as, r1⟩, p1, p2, r2, hu⟩ := in_of I G em ra rx e1 e2 rs
        obtain ⟨bs, r3⟩ := Dp.reads I (.tuple ds) (.ref p) u (.tup (G.K ▸ sq) r2) ry
        exact SeqAt.in_tuple_data r3 r1 p2 p1 hu ⟨.bl _, H, I, rfl, q⟩
      · cases h
    · rename_i p
      split at h
      · rename_i kvs hM
        split at h
        · rename_i hf
          cases h
          cases rb
          cases ry
          rcases dct_look I G em hM hf ra rx with ⟨H1, qk, ks, I1, g, em1, h1, rfl, _, hk, en, _⟩ | ⟨H1, xs, nk, c, I1, g, em1, h1, hs, rfl, rfl, _, _, hk, is_, en, dd, hz⟩
          · refine d_in (A := X.A) (by omega) I1 (DGet.k h1) rx fun s' I' => ⟨.bl (valV ks qk).isSome, H1, I', rfl, ?_⟩
            rcases en.get hk with ⟨e1, e2⟩ | ⟨z, z', e1, e2, _⟩ <;> rw [e2] <;> rw [e1] at w <;> exact w H1 g em1
          · refine in_keyed (kvs := pairsH xs) (room_nk G) is_ hs ⟨xs, dd, rfl⟩ ⟨.bl (valueAt (pairsH xs) nk).isSome, H1, I1.tok _, rfl, ?_⟩
            rw [valueAt_pairsH]
            rcases en.get hk with ⟨e1, e2⟩ | ⟨z, z', z'', e1, e2, _⟩ <;> rw [e2] <;> rw [e1] at w <;> exact w H1 g em1
        · cases h
      · rename_i xs hM
        split at h
        · rename_i d ds e1 e2
          cases h
          cases rb
          obtain ⟨vs, h1, rs⟩ := em p _ hM
          obtain ⟨⟨as, r1⟩, p1, p2, r2, hu⟩ := in_of I G em ra rx e1 e2 rs
          obtain ⟨bs, r3⟩ := Dp.reads I (.list ds) (.ref p) u (.lst (SqL.of h1) r2) ry
          exact SeqAt.in_list_data r3 r1 p2 p1 hu ⟨.bl _, H, I, rfl, q⟩
        · cases h
      · cases h
  | NotIn =>
    cases b <;> simp only [trCop, cmpR, reduceCtorEq] at h
    · rename_i xs
      split at h
      · rename_i d ds e1 e2
        cases h
        simp only [RelP] at rb
        obtain ⟨p, vs, rfl, sq, rs⟩ := rb
        obtain ⟨⟨as, r1⟩, p1, p2, r2, hu⟩ := in_of I G em ra rx e1 e2 rs
        obtain ⟨bs, r3⟩ := Dp.reads I (.tuple ds) (.ref p) u (.tup (G.K ▸ sq) r2) ry
        exact SeqAt.notIn_tuple_data r3 r1 p2 p1 hu ⟨.bl _, H, I, rfl, q⟩
      · cases h
    · rename_i p
      split at h
      · rename_i kvs hM
        split at h
        · rename_i hf
          cases h
          cases rb
          cases ry
          rcases dct_look I G em hM hf ra rx with ⟨H1, qk, ks, I1, g, em1, h1, rfl, _, hk, en, _⟩ | ⟨H1, xs, nk, c, I1, g, em1, h1, hs, rfl, rfl, _, _, hk, is_, en, dd, hz⟩
          · refine d_notIn (A := X.A) (by omega) I1 (DGet.k h1) rx fun s' I' => ⟨.bl !(valV ks qk).isSome, H1, I', rfl, ?_⟩
            rcases en.get hk with ⟨e1, e2⟩ | ⟨z, z', e1, e2, _⟩ <;> rw [e2] <;> rw [e1] at w <;> exact w H1 g em1
          · refine notIn_keyed (kvs := pairsH xs) (room_nk G) is_ hs ⟨xs, dd, rfl⟩ ⟨.bl !(valueAt (pairsH xs) nk).isSome, H1, I1.tok _, rfl, ?_⟩
            rw [valueAt_pairsH]
            rcases en.get hk with ⟨e1, e2⟩ | ⟨z, z', z'', e1, e2, _⟩ <;> rw [e2] <;> rw [e1] at w <;> exact w H1 g em1
        · cases h
      · rename_i xs hM
        split at h
        · rename_i d ds e1 e2
          cases h
          cases rb
          obtain ⟨vs, h1, rs⟩ := em p _ hM
          obtain ⟨⟨as, r1⟩, p1, p2, r2, hu⟩ := in_of I G em ra rx e1 e2 rs
          obtain ⟨bs, r3⟩ := Dp.reads I (.list ds) (.ref p) u (.lst (SqL.of h1) r2) ry
          exact SeqAt.notIn_list_data r3 r1 p2 p1 hu ⟨.bl _, H, I, rfl, q⟩
        · cases h
      · cases h
end
end Ev
end

section
/-! EvJ: comparisons as expressions, subscripts, slices. -/
namespace Ev
open PySem PySem.Spec PyProof.Rows L2
section
variable {W : Wd} {T : Tab} {C : CT} {X : Cx} {H H' : Hp} {M : MH} {pins : List (Addr × Obj)} {s : Shared} {σ : L2.St} {st : St}
def rOwn (W : Wd) (T : Tab) (C : CT) (op : Cop) : R2 := fun x y H Q => ∃ M v u c g, insC M v = some c ∧ insC M u = some c ∧ T.eqm c = some g ∧ Emb W M H ∧ RelP W H v x ∧ RelP W H u y ∧
  C g [v, u] M fun w M' => ∃ b, w = .bl b ∧ ∀ H', Grow H H' → Emb W M' H' → Q (.bl (if op = .eq then b else !b)) H'
/-- == and != of instances with their own __eq__ -/
def OwnQ (W : Wd) (T : Tab) (C : CT) (X : Cx) : Prop := ∀ op : CmpOp, isEq (trCop op) = true → OpR X (compareOp op) (rOwn W T C (trCop op))
def rCmp (W : Wd) (T : Tab) (C : CT) (op : Cop) : R2 := fun x y H Q => ∃ M v u, Emb W M H ∧ RelP W H v x ∧ RelP W H u y ∧ wpCmp T C op v u M fun w M' => ∃ b, w = .bl b ∧ ∀ H', Grow H H' → Emb W M' H' → Q (.bl b) H'
theorem op_cmp (hC : CMono C) (G : Fit W X) (O : OwnQ W T C X) (op : CmpOp) : OpR X (compareOp op) (rCmp W T C (trCop op)) := by
  intro pins s σ H x y v u Q I rx ry ⟨M, a, b, em, ra, rb, w⟩
  unfold wpCmp at w
  split at w
  · rename_i c e
    have ⟨e1, e2⟩ : isEq (trCop op) = true ∧ insC M a = some c := by
      split at e
      · exact ⟨by assumption, e⟩
      · cases e
    split at w
    · rename_i g e3
      exact O op e1 pins s σ H x y v u Q I rx ry ⟨M, a, b, c, g, e2, w.1, e3, em, ra, rb, hC _ _ _ _ _ (fun v M' ⟨k, ek, k', ek', q⟩ => by cases ek'; exact ⟨k, ek, q⟩) w.2⟩
    · exact w.elim
  · split at w
    · rename_i k e
      obtain ⟨b', e1, q⟩ := w
      cases e1
      exact op_cm G op pins s σ H x y v u Q I rx ry ⟨M, a, b, k, em, ra, rb, e, q⟩
    · exact w.elim
variable (hC : CMono C)
include hC
theorem wpCmp_bl {op : Cop} {a b : PV} {Q : PV → MH → Prop} (w : wpCmp T C op a b M Q) : wpCmp T C op a b M fun v M' => ∃ k, v = .bl k ∧ Q (.bl k) M' := by
  unfold wpCmp at w ⊢
  split at w
  · rename_i c _
    split at w
    · rename_i g e
      exact ⟨w.1, hC _ _ _ _ _ (fun v M' ⟨k, e1, q⟩ => ⟨k, e1, _, rfl, q⟩) w.2⟩
    · exact w.elim
  · split at w
    · exact ⟨_, rfl, w⟩
    · exact w.elim
theorem pe_cmp' (G : Fit W X) (O : OwnQ W T C X) {op : CmpOp} {a b : Expr} {pos : Pos} {a' b' : E} (ha : PE X a (rdE W T C a')) (hb : PE X b (rdE W T C b')) (hm : behindInMarks op b = false) : PE X (.Compare a [op] [b] pos) (rdE W T C (.cmp (trCop op) a' b')) :=
  (pe_cmpR (op_cmp hC G O op) ha hb hm).imp fun σ H Q ⟨st, M, es, em, w⟩ => by
    simp only [wpE] at w
    refine two hC es em w fun H2 M2 v u x y g em2 r1 r2 q => ⟨M2, v, u, em2, r1, r2, wpCmp_mono hC (fun v M' z => ?_) (wpCmp_bl hC q)⟩
    obtain ⟨k, e, z⟩ := z
    exact ⟨k, e, fun H' g' em' => z H' _ (g.trans g') em' rfl⟩
theorem pt_cmp' (G : Fit W X) (O : OwnQ W T C X) {op : CmpOp} {a b : Expr} {pos : Pos} {a' b' : E} (ha : PE X a (rdE W T C a')) (hb : PE X b (rdE W T C b')) (hm : behindInMarks op b = false) : PT X (.Compare a [op] [b] pos) (rdT W T C (.cmp (trCop op) a' b')) :=
  (pt_cmpR (op_cmp hC G O op) ha hb hm).imp fun σ H Q ⟨st, M, es, em, w⟩ => by
    simp only [wpE] at w
    refine two hC es em w fun H2 M2 v u x y g em2 r1 r2 q => ⟨M2, v, u, em2, r1, r2, wpCmp_mono hC (fun v M' z => ?_) (wpCmp_bl hC q)⟩
    obtain ⟨k, e, k', e', z⟩ := z
    cases e'
    exact ⟨_, e, fun H' g' em' => ⟨_, rfl, z H' (g.trans g') em'⟩⟩
theorem chain_rd {o1 o2 : Cop} {a b c : E} {R : PV → MH → Prop} {Q : VK} (es : EmbS W H st σ) (em : Emb W M H) (w : wpE T C (.chain o1 o2 a b c) st M R) (k : ∀ b M' H', R (.bl b) M' → Grow H H' → Emb W M' H' → Q (.bl b) H') :
    tChain (rCm W o1) (rCm W o2) (rdE W T C a) (rdE W T C b) (rdE W T C c) σ H Q := by
  simp only [wpE] at w
  refine two hC es em w fun H2 M2 v u x y g em2 r1 r2 q => ?_
  split at q
  · rename_i e
    refine ⟨M2, v, u, true, em2, r1, r2, e, fun H' g' em' => ⟨true, rfl, ift ?_⟩⟩
    refine one hC ((es.grow g).grow g') em' q fun H4 M4 w z g4 em4 r4 q => ?_
    split at q
    · rename_i b e2
      exact ⟨M4, u, w, b, em4, RelP.grow (g'.trans g4) _ _ r2, r4, e2, fun H5 g5 em5 => k _ _ _ q (((g.trans g').trans g4).trans g5) em5⟩
    · exact q.elim
  · rename_i e
    exact ⟨M2, v, u, false, em2, r1, r2, e, fun H' g' em' => ⟨false, rfl, iff' (k _ _ _ q (g.trans g') em')⟩⟩
  · exact q.elim
theorem pe_chain' (G : Fit W X) {o1 o2 : CmpOp} {a b c : Expr} {pos : Pos} {a' b' c' : E} (ha : PE X a (rdE W T C a')) (hb : PE X b (rdE W T C b')) (hc : PE X c (rdE W T C c')) (hm : behindInMarks o2 c = false) : PE X (.Compare a [o1, o2] [b, c] pos) (rdE W T C (.chain (trCop o1) (trCop o2) a' b' c')) :=
  (pe_chain (op_cm G o1) (op_cm G o2) ha hb hc (by simpa [lastMarks] using hm)).imp fun σ H Q ⟨st, M, es, em, w⟩ => chain_rd hC es em w fun b M' H' q g em' => q H' _ g em' rfl
theorem pt_chain' (G : Fit W X) {o1 o2 : CmpOp} {a b c : Expr} {pos : Pos} {a' b' c' : E} (ha : PE X a (rdE W T C a')) (hb : PE X b (rdE W T C b')) (hc : PE X c (rdE W T C c')) (hm : behindInMarks o2 c = false) : PT X (.Compare a [o1, o2] [b, c] pos) (rdT W T C (.chain (trCop o1) (trCop o2) a' b' c')) :=
  (pt_chain (op_cm G o1) (op_cm G o2) ha hb hc (by simpa [lastMarks] using hm)).imp fun σ H Q ⟨st, M, es, em, w⟩ => chain_rd hC es em w fun b M' H' ⟨k, e, q⟩ g em' => by
    cases e
    exact ⟨_, rfl, q H' g em'⟩
omit hC

/-! #### subscripts -/
theorem atI_eq (xs : List PV) (i : Int) : Ev.atI xs i = L2.atI xs i := by
  unfold Ev.atI L2.atI ixN
  by_cases h : 0 ≤ i
  · rw [if_pos h, if_pos h]
    by_cases k : i < xs.length
    · rw [if_pos k]; rfl
    · rw [if_neg k]
      exact List.getElem?_eq_none (by omega)
  · rw [if_neg h, if_neg h]
    by_cases k : -(xs.length : Int) ≤ i
    · rw [if_pos k, if_pos (by omega), Int.add_comm]; rfl
    · rw [if_neg k, if_neg (by omega)]; rfl
theorem RelPs.atI {xs : List PV} {vs : List V} {i : Int} {v : PV} (h : RelPs W H xs vs) (e : Ev.atI xs i = some v) : ∃ x, L2.atI vs i = some x ∧ RelP W H v x := by
  rw [atI_eq] at e
  unfold L2.atI at e ⊢
  rw [← h.length]
  cases k : ixN xs.length i with
  | none => rw [k] at e; cases e
  | some j =>
    rw [k] at e
    exact h.get e
def rIx' (W : Wd) : R2 := fun x y H Q => ∃ M v u w, Emb W M H ∧ RelP W H v x ∧ RelP W H u y ∧ idxR M v u = some w ∧ Aft W H Q w M
theorem ix_all (G : Fit W X) : IxR X (rIx' W) := by
  intro value slice pins s σ H x y v u Q I rx ry ⟨M, a, b, c, em, ra, rb, h, w⟩ hs
  unfold idxR at h
  split at h
  · rename_i xs e
    split at h
    · rename_i k
      obtain ⟨p, vs, rfl, sq, rs⟩ := seqOf_some e em ra
      obtain ⟨z, e1, r1⟩ := rs.atI h
      simp only [RelP] at rb
      have fin := aft_val w (Grow.refl _) em r1
      rcases sq with ⟨_, sq⟩ | ⟨_, sq⟩
      · exact ix_list value slice pins s σ H _ y v u Q I rx ry ⟨p, vs, k, z, rfl, rb, G.K ▸ sq, e1, fin⟩ hs
      · exact ix_tup value slice pins s σ H _ y v u Q I rx ry ⟨p, vs, k, z, rfl, rb, G.K ▸ sq, e1, fin⟩ hs
    · cases h
  · split at h
    · rename_i p
      split at h
      · rename_i kvs hM
        split at h
        · rename_i hf
          have hr := G.room
          cases ra
          cases rx
          rcases dct_look I G em hM hf rb ry with ⟨H1, qk, ks, I1, g, em1, h1, rfl, _, hk, en, _⟩ | ⟨H1, xs, nk, q, I1, g, em1, h1, hs', rfl, rfl, _, _, hk, is_, en, dd, hz⟩
          · rcases en.get hk with ⟨e1, e2⟩ | ⟨z, z', e1, e2, e3⟩
            · rw [e1] at h; cases h
            · rw [e1] at h
              cases h
              have dg := DGet.k (k := qk) h1
              rw [e2] at dg
              exact tail_any (dict_typeIs I1 dg) slot_dict_getitem.lookup (d_getItem (A := X.A) (by omega) I1 dg ry fun w' s' I' r' => ⟨z', H1, I', r', w H1 z' g em1 e3⟩) hs
          · rcases en.get hk with ⟨e1, e2⟩ | ⟨z, pp, z', e1, e2, e3, e4⟩
            · rw [e1] at h; cases h
            · rw [e1] at h
              cases h
              exact tail_any dd.typeIs slot_dict_getitem.lookup (wpAny_getItem_heap (room_nk G) is_ dd e2 ⟨z', H1, I1.tok _, e4, w H1 z' g em1 e3⟩) hs
        · cases h
      · cases h
    · cases h
theorem pe_idx' (hC : CMono C) (G : Fit W X) {a b : Expr} {pos : Pos} {a' b' : E} (ha : PE X a (rdE W T C a')) (hb : PE X b (rdE W T C b')) (hs : PlainIx b) : PE X (.Subscript a b pos) (rdE W T C (.idx a' b')) :=
  (pe_ix (ix_all G) ha hb hs).imp fun σ H Q ⟨st, M, es, em, w⟩ => by
    simp only [wpE] at w
    refine two hC es em w fun H2 M2 v u x y g em2 r1 r2 q => ?_
    split at q
    · rename_i w e
      exact ⟨M2, v, u, w, em2, r1, r2, e, q.up g⟩
    · exact q.elim

/-! #### slices -/
/-- a slice's part: nothing, None, an int -/
def rdO (W : Wd) (T : Tab) (C : CT) (e : E) : TO := fun σ H Q => ∃ st M, EmbS W H st σ ∧ Emb W M H ∧ wpE T C e st M fun v M' => (v = .non ∧ ∀ H', Grow H H' → Emb W M' H' → Q none H') ∨ ∃ i, v = .int i ∧ ∀ H', Grow H H' → Emb W M' H' → Q (some i) H'
theorem po_none' : PO X none (rdO W T C .non) := ⟨fun pins s σ H Q I ⟨st, M, es, em, w⟩ => by
  simp only [wpE] at w
  rcases w with ⟨_, q⟩ | ⟨i, e, _⟩
  · exact po_none.run pins s σ H Q I (q H (Grow.refl _) em)
  · cases e⟩
theorem po_some' (hC : CMono C) {e : Expr} {a : E} (h : PE X e (rdE W T C a)) : PO X (some e) (rdO W T C a) := by
  refine ⟨fun pins s σ H Q I ⟨st, M, es, em, w⟩ => ?_⟩
  rw [evalPart_some]
  refine run1 hC h I es em w fun v s1 H1 M1 pv x I1 rx g em1 r q => ?_
  rcases q with ⟨rfl, q⟩ | ⟨i, rfl, q⟩
  · simp only [RelP] at r
    subst r
    cases rx
    exact ⟨none, H1, I1, .none, q H1 g em1⟩
  · simp only [RelP] at r
    subst r
    obtain ⟨t, rfl⟩ := rx
    exact ⟨some i, H1, I1, .int i t, q H1 g em1⟩
def ptOf : PV → Option (Option Int)
  | .non => some none
  | .int i => some (some i)
  | _ => none
theorem bnd_eq (n d : Nat) (v : PV) : bnd n d v = (ptOf v).map (HT.sIx n d) := by
  cases v <;> rfl
def rSl' (W : Wd) : V → Option Int → Option Int → Hp → VK → Prop := fun x lo hi H Q => ∃ M v pl ph, Emb W M H ∧ RelP W H v x ∧ ptOf pl = some lo ∧ ptOf ph = some hi ∧ res (slcR M v pl ph) M (Aft W H Q)
theorem cut_rel {xs : List PV} {vs : List V} (h : RelPs W H xs vs) (lo hi : Option Int) : RelPs W H ((xs.take (HT.sIx xs.length xs.length hi)).drop (HT.sIx xs.length 0 lo)) (cutV vs lo hi) := by
  unfold cutV
  rw [List.drop_take, ← h.length]
  exact RelPs.take _ (RelPs.drop _ h)
theorem sl_all (G : Fit W X) : SlR X (rSl' W) := by
  intro pins s σ H x v vl vu lo hi sl Q I rx hsl p1 p2 ⟨M, a, pl, ph, em, ra, e1, e2, w⟩
  unfold slcR at w
  split at w
  · rename_i xs e
    rw [bnd_eq, bnd_eq, e1, e2] at w
    simp only [Option.map_some] at w
    obtain ⟨p, vs, rfl, sq, rs⟩ := seqOf_some e em ra
    split at w
    · rename_i ys
      rcases sq with ⟨n, _⟩ | ⟨e3, sq⟩
      · exact absurd rfl (n _)
      · cases e3
        refine sl_tupA pins s σ H _ v vl vu lo hi sl Q I rx hsl p1 p2 ⟨p, vs, rfl, G.K ▸ sq, fun hw => ?_, fun hw l hn => ?_⟩
        · rw [← rs.length] at hw
          refine w H _ (Grow.refl _) em ?_
          rw [hw.1, hw.2, List.take_length, List.drop_zero]
          exact ra
        · refine w _ _ (Grow.new hn) (em.lay hn) ?_
          simp only [RelP]
          exact ⟨l, _, rfl, SqT.of upd_same, RelPs.grow (Grow.new hn) _ _ (cut_rel rs lo hi)⟩
    · rename_i n
      rcases sq with ⟨_, sq⟩ | ⟨e3, sq⟩
      · refine sl_list pins s σ H _ v vl vu lo hi sl Q I rx hsl p1 p2 ⟨p, vs, rfl, G.K ▸ sq, fun l hn => ?_⟩
        exact res_new rfl w (Grow.refl _) em l hn _ ⟨_, upd_same, RelPs.grow (Grow.new hn) _ _ (cut_rel rs lo hi)⟩
      · exact absurd e3 (n _)
  · exact w.elim
theorem pe_slc' (hC : CMono C) (G : Fit W X) {a : Expr} {lo hi : Option Expr} {pos p2 : Pos} {a' l' h' : E} (ha : PE X a (rdE W T C a')) (hl : PO X lo (rdO W T C l')) (hh : PO X hi (rdO W T C h')) : PE X (.Subscript a (.Slice lo hi none p2) pos) (rdE W T C (.slc a' l' h')) := by
  have h := pe_slice (pos := pos) (p2 := p2) (sl_all G) ha hl hh
  refine h.imp fun σ H Q ⟨st, M, es, em, w⟩ => ?_
  simp only [wpE] at w
  refine one hC es em w fun H1 M1 v x g1 em1 r1 w1 => ⟨st, M1, es.grow g1, em1, wpE_mono hC l' _ _ _ _ (fun pl M2 w2 => ?_) w1⟩
  obtain ⟨ip, w2⟩ := w2
  have key : ∀ lo, ptOf pl = some lo → ∀ H2, Grow H1 H2 → Emb W M2 H2 → rdO W T C h' σ H2 fun hi H3 => rSl' W x lo hi H3 Q := fun lo el H2 g2 em2 => ⟨st, M2, (es.grow g1).grow g2, em2, wpE_mono hC h' _ _ _ _ (fun ph M3 w3 => by
    have fin : ∀ hi, ptOf ph = some hi → ∀ H3, Grow H2 H3 → Emb W M3 H3 → rSl' W x lo hi H3 Q := fun hi eh H3 g3 em3 => ⟨M3, v, pl, ph, em3, RelP.grow (g2.trans g3) _ _ r1, el, eh, w3.up ((g1.trans g2).trans g3)⟩
    cases ph with
    | non => exact .inl ⟨rfl, fin none rfl⟩
    | int i => exact .inr ⟨i, rfl, fin (some i) rfl⟩
    | _ =>
      exfalso
      unfold slcR at w3
      split at w3
      · rw [bnd_eq, bnd_eq] at w3
        simp [ptOf] at w3
        exact w3
      · exact w3) w2⟩
  cases pl with
  | non => exact .inl ⟨rfl, key none rfl⟩
  | int i => exact .inr ⟨i, rfl, key (some i) rfl⟩
  | _ => exact absurd ip (by simp [isPt])
end
end Ev
end

section
/-! EvK: built-in functions. -/
namespace Ev
open PySem PySem.Spec PyProof.Rows L2
section
variable {W : Wd} {T : Tab} {C : CT} {X : Cx} {H H' : Hp} {M : MH} {pins : List (Addr × Obj)} {s : Shared} {σ : L2.St} {st : St}
theorem RelPs.one {v : PV} {xs : List V} (h : RelPs W H [v] xs) : ∃ x, xs = [x] ∧ RelP W H v x := by
  simp only [RelPs] at h
  obtain ⟨x, r, e, h1, h2⟩ := h
  subst h2
  exact ⟨x, e, h1⟩
theorem RelPs.two {v u : PV} {xs : List V} (h : RelPs W H [v, u] xs) : ∃ x y, xs = [x, y] ∧ RelP W H v x ∧ RelP W H u y := by
  simp only [RelPs] at h
  obtain ⟨x, r, e, h1, y, r2, e2, h2, h3⟩ := h
  subst h3 e2
  exact ⟨x, y, e, h1, h2⟩
/-- a built-in called with related values -/
def rBl (W : Wd) (b : Blt) : List V → Hp → VK → Prop := fun xs H Q => ∃ M vs, Emb W M H ∧ RelPs W H vs xs ∧ res (bltR M b vs) M (Aft W H Q)
theorem mapO_ints : ∀ {xs : List PV} {is : List Int}, mapO intOf xs = some is → xs = is.map .int
  | [], is, h => by simp only [mapO, Option.some.injEq] at h; subst h; rfl
  | x :: xs, is, h => by
    simp only [mapO] at h
    split at h
    · rename_i d ds e1 e2
      cases h
      rw [mapO_ints e2, List.map_cons]
      cases x <;> simp [intOf] at e1
      rw [e1]
    · cases h
theorem mapO_len {α β : Type} {f : α → Option β} : ∀ {xs : List α} {ys : List β}, mapO f xs = some ys → ys.length = xs.length
  | [], ys, h => by simp only [mapO, Option.some.injEq] at h; subst h; rfl
  | x :: xs, ys, h => by
    simp only [mapO] at h
    split at h
    · rename_i d ds e1 e2
      cases h
      simp [mapO_len e2]
    · cases h
theorem rel_ints : ∀ {is : List Int} {vs : List V}, RelPs W H (is.map .int) vs → vs = is.map V.int
  | [], vs, h => by simp only [List.map_nil, RelPs] at h; exact h
  | i :: is, vs, h => by
    simp only [List.map_cons, RelPs, RelP] at h
    obtain ⟨v, r, e, h1, h2⟩ := h
    rw [e, h1, rel_ints h2, List.map_cons]
theorem ints_rel : ∀ (is : List Int), RelPs W H (is.map .int) (is.map V.int)
  | [] => RelPs.nil
  | i :: is => RelPs.cons rfl (ints_rel is)
theorem mxI_ints : ∀ {xs : List PV} {m k : Int}, mxI m xs = some k → ∃ is : List Int, xs = is.map .int ∧ k ∈ m :: is ∧ ∀ y ∈ m :: is, y ≤ k
  | [], m, k, h => by
    simp only [mxI, Option.some.injEq] at h
    subst h
    exact ⟨[], rfl, by simp, by simp⟩
  | .int i :: r, m, k, h => by
    simp only [mxI] at h
    obtain ⟨is, e, h1, h2⟩ := mxI_ints h
    refine ⟨i :: is, by rw [e, List.map_cons], ?_, ?_⟩
    · split at h1
      · rcases List.mem_cons.mp h1 with h1 | h1 <;> simp [h1]
      · rcases List.mem_cons.mp h1 with h1 | h1 <;> simp [h1]
    · intro y hy
      have hm := h2 _ (List.mem_cons_self ..)
      rcases List.mem_cons.mp hy with rfl | hy
      · split at hm <;> omega
      · rcases List.mem_cons.mp hy with rfl | hy
        · split at hm <;> omega
        · exact h2 y (List.mem_cons_of_mem _ hy)
  | .non :: _, _, _, h => by simp [mxI] at h
  | .bl _ :: _, _, _, h => by simp [mxI] at h
  | .str _ :: _, _, _, h => by simp [mxI] at h
  | .tup _ :: _, _, _, h => by simp [mxI] at h
  | .fl _ :: _, _, _, h => by simp [mxI] at h
  | .ref _ :: _, _, _, h => by simp [mxI] at h
  | .fn _ :: _, _, _, h => by simp [mxI] at h
  | .ty _ :: _, _, _, h => by simp [mxI] at h
theorem mnI_ints : ∀ {xs : List PV} {m k : Int}, mnI m xs = some k → ∃ is : List Int, xs = is.map .int ∧ k ∈ m :: is ∧ ∀ y ∈ m :: is, k ≤ y
  | [], m, k, h => by
    simp only [mnI, Option.some.injEq] at h
    subst h
    exact ⟨[], rfl, by simp, by simp⟩
  | .int i :: r, m, k, h => by
    simp only [mnI] at h
    obtain ⟨is, e, h1, h2⟩ := mnI_ints h
    refine ⟨i :: is, by rw [e, List.map_cons], ?_, ?_⟩
    · split at h1
      · rcases List.mem_cons.mp h1 with h1 | h1 <;> simp [h1]
      · rcases List.mem_cons.mp h1 with h1 | h1 <;> simp [h1]
    · intro y hy
      have hm := h2 _ (List.mem_cons_self ..)
      rcases List.mem_cons.mp hy with rfl | hy
      · split at hm <;> omega
      · rcases List.mem_cons.mp hy with rfl | hy
        · split at hm <;> omega
        · exact h2 y (List.mem_cons_of_mem _ hy)
  | .non :: _, _, _, h => by simp [mnI] at h
  | .bl _ :: _, _, _, h => by simp [mnI] at h
  | .str _ :: _, _, _, h => by simp [mnI] at h
  | .tup _ :: _, _, _, h => by simp [mnI] at h
  | .fl _ :: _, _, _, h => by simp [mnI] at h
  | .ref _ :: _, _, _, h => by simp [mnI] at h
  | .fn _ :: _, _, _, h => by simp [mnI] at h
  | .ty _ :: _, _, _, h => by simp [mnI] at h
/-- len -/
theorem len_ok (G : Fit W X) (I : L2.Inv X pins σ H s) (em : Emb W M H) {v : PV} {x : V} {u : Value} {n : Nat} {Q : VK} (h : lenOf M v = some n) (r : RelP W H v x) (rx : RelV x u) (q : Q (.int n) H) : wpAny (model X.prog X.w) X.A (call (.builtin "len") [u]) (EP X pins σ Q) X.xe s := by
  have gen : LenV X.K x H n → wpAny (model X.prog X.w) X.A (call (.builtin "len") [u]) (EP X pins σ Q) X.xe s := fun l =>
    call_len pins s σ H [x] [u] Q I (.cons rx .nil) ⟨x, n, rfl, l, q⟩
  unfold lenOf at h
  split at h
  · rename_i xs
    cases h
    simp only [RelP] at r
    obtain ⟨p, vs, rfl, sq, rs⟩ := r
    exact gen (.inr ⟨vs, G.K ▸ sq, by rw [rs.length]⟩)
  · rename_i xs
    cases h
    simp only [RelP] at r
    obtain ⟨p, vs, rfl, sq, rs⟩ := r
    exact gen (.inl ⟨vs, G.K ▸ sq.sq, by rw [rs.length]⟩)
  · rename_i z
    split at h
    · cases h
      simp only [RelP] at r
      subst r
      exact gen ⟨by assumption, rfl⟩
    · cases h
  · rename_i a
    cases r
    cases rx
    split at h
    · rename_i xs e
      cases h
      obtain ⟨vs, h1, rs⟩ := em a _ e
      exact gen (.inl ⟨vs, SqL.of h1, by rw [rs.length]⟩)
    · rename_i kvs e
      cases h
      rcases em a _ e with ⟨ks, h1, en⟩ | ⟨xs, h1, hd, en⟩
      · rw [en.length] at q
        exact d_len I (.inl h1) fun t s' I' => ⟨.int _, H, I', ⟨t, rfl⟩, q⟩
      · obtain ⟨dd, hz⟩ := en.dict I G h1
        rw [en.length] at q
        refine call_len_dictH hd dd (by rw [sizeLine_eq] at hz; omega) ?_
        exact ⟨.int _, H, I.tok _, ⟨_, rfl⟩, q⟩
    · rename_i xs e
      cases h
      have hs := em a _ e
      rcases hs with ⟨S, is, h1, e1, nd, _⟩ | ⟨L, ys, h1, e1, nd, hq, hm⟩
      · rw [← G.w] at h1
        obtain ⟨o, es, ep, t, ho, hex, hdat, _, _, _, hb, hf, hn, _⟩ := setO_get I h1
        have hl : xs.length = es.size := by rw [hn, mapO_ints e1, List.length_map]
        rw [hl] at q
        exact call_len_set ho hex hdat hf (by unfold scanBound at hb; omega) ⟨.int _, H, I.tok _, ⟨_, rfl⟩, q⟩
      · have hs : ObjOk X.prog X.w H s.heap a (SetTO W.P W.w a L) := I.hok a _ h1
        rw [← G.prog, ← G.w] at hs
        obtain ⟨R, _⟩ := hs
        obtain ⟨es, ep, t, R⟩ := R.full (fun p hp => I.isT (G.K ▸ hq p hp))
        obtain ⟨o, ho, hex, hdat⟩ := R.ob
        have hl : xs.length = es.size := by
          rw [R.size, ← mapO_len e1, ← ((List.perm_ext_iff_of_nodup R.nd nd).mpr hm).length_eq, List.length_map]
        rw [hl] at q
        have := R.few
        have := R.size
        exact call_len_set ho hex hdat R.fits (by omega) ⟨.int _, H, I.tok _, ⟨_, rfl⟩, q⟩
    · cases h
  · cases h
theorem mapO_bls : ∀ {xs : List PV} {is : List Bool}, mapO blOf xs = some is → xs = is.map .bl
  | [], is, h => by simp only [mapO, Option.some.injEq] at h; subst h; rfl
  | x :: xs, is, h => by
    simp only [mapO] at h
    split at h
    · rename_i d ds e1 e2
      cases h
      rw [mapO_bls e2, List.map_cons]
      cases x <;> simp [blOf] at e1
      rw [e1]
    · cases h
theorem rel_bls : ∀ {is : List Bool} {vs : List V}, RelPs W H (is.map .bl) vs → vs = is.map V.bl
  | [], vs, h => by simp only [List.map_nil, RelPs] at h; exact h
  | i :: is, vs, h => by
    simp only [List.map_cons, RelPs, RelP] at h
    obtain ⟨v, r, e, h1, h2⟩ := h
    rw [e, h1, rel_bls h2, List.map_cons]
/-- list(d), keys that are tuples -/
theorem keysT_rel : ∀ {kvs : List (PV × PV)} {xs : List (NestedKey × Addr × Value)}, EntT W H kvs xs → RelPs W H (kvs.map (·.1)) (xs.map fun x => V.ref x.2.1)
  | _, _, .nil => RelPs.nil
  | _, _, .cons _ _ _ h _ _ t => RelPs.cons h (keysT_rel t)
theorem keysK_rel : ∀ {kvs : List (PV × PV)} {xs : List (L2.Key × V)}, EntK W H kvs xs → RelPs W H (kvs.map (·.1)) (xs.map fun x => kV x.1)
  | _, _, .nil => RelPs.nil
  | _, _, .cons h _ t => RelPs.cons (by
      unfold pvKey at h
      split at h <;> simp_all <;> subst h <;> rfl) (keysK_rel t)
theorem refs_vals : ∀ (bs : List Addr), Vals (bs.map V.ref) (bs.map Value.ref)
  | [] => .nil
  | b :: bs => .cons rfl (refs_vals bs)
theorem list_dct (G : Fit W X) (I : L2.Inv X pins σ H s) (em : Emb W M H) {a : Addr} {kvs : List (PV × PV)} {Q : VK} (hM : M a = some (.dct kvs)) (q : ∀ p, H p = none → ∀ vs, RelPs W H (kvs.map (·.1)) vs → Q (.ref p) (upd H p (.lst vs))) :
    wpAny (model X.prog X.w) X.A (call (.type "list") [.ref a]) (EP X pins σ Q) X.xe s := by
  rcases em a _ hM with ⟨ks, h1, en⟩ | ⟨xs, h1, hd, en⟩
  · exact call_listD G.calm pins s σ H [.ref a] [.ref a] Q I (.cons rfl .nil) ⟨a, ks, rfl, .inl h1, fun p hp => q p hp _ (keysK_rel en)⟩
  · obtain ⟨⟨o, es, ep, h2, h3, h4, h5, _, _⟩, hz⟩ := en.dict I G h1
    have hes : es.size = xs.length := size_of_entries h5
    refine PySem.W.kdl_call (KdlSrc.rawDict (es := es) (ep := ep) hd) (I.ok.hd G.calm) ⟨o, h2, h3, h4⟩ (by rw [hes]; exact hz) fun h' tk acc c' hk hD hacc => ?_
    have hv : acc.toList = (xs.map fun x => x.2.1).map Value.ref := by
      apply List.ext_getElem
      · rw [Array.length_toList, hacc.1, hes, List.length_map, List.length_map]
      · intro j j1 j2
        have hj : j < es.size := by rw [hes]; simpa using j2
        obtain ⟨_, e⟩ := hacc.2 j acc.toList[j] (by rw [← Array.getElem?_toList]; exact List.getElem?_eq_getElem j1)
        rw [e, List.getElem_map, List.getElem_map]
        have := entry_at h5 j
        rw [Array.getElem?_eq_getElem hj, List.getElem?_eq_getElem (by simpa using j2)] at this
        simp only [Option.map_some, Option.some.injEq] at this
        rw [this]
        rfl
    refine ⟨.ref s.heap.objs.size, upd H s.heap.objs.size (.lst (xs.map fun x => V.ref x.2.1)), I.laid (t' := tk) hk (Nat.le_refl _) ⟨by rw [List.length_map]; exact hz, acc.toList, c', ?_, by rw [Array.toArray_toList]; exact hD⟩, rfl, q _ (I.hok.fresh (Nat.le_refl _)) _ (keysT_rel en)⟩
    rw [hv]
    have := refs_vals (xs.map fun x => x.2.1)
    rwa [List.map_map] at this

/-! #### sorted -/
theorem emb0 : Emb W (fun _ => none) H := fun a o e => by cases e
theorem each_reads (I : L2.Inv X pins σ H s) (G : Fit W X) : ∀ {xs : List PV} {vs : List V} {us : List Value} {ds : List PyData}, mapO toD xs = some ds → RelPs W H xs vs → Vals vs us →
    PySem.W.EachIs (fun u b => (∃ x, RelV x u ∧ RelP W H b x)) us xs ∧ PySem.W.EachIs (fun u b => ∃ as, Reads s.heap u (toD0 b) as) us xs ∧ ds = xs.map toD0 ∧ ∀ b ∈ xs, (toD0 b).depth ≤ dD
  | [], vs, us, ds, h, r, q => by
    simp only [mapO, Option.some.injEq] at h
    simp only [RelPs] at r
    subst h r
    cases q
    exact ⟨.nil, .nil, rfl, by simp⟩
  | x :: xs, vs, us, ds, h, r, q => by
    simp only [mapO] at h
    split at h
    · rename_i d ds' e1 e2
      cases h
      simp only [RelPs] at r
      obtain ⟨v, vs', rfl, r1, r2⟩ := r
      cases q with
      | cons q1 q2 =>
        obtain ⟨h1, h2, h3, h4⟩ := each_reads I G e2 r2 q2
        have hd : toD0 x = d := by unfold toD0; rw [e1]; rfl
        refine ⟨.cons ⟨v, q1, r1⟩ h1, .cons ?_ h2, by rw [h3, List.map_cons, hd], ?_⟩
        · rw [hd]
          exact den_reads I G emb0 e1 r1 q1
        · intro b hb
          rcases List.mem_cons.mp hb with rfl | hb
          · rw [hd]
            exact (den_dp emb0 _ _ _ _ e1 r1).2.2
          · exact h4 b hb
    · cases h
theorem each_out : ∀ {us : List Value} {xs : List PV}, PySem.W.EachIs (fun u b => (∃ x, RelV x u ∧ RelP W H b x)) us xs → ∃ vs, Vals vs us ∧ RelPs W H xs vs
  | _, _, .nil => ⟨[], .nil, RelPs.nil⟩
  | _, _, .cons ⟨x, h1, h2⟩ t => by
    obtain ⟨vs, q1, q2⟩ := each_out t
    exact ⟨x :: vs, .cons h1 q1, RelPs.cons h2 q2⟩
theorem sortable_ok {xs : List PV} {ds : List PyData} (h : sortable xs = true) (e : mapO toD xs = some ds) : PySem.W.AllAlike ds ∧ PySem.W.Sortable ds := by
  unfold sortable at h
  rw [e] at h
  simp only [Bool.and_eq_true, Bool.or_eq_true, List.all_eq_true] at h
  refine ⟨fun d hd d' hd' => h.1 d hd d' hd', ?_⟩
  rcases h.2 with h | h
  · refine .inl fun d hd => ?_
    have := h d hd
    unfold neTup at this
    split at this
    · exact ⟨_, _, rfl⟩
    · cases this
  · refine .inr fun d hd => ?_
    have := h d hd
    unfold noTup at this
    split at this
    · cases this
    · cases this
    · rename_i n1 n2
      exact ⟨n1, n2⟩
theorem sorted_lst (G : Fit W X) (I : L2.Inv X pins σ H s) {a : Addr} {xs : List PV} {vs : List V} {Q : VK} (sq : SqL W.K H a vs) (r : RelPs W H xs vs) (h : sortable xs = true) (q : ∀ p, H p = none → ∀ vs, RelPs W H (sortP xs) vs → Q (.ref p) (upd H p (.lst vs))) :
    wpAny (model X.prog X.w) X.A (call (.builtin "sorted") [.ref a]) (EP X pins σ Q) X.xe s := by
  have hr := G.room
  have hd : dD = 12 := rfl
  obtain ⟨ds, e⟩ : ∃ ds, mapO toD xs = some ds := by
    unfold sortable at h
    split at h
    · exact ⟨_, ‹_›⟩
    · cases h
  obtain ⟨hal, hso⟩ := sortable_ok h e
  rw [← G.K] at sq
  obtain ⟨its, rv, pl, hz⟩ := I.list sq
  obtain ⟨h1, h2, h3, h4⟩ := each_reads I G e r rv
  rw [h3] at hal hso
  refine PySem.W.sorted_data (vs := its) (bs := xs) (enc := toD0) pl.isList h1 h2 hal hso (by rw [r.length]; exact hz) (fun b hb => by have := h4 b hb; omega) fun out hl ho => ?_
  obtain ⟨ws, q1, q2⟩ := each_out ho
  have e1 : xs.mergeSort (PySem.W.dataLe false toD0) = sortP xs := rfl
  rw [e1] at q2
  obtain ⟨ep, he'⟩ := PyProof.Rows.sortedAll_at s.heap its out.toArray
  have hlen : ws.length ≤ sizeLine := by rw [q1.length, hl, r.length]; exact hz
  exact ⟨.ref _, upd H (s.heap.objs.size + 1) (.lst ws), I.laid (t' := s.toks) (fun _ _ => PyProof.Rows.sortedAll_old) (Nat.le_succ _) ⟨hlen, out, ep, q1, by simpa using he'⟩, rfl, q _ (I.hok.fresh (Nat.le_succ _)) _ q2⟩
end
end Ev
end

section
/-! EvM: sorting, sets, all built-ins. -/
namespace Ev
open PySem PySem.Spec PyProof.Rows L2
def tupI (ns : List Int) : PV := .tup (ns.map .int)
theorem toD0_int (i : Int) : toD0 (.int i) = .int i := rfl
theorem mapO_den_ints (M : MH) (n : Nat) : ∀ is : List Int, mapO (den M n) (is.map .int) = some (is.map .int)
  | [] => rfl
  | i :: is => by
    rw [List.map_cons, mapO, mapO_den_ints M n is]
    cases n <;> rfl
theorem toD0_tup (ns : List Int) : toD0 (tupI ns) = .tuple (ns.map .int) := by
  unfold toD0 toD dD tupI
  simp only [den, mapO_den_ints, Option.map_some, Option.getD_some]
theorem leP_int (a b : Int) : leP (.int a) (.int b) = decide (a ≤ b) := congrFun (congrFun (PySem.W.dataLe_int (fun i : Int => i)) a) b
theorem leP_tup (a b : List Int) : leP (tupI a) (tupI b) = decide (a ≤ b) := by
  have h := congrFun (congrFun (PySem.W.dataLe_rows (fun i : List Int => i)) a) b
  unfold leP
  rw [toD0_tup, toD0_tup]
  exact h
theorem sortP_ints (is : List Int) : sortP (is.map .int) = (is.mergeSort fun a b => decide (a ≤ b)).map .int :=
  (List.map_mergeSort fun a _ b _ => (leP_int a b).symm).symm
theorem sortP_tups (ys : List (List Int)) : sortP (ys.map tupI) = (ys.mergeSort fun a b => decide (a ≤ b)).map tupI :=
  (List.map_mergeSort fun a _ b _ => (leP_tup a b).symm).symm
theorem sort_ints_eq {is ns : List Int} (p : ns.Perm is) (h : ns.Pairwise (· ≤ ·)) : is.mergeSort (fun a b => decide (a ≤ b)) = ns := by
  refine List.Perm.eq_of_pairwise (le := fun a b : Int => a ≤ b) (fun a b _ _ h1 h2 => by omega) ?_ h ((List.mergeSort_perm _ _).trans p.symm)
  have := List.pairwise_mergeSort (le := fun a b : Int => decide (a ≤ b)) (fun a b c h1 h2 => by simp at *; omega) (fun a b => by simp; omega) is
  exact this.imp fun h => by simpa using h
theorem sort_tups_eq {is ns : List (List Int)} (p : ns.Perm is) (h : ns.Pairwise (· ≤ ·)) : is.mergeSort (fun a b => decide (a ≤ b)) = ns := by
  refine List.Perm.eq_of_pairwise (le := fun a b : List Int => a ≤ b) (fun a b _ _ h1 h2 => List.le_antisymm h1 h2) ?_ h ((List.mergeSort_perm _ _).trans p.symm)
  have := List.pairwise_mergeSort (le := fun a b : List Int => decide (a ≤ b)) (fun a b c h1 h2 => by
    simp only [decide_eq_true_eq] at *
    exact List.le_trans h1 h2) (fun a b => by
    simp only [Bool.or_eq_true, decide_eq_true_eq]
    exact List.le_total a b) is
  exact this.imp fun h => by simpa using h
theorem code_le : ∀ {B : Int} {x y : List Int}, x.length = y.length → TS.Bd B x → TS.Bd B y → TS.code B x ≤ TS.code B y → x ≤ y
  | _, [], [], _, _, _, _ => List.nil_le _
  | _, [], _ :: _, h, _, _, _ => by simp at h
  | _, _ :: _, [], h, _, _, _ => by simp at h
  | B, a :: x, b :: y, h, h1, h2, c => by
    have hl : x.length = y.length := by simpa using h
    rw [List.cons_le_cons_iff]
    rcases Int.lt_trichotomy a b with k | k | k
    · exact .inl k
    · subst k
      refine .inr ⟨rfl, code_le hl h1.tail h2.tail ?_⟩
      rw [TS.code, TS.code, hl] at c
      omega
    · exact absurd (TS.code_lt hl.symm h2.tail h1.tail k) (by omega)
section
variable {W : Wd} {T : Tab} {C : CT} {X : Cx} {H H' : Hp} {M : MH} {pins : List (Addr × Obj)} {s : Shared} {σ : L2.St} {st : St}
theorem mem_dedup {v : PV} : ∀ {xs : List PV}, v ∈ dedup xs ↔ v ∈ xs
  | [] => by simp [dedup]
  | x :: r => by
    unfold dedup
    split
    · rename_i h
      rw [mem_dedup, List.mem_cons]
      constructor
      · exact .inr
      · rintro (rfl | h2)
        · exact h
        · exact h2
    · rw [List.mem_cons, List.mem_cons, mem_dedup]
theorem nodup_dedup : ∀ xs : List PV, (dedup xs).Nodup
  | [] => by simp [dedup]
  | x :: r => by
    unfold dedup
    split
    · exact nodup_dedup r
    · rename_i h
      exact List.nodup_cons.mpr ⟨fun k => h (mem_dedup.mp k), nodup_dedup r⟩
theorem mapO_of {β : Type} {f : PV → Option β} : ∀ {zs : List PV}, (∀ v ∈ zs, ∃ y, f v = some y) → ∃ ws, mapO f zs = some ws
  | [], _ => ⟨[], rfl⟩
  | z :: zs, h => by
    obtain ⟨y, e⟩ := h z (List.mem_cons_self ..)
    obtain ⟨ws, e2⟩ := mapO_of (zs := zs) fun v hv => h v (List.mem_cons_of_mem _ hv)
    exact ⟨y :: ws, by simp only [mapO, e, e2]⟩
theorem mapO_mem {β : Type} {f : PV → Option β} : ∀ {zs : List PV} {ws : List β}, mapO f zs = some ws → ∀ y, y ∈ ws ↔ ∃ v ∈ zs, f v = some y
  | [], ws, h, y => by simp only [mapO, Option.some.injEq] at h; subst h; simp
  | z :: zs, ws, h, y => by
    simp only [mapO] at h
    split at h
    · rename_i d ds e1 e2
      cases h
      rw [List.mem_cons, mapO_mem e2 y]
      constructor
      · rintro (rfl | ⟨v, hv, e⟩)
        · exact ⟨z, List.mem_cons_self .., e1⟩
        · exact ⟨v, List.mem_cons_of_mem _ hv, e⟩
      · rintro ⟨v, hv, e⟩
        rcases List.mem_cons.mp hv with rfl | hv
        · rw [e1] at e; cases e; exact .inl rfl
        · exact .inr ⟨v, hv, e⟩
    · cases h
theorem mapO_nodup {β : Type} {f : PV → Option β} (inj : ∀ a b y, f a = some y → f b = some y → a = b) : ∀ {zs : List PV} {ws : List β}, mapO f zs = some ws → zs.Nodup → ws.Nodup
  | [], ws, h, _ => by simp only [mapO, Option.some.injEq] at h; subst h; exact List.nodup_nil
  | z :: zs, ws, h, n => by
    simp only [mapO] at h
    rw [List.nodup_cons] at n
    split at h
    · rename_i d ds e1 e2
      cases h
      refine List.nodup_cons.mpr ⟨fun k => ?_, mapO_nodup inj e2 n.2⟩
      obtain ⟨v, hv, e⟩ := (mapO_mem e2 d).mp k
      exact n.1 (inj _ _ _ e e1 ▸ hv)
    · cases h
theorem intOf_inj (a b : PV) (y : Int) (h1 : intOf a = some y) (h2 : intOf b = some y) : a = b := by
  cases a <;> simp [intOf] at h1
  cases b <;> simp [intOf] at h2
  rw [h1, h2]
theorem intTup_some {a : PV} {y : List Int} (h : intTup a = some y) : a = tupI y := by
  cases a <;> simp [intTup] at h
  rw [mapO_ints h]
  rfl
theorem intTup_inj (a b : PV) (y : List Int) (h1 : intTup a = some y) (h2 : intTup b = some y) : a = b := by rw [intTup_some h1, intTup_some h2]
theorem mapO_tups : ∀ {xs : List PV} {ys : List (List Int)}, mapO intTup xs = some ys → xs = ys.map tupI
  | [], ys, h => by simp only [mapO, Option.some.injEq] at h; subst h; rfl
  | x :: xs, ys, h => by
    simp only [mapO] at h
    split at h
    · rename_i d ds e1 e2
      cases h
      rw [mapO_tups e2, List.map_cons, intTup_some e1]
    · cases h
/-- a part of ints (tuples) without doublets -/
theorem mapO_dedup {β : Type} {f : PV → Option β} (inj : ∀ a b y, f a = some y → f b = some y → a = b) {xs : List PV} {ys : List β} (h : mapO f xs = some ys) : ∃ ws, mapO f (dedup xs) = some ws ∧ ws.Nodup ∧ ∀ y, y ∈ ws ↔ y ∈ ys := by
  have all : ∀ (xs : List PV) (ys : List β), mapO f xs = some ys → ∀ v ∈ xs, ∃ y, f v = some y := by
    intro xs
    induction xs with
    | nil => intro _ _ v hv; cases hv
    | cons x xs ih =>
      intro ys h v hv
      simp only [mapO] at h
      split at h
      · rename_i d ds e1 e2
        rcases List.mem_cons.mp hv with rfl | hv
        · exact ⟨_, e1⟩
        · exact ih _ e2 v hv
      · cases h
  obtain ⟨ws, e⟩ := mapO_of (zs := dedup xs) fun v hv => all xs ys h v (mem_dedup.mp hv)
  refine ⟨ws, e, mapO_nodup inj e (nodup_dedup xs), fun y => ?_⟩
  rw [mapO_mem e, mapO_mem h]
  exact ⟨fun ⟨v, h1, h2⟩ => ⟨v, mem_dedup.mp h1, h2⟩, fun ⟨v, h1, h2⟩ => ⟨v, mem_dedup.mpr h1, h2⟩⟩
theorem tups_rel : ∀ {xs : List PV} {ys : List (List Int)} {vs : List V}, mapO intTup xs = some ys → RelPs W H xs vs → ∃ ks : List (Addr × List Int), vs = ks.map (fun p => V.ref p.1) ∧ ks.map (·.2) = ys ∧ ∀ p ∈ ks, SqT W.K H p.1 (p.2.map V.int)
  | [], ys, vs, h, r => by
    simp only [mapO, Option.some.injEq] at h
    simp only [RelPs] at r
    subst h r
    exact ⟨[], rfl, rfl, by simp⟩
  | x :: xs, ys, vs, h, r => by
    simp only [mapO] at h
    split at h
    · rename_i d ds e1 e2
      cases h
      simp only [RelPs] at r
      obtain ⟨v, vs', rfl, r1, r2⟩ := r
      obtain ⟨ks, q1, q2, q3⟩ := tups_rel e2 r2
      have e := intTup_some e1
      subst e
      unfold tupI at r1
      simp only [RelP] at r1
      obtain ⟨a, us, rfl, sq, rs⟩ := r1
      rw [rel_ints rs] at sq
      refine ⟨(a, d) :: ks, by rw [q1, List.map_cons], by rw [List.map_cons, q2], fun p hp => ?_⟩
      rcases List.mem_cons.mp hp with rfl | hp
      · exact sq
      · exact q3 p hp
    · cases h
theorem rel_tups : ∀ {ks : List (Addr × List Int)}, (∀ p ∈ ks, SqT W.K H p.1 (p.2.map V.int)) → RelPs W H ((ks.map (·.2)).map tupI) (ks.map fun p => V.ref p.1)
  | [], _ => RelPs.nil
  | k :: ks, h => by
    refine RelPs.cons ?_ (rel_tups fun p hp => h p (List.mem_cons_of_mem _ hp))
    unfold tupI
    simp only [RelP]
    exact ⟨k.1, _, rfl, h k (List.mem_cons_self ..), ints_rel k.2⟩
/-- set(xs) -/
theorem set_lst (G : Fit W X) (I : L2.Inv X pins σ H s) {a : Addr} {xs : List PV} {vs : List V} {Q : VK} (sq : SqL W.K H a vs) (r : RelPs W H xs vs) (hl : xs.length < 64) (h : ((mapO intOf xs).isSome || (mapO intTup xs).isSome) = true)
    (q : ∀ p u, H p = none → SetRel W (upd H p u) p (dedup xs) → Q (.ref p) (upd H p u)) : wpAny (model X.prog X.w) X.A (call (.type "set") [.ref a]) (EP X pins σ Q) X.xe s := by
  cases e : mapO intOf xs with
  | some is =>
    have ex := mapO_ints e
    subst ex
    have ev := rel_ints r
    subst ev
    rw [← G.K] at sq
    obtain ⟨its, rv, pl, hz⟩ := I.list sq
    obtain ⟨ws, e1, nd, hm⟩ := mapO_dedup intOf_inj e
    refine set_of_ints is (I.ok.hd G.calm) pl.isList (by simpa using rv.ints) (by rw [List.length_map] at hl; unfold scanBound; omega) fun h' k c R keep => ?_
    have hc : c = ws.length := by
      obtain ⟨o, es, ep, t, _, _, _, _, n1, m1, _, _, n2, _⟩ := R
      have p := (List.perm_ext_iff_of_nodup n1 nd).mpr fun a => by rw [hm a, ← m1 a]; simp
      rw [← n2, ← p.length_eq, List.length_map, Array.length_toList]
    subst hc
    refine ⟨.ref s.heap.objs.size, upd H s.heap.objs.size (SetO X.w s.heap.objs.size (fun j => decide (j ∈ is)) ws.length), I.laid (t' := k) keep (Nat.le_refl _) (setO_new R), rfl, q _ _ (I.hok.fresh (Nat.le_refl _)) ?_⟩
    refine .inl ⟨_, ws, by rw [G.w]; exact upd_same, e1, nd, fun j => ?_⟩
    rw [hm j]
    simp
  | none =>
    rw [e] at h
    simp only [Option.isSome_none, Bool.false_or] at h
    obtain ⟨ys, e⟩ := Option.isSome_iff_exists.mp h
    obtain ⟨ks, ev, e2, hk⟩ := tups_rel e r
    subst ev
    obtain ⟨ws, e1, nd, hm⟩ := mapO_dedup intTup_inj e
    have hr := G.room
    have hlen : ks.length < 64 := by rw [r.length, List.length_map] at hl; exact hl
    refine cr_setOfT G.calm (by omega) pins s σ H [.ref a] [.ref a] Q I (.cons rfl .nil) ⟨a, ks, rfl, G.K ▸ sq, G.K ▸ hk, hlen, fun p L hp s1 s2 => q p _ hp (.inr ⟨L, ws, by rw [G.prog, G.w]; exact upd_same, e1, nd, fun z hz => SqT.grow (Grow.new hp) (hk z (s1 z hz)), fun j => ?_⟩)⟩
    rw [hm j, ← e2]
    constructor
    · intro hj
      obtain ⟨z, hz, rfl⟩ := List.mem_map.mp hj
      exact List.mem_map.mpr ⟨z, s1 z hz, rfl⟩
    · intro hj
      obtain ⟨z, hz, rfl⟩ := List.mem_map.mp hj
      exact s2 z hz
/-- sorted(a set) -/
theorem sorted_set' (G : Fit W X) (I : L2.Inv X pins σ H s) {a : Addr} {xs : List PV} {Q : VK} (hs : SetRel W H a xs) (hl : xs.length < 64) (h : ((mapO intOf xs).isSome || tupsFit xs) = true)
    (q : ∀ p, H p = none → ∀ vs, RelPs W H (sortP xs) vs → Q (.ref p) (upd H p (.lst vs))) : wpAny (model X.prog X.w) X.A (call (.builtin "sorted") [.ref a]) (EP X pins σ Q) X.xe s := by
  rcases hs with ⟨S, is, h1, e, nd, hm⟩ | ⟨L, ys, h1, e, nd, hq, hm⟩
  · have ex := mapO_ints e
    subst ex
    rw [List.length_map] at hl
    refine cr_sortedSet G.calm pins s σ H [.ref a] [.ref a] Q I (.cons rfl .nil) ⟨a, S, is.length, rfl, G.w ▸ h1, hl, fun ns p h2 h3 h4 hp => q p hp _ ?_⟩
    have nd2 : ns.Nodup := h2.imp fun h e => by omega
    rw [sortP_ints, sort_ints_eq (is := is) (ns := ns) ((List.perm_ext_iff_of_nodup nd2 nd).mpr fun k => by rw [h3 k, hm k]) (h2.imp fun h => by omega)]
    exact ints_rel ns
  · have ex := mapO_tups e
    have key : ∃ (d : Nat) (B : Int), 1 ≤ d ∧ ∀ p ∈ L, p.2.length = d ∧ TS.Bd B p.2 := by
      have fit : tupsFit xs = true := by
        rcases Bool.or_eq_true _ _ ▸ h with h | h
        · obtain ⟨is, e2⟩ := Option.isSome_iff_exists.mp h
          have := mapO_ints e2
          cases xs with
          | nil => rfl
          | cons x xs =>
            cases ys with
            | nil => simp at ex
            | cons y ys =>
              cases is with
              | nil => simp at this
              | cons i is =>
                rw [this] at ex
                simp [tupI] at ex
        · exact h
      unfold tupsFit at fit
      rw [e] at fit
      cases ys with
      | nil =>
        refine ⟨1, 1, Nat.le_refl _, fun p hp => ?_⟩
        exact absurd ((hm p.2).mp (List.mem_map.mpr ⟨p, hp, rfl⟩)) (by simp)
      | cons y ys =>
        simp only [Bool.and_eq_true, decide_eq_true_eq, List.all_eq_true] at fit
        obtain ⟨B, hB⟩ : ∃ B : Int, ∀ z ∈ y :: ys, ∀ i ∈ z, i < B := by
          clear fit e ex hm nd
          generalize y :: ys = zs
          induction zs with
          | nil => exact ⟨0, by simp⟩
          | cons z zs ih =>
            obtain ⟨B, hB⟩ := ih
            obtain ⟨D, hD⟩ : ∃ D : Int, ∀ i ∈ z, i < D := by
              clear hB
              induction z with
              | nil => exact ⟨0, by simp⟩
              | cons j z ih =>
                obtain ⟨D, hD⟩ := ih
                refine ⟨max D (j + 1), fun i hi => ?_⟩
                rcases List.mem_cons.mp hi with rfl | hi
                · omega
                · have := hD i hi; omega
            refine ⟨max B D, fun x hx i hi => ?_⟩
            rcases List.mem_cons.mp hx with rfl | hx
            · have := hD i hi; omega
            · have := hB x hx i hi; omega
        refine ⟨y.length, B, List.length_pos_iff.mpr fit.1, fun p hp => ?_⟩
        have hy := (hm p.2).mp (List.mem_map.mpr ⟨p, hp, rfl⟩)
        have := fit.2 p.2 hy
        exact ⟨this.1, fun i hi => ⟨this.2 i hi, hB _ hy i hi⟩⟩
    obtain ⟨d, B, hd, hb⟩ := key
    refine cr_sortedT G.calm pins s σ H [.ref a] [.ref a] Q I (.cons rfl .nil) ⟨a, L, d, B, rfl, by rw [G.prog, G.w]; exact h1, G.K ▸ hq, hd, hb, fun L' p h2 h3 h4 h5 hp => q p hp _ ?_⟩
    have pm : (L'.map (·.2)).Perm ys := (List.perm_ext_iff_of_nodup h3 nd).mpr fun k => by rw [← hm k]; exact (h2.map _).mem_iff
    have pw : (L'.map (·.2)).Pairwise (· ≤ ·) := by
      rw [List.pairwise_map]
      refine List.Pairwise.imp_of_mem ?_ h5
      intro x y hx hy hc
      obtain ⟨l1, b1⟩ := hb x (h2.mem_iff.mp hx)
      obtain ⟨l2, b2⟩ := hb y (h2.mem_iff.mp hy)
      exact code_le (l1.trans l2.symm) b1 b2 hc
    rw [ex, sortP_tups, sort_tups_eq pm pw]
    exact rel_tups fun p hp => hq p (h2.mem_iff.mp hp)
end
end Ev
end

section
/-! EvN: the facts of the module; names; calls. -/
namespace Ev
open PySem PySem.Spec PyProof.Rows L2
def bltNames : List Str := ["len", "abs", "max", "min", "int", "tuple", "list", "sorted", "set", "divmod", "all", "any", "sum", "bool", "dict", "isinstance", "range", "enumerate", "zip", "str"]
/-- a def's promise -/
def spOf (W : Wd) (C : CT) (i : Nat) : Sp := fun vs H Q _ => ∃ pvs M, RelPs W H pvs vs ∧ Emb W M H ∧ C i pvs M (Aft W H Q)
/-- the value of a type -/
def tyVal (W : Wd) : Ty2 → Value
  | .bi n => .type n
  | .cl c => .ref (W.ca c)
def tyNm : Ty1 → Str
  | .int => "int"
  | .bool => "bool"
  | .str => "str"
  | .tuple => "tuple"
  | .list => "list"
  | .cls _ => ""
def tyV1 (W : Wd) : Ty1 → V
  | .int => .ty "int"
  | .bool => .ty "bool"
  | .str => .ty "str"
  | .tuple => .ty "tuple"
  | .list => .ty "list"
  | .cls c => .ref (W.ca c)
def tyU1 (W : Wd) : Ty1 → Value
  | .int => .type "int"
  | .bool => .type "bool"
  | .str => .type "str"
  | .tuple => .type "tuple"
  | .list => .type "list"
  | .cls c => .ref (W.ca c)
/-- what must be known of a class that is made -/
structure InsF (K : PySem.W.Frag) (C : Addr) : Prop where
  cl : Cls K C
  ha : PySem.W.findIn K (.ref C) "__class__" = some (some (.builtin "object.__class__"))
  hn : PySem.W.specialIn K (.builtin "object.__class__") "__get__" = some (some (.builtin "getset_descriptor.__get__"))
  htk : PySem.W.takesIn K (.builtin "object.__class__") = some true
  hm : PySem.W.mroIn K C (.type "object") = some true
/-- a def of the table: it may be called -/
structure FnF (W : Wd) (C : CT) (k i : Nat) : Prop where
  ex : ∃ (fd : FuncData) (ps : List Str), FnOk W.P W.w W.K W.mg W.base C8.CX0 k (W.fa i) fd ps (spOf W C i) ∧ Binds W.K fd ps [] ∧ PySem.W.keepIn W.K (.ref (W.fa i)) = true
def perV (p : List Nat) (vs zs : List V) : List V := p.map fun i => (vs ++ zs).getD i V.non
def perU (p : List Nat) (us ws : List Value) : List Value := p.map fun i => (us ++ ws).getD i Value.none
/-- the facts of the module, by its tables -/
structure Glb (W : Wd) (T : Tab) (g : Env1) : Prop where
  nob : ∀ x ∈ bltNames, W.mg x = none
  fns : ∀ i x ps, g.fns[i]? = some (x, ps) → W.mg x = some (.ref (W.fa i)) ∧ PySem.W.keepIn W.K (.ref (W.fa i)) = true
  cns : ∀ i x v, g.cns[i]? = some x → T.cs i = some v → ∃ y u, W.mg x = some u ∧ RelV y u ∧ ∀ H, RelP W H v y
  cls : ∀ i x, g.cls[i]? = some x → (T.init i).isSome = true → W.mg x = some (.ref (W.ca i))
  make : ∀ i f, T.init i = some f → Mk W.K (W.ca i) (W.fa f)
  ins : ∀ i, (T.init i).isSome = true → InsF W.K (W.ca i)
  fld : ∀ c f, T.fld c f = true → Cls W.K (W.ca c) ∧ NoAttr W.K (W.ca c) f
  prop : ∀ c f i, T.prop c f = some i → Cls W.K (W.ca c) ∧ ∃ p, PropOf W.K (W.ca c) f p (W.fa i)
  meth : ∀ c m i, T.meth c m = some i → Cls W.K (W.ca c) ∧ Meth W.K (W.ca c) m (W.fa i)
  eqm : ∀ c i, T.eqm c = some i → PySem.W.findIn W.K (.ref (W.ca c)) "__eq__" = some (some (.ref (W.fa i))) ∧ PySem.W.isFn W.K (.ref (W.fa i)) = true ∧ PySem.W.findIn W.K (.ref (W.ca c)) "__ne__" = some (some (.builtin "object.__ne__")) ∧ PySem.W.mroIn W.K (W.ca c) (.type "object") = some true
  isi : ∀ (t : Ty2) (c : Ty1), isiOk T t [c] = true → (∀ n, t = .bi n → n ∈ ["NoneType", "bool", "int", "str", "tuple", "list"]) → PySem.W.kitOne W.K (tyVal W t) (tyU1 W c) = some (isi1 t c)
/-- calls with keywords -/
def KwF (W : Wd) (C : CT) (k : Nat) (g : Env1) : Prop := ∀ i np ks, (i, np, ks) ∈ g.kwl → ∀ p, permOf ((g.fns.getD i ("", [])).2) np ks = some p → ∃ (fd : FuncData) (ps : List Str), FnOk W.P W.w W.K W.mg W.base C8.CX0 k (W.fa i) fd ps (spOf W C i) ∧ KBn W.K fd ps np ks (perU p) (perV p)
/-- the context of a part of a def's body -/
structure Ctx (W : Wd) (k : Nat) (tc : TC) (X : Cx) : Prop where
  prog : X.prog = W.P
  w : X.w = W.w
  K : X.K = W.K
  mg : X.mg = W.mg
  base : X.base = W.base
  calm : X.calm = true
  room : Room (2 * k + 1) X.A
  N : X.N = tc.N
  nd : tc.N.Nodup
  sc : X.env.scope = tc.sc
  fnB : X.fn = tc.fnB
  xe : X.xe = fun _ _ => False
/-- the translation's tables are those of the module -/
structure TcG (tc : TC) (g : Env1) : Prop where
  fns : tc.fns = g.fns
  cns : tc.cns = g.cns
  cls : tc.cls = g.cls
  kwl : tc.kwl = g.kwl
section
variable {W : Wd} {T : Tab} {C : CT} {X : Cx} {H H' : Hp} {M : MH} {pins : List (Addr × Obj)} {s : Shared} {σ : L2.St} {st : St} {k : Nat} {tc : TC} {g : Env1}
theorem Ctx.fit (c : Ctx W k tc X) : Fit W X := ⟨c.prog, c.w, c.K, c.calm, by have := c.room.un; omega⟩
theorem ixOf_get {x : Str} : ∀ {l : List Str} {i : Nat}, ixOf x l = some i → l[i]? = some x
  | [], _, h => by simp [ixOf] at h
  | y :: r, i, h => by
    unfold ixOf at h
    split at h
    · rename_i e
      cases h
      rw [e]
      rfl
    · obtain ⟨j, e1, e2⟩ := Option.map_eq_some_iff.mp h
      subst e2
      simpa using ixOf_get e1
theorem ixFn_get {x : Str} : ∀ {l : List (Str × List Str)} {i : Nat}, ixFn x l = some i → ∃ ps, l[i]? = some (x, ps)
  | [], _, h => by simp [ixFn] at h
  | y :: r, i, h => by
    unfold ixFn at h
    split at h
    · rename_i e
      cases h
      exact ⟨y.2, by rw [← e]; rfl⟩
    · obtain ⟨j, e1, e2⟩ := Option.map_eq_some_iff.mp h
      subst e2
      simpa using ixFn_get e1
theorem vis_ok (c : Ctx W k tc X) {x : Str} (h : tc.vis x = true) : Vis X.env.scope x := by
  unfold TC.vis TC.kind at h
  unfold Vis
  rw [c.sc]
  split at h <;> simp_all
theorem gl_ok (c : Ctx W k tc X) {x : Str} (h : tc.gl x = true) : Gl X x := by
  unfold TC.gl TC.kind at h
  unfold Gl Env.kindOf
  rw [c.sc]
  split at h <;> simp_all
theorem sto_ok (c : Ctx W k tc X) {x : Str} (h : tc.sto x = true) : L2.Loc X.env.scope x ∧ (X.fn x = true ∨ X.env.scope.names.lookup x = some .local) := by
  unfold TC.sto TC.kind at h
  unfold L2.Loc
  rw [c.sc, c.fnB]
  split at h <;> simp_all
/-- written arguments: none starred -/
def Plain (es : List Expr) : Prop := ∀ e ∈ es, ∀ v p, e ≠ Expr.Starred v p
theorem Plain.tail {e : Expr} {es : List Expr} (h : Plain (e :: es)) : Plain es := fun x hx => h x (List.mem_cons_of_mem _ hx)
theorem Plain.head {e : Expr} {es : List Expr} (h : Plain (e :: es)) : ∀ v p, e ≠ .Starred v p := h e (List.mem_cons_self ..)
theorem star_plain {env : Env} : ∀ {es : List Expr}, Plain es → starEach es env = es.map fun e => (false, eval e env)
  | [], _ => rfl
  | e :: es, h => by rw [starEach_one h.head, star_plain h.tail, List.map_cons]
theorem star_any {env : Env} {pos : Pos} {es : List Expr} (h : Plain es) : (backTo pos (starEach es env)).any (·.1) = false := by
  rw [star_plain h]
  unfold backTo
  induction es with
  | nil => rfl
  | cons e es ih => simpa using ih h.tail
theorem star_all {env : Env} {pos : Pos} {es : List Expr} (h : Plain es) : (backTo pos (starEach es env)).all (fun x => !x.1) = true := by
  rw [star_plain h]
  unfold backTo
  induction es with
  | nil => rfl
  | cons e es ih => simpa using ih h.tail
/-- a call of a def by values -/
def rFn (W : Wd) (C : CT) (i : Nat) : List V → Hp → VK → Prop := fun xs H Q => ∃ M vs, Emb W M H ∧ RelPs W H vs xs ∧ C i vs M (Aft W H Q)
theorem call_fn' (c : Ctx W k tc X) {i : Nat} (F : FnF W C (2 * k) i) : CallR X (.ref (W.fa i)) (rFn W C i) := by
  intro pins s σ H xs us Q I r ⟨M, vs, em, rp, w⟩
  obtain ⟨fd, ps, F, b, kp⟩ := F.ex
  rw [← c.prog, ← c.w, ← c.K, ← c.mg, ← c.base] at F
  rw [← c.K] at b
  exact run_fn F (c.room.mono (Nat.le_succ _)) b .nil C8.pass0 I r (E := C8.E0) (by rw [List.append_nil]; exact ⟨vs, M, rp, em, w⟩)
/-- C(..) by values -/
theorem mk_fn' (hC : CMono C) (c : Ctx W k tc X) {j i : Nat} (hm : Mk W.K (W.ca j) (W.fa i)) (F : FnF W C (2 * k) i) : CallR X (.ref (W.ca j)) fun xs H Q => ∃ M vs, Emb W M H ∧ RelPs W H vs xs ∧ ∀ p, M p = none → C i (.ref p :: vs) (mup M p (.ins j [])) fun v M' => v = .non ∧ Aft W H Q (.ref p) M' := by
  intro pins s σ H xs us Q I r ⟨M, vs, em, rp, w⟩
  obtain ⟨fd, ps, F, b, kp⟩ := F.ex
  rw [← c.prog, ← c.w, ← c.K, ← c.mg, ← c.base] at F
  rw [← c.K] at b hm
  refine run_make hm F c.room b .nil C8.pass0 I r (E := C8.E0) fun x dx hx hdx hne => ?_
  rw [List.append_nil]
  have g1 : Grow H (upd H dx (.own x)) := Grow.new hdx
  have hx' : upd H dx (.own x) x = none := by rw [upd_ne (Ne.symm hne)]; exact hx
  have g2 : Grow H (upd (upd H dx (.own x)) x (.ins (W.ca j) dx [])) := g1.trans (Grow.new hx')
  refine ⟨.ref x :: vs, mup M x (.ins j []), RelPs.cons rfl (RelPs.grow g2 _ _ rp), (em.lay hdx).new hx' ⟨dx, [], upd_same, .nil⟩, ?_⟩
  refine hC _ _ _ _ _ (fun v M' ⟨e, q⟩ H3 y g em3 r => ?_) (w x (em.fresh hx))
  subst e
  simp only [RelP] at r
  exact ⟨r, q H3 _ (g2.trans g) em3 rfl⟩

/-! #### calls by name -/
theorem pe_bad {e : Expr} {a : E} (h : ∀ st M Q, ¬ wpE T C a st M Q) : PE X e (rdE W T C a) := ⟨fun _ _ _ _ _ _ ⟨st, M, _, _, w⟩ => (h _ _ _ w).elim⟩
/-- a value called with written arguments -/
theorem call_core {fv : Value} {pos : Pos} {es : List Expr} {es' : Es} {r : List V → Hp → VK → Prop} {Q : VK} (first : List Value) (vf : List V) (hp : Plain es) (hn : es = [] → es' = .nil) (hk : PySem.W.keepIn X.K fv = true)
    (hc : ∀ (s : Shared) (H : Hp) (xs : List V) (us : List Value), L2.Inv X pins σ H s → Vals xs us → r xs H Q → wpAny (model X.prog X.w) X.A (call fv (first ++ us)) (EP X pins σ Q) X.xe s)
    (ha : PA X es (rdEs W T C es')) (I : L2.Inv X pins σ H s) (h : rdEs W T C es' σ H fun vs H1 => r vs H1 Q) :
    wpAny (model X.prog X.w) X.A (callWith pos fv first (backTo pos (starEach es X.env)) (backToKw pos (keywordEach [] X.env))) (EP X pins σ Q) X.xe s := by
  cases es with
  | nil =>
    rw [hn rfl] at h
    obtain ⟨st, M, es, em, w⟩ := h
    exact PySem.W.callWith_K0 I.kIn hk (hc s H [] [] I .nil (w H [] (Grow.refl _) em RelPs.nil))
  | cons e es => exact PySem.W.callWith_K (h₀ := X.base) I.ok.mod.kin hk (thn (ha.run pos pins s σ H _ I h) fun us s2 ⟨vs, H2, I2, r2, q2⟩ => ⟨I2.kIn, hc s2 H2 vs us I2 r2 q2⟩) (starEach_one hp.head) (star_any hp.tail)
theorem rdEs.to {es' : Es} {Q : List V → Hp → Prop} {R : List PV → MH → Prop} (hC : CMono C) (es : EmbS W H st σ) (em : Emb W M H) (w : wpEs T C es' st M R) (k : ∀ H1 M1 v x, Grow H H1 → Emb W M1 H1 → RelPs W H1 v x → R v M1 → Q x H1) : rdEs W T C es' σ H Q := oneEs hC es em w k
theorem pe_call' (hC : CMono C) (c : Ctx W k tc X) {i : Nat} (F : FnF W C (2 * k) i) {x : Str} {p pos : Pos} {es : List Expr} {es' : Es} (hp : Plain es) (hn : es = [] → es' = .nil) (hg : Gl X x) (hm : W.mg x = some (.ref (W.fa i))) (hk : PySem.W.keepIn W.K (.ref (W.fa i)) = true) (hd : (x == ("__debug__" : Str)) = false)
    (ha : PA X es (rdEs W T C es')) : PE X (.Call (.Name x p) es [] pos) (rdE W T C (.call i es')) := by
  refine ⟨fun pins s σ H Q I ⟨st, M, es, em, w⟩ => ?_⟩
  simp only [wpE] at w
  refine wpAny_Call_Name_kw (ld_glob I hg (c.mg ▸ hm) ?_ hd)
  refine call_core (r := rFn W C i) (Q := Q) [] [] hp hn (c.K ▸ hk) (fun s H xs us I r q => call_fn' c F pins s σ H xs us Q I r q) ha I ?_
  exact rdEs.to hC es em w fun H1 M1 v x g em1 r q => ⟨M1, v, em1, r, hC _ _ _ _ _ (fun v M' z => z.up g) q⟩
theorem pe_calv' (hC : CMono C) (c : Ctx W k tc X) (F : ∀ i, (∀ vs M Q, ¬ C i vs M Q) ∨ FnF W C (2 * k) i) {j : Nat} {x : Str} {p pos : Pos} {es : List Expr} {es' : Es} (hp : Plain es) (hn : es = [] → es' = .nil) (hN : X.N[j]? = some x) (hv : Vis X.env.scope x) (hd : (x == ("__debug__" : Str)) = false) (hcd : (x == ("__classdict__" : Str)) = false)
    (ha : PA X es (rdEs W T C es')) : PE X (.Call (.Name x p) es [] pos) (rdE W T C (.calv j es')) := by
  refine ⟨fun pins s σ H Q I ⟨st, M, es, em, w⟩ => ?_⟩
  simp only [wpE] at w
  split at w
  · rename_i f e
    obtain ⟨z, e1, r⟩ := es.get e
    simp only [RelP] at r
    obtain ⟨r, kp0⟩ := r
    subst r
    refine wpAny_Call_Name_kw (thn ((pe_var (pos := p) hN hv hd hcd).run pins s σ H (fun v H1 => v = .ref (W.fa f) ∧ H1 = H) I ⟨.ref (W.fa f), e1, rfl, rfl⟩) fun u s1 ⟨v, H1, I1, r1, q1⟩ => ?_)
    obtain ⟨rfl, rfl⟩ := q1
    cases r1
    rcases F f with no | F
    · refine call_core (r := fun _ _ _ => False) (Q := Q) [] [] hp hn ?_ (fun s H xs us I r q => q.elim) ha I1 ?_
      · exact c.K ▸ kp0
      · exact rdEs.to hC es em w fun H1 M1 v x g em1 r q => (no _ _ _ q).elim
    · obtain ⟨fd, ps, _, _, kp⟩ := F.ex
      refine call_core (r := rFn W C f) (Q := Q) [] [] hp hn (c.K ▸ kp) (fun s H xs us I r q => call_fn' c F pins s σ H xs us Q I r q) ha I1 ?_
      exact rdEs.to hC es em w fun H1 M1 v x g em1 r q => ⟨M1, v, em1, r, hC _ _ _ _ _ (fun v M' z => z.up g) q⟩
  · exact w.elim
end
end Ev
end

section
/-! EvO: keywords, built-ins, classes, methods, attributes. -/
namespace Ev
open PySem PySem.Spec PyProof.Rows L2
section
variable {W : Wd} {T : Tab} {C : CT} {X : Cx} {H H' : Hp} {M : MH} {pins : List (Addr × Obj)} {s : Shared} {σ : L2.St} {st : St} {k : Nat} {tc : TC} {g : Env1}
/-! #### keywords -/
theorem _root_.L2.PK.imp {kws : List Keyword} {t t' : TA} (h : PK X kws t) (k : ∀ σ H Q, t' σ H Q → t σ H Q) : PK X kws t' := ⟨fun pos pins s σ H Q I q => h.run pos pins s σ H Q I (k _ _ _ q)⟩
theorem pk_nil' : PK X [] (rdEs W T C .nil) := pk_nil.imp fun σ H Q ⟨st, M, es, em, w⟩ => w H [] (Grow.refl _) em RelPs.nil
theorem pk_cons' (hC : CMono C) {e : Expr} {kws : List Keyword} {nm : Option Str} {kpos : Pos} {e' : E} {es' : Es} (ha : PE X e (rdE W T C e')) (hr : PK X kws (rdEs W T C es')) : PK X (⟨nm, e, kpos⟩ :: kws) (rdEs W T C (.cons e' es')) :=
  (pk_cons ha hr).imp fun σ H Q ⟨st, M, es, em, w⟩ => by
    simp only [wpEs] at w
    refine one hC es em w fun H1 M1 v x g1 em1 r1 w1 => ?_
    exact oneEs hC (es.grow g1) em1 w1 fun H2 M2 vs xs g2 em2 r2 w2 => w2 H2 (x :: xs) (g1.trans g2) em2 (RelPs.cons (RelP.grow g2 _ _ r1) r2)
theorem wpEs_len (hC : CMono C) : ∀ (es : Es) (σ : St) (M : MH) (Q : List PV → MH → Prop), wpEs T C es σ M Q → wpEs T C es σ M fun vs M' => vs.length = es.len ∧ Q vs M'
  | .nil, σ, M, Q, w => ⟨rfl, w⟩
  | .cons e r, σ, M, Q, w => by
    simp only [wpEs] at w ⊢
    exact wpE_mono hC e _ _ _ _ (fun v M1 w1 => wpEs_mono hC r _ _ _ _ (fun vs M2 ⟨l, q⟩ => ⟨by rw [List.length_cons, l, Es.len], q⟩) (wpEs_len hC r _ _ _ w1)) w
theorem perm_rel {vs ws : List PV} {xs zs : List V} (h1 : RelPs W H vs xs) (h2 : RelPs W H ws zs) : ∀ p : List Nat, RelPs W H (p.map fun i => (vs ++ ws).getD i .non) (perV p xs zs)
  | [] => RelPs.nil
  | i :: p => by
    refine RelPs.cons ?_ (perm_rel h1 h2 p)
    have h := RelPs.append h1 h2
    show RelP W H ((vs ++ ws).getD i PV.non) ((xs ++ zs).getD i V.non)
    rw [List.getD_eq_getElem?_getD, List.getD_eq_getElem?_getD]
    cases e : (vs ++ ws)[i]? with
    | none =>
      have : (xs ++ zs)[i]? = none := by
        rw [List.getElem?_eq_none_iff] at e ⊢
        rw [← h.length]
        exact e
      rw [this]
      rfl
    | some v =>
      obtain ⟨x, e2, r⟩ := h.get e
      rw [e2]
      exact r
theorem kwNames_all {env : Env} {pos : Pos} : ∀ {kws : List Keyword} {ks : List Str}, kwNames kws = some ks → (backToKw pos (keywordEach kws env)).all (·.1.isSome) = true ∧ (backToKw pos (keywordEach kws env)).filterMap (·.1) = ks ∧ (backToKw pos (keywordEach kws env)).any (·.1.isNone) = false
  | [], ks, h => by simp only [kwNames, Option.some.injEq] at h; subst h; exact ⟨rfl, rfl, rfl⟩
  | ⟨some n, v, p⟩ :: r, ks, h => by
    simp only [kwNames, Option.map_eq_some_iff] at h
    obtain ⟨ks', h1, rfl⟩ := h
    obtain ⟨a, b, c⟩ := kwNames_all (env := env) (pos := pos) h1
    have e : backToKw pos (keywordEach (⟨some n, v, p⟩ :: r) env) = (some n, do let v ← eval v env; standAt pos; pure v) :: backToKw pos (keywordEach r env) := rfl
    rw [e]
    exact ⟨by simpa using a, by simpa using b, by simpa using c⟩
  | ⟨none, v, p⟩ :: r, ks, h => by simp [kwNames] at h
theorem pe_calk' (hC : CMono C) (c : Ctx W k tc X) {i : Nat} {p : List Nat} {es1 es2 : Es} {es : List Expr} {kws : List Keyword} {ks : List Str} {x : Str} {q pos : Pos} (F : ∃ (fd : FuncData) (ps : List Str), FnOk W.P W.w W.K W.mg W.base C8.CX0 (2 * k) (W.fa i) fd ps (spOf W C i) ∧ KBn W.K fd ps es1.len ks (perU p) (perV p))
    (hks : kwNames kws = some ks) (hkl : es2.len = ks.length) (hp : Plain es) (hn : es = [] → es1 = .nil) (hg : Gl X x) (hm : W.mg x = some (.ref (W.fa i))) (hk : PySem.W.keepIn W.K (.ref (W.fa i)) = true) (hd : (x == ("__debug__" : Str)) = false)
    (ha : PA X es (rdEs W T C es1)) (hb : PK X kws (rdEs W T C es2)) : PE X (.Call (.Name x q) es kws pos) (rdE W T C (.calk i es1 es2 p)) := by
  refine ⟨fun pins s σ H Q I ⟨st, M, ems, em, w⟩ => ?_⟩
  simp only [wpE] at w
  obtain ⟨fd, ps, F, kb⟩ := F
  rw [← c.prog, ← c.w, ← c.K, ← c.mg, ← c.base] at F
  rw [← c.K] at kb hk
  obtain ⟨k1, k2, k3⟩ := kwNames_all (env := X.env) (pos := pos) hks
  refine wpAny_Call_Name_kw (ld_glob I hg (c.mg ▸ hm) ?_ hd)
  have fin : ∀ s H xs us, L2.Inv X pins σ H s → Vals xs us → xs.length = es1.len → (rdEs W T C es2 σ H fun zs H2 => zs.length = es2.len ∧ spOf W C i (perV p xs zs) H2 Q C8.E0) →
      wpAny (model X.prog X.w) X.A (evalAll ((backToKw pos (keywordEach kws X.env)).map (·.2))) (fun ws s₂ => X.K.In s₂.heap ∧ wpAny (model X.prog X.w) X.A (call (.ref (W.fa i)) us (((backToKw pos (keywordEach kws X.env)).filterMap (·.1)).zip ws)) (EP X pins σ Q) X.xe s₂) X.xe s := fun s H xs us I r l h => by
    refine thn (hb.run pos pins s σ H _ I h) fun ws s2 ⟨zs, H2, I2, rz, l2, q2⟩ => ⟨I2.kIn, ?_⟩
    rw [k2]
    exact run_fnN F (c.room.mono (Nat.le_succ _)) kb C8.pass0 I2 r rz l (l2.trans hkl) q2
  have post : ∀ H1 M1 vs xs, Grow H H1 → Emb W M1 H1 → RelPs W H1 vs xs → vs.length = es1.len → (wpEs T C es2 st M1 fun ws M2 => C i (p.map fun i => (vs ++ ws).getD i .non) M2 (Aft W H Q)) → xs.length = es1.len ∧ (rdEs W T C es2 σ H1 fun zs H2 => zs.length = es2.len ∧ spOf W C i (perV p xs zs) H2 Q C8.E0) := fun H1 M1 vs xs g1 em1 r1 l1 w1 => by
    refine ⟨r1.length ▸ l1, oneEs hC (ems.grow g1) em1 (wpEs_len hC es2 _ _ _ w1) fun H2 M2 ws zs g2 em2 r2 ⟨l2, w2⟩ => ⟨r2.length ▸ l2, _, M2, perm_rel (RelPs.grow g2 _ _ r1) r2 p, em2, hC _ _ _ _ _ (fun v M' z => z.up (g1.trans g2)) w2⟩⟩
  cases es with
  | nil =>
    rw [hn rfl] at w post fin kb
    simp only [wpEs] at w
    obtain ⟨_, w2⟩ := post H M [] [] (Grow.refl _) em RelPs.nil rfl w
    refine PySem.W.callWith_KW0 (h₀ := X.base) I.ok.mod.kin hk k1 ?_ (by simp [starEach, backTo]; simpa using k3)
    exact fin s H [] [] I .nil rfl w2
  | cons e es =>
    refine PySem.W.callWith_KW (h₀ := X.base) I.ok.mod.kin hk k1 ?_ (by rw [star_any hp, k3]; rfl) (starEach_one hp.head)
    refine thn (ha.run pos pins s σ H (fun xs H1 => xs.length = es1.len ∧ rdEs W T C es2 σ H1 fun zs H2 => zs.length = es2.len ∧ spOf W C i (perV p xs zs) H2 Q C8.E0) I (oneEs hC ems em (wpEs_len hC es1 _ _ _ w) fun H1 M1 vs xs g1 em1 r1 ⟨l1, w1⟩ => post H1 M1 vs xs g1 em1 r1 l1 w1)) fun us s1 ⟨xs, H1, I1, r, l, q⟩ => ?_
    exact fin s1 H1 xs us I1 r l q

/-! #### built-ins -/
def bv : Blt → Value
  | .len => .builtin "len"
  | .abs => .builtin "abs"
  | .max => .builtin "max"
  | .min => .builtin "min"
  | .int => .type "int"
  | .tuple => .type "tuple"
  | .list => .type "list"
  | .sorted => .builtin "sorted"
  | .set => .type "set"
  | .divmod => .builtin "divmod"
  | .all => .builtin "all"
  | .any => .builtin "any"
  | .sum => .builtin "sum"
  | .bool => .type "bool"
  | .dict => .type "dict"
theorem lookup_mem {β : Type} {x : Str} {b : β} : ∀ {l : List (Str × β)}, l.lookup x = some b → (x, b) ∈ l
  | [], h => by cases h
  | (y, c) :: l, h => by
    rw [List.lookup_cons] at h
    split at h
    · rename_i e
      cases h
      rw [beq_iff_eq.mp e]
      exact List.mem_cons_self ..
    · exact List.mem_cons_of_mem _ (lookup_mem h)
theorem blt_boot {x : Str} {b : Blt} (h : blts.lookup x = some b) : bootBuiltins x = some (bv b) ∧ x ∈ bltNames ∧ x ≠ "__name__" ∧ (x == ("__debug__" : Str)) = false := by
  have h := lookup_mem h
  unfold blts at h
  simp only [List.mem_cons, Prod.mk.injEq, List.not_mem_nil, or_false] at h
  rcases h with ⟨rfl, rfl⟩ | ⟨rfl, rfl⟩ | ⟨rfl, rfl⟩ | ⟨rfl, rfl⟩ | ⟨rfl, rfl⟩ | ⟨rfl, rfl⟩ | ⟨rfl, rfl⟩ | ⟨rfl, rfl⟩ | ⟨rfl, rfl⟩ | ⟨rfl, rfl⟩ | ⟨rfl, rfl⟩ | ⟨rfl, rfl⟩ | ⟨rfl, rfl⟩ | ⟨rfl, rfl⟩ | ⟨rfl, rfl⟩ <;>
    exact ⟨by kernel_rfl, by decide +kernel, by decide +kernel, by decide +kernel⟩
theorem blt_ok (G : Fit W X) (b : Blt) : CallR X (bv b) (rBl W b) := by
  intro pins s σ H xs us Q I rv ⟨M, vs, em, rp, w⟩
  unfold bltR at w
  split at w
  · rename_i v
    cases e : lenOf M v with
    | none => rw [e] at w; exact w.elim
    | some n =>
      rw [e] at w
      obtain ⟨x, rfl, r⟩ := rp.one
      obtain ⟨u, rfl, rx⟩ := vals1 rv
      exact len_ok G I em e r rx (aft_val w (Grow.refl _) em rfl)
  · obtain ⟨x, rfl, r⟩ := rp.one
    exact call_abs pins s σ H _ us Q I rv ⟨_, by rw [r], aft_val w (Grow.refl _) em rfl⟩
  · obtain ⟨x, y, rfl, r1, r2⟩ := rp.two
    exact call_max2 G.calm pins s σ H _ us Q I rv ⟨_, _, by rw [r1, r2], aft_val w (Grow.refl _) em rfl⟩
  · obtain ⟨x, y, rfl, r1, r2⟩ := rp.two
    exact call_min2 G.calm pins s σ H _ us Q I rv ⟨_, _, by rw [r1, r2], aft_val w (Grow.refl _) em rfl⟩
  · split at w
    · rename_i v i r e
      cases e2 : mxI i r with
      | none => rw [e2] at w; exact w.elim
      | some m =>
        rw [e2] at w
        obtain ⟨x, rfl, r1⟩ := rp.one
        obtain ⟨is, e3, h1, h2⟩ := mxI_ints e2
        obtain ⟨a, zs, rfl, sq, rs⟩ := lstOf_some e em r1
        rw [e3] at rs
        have := rel_ints (is := i :: is) rs
        subst this
        refine cr_max G.calm pins s σ H _ us Q I rv ⟨a, i :: is, rfl, G.K ▸ sq, by simp, fun m' hm hall => ?_⟩
        have e4 : m' = m := by have := h2 m' hm; have := hall m h1; omega
        subst e4
        exact aft_val w (Grow.refl _) em rfl
    · exact w.elim
  · split at w
    · rename_i v i r e
      cases e2 : mnI i r with
      | none => rw [e2] at w; exact w.elim
      | some m =>
        rw [e2] at w
        obtain ⟨x, rfl, r1⟩ := rp.one
        obtain ⟨is, e3, h1, h2⟩ := mnI_ints e2
        obtain ⟨a, zs, rfl, sq, rs⟩ := lstOf_some e em r1
        rw [e3] at rs
        have := rel_ints (is := i :: is) rs
        subst this
        refine cr_min G.calm pins s σ H _ us Q I rv ⟨a, i :: is, rfl, G.K ▸ sq, by simp, fun m' hm hall => ?_⟩
        have e4 : m' = m := by have := h2 m' hm; have := hall m h1; omega
        subst e4
        exact aft_val w (Grow.refl _) em rfl
    · exact w.elim
  · obtain ⟨x, rfl, r⟩ := rp.one
    exact call_int1 pins s σ H _ us Q I rv (.inl ⟨_, by rw [r], aft_val w (Grow.refl _) em rfl⟩)
  · obtain ⟨x, rfl, r⟩ := rp.one
    exact call_int1 pins s σ H _ us Q I rv (.inr ⟨_, by rw [r], aft_val w (Grow.refl _) em rfl⟩)
  · obtain ⟨x, rfl, r⟩ := rp.one
    exact call_bool1 pins s σ H _ us Q I rv (.inl ⟨_, by rw [r], aft_val w (Grow.refl _) em rfl⟩)
  · obtain ⟨x, rfl, r⟩ := rp.one
    exact call_bool1 pins s σ H _ us Q I rv (.inr ⟨_, by rw [r], aft_val w (Grow.refl _) em rfl⟩)
  · split at w
    · rename_i v zs e
      obtain ⟨x, rfl, r⟩ := rp.one
      obtain ⟨a, ws, rfl, sq, rs⟩ := seqOf_some e em r
      rcases sq with ⟨_, sq⟩ | ⟨e2, sq⟩
      · refine call_tuple_of pins s σ H _ us Q I rv ⟨a, ws, rfl, .inl ⟨G.K ▸ sq, fun l hl => ?_⟩⟩
        refine w _ _ (Grow.new hl) (em.lay hl) ?_
        simp only [RelP]
        exact ⟨l, ws, rfl, SqT.of upd_same, RelPs.grow (Grow.new hl) _ _ rs⟩
      · refine call_tuple_of pins s σ H _ us Q I rv ⟨a, ws, rfl, .inr ⟨G.K ▸ sq, ?_⟩⟩
        refine aft_val w (Grow.refl _) em ?_
        rw [← e2]
        exact r
    · exact w.elim
  · split at w
    · rename_i v zs e
      obtain ⟨x, rfl, r⟩ := rp.one
      unfold itemsOf at e
      have gen : ∀ a ws, x = .ref a → (SqL X.K H a ws ∨ SqT X.K H a ws) → RelPs W H zs ws → wpAny (model X.prog X.w) X.A (call (bv .list) us) (EP X pins σ Q) X.xe s := fun a ws ex sq rs => by
        subst ex
        exact call_list_of pins s σ H _ us Q I rv ⟨a, ws, rfl, sq, fun l hl => res_new rfl w (Grow.refl _) em l hl _ ⟨ws, upd_same, RelPs.grow (Grow.new hl) _ _ rs⟩⟩
      split at e
      · cases e
        simp only [RelP] at r
        obtain ⟨a, ws, ex, sq, rs⟩ := r
        exact gen a ws ex (.inr (G.K ▸ sq)) rs
      · cases e
        simp only [RelP] at r
        obtain ⟨a, ws, ex, sq, rs⟩ := r
        exact gen a ws ex (.inl (G.K ▸ sq.sq)) rs
      · rename_i a
        split at e
        · rename_i xs hM
          cases e
          obtain ⟨ws, h1, rs⟩ := em a _ hM
          exact gen a ws r (.inl (SqL.of h1)) rs
        · rename_i kvs hM
          cases e
          simp only [RelP] at r
          subst r
          obtain ⟨u, rfl, rx⟩ := vals1 rv
          cases rx
          exact list_dct G I em hM fun p hp ws rs => res_new rfl w (Grow.refl _) em p hp _ ⟨ws, upd_same, RelPs.grow (Grow.new hp) _ _ rs⟩
        · cases e
      · cases e
    · exact w.elim
  · split at w
    · rename_i v zs e
      split at w
      · rename_i hs
        obtain ⟨x, rfl, r⟩ := rp.one
        obtain ⟨a, ws, rfl, sq, rs⟩ := lstOf_some e em r
        obtain ⟨u, rfl, rx⟩ := vals1 rv
        cases rx
        exact sorted_lst G I sq rs hs fun p hp ws rs => res_new rfl w (Grow.refl _) em p hp _ ⟨ws, upd_same, RelPs.grow (Grow.new hp) _ _ rs⟩
      · exact w.elim
    · split at w
      · rename_i a h0
        split at w
        · rename_i zs hM
          split at w
          · rename_i hs
            obtain ⟨x, rfl, r⟩ := rp.one
            simp only [RelP] at r
            subst r
            obtain ⟨u, rfl, rx⟩ := vals1 rv
            cases rx
            exact sorted_set' G I (em a _ hM) hs.1 hs.2 fun p hp ws rs => res_new rfl w (Grow.refl _) em p hp _ ⟨ws, upd_same, RelPs.grow (Grow.new hp) _ _ rs⟩
          · exact w.elim
        · exact w.elim
      · exact w.elim
  · split at w
    · rename_i v zs e
      split at w
      · rename_i hs
        obtain ⟨x, rfl, r⟩ := rp.one
        obtain ⟨a, ws, rfl, sq, rs⟩ := lstOf_some e em r
        obtain ⟨u, rfl, rx⟩ := vals1 rv
        cases rx
        exact set_lst G I sq rs hs.1 hs.2 fun p u hp rs => res_new rfl w (Grow.refl _) em p hp _ rs
      · exact w.elim
    · exact w.elim
  · split at w
    · rename_i hc
      obtain ⟨x, y, rfl, r1, r2⟩ := rp.two
      refine call_divmod pins s σ H _ us Q I rv ⟨_, _, by rw [r1, r2], ?_, fun p hp => ?_⟩
      · unfold cDiv at hc
        simpa [CDiv] using hc
      · refine w _ _ (Grow.new hp) (em.lay hp) ?_
        simp only [RelP]
        exact ⟨p, _, rfl, SqT.of upd_same, RelPs.cons rfl (RelPs.cons rfl RelPs.nil)⟩
    · exact w.elim
  · split at w
    · rename_i v zs e
      cases e2 : mapO blOf zs with
      | none => rw [e2] at w; exact w.elim
      | some bs =>
        rw [e2] at w
        obtain ⟨x, rfl, r⟩ := rp.one
        obtain ⟨a, ws, rfl, sq, rs⟩ := lstOf_some e em r
        rw [mapO_bls e2] at rs
        have := rel_bls rs
        subst this
        exact cr_all G.calm pins s σ H _ us Q I rv ⟨a, bs, rfl, G.K ▸ sq, aft_val w (Grow.refl _) em rfl⟩
    · exact w.elim
  · split at w
    · rename_i v zs e
      cases e2 : mapO blOf zs with
      | none => rw [e2] at w; exact w.elim
      | some bs =>
        rw [e2] at w
        obtain ⟨x, rfl, r⟩ := rp.one
        obtain ⟨a, ws, rfl, sq, rs⟩ := lstOf_some e em r
        rw [mapO_bls e2] at rs
        have := rel_bls rs
        subst this
        exact cr_any G.calm pins s σ H _ us Q I rv ⟨a, bs, rfl, G.K ▸ sq, aft_val w (Grow.refl _) em rfl⟩
    · exact w.elim
  · split at w
    · rename_i v zs e
      cases e2 : mapO intOf zs with
      | none => rw [e2] at w; exact w.elim
      | some bs =>
        rw [e2] at w
        obtain ⟨x, rfl, r⟩ := rp.one
        obtain ⟨a, ws, rfl, sq, rs⟩ := lstOf_some e em r
        rw [mapO_ints e2] at rs
        have := rel_ints rs
        subst this
        exact cr_sum G.calm pins s σ H _ us Q I rv ⟨a, bs, rfl, G.K ▸ sq, aft_val w (Grow.refl _) em rfl⟩
    · exact w.elim
  · exact w.elim
end
end Ev
end

section
/-! EvP: calls of built-ins and classes; isinstance; methods; attributes; dict displays. -/
namespace Ev
open PySem PySem.Spec PyProof.Rows L2
section
variable {W : Wd} {T : Tab} {C : CT} {X : Cx} {H H' : Hp} {M : MH} {pins : List (Addr × Obj)} {s : Shared} {σ : L2.St} {st : St} {k : Nat} {tc : TC} {g : Env1}
theorem bltR_nil (b : Blt) : bltR M b [] = none := by cases b <;> rfl
theorem pe_blt' (hC : CMono C) (c : Ctx W k tc X) {b : Blt} {x : Str} {p pos : Pos} {es : List Expr} {es' : Es} (hp : Plain es) (hn : es = [] → es' = .nil) (hg : Gl X x) (hb : blts.lookup x = some b) (hm : W.mg x = none) (ha : PA X es (rdEs W T C es')) : PE X (.Call (.Name x p) es [] pos) (rdE W T C (.blt b es')) := by
  obtain ⟨h1, _, h3, h4⟩ := blt_boot hb
  cases es with
  | nil =>
    refine pe_bad fun st M Q w => ?_
    rw [hn rfl] at w
    simp only [wpE, wpEs, bltR_nil] at w
    exact w
  | cons e es =>
    have main : ∀ σ H Q, rdE W T C (.blt b es') σ H Q → rdEs W T C es' σ H fun xs H1 => rBl W b xs H1 Q := fun σ H Q ⟨st, M, ems, em, w⟩ => by
      simp only [wpE] at w
      exact rdEs.to hC ems em w fun H1 M1 v x g em1 r q => ⟨M1, v, em1, r, q.up g⟩
    have hbl := blt_ok c.fit b
    rw [← c.mg] at hm
    cases hv : bv b with
    | builtin id =>
      rw [hv] at hbl h1
      exact (pe_callB hbl hg hm h1 ha h3 h4 (starEach_one hp.head) (star_any hp.tail)).imp main
    | type id =>
      rw [hv] at hbl h1
      exact (pe_callTy hbl hg hm h1 ha h3 h4 (starEach_one hp.head) (star_any hp.tail)).imp main
    | _ => cases b <;> cases hv
/-- C(..) -/
theorem pe_mak' (hC : CMono C) (c : Ctx W k tc X) {j i : Nat} (hT : T.init j = some i) (hmk : Mk W.K (W.ca j) (W.fa i)) (F : FnF W C (2 * k) i) {x : Str} {p pos : Pos} {es : List Expr} {es' : Es} (hp : Plain es) (hn : es = [] → es' = .nil) (hg : Gl X x) (hm : W.mg x = some (.ref (W.ca j))) (hd : (x == ("__debug__" : Str)) = false)
    (ha : PA X es (rdEs W T C es')) : PE X (.Call (.Name x p) es [] pos) (rdE W T C (.mak j es')) := by
  refine ⟨fun pins s σ H Q I ⟨st, M, ems, em, w⟩ => ?_⟩
  simp only [wpE, wpMak, hT] at w
  refine wpAny_Call_Name_kw (ld_glob I hg (c.mg ▸ hm) ?_ hd)
  have mk := mk_fn' hC c hmk F
  refine call_core (Q := Q) (r := fun xs H Q => ∃ M vs, Emb W M H ∧ RelPs W H vs xs ∧ ∀ p, M p = none → C i (.ref p :: vs) (mup M p (.ins j [])) fun v M' => v = .non ∧ Aft W H Q (.ref p) M') [] [] hp hn (c.K ▸ hmk.kp) (fun s H xs us I r q => mk pins s σ H xs us Q I r q) ha I ?_
  exact rdEs.to hC ems em w fun H1 M1 v x g em1 r q => ⟨M1, v, em1, r, fun p hp => hC _ _ _ _ _ (fun v M' z => ⟨z.1, z.2.up g⟩) (q p hp)⟩

/-! #### isinstance -/
theorem tyP_bi {v : PV} {n : String} (h : tyP M v = some (.bi n)) : n ∈ ["NoneType", "bool", "int", "str", "tuple", "list"] := by
  unfold tyP at h
  split at h <;> simp_all
  all_goals first
    | (subst h; simp; done)
    | (split at h <;> simp_all; done)
    | (split at h <;> simp_all <;> subst h <;> simp)
theorem tyx_of (G : Glb W T g) (em : Emb W M H) {v : PV} {t : Ty2} {x : V} (h : tyP M v = some t) (r : RelP W H v x) (hi : ∀ c, t = .cl c → (T.init c).isSome = true) : TyX W.K H x (tyVal W t) := by
  unfold tyP at h
  split at h
  · cases h; simp only [RelP] at r; subst r; exact .base .non
  · cases h; simp only [RelP] at r; subst r; exact .base (.bl _)
  · cases h; simp only [RelP] at r; subst r; exact .base (.int _)
  · cases h; simp only [RelP] at r; subst r; exact .base (.str _)
  · cases h
    simp only [RelP] at r
    obtain ⟨a, vs, rfl, sq, _⟩ := r
    rcases sq with (e | ⟨o, e⟩) | ⟨o, its, n, e, e1, _⟩
    · exact .base (.tup e)
    · exact .fTuple e
    · exact .kTuple e e1
  · cases h
    simp only [RelP] at r
    obtain ⟨a, vs, rfl, sq, _⟩ := r
    rcases sq with ⟨o, e⟩ | ⟨o, its, n, e, e1, _⟩
    · exact .base (.frz e)
    · exact .kList e e1
  · rename_i a
    simp only [RelP] at r
    subst r
    split at h
    · rename_i xs e
      cases h
      obtain ⟨vs, h1, _⟩ := em a _ e
      exact .base (.lst h1)
    · rename_i c fs e
      cases h
      obtain ⟨dx, hs, h1, _⟩ := em a _ e
      have f := G.ins c (hi c rfl)
      exact .base (.ins h1 f.cl f.ha f.hn f.htk f.hm)
    · cases h
  · cases h
theorem isiOk_cons {t : Ty2} {u : Ty1} {us : List Ty1} (h : isiOk T t (u :: us) = true) : isiOk T t [u] = true ∧ isiOk T t us = true := by
  unfold isiOk at h ⊢
  simp only [List.all_cons, List.all_nil, Bool.and_true, Bool.and_eq_true] at h ⊢
  exact ⟨⟨h.1, h.2.1⟩, h.1, h.2.2⟩
theorem kitAny_of (G : Glb W T g) {t : Ty2} (hn : ∀ n, t = .bi n → n ∈ ["NoneType", "bool", "int", "str", "tuple", "list"]) : ∀ {us : List Ty1}, isiOk T t us = true → PySem.W.kitAny W.K (tyVal W t) (us.map (tyU1 W)) = some (us.any (isi1 t))
  | [], _ => rfl
  | u :: us, h => by
    obtain ⟨h1, h2⟩ := isiOk_cons h
    have e := G.isi t u h1 hn
    rw [List.map_cons, PySem.W.kitAny, e]
    cases hb : isi1 t u with
    | true => simp [hb]
    | false => simp [hb, kitAny_of G hn h2]
theorem clsV1 (u : Ty1) : ClsV (tyV1 W u) (tyU1 W u) := by cases u <;> first | exact .ty _ | exact .own _
theorem clsVs : ∀ us : List Ty1, Paired ClsV (us.map (tyV1 W)) (us.map (tyU1 W))
  | [] => .nil
  | u :: us => .cons (clsV1 u) (clsVs us)
/-- a class's name -/
theorem pe_ty1 (G : Glb W T g) (tg : TcG tc g) (c : Ctx W k tc X) {x : Str} {u : Ty1} {pos : Pos} (h : tyOf1 tc x = some u) (hi : ∀ i, u = .cls i → (T.init i).isSome = true) : PE X (.Name x pos) (tC (tyV1 W u)) := by
  unfold tyOf1 at h
  split at h
  · rename_i hg
    obtain ⟨hg, hdb⟩ := hg
    have hg := gl_ok c hg
    have no : ∀ y ∈ bltNames, X.mg y = none := fun y hy => c.mg ▸ G.nob y hy
    split at h
    · rename_i e
      cases h; subst e
      exact pe_bltn hg (no _ (by decide +kernel)) (u := .type "int") (by kernel_rfl) rfl (by decide +kernel) (by decide +kernel)
    split at h
    · rename_i e
      cases h; subst e
      exact pe_bltn hg (no _ (by decide +kernel)) (u := .type "bool") (by kernel_rfl) rfl (by decide +kernel) (by decide +kernel)
    split at h
    · rename_i e
      cases h; subst e
      exact pe_bltn hg (no _ (by decide +kernel)) (u := .type "str") (by kernel_rfl) rfl (by decide +kernel) (by decide +kernel)
    split at h
    · rename_i e
      cases h; subst e
      exact pe_bltn hg (no _ (by decide +kernel)) (u := .type "tuple") (by kernel_rfl) rfl (by decide +kernel) (by decide +kernel)
    split at h
    · rename_i e
      cases h; subst e
      exact pe_bltn hg (no _ (by decide +kernel)) (u := .type "list") (by kernel_rfl) rfl (by decide +kernel) (by decide +kernel)
    · obtain ⟨i, e1, rfl⟩ := Option.map_eq_some_iff.mp h
      have e2 := ixOf_get e1
      rw [tg.cls] at e2
      exact pe_glob hg (u := .ref (W.ca i)) (c.mg ▸ G.cls i x e2 (hi i rfl)) rfl hdb
  · cases h
theorem pa_tys (G : Glb W T g) (tg : TcG tc g) (c : Ctx W k tc X) : ∀ {es : List Expr} {us : List Ty1}, tysOf tc es = some us → (∀ i, .cls i ∈ us → (T.init i).isSome = true) → PA X es fun σ H Q => Q (us.map (tyV1 W)) H
  | [], us, h, _ => by
    simp only [tysOf, Option.some.injEq] at h
    subst h
    exact pa_nil
  | e :: es, us, h, hi => by
    cases e with
    | Name x pos =>
      simp only [tysOf] at h
      split at h
      · rename_i u us' e1 e2
        cases h
        exact pa_cons (pe_ty1 G tg c e1 fun i e => hi i (e ▸ List.mem_cons_self ..)) (pa_tys G tg c e2 fun i hm => hi i (List.mem_cons_of_mem _ hm)) (starEach_one (by simp))
      · cases h
    | _ => simp [tysOf] at h
theorem isiOk_cls {t : Ty2} {us : List Ty1} (h : isiOk T t us = true) : (∀ c, t = .cl c → (T.init c).isSome = true) ∧ ∀ i, Ty1.cls i ∈ us → (T.init i).isSome = true := by
  unfold isiOk at h
  simp only [Bool.and_eq_true, List.all_eq_true] at h
  exact ⟨fun c e => by subst e; exact h.1, fun i hm => h.2 _ hm⟩
theorem pe_isiT' (hC : CMono C) (G : Glb W T g) (tg : TcG tc g) (c : Ctx W k tc X) {a : Expr} {a' : E} {ts : List Expr} {us : List Ty1} {kk : Nat} {p pos tpos : Pos} (hs : ∀ v p, a ≠ .Starred v p) (hg : Gl X "isinstance") (ha : PE X a (rdE W T C a')) (ht : tysOf tc ts = some us) (hz : us.length ≤ 100) :
    PE X (.Call (.Name "isinstance" p) [a, .Tuple ts kk tpos] [] pos) (rdE W T C (.isi a' us)) := by
  refine ⟨fun pins s σ H Q I ⟨st, M, ems, em, w⟩ => ?_⟩
  simp only [wpE] at w
  obtain ⟨ok0, w⟩ := w
  have hi := (isiOk_cls ok0).2
  have hpa := pa_cons ha (pa_cons (pe_tup (x1 := kk) (pos := tpos) (pa_tys G tg c ht hi)) pa_nil (starEach_one (by simp))) (starEach_one hs)
  have hm : X.mg "isinstance" = none := c.mg ▸ G.nob _ (by decide +kernel)
  refine (pe_callB (pos := pos) (p := p) call_isiT hg hm (by kernel_rfl) hpa (by decide +kernel) (by decide +kernel) (starEach_one hs) (star_any (es := [Expr.Tuple ts kk tpos]) fun e he => by
    rcases List.mem_cons.mp he with rfl | he
    · simp
    · cases he)).run pins s σ H Q I ?_
  refine one hC ems em w fun H1 M1 v x g1 em1 r w1 => ?_
  refine ⟨by rw [List.length_map, sizeLine_eq]; omega, fun tp htp => ?_⟩
  split at w1
  · rename_i t e
    obtain ⟨ok, q⟩ := w1
    refine ⟨x, tp, us.map (tyV1 W), tyVal W t, us.map (tyU1 W), us.any (isi1 t), rfl, upd_same, clsVs us, ?_, ?_, ?_⟩
    · rw [c.K]
      exact tyx_of G (em1.lay htp) e (RelP.grow (Grow.new htp) _ _ r) (isiOk_cls ok).1
    · rw [c.K]
      exact kitAny_of G (fun n hn => tyP_bi (hn ▸ e)) ok
    · exact q _ _ (g1.trans (Grow.new htp)) (em1.lay htp) rfl
  · exact w1.elim
theorem pe_isi1' (hC : CMono C) (G : Glb W T g) (tg : TcG tc g) (c : Ctx W k tc X) {a : Expr} {a' : E} {x : Str} {us : List Ty1} {p pos tpos : Pos} (hs : ∀ v p, a ≠ .Starred v p) (hg : Gl X "isinstance") (ha : PE X a (rdE W T C a')) (ht : tysOf tc [.Name x tpos] = some us) :
    PE X (.Call (.Name "isinstance" p) [a, .Name x tpos] [] pos) (rdE W T C (.isi a' us)) := by
  refine ⟨fun pins s σ H Q I ⟨st, M, ems, em, w⟩ => ?_⟩
  simp only [wpE] at w
  obtain ⟨ok0, w⟩ := w
  have hi := (isiOk_cls ok0).2
  simp only [tysOf] at ht
  split at ht
  · rename_i u us' e1 e2
    cases ht
    cases e2
    have hpa := pa_cons ha (pa_cons (pe_ty1 (pos := tpos) G tg c e1 fun i e => hi i (e ▸ List.mem_cons_self ..)) pa_nil (starEach_one (by simp))) (starEach_one hs)
    have hm : X.mg "isinstance" = none := c.mg ▸ G.nob _ (by decide +kernel)
    refine (pe_callB (pos := pos) (p := p) call_isi hg hm (by kernel_rfl) hpa (by decide +kernel) (by decide +kernel) (starEach_one hs) (star_any (es := [Expr.Name x tpos]) fun e he => by
      rcases List.mem_cons.mp he with rfl | he
      · simp
      · cases he)).run pins s σ H Q I ?_
    refine one hC ems em w fun H1 M1 v y g1 em1 r w1 => ?_
    split at w1
    · rename_i t e
      obtain ⟨ok, q⟩ := w1
      have ka := kitAny_of G (fun n hn => tyP_bi (hn ▸ e)) ok
      rw [List.map_cons, List.map_nil, PySem.W.kitAny] at ka
      have e3 := G.isi t u ok fun n hn => tyP_bi (hn ▸ e)
      refine ⟨y, tyV1 W u, tyVal W t, tyU1 W u, isi1 t u, rfl, clsV1 u, ?_, by rw [c.K]; exact e3, ?_⟩
      · rw [c.K]
        exact tyx_of G em1 e r (isiOk_cls ok).1
      · have := q _ _ g1 em1 rfl
        simpa using this
    · exact w1.elim
  · cases ht

/-! #### methods -/
/-- no call of super -/
def noSup : Expr → Bool
  | .Call (.Name id _) [] [] _ => !(id == ("super" : Str))
  | _ => true
theorem base_of {o : Expr} (h : noSup o = true) (f : Str) (env : Env) (w : Sem Value) : attributeBase o f env w = w := by
  unfold attributeBase
  split
  · rename_i id p pos
    simp only [noSup, Bool.not_eq_true', beq_eq_false_iff_ne] at h
    have : (id != ("super" : Str)) = true := by simpa using h
    simp only [this, Bool.true_or, if_true, bind_pure]
  · rfl
theorem wp_meth {o : Expr} {name : Str} {apos pos : Pos} {args : List Expr} {Q : Value → Shared → Prop} {E : Value → Shared → Prop} {A : Around} {env : Env} {P : Program} {w : World} (hs : noSup o = true) (hl : (apos.endLine == pos.line && decide (args.length < 30)) = true) (hp : Plain args)
    (h : wpAny (model P w) A (eval o env) (fun ov s1 => ∀ pl, wpAny (model P w) A (getMethod ov name pl) (fun fx s2 => wpAny (model P w) A (callWith pos fx.1 fx.2 (backTo pos (starEach args env)) (backToKw pos (keywordEach [] env))) Q E s2) E s1) E s) :
    wpAny (model P w) A (eval (.Call (.Attribute o name apos) args [] pos) env) Q E s := by
  rw [Bool.and_eq_true] at hl
  have few : methodCallForm (args.length + ([] : List Keyword).length) (backTo pos (starEach args env)) (backToKw pos (keywordEach [] env)) = true := by
    unfold methodCallForm
    rw [star_all hp]
    simpa [keywordEach, backToKw] using hl.2
  have hpos : methodCallPos true o env apos pos = pure pos := by
    unfold methodCallPos
    simp [hl.1]
  rw [arm_eval_Call, base_of hs]
  refine wpAny_bind (wpAny_mono h (fun ov s1 h1 => wpAny_bind (wpAny_standAt ?_)) fun _ _ x => x)
  unfold methodCall
  rw [few]
  exact wpAny_bind (wpAny_holding (wpAny_mono (h1 _) (fun fx s2 h2 => wpAny_bind (wpAny_of_eq hpos h2)) fun _ _ x => x))
theorem Flds.lookup {f : Str} : ∀ {fs : List (Str × PV)} {hs : List (Str × V)}, Flds W H fs hs → (fs.lookup f = none ∧ hs.lookup f = none) ∨ ∃ v x, fs.lookup f = some v ∧ hs.lookup f = some x ∧ RelP W H v x
  | _, _, .nil => .inl ⟨rfl, rfl⟩
  | _, _, .cons (f := f') (x := v) (v := x) r t => by
    rw [List.lookup_cons, List.lookup_cons]
    split
    · exact .inr ⟨v, x, rfl, rfl, r⟩
    · exact Flds.lookup t
theorem metOf_some {v : PV} {m : Str} {i : Nat} (h : metOf T M v m = some i) : ∃ a c fs, v = .ref a ∧ M a = some (.ins c fs) ∧ fs.lookup m = none ∧ T.meth c m = some i := by
  unfold metOf at h
  split at h
  · rename_i a
    split at h
    · rename_i c fs e
      split at h
      · rename_i hn
        exact ⟨a, c, fs, rfl, e, by simpa using hn, h⟩
      · cases h
    · cases h
  · cases h
/-- o.m(..) of an instance -/
theorem pe_omt' (hC : CMono C) (G : Glb W T g) (c : Ctx W k tc X) (F : ∀ i, (∀ vs M Q, ¬ C i vs M Q) ∨ FnF W C (2 * k) i) {o : Expr} {o' : E} {m : Str} {apos pos : Pos} {es : List Expr} {es' : Es} (hs : noSup o = true) (hl : (apos.endLine == pos.line && decide (es.length < 30)) = true) (hp : Plain es) (hn : es = [] → es' = .nil)
    (ho : PE X o (rdE W T C o')) (ha : PA X es (rdEs W T C es')) : PE X (.Call (.Attribute o m apos) es [] pos) (rdE W T C (.omt o' m es')) := by
  refine ⟨fun pins s σ H Q I ⟨st, M, ems, em, w⟩ => ?_⟩
  simp only [wpE] at w
  refine wp_meth hs hl hp (run1 hC ho I ems em w fun v s1 H1 M1 pv x I1 rx g1 em1 r q pl => ?_)
  split at q
  · rename_i i e
    obtain ⟨a, j, fs, rfl, hM, hlk, hT⟩ := metOf_some e
    obtain ⟨cl, me⟩ := G.meth j m i hT
    cases r
    cases rx
    obtain ⟨dx, hs', h1, fl⟩ := em1 a _ hM
    have l2 : hs'.lookup m = none := by
      rcases fl.lookup (f := m) with ⟨_, h⟩ | ⟨v, x, h, _⟩
      · exact h
      · rw [hlk] at h; cases h
    refine getmeth_ok I1 h1 (c.K ▸ cl) (c.K ▸ me) l2 ?_
    rcases F i with no | F
    · refine call_core (r := fun _ _ _ => False) (Q := Q) [.ref a] [.ref a] hp hn (c.K ▸ me.kp) (fun s H xs us I r q => q.elim) ha I1 ?_
      exact rdEs.to hC (ems.grow g1) em1 q fun H2 M2 v x g em2 r q => (no _ _ _ q).elim
    · refine call_core (r := fun xs H Q => rFn W C i (.ref a :: xs) H Q) (Q := Q) [.ref a] [.ref a] hp hn (c.K ▸ me.kp) (fun s H xs us I r q => call_fn' c F pins s σ H (.ref a :: xs) (.ref a :: us) Q I (.cons rfl r) q) ha I1 ?_
      exact rdEs.to hC (ems.grow g1) em1 q fun H2 M2 vs x g em2 r q => ⟨M2, .ref a :: vs, em2, RelPs.cons rfl r, hC _ _ _ _ _ (fun v M' z => z.up (g1.trans g)) q⟩
  · exact q.elim
/-- a list, a dict: what a built-in's method asks -/
theorem lst_ty (I : L2.Inv X pins σ H s) {a : Addr} {vs : List V} (h : H a = some (.lst vs)) : s.TypeIs (.ref a) "list" ∧ ∀ b, Value.ref a = .ref b → ∃ o, s.heap.get? b = some o ∧ o.dict = none := by
  obtain ⟨its, n, r, e⟩ := I.lst h
  exact ⟨⟨_, e.1, rfl⟩, fun b hb => by cases hb; exact ⟨_, e.1, rfl⟩⟩
theorem dct_ty (I : L2.Inv X pins σ H s) {a : Addr} {kvs : List (PV × PV)} (h : OkM W H a (.dct kvs)) : s.TypeIs (.ref a) "dict" ∧ ∀ b, Value.ref a = .ref b → ∃ o, s.heap.get? b = some o ∧ o.dict = none := by
  rcases h with ⟨ks, h1, en⟩ | ⟨xs, h1, hd, en⟩
  · obtain ⟨t1, t2, _⟩ := isD_at I (.inl ⟨ks, .inl h1⟩)
    exact ⟨t1, t2⟩
  · obtain ⟨⟨_, o, es, ep, q1, q2, q3, _⟩, _⟩ := I.hok a _ h1
    exact ⟨⟨o, q1, q2.1⟩, fun b hb => by cases hb; exact ⟨o, q1, q2.2.1⟩⟩
/-- the id of a method -/
def mthId : Mth → String
  | .append => "list.append"
  | .extend => "list.extend"
  | .pop => "list.pop"
  | .get => "dict.get"
  | .update => "dict.update"
def mthNm : Mth → Str
  | .append => "append"
  | .extend => "extend"
  | .pop => "pop"
  | .get => "get"
  | .update => "update"
theorem mth_get (I : L2.Inv X pins σ H s) (em : Emb W M H) {m : Mth} {v : PV} {x : V} {u : Value} {pl : Sem Bool} {Q : Value × List Value → Shared → Prop} (h : mthOn M m v = true) (r : RelP W H v x) (rx : RelV x u) (q : Q (.builtin (mthId m), [u]) s) : wpAny (model X.prog X.w) X.A (getMethod u (mthNm m) pl) Q X.xe s := by
  unfold mthOn at h
  split at h
  · rename_i a
    cases r
    cases rx
    split at h
    · rename_i zs hM
      obtain ⟨vs, h1, _⟩ := em a _ hM
      obtain ⟨t1, t2⟩ := lst_ty I h1
      exact getMethod_builtin t1 F.plainAttrs_list F.slot_list_append F.type_list_append t2 q
    · rename_i zs hM
      obtain ⟨vs, h1, _⟩ := em a _ hM
      obtain ⟨t1, t2⟩ := lst_ty I h1
      exact getMethod_builtin t1 F.plainAttrs_list F.slot_list_extend F.type_list_extend t2 q
    · rename_i zs hM
      obtain ⟨vs, h1, _⟩ := em a _ hM
      obtain ⟨t1, t2⟩ := lst_ty I h1
      exact getMethod_builtin t1 F.plainAttrs_list F.slot_list_pop F.type_list_pop t2 q
    · rename_i zs hM
      obtain ⟨t1, t2⟩ := dct_ty I (em a _ hM)
      exact getMethod_builtin t1 F.plainAttrs_dict F.slot_dict_get F.type_dict_get t2 q
    · cases h
  · cases h
theorem last_get {α : Type} (xs : List α) (v : α) (h : xs.getLast? = some v) : xs[xs.length - 1]? = some v := by rw [← List.getLast?_eq_getElem?]; exact h
theorem RelPs.dropLast {xs : List PV} {vs : List V} (h : RelPs W H xs vs) : RelPs W H xs.dropLast vs.dropLast := by
  rw [List.dropLast_eq_take, List.dropLast_eq_take, ← h.length]
  exact h.take _
theorem mth_run (G : Fit W X) (I : L2.Inv X pins σ H s) (em : Emb W M H) {m : Mth} {v : PV} {vs : List PV} {x : V} {xs : List V} {u : Value} {us : List Value} {H0 : Hp} {Q : VK} (g : Grow H0 H) (r : RelP W H v x) (rx : RelV x u) (rs : RelPs W H vs xs) (rxs : Vals xs us) (w : appR M m v vs (Aft W H0 Q)) :
    wpAny (model X.prog X.w) X.A (call (.builtin (mthId m)) (u :: us)) (EP X pins σ Q) X.xe s := by
  have hr := G.room
  unfold appR at w
  split at w
  · rename_i a
    split at w
    · rename_i zs v hM
      obtain ⟨ws, h1, q⟩ := em a _ hM
      obtain ⟨y, rfl, r1⟩ := rs.one
      have gg : Grow H (upd H a (.lst (ws ++ [y]))) := Grow.set h1 (fun _ z => nomatch z) fun _ _ z => nomatch z
      refine mt_append pins s σ H x _ u us Q I rx rxs ⟨a, ws, y, r, rfl, h1, by rw [← q.length]; exact w.1, ?_⟩
      exact w.2 _ _ (g.trans gg) (em.put gg ⟨_, upd_same, RelPs.append (RelPs.grow gg _ _ q) (RelPs.cons (RelP.grow gg _ _ r1) RelPs.nil)⟩) rfl
    · rename_i zs v hM
      split at w
      · rename_i ys e
        obtain ⟨ws, h1, q⟩ := em a _ hM
        obtain ⟨y, rfl, r1⟩ := rs.one
        obtain ⟨b, qs, _, ey, _, h2, q2⟩ := lsM_some e em r1
        subst ey
        have gg : Grow H (upd H a (.lst (ws ++ qs))) := Grow.set h1 (fun _ z => nomatch z) fun _ _ z => nomatch z
        refine mt_extend pins s σ H x _ u us Q I rx rxs ⟨a, b, ws, qs, r, rfl, h1, h2, by rw [← q.length, ← q2.length]; exact w.1, ?_⟩
        exact w.2 _ _ (g.trans gg) (em.put gg ⟨_, upd_same, RelPs.append (RelPs.grow gg _ _ q) (RelPs.grow gg _ _ q2)⟩) rfl
      · exact w.elim
    · rename_i zs hM
      split at w
      · rename_i v e
        obtain ⟨ws, h1, q⟩ := em a _ hM
        simp only [RelPs] at rs
        subst rs
        obtain ⟨y, e2, r1⟩ := q.get (last_get zs v e)
        have gg : Grow H (upd H a (.lst ws.dropLast)) := Grow.set h1 (fun _ z => nomatch z) fun _ _ z => nomatch z
        refine mt_pop pins s σ H x _ u us Q I rx rxs ⟨a, ws, y, r, rfl, h1, by rw [← q.length]; exact e2, ?_⟩
        exact w _ _ (g.trans gg) (em.put gg ⟨_, upd_same, RelPs.grow gg _ _ q.dropLast⟩) (RelP.grow gg _ _ r1)
      · exact w.elim
    · rename_i kvs kk hM
      obtain ⟨y, rfl, r1⟩ := rs.one
      obtain ⟨uy, rfl, rxy⟩ := vals1 rxs
      cases r
      cases rx
      rcases dct_look I G em hM w.1 r1 rxy with ⟨H1, qk, ks, I1, g1, em1, h1, rfl, _, hk, en, _⟩ | ⟨H1, xs, nk, q, I1, g1, em1, h1, hs, rfl, rfl, _, _, hk, is_, en, dd, hz⟩
      · refine d_get1 (A := X.A) (by omega) I1 (DGet.k h1) rxy fun w' s' I' r' => ⟨_, H1, I', r', ?_⟩
        rcases en.get hk with ⟨e1, e2⟩ | ⟨z, z', e1, e2, e3⟩
        · rw [e2]
          have w2 := w.2
          rw [e1] at w2
          exact w2 H1 _ (g.trans g1) em1 rfl
        · rw [e2]
          have w2 := w.2
          rw [e1] at w2
          exact w2 H1 _ (g.trans g1) em1 e3
      · refine get_keyed (kvs := pairsH xs) (room_nk G) is_ hs ⟨xs, dd, rfl⟩ ?_
        rw [valueAt_pairsH]
        have w2 := w.2
        rcases en.get hk with ⟨e1, e2⟩ | ⟨z, z', z'', e1, e2, e3, e4⟩
        · rw [e2]
          rw [e1] at w2
          exact ⟨.non, H1, I1.tok _, rfl, w2 H1 _ (g.trans g1) em1 rfl⟩
        · rw [e2]
          rw [e1] at w2
          exact ⟨z'', H1, I1.tok _, e4, w2 H1 _ (g.trans g1) em1 e3⟩
    · rename_i kvs kk dd0 hM
      obtain ⟨y, y2, rfl, r1, r2⟩ := rs.two
      obtain ⟨uy, uy2, rfl, rxy, rxy2⟩ := vals2 rxs
      cases r
      cases rx
      rcases dct_look I G em hM w.1 r1 rxy with ⟨H1, qk, ks, I1, g1, em1, h1, rfl, _, hk, en, _⟩ | ⟨H1, xs, nk, q, I1, g1, em1, h1, hs, rfl, rfl, _, _, hk, is_, en, dd, hz⟩
      · refine d_get2 (A := X.A) (by omega) I1 (DGet.k h1) rxy rxy2 fun w' s' I' r' => ⟨_, H1, I', r', ?_⟩
        rcases en.get hk with ⟨e1, e2⟩ | ⟨z, z', e1, e2, e3⟩
        · rw [e2]
          have w2 := w.2
          rw [e1] at w2
          exact w2 H1 _ (g.trans g1) em1 (RelP.grow g1 _ _ r2)
        · rw [e2]
          have w2 := w.2
          rw [e1] at w2
          exact w2 H1 _ (g.trans g1) em1 e3
      · refine getOr_keyed (kvs := pairsH xs) (room_nk G) is_ hs ⟨xs, dd, rfl⟩ ?_
        rw [valueAt_pairsH]
        have w2 := w.2
        rcases en.get hk with ⟨e1, e2⟩ | ⟨z, z', z'', e1, e2, e3, e4⟩
        · rw [e2]
          rw [e1] at w2
          exact ⟨y2, H1, I1.tok _, rxy2, w2 H1 _ (g.trans g1) em1 (RelP.grow g1 _ _ r2)⟩
        · rw [e2]
          rw [e1] at w2
          exact ⟨z'', H1, I1.tok _, e4, w2 H1 _ (g.trans g1) em1 e3⟩
    · exact w.elim
  · exact w.elim
theorem pe_mth' (hC : CMono C) (c : Ctx W k tc X) {o : Expr} {o' : E} {m : Mth} {apos pos : Pos} {es : List Expr} {es' : Es} (hs : noSup o = true) (hl : (apos.endLine == pos.line && decide (es.length < 30)) = true) (hp : Plain es) (hn : es = [] → es' = .nil)
    (ho : PE X o (rdE W T C o')) (ha : PA X es (rdEs W T C es')) : PE X (.Call (.Attribute o (mthNm m) apos) es [] pos) (rdE W T C (.mth m o' es')) := by
  refine ⟨fun pins s σ H Q I ⟨st, M, ems, em, w⟩ => ?_⟩
  simp only [wpE] at w
  refine wp_meth hs hl hp (run1 hC ho I ems em w fun v s1 H1 M1 pv x I1 rx g1 em1 r q pl => ?_)
  obtain ⟨q1, q2⟩ := q
  refine mth_get I1 em1 q1 r rx ?_
  cases es with
  | nil =>
    rw [hn rfl] at q2
    simp only [wpEs] at q2
    exact Calls.callWith_builtin rfl (PySem.evalArgs_none (mth_run c.fit I1 em1 g1 r rx RelPs.nil .nil q2))
  | cons e es =>
    have hA := ha.run pos pins s1 σ H1 (fun xs H2 => ∃ M2 vs, Grow H1 H2 ∧ Emb W M2 H2 ∧ RelPs W H2 vs xs ∧ appR M2 m pv vs (Aft W H Q)) I1 (oneEs hC (ems.grow g1) em1 q2 fun H2 M2 vs xs g2 em2 r2 w2 => ⟨M2, vs, g2, em2, r2, w2⟩)
    rw [starEach_one hp.head] at hA ⊢
    refine Calls.callWith_builtin (by show (false || (backTo pos (starEach es X.env)).any (·.1)) = false; rw [star_any hp.tail]; rfl) (Calls.evalArgs_plain ?_)
    exact thn hA fun us s2 ⟨xs, H2, I2, r2, M2, vs, g2, em2, rs, w2⟩ => mth_run c.fit I2 em2 (g1.trans g2) (RelP.grow g2 _ _ r) rx rs r2 w2

/-! #### attributes -/
theorem pe_fld' (hC : CMono C) (G : Glb W T g) (c : Ctx W k tc X) (F : ∀ i, (∀ vs M Q, ¬ C i vs M Q) ∨ FnF W C (2 * k) i) {o : Expr} {o' : E} {f : Str} {pos : Pos} (hs : noSup o = true) (ho : PE X o (rdE W T C o')) : PE X (.Attribute o f pos) (rdE W T C (.fld o' f)) := by
  refine ⟨fun pins s σ H Q I ⟨st, M, ems, em, w⟩ => ?_⟩
  simp only [wpE] at w
  refine attr_of (base_of hs _ _ _) (run1 hC ho I ems em w fun v s1 H1 M1 pv x I1 rx g1 em1 r q => ?_)
  unfold wpFld at q
  split at q
  · rename_i a
    cases r
    cases rx
    split at q
    · rename_i j fs hM
      obtain ⟨dx, hs', h1, fl⟩ := em1 a _ hM
      split at q
      · rename_i v e
        obtain ⟨cl, na⟩ := G.fld j f q.1
        rcases fl.lookup (f := f) with ⟨h, _⟩ | ⟨v', y, e1, e2, r1⟩
        · rw [e] at h; cases h
        · rw [e] at e1
          cases e1
          exact getattr_ok I1 h1 (c.K ▸ cl) (c.K ▸ na) e2 fun u s' I' r' => ⟨y, H1, I', r', q.2 H1 y g1 em1 r1⟩
      · rename_i e
        split at q
        · rename_i i e3
          obtain ⟨cl, p, hp⟩ := G.prop j f i e3
          rcases F i with no | F
          · exact (no _ _ _ q).elim
          · obtain ⟨fd, ps, F, b, kp⟩ := F.ex
            rw [← c.prog, ← c.w, ← c.K, ← c.mg, ← c.base] at F
            rw [← c.K] at b hp cl
            exact getprop_ok I1 h1 cl hp F c.room b .nil C8.pass0 (E := C8.E0) ⟨[.ref a], M1, RelPs.cons rfl RelPs.nil, em1, hC _ _ _ _ _ (fun v M' z => z.up g1) q⟩
        · exact q.elim
    · exact q.elim
  · exact q.elim

/-! #### dict displays -/
theorem pe_dct0' {pos : Pos} : PE X (.Dict [] [] pos) (rdE W T C (.dct .nil)) :=
  pe_dnewK.imp fun σ H Q ⟨st, M, es, em, w⟩ p hp => by
    simp only [wpE, wpEs, pairUp] at w
    have w1 := w p (em.fresh hp)
    have w2 := w1.2.2.2
    rw [mup_mup] at w2
    refine w2 _ _ (Grow.new hp) (em.new hp (.inl ⟨[], upd_same, .nil⟩)) rfl
end
end Ev
end

section
set_option maxHeartbeats 1000000
/-! EvQ: == and != by __eq__; a dict display of one pair. -/
namespace Ev
open PySem PySem.Spec PyProof.Rows L2
section
variable {W : Wd} {T : Tab} {C : CT} {X : Cx} {H H' : Hp} {M : MH} {pins : List (Addr × Obj)} {s : Shared} {σ : L2.St} {st : St} {k : Nat} {tc : TC} {g : Env1}
/-- what a call gives -/
def Gives (Q : Value → Shared → Prop) (E : Value → Shared → Prop) (r : Result) (s' : Shared) : Prop := match r with
  | .ok (.ret u) => Q u s'
  | .ok _ => False
  | .error e => E e s'
/-- a def called from within a built-in -/
theorem code_in (c : Ctx W k tc X) {A : Around} (hr : Room (2 * k) A) (hf : A.frames = X.A.frames) {i : Nat} (F : FnF W C (2 * k) i) {xs : List V} {us : List Value} {Q : VK} (I : L2.Inv X pins σ H s) (r : Vals xs us) (q : rFn W C i xs H Q) :
    codeAny (model X.prog X.w) A (.call (.ref (W.fa i)) ⟨us, []⟩) (Gives (EP X pins σ Q) X.xe) s := by
  obtain ⟨M, vs, em, rp, w⟩ := q
  obtain ⟨fd, ps, F, b, kp⟩ := F.ex
  rw [← c.prog, ← c.w, ← c.K, ← c.mg, ← c.base] at F
  rw [← c.K] at b
  have e0 : Env0 X.prog X.w X.K X.mg X.base A X.stack s H := by
    have e := I.env0
    exact ⟨hf.trans e.frames, e.mod, e.bs, e.bsz, e.funs, e.frf, e.hok, e.bare⟩
  have sp : spOf W C i xs H Q C8.E0 := ⟨vs, M, rp, em, w⟩
  have hl := F.len _ _ _ _ sp
  refine codeAny_mono (F.run A X.stack s H ⟨us, []⟩ us xs Q C8.E0 hr e0 (by
    have := b s us I.kIn (by rw [List.append_nil, ← r.length]; exact hl)
    rwa [List.append_nil] at this) r sp) fun r s' hq => ?_
  cases r with
  | error e => exact hq.elim
  | ok fl =>
    cases fl with
    | ret u => exact I.after hq
    | next => exact False.elim hq
    | brk => exact False.elim hq
    | cont => exact False.elim hq
theorem gives_call {P : Program} {w : World} {A : Around} {f : Value} {us : List Value} {Q : Value → Shared → Prop} {E : Value → Shared → Prop} (h : codeAny (model P w) A (.call f ⟨us, []⟩) (Gives Q E) s) : wpAny (model P w) A (call f us) Q E s := by
  refine wpAny_call (codeAny_mono h fun r s' hq => ?_)
  cases r with
  | error e => exact hq
  | ok fl => cases fl <;> exact hq
theorem insC_some {v : PV} {c : Nat} (h : insC M v = some c) : ∃ a fs, v = .ref a ∧ M a = some (.ins c fs) := by
  unfold insC at h
  split at h
  · rename_i a
    split at h
    · rename_i c' fs e
      cases h
      exact ⟨a, fs, rfl, e⟩
    · cases h
  · cases h
/-- a bound built-in of object on an instance -/
theorem bound_obj {M' : Model} {A : Around} {E : Value → Shared → Prop} {K : PySem.W.Frag} {x Ca : Addr} {ox : Obj} {od : Option Obj} {name : Str} {id : String} {args : List Value} {Q : Option Value → Shared → Prop} (KI : K.In s.heap) (J : PySem.W.InstAt s.heap x ox Ca od) (S : Slot "object" name id)
    (hs : PySem.W.findIn K (.ref Ca) name = some (some (.builtin id))) (h : wpAny M' A (call (.builtin id) (.ref x :: args)) (fun v => Q (some v)) E s) : wpAny M' A (callSpecialIfBound? (.ref x) name args) Q E s := by
  simp only [callSpecialIfBound?, bindSpecialIfBound?]
  refine wpAny_holding <| wpAny_bind <| wpAny_bind <| wpAny_bind <| J.type.here ((PySem.W.looks_findIn KI hs).here ?_)
  simp only [S.bind]
  refine wpAny_bind (wpAny_askSetting (wpAny_ite ?_))
  have last : wpAny M' A (call (.builtin id) ([.ref x] ++ args) >>= fun v => pure (some v)) Q E s := wpAny_bind (wpAny_mono h (fun _ _ q => wpAny_pure q) fun _ _ q => q)
  split
  · exact wpAny_bind (wpAny_pure (wpAny_pure last))
  · exact wpAny_tryCatch (wpAny_bind (wpAny_pure (wpAny_pure last)))
theorem own_ok (hC : CMono C) (G : Glb W T g) (c : Ctx W k tc X) (F : ∀ i, (∀ vs M Q, ¬ C i vs M Q) ∨ FnF W C (2 * k) i) : OwnQ W T C X := by
  intro op hop pins s σ H x y v u Q I rx ry ⟨M, a, b, j, i, ha, hb, he, em, ra, rb, w⟩
  obtain ⟨p, fs, rfl, hMa⟩ := insC_some ha
  obtain ⟨q, fs2, rfl, hMb⟩ := insC_some hb
  cases ra
  cases rb
  cases rx
  cases ry
  obtain ⟨dx, hs1, h1, _⟩ := em p _ hMa
  obtain ⟨dy, hs2, h2, _⟩ := em q _ hMb
  obtain ⟨f1, f2, f3, f4⟩ := G.eqm j i he
  rw [← c.K] at f1 f2 f3 f4
  rcases F i with no | F
  · exact (no _ _ _ w).elim
  obtain ⟨mA, J, _⟩ := ins_get I.hok h1
  obtain ⟨mB, J2, _⟩ := ins_get I.hok h2
  obtain ⟨od, J, _⟩ := J.look
  obtain ⟨od2, J2, _⟩ := J2.look
  obtain ⟨m, hF⟩ := I.fr
  have hu : X.A.units < cLine := by have := c.fit.room; omega
  have KI := I.kIn
  have rv : Vals [V.ref p, V.ref q] [Value.ref p, Value.ref q] := .cons rfl (.cons rfl .nil)
  have call : ∀ (A : Around), Room (2 * k) A → A.frames = X.A.frames → codeAny (model X.prog X.w) A (.call (.ref (W.fa i)) ⟨[.ref p, .ref q], []⟩) (Gives (fun v s' => ∃ b H', v = .bool b ∧ L2.Inv X pins σ H' s' ∧ Q (.bl (if trCop op = .eq then b else !b)) H') X.xe) s := fun A hA hf => by
    have post : rFn W C i [.ref p, .ref q] H fun v H' => ∃ b, v = .bl b ∧ Q (.bl (if trCop op = .eq then b else !b)) H' := by
      refine ⟨M, [.ref p, .ref q], em, RelPs.cons rfl (RelPs.cons rfl RelPs.nil), hC _ _ _ _ _ (fun v M' hz H' x g' em' r => ?_) w⟩
      obtain ⟨b, e, z⟩ := hz
      subst e
      simp only [RelP] at r
      exact ⟨b, r, z H' g' em'⟩
    refine codeAny_mono (code_in c hA hf F I rv post) fun r s' z => ?_
    cases r with
    | error e => exact z
    | ok fl =>
      cases fl with
      | ret v =>
        obtain ⟨x, H', I', r, b, e, z⟩ := z
        subst e
        cases r
        exact ⟨b, H', rfl, I', z⟩
      | _ => exact z
  cases op with
  | Eq =>
    refine PySem.W.cmp_K (op := .Eq) (tb := .ref (W.ca j)) hu hF I.ok.mod.kin J J2.type (by simp [PySem.W.notFirst]) f1 f2 ?_
    refine wpAny_mono (gives_call (call X.A (c.room.mono (Nat.le_succ _)) rfl)) (fun v s' hz => ?_) fun _ _ e => e
    obtain ⟨b, H', e, I', z⟩ := hz
    subst e
    exact ⟨.bl b, H', I', rfl, by simpa [trCop] using z⟩
  | NotEq =>
    show wpAny (model X.prog X.w) X.A (richCompare .NotEq (.ref p) (.ref q)) (EP X pins σ Q) X.xe s
    have one : wpAny (model X.prog X.w) X.A (tryCompare (.ref p) "__ne__" (.ref q)) (fun r s' => ∃ v, r = some v ∧ EP X pins σ Q v s') X.xe s := by
      unfold tryCompare
      refine wpAny_bind (bound_obj KI J PySem.F.cmp_object.ne f3 ?_)
      have inst : PySem.W.Looks (model X.prog X.w) s.heap (isInstance (.ref p) (.type "object")) true := J.type.andThen (PySem.W.looks_subIn KI f4)
      refine wpAny_call (codeAny_call_builtin PySem.F.cmp_object.ne.plain PySem.F.cmpEntry_ne (PySem.W.check_slot PySem.F.cmpKind_ne PySem.F.cmpSplit_ne inst (PySem.F.cmpArgs_ne _ _) ?_))
      have hu1 : X.A.in1.units < cLine := by
        have := c.room.in1.un
        omega
      have inner := call X.A.in1 c.room.in1 rfl
      unfold Builtin.«object.__ne__»
      repeat (first
        | with_reducible refine wpAny_cRoomFor hu1 ?_
        | with_reducible refine PySem.W.ifBound_K KI J f1 f2 ?_
        | wp_step)
      refine codeAny_mono inner fun r s' hz => ?_
      cases r with
      | error e => exact hz
      | ok fl =>
        cases fl with
        | ret v =>
          obtain ⟨b, H', e, I', z⟩ := hz
          subst e
          refine wpAny_bind (wpAny_truthy_bool (wpAny_pure ?_))
          refine wpAny_pure ⟨_, rfl, .bl !b, H', I', rfl, ?_⟩
          simpa [trCop] using z
        | _ => exact hz
    unfold richCompare
    simp only [oneThing_ref]
    refine wpAny_holding <| wpAny_bind <| wpAny_cRoomFor hu ?_
    refine wpAny_bind <| J.type.here <| wpAny_bind <| J2.type.here ?_
    rw [if_neg (by simp)]
    refine wpAny_bind <| wpAny_pure ?_
    simp only [Bool.false_eq_true, if_false]
    refine wpAny_bind (wpAny_mono one (fun r s' hz => ?_) fun _ _ e => e)
    obtain ⟨v, rfl, hz⟩ := hz
    exact wpAny_pure hz
  | _ => simp [trCop, isEq] at hop
/-- {k: v}, the key a tuple -/
theorem pe_dct1' (hC : CMono C) (c : Ctx W k tc X) {ke ve : Expr} {k' v' : E} {pos : Pos} (hk : PE X ke (rdE W T C k')) (hv : PE X ve (rdE W T C v')) : PE X (.Dict [some ke] [ve] pos) (rdE W T C (.dct (.cons k' (.cons v' .nil)))) := by
  refine ⟨fun pins s σ H Q I ⟨st, M, ems, em, w⟩ => ?_⟩
  simp only [wpE] at w
  have hp : H s.heap.objs.size = none := I.hok.fresh (Nat.le_refl _)
  have hm : (s.heap.objs.size == sysModules) = false := beq_eq_false_iff_ne.mpr (Nat.ne_of_gt I.big)
  have at0 : (s.heap.push { cls := .type "dict", data := .dict #[] }).get? s.heap.objs.size = some { cls := .type "dict", data := .dict #[] } := Heap.get?_push_size _ rfl
  have new0 : ObjOk X.prog X.w (upd H s.heap.objs.size (DicT W s.heap.objs.size [])) (s.heap.push { cls := .type "dict", data := .dict #[] }) s.heap.objs.size (DicT W s.heap.objs.size []) :=
    DicT.ok (o := { cls := .type "dict", data := .dict #[] }) (es := #[]) (ep := 0) c.fit (Nat.zero_le _) at0 ⟨rfl, rfl, rfl⟩ rfl (by simp) List.nodup_nil
  have I0 : L2.Inv X pins σ (upd H s.heap.objs.size (DicT W s.heap.objs.size [])) { s with heap := s.heap.push { cls := .type "dict", data := .dict #[] } } :=
    I.laid (t' := s.toks) (fun _ _ q => Heap.get?_push_of_some _ q) (Nat.le_refl _) new0
  have g0 : Grow H (upd H s.heap.objs.size (DicT W s.heap.objs.size [])) := Grow.new hp
  have em0 : Emb W (mup M s.heap.objs.size (.dct [])) (upd H s.heap.objs.size (DicT W s.heap.objs.size [])) := em.new hp (.inr ⟨[], upd_same, hm, .nil⟩)
  have w := w s.heap.objs.size (em.fresh hp)
  simp only [wpEs] at w
  have room : (nestedKind X.prog X.w).room X.A := by
    have := c.fit.room
    show X.A.units + 8 < cLine
    omega
  rw [arm_eval_Dict]
  refine wpAny_bind <| wpAny_standAt ?_
  show wpAny _ _ (dictDisplay ((pairTrees [some ke] [ve] X.env pos).map fun p => (some p.1, p.2))) _ _ _
  rw [dictDisplay_pairs _ (by simp [pairTrees]) (by simp [pairTrees])]
  refine wpAny_bind ?_
  refine wpAny_subDictH (knd := nestedKind X.prog X.w) (Q := fun d s' => wpAny (model X.prog X.w) X.A (pure (Value.ref d)) (EP X pins σ Q) X.xe s') room (by simp [pairTrees]) ?_
  refine pairTrees_cons_walk ?_
  refine run1 hC hk I0 (ems.grow g0) em0 w fun kv s1 H1 M1 pk xk I1 rk g1 em1 r1 w1 => ?_
  refine run1 hC hv I1 ((ems.grow g0).grow g1) em1 w1 fun vv s2 H2 M2 pv xv I2 rv g2 em2 r2 w2 => pairTrees_nil_walk ?_
  obtain ⟨hMp, w2⟩ := w2
  simp only [pairUp, Option.map_some] at w2
  obtain ⟨ok, _, w2⟩ := w2
  simp only [List.all_cons, List.all_nil, Bool.and_true, Bool.and_eq_true] at ok
  obtain ⟨H3, xs, I3, g3, em3, h3, en, _⟩ := Inv.dctT I2 c.fit em2 hMp (by simp)
  cases en
  obtain ⟨nk, b, e1, rfl, rfl, e3⟩ := key_is I3 c.fit ok.1 ok.2 (RelP.grow (g2.trans g3) _ _ r1) rk
  obtain ⟨dd, _⟩ := EntT.dict I3 c.fit h3 (.nil)
  refine ⟨[(nk, b, vv)], ⟨rfl, rfl, e3, trivial⟩, dd, fun h' tk dd' hs => wpAny_pure ?_⟩
  obtain ⟨o, es, ep, q1, q2, q3, q4, _, q5⟩ := dd'
  have gg : Grow H3 (upd H3 s.heap.objs.size (DicT W s.heap.objs.size [(nk, b, vv)])) := Grow.set h3 (fun _ z => nomatch z) fun _ _ z => nomatch z
  have I4 : L2.Inv X pins σ (upd H3 s.heap.objs.size (DicT W s.heap.objs.size [(nk, b, vv)])) { s2 with heap := h', toks := tk } :=
    d_write I3 (by rw [h3]; exact True.intro) hs ⟨o, q1⟩ (DicT.ok c.fit (by rw [sizeLine_eq]; simp) q1 q2 q3 q4 q5)
  refine ⟨.ref s.heap.objs.size, _, I4, rfl, ?_⟩
  refine w2 _ _ (((g0.trans g1).trans g2).trans (g3.trans gg)) (em3.put gg (.inr ⟨_, upd_same, hm, ?_⟩)) rfl
  exact .cons ok.1 ok.2 e1 (RelP.grow ((g2.trans g3).trans gg) _ _ r1) (RelP.grow (g3.trans gg) _ _ r2) rv .nil
end
end Ev
end

section
/-! EvR: targets, statements. -/
namespace Ev
open PySem PySem.Spec PyProof.Rows L2
/-- what is wanted of states and heaps -/
def AftS (W : Wd) (H : Hp) (Q : L2.St → Hp → Prop) : St → MH → Prop := fun st M => ∀ H' σ, Grow H H' → EmbS W H' st σ → Emb W M H' → Q σ H'
def rdG (W : Wd) (T : Tab) (C : CT) (t : Tg) : TG := fun x σ H Q => ∃ v st M, RelP W H v x ∧ EmbS W H st σ ∧ Emb W M H ∧ wpTg T C t v st M (AftS W H Q)
def rdGs (W : Wd) (T : Tab) (C : CT) (t : Tgs) : TGs := fun xs σ H Q => ∃ vs st M, RelPs W H vs xs ∧ EmbS W H st σ ∧ Emb W M H ∧ wpTgs T C t vs st M (AftS W H Q)
/-- the ends of a statement: the layer's, the library's -/
structure EndsR (W : Wd) (H : Hp) (D : Ends) (L : L2.Ends) : Prop where
  nx : ∀ st M, D.nx st M → AftS W H L.nx st M
  rt : ∀ v M, D.rt v M → Aft W H L.rt v M
  bk : ∀ st M, D.bk st M → AftS W H L.bk st M
  ct : ∀ st M, D.ct st M → AftS W H L.ct st M
def rdS (W : Wd) (T : Tab) (C : CT) (s : S) : TS := fun L σ H => ∃ D st M, EmbS W H st σ ∧ Emb W M H ∧ EndsR W H D L ∧ wpS T C s D st M
def rdSs (W : Wd) (T : Tab) (C : CT) (s : Ss) : TS := fun L σ H => ∃ D st M, EmbS W H st σ ∧ Emb W M H ∧ EndsR W H D L ∧ wpSs T C s D st M
section
variable {W : Wd} {T : Tab} {C : CT} {X : Cx} {H H' : Hp} {M : MH} {pins : List (Addr × Obj)} {s : Shared} {σ : L2.St} {st : St} {k : Nat} {tc : TC} {g : Env1}
theorem AftS.up {Q : L2.St → Hp → Prop} {H0 : Hp} (g : Grow H0 H) (h : AftS W H0 Q st M) : AftS W H Q st M := fun H' σ g' es em => h H' σ (g.trans g') es em
theorem EndsR.up {D : Ends} {L : L2.Ends} {H0 : Hp} (g : Grow H0 H) (h : EndsR W H0 D L) : EndsR W H D L := ⟨fun st M q => (h.nx st M q).up g, fun v M q => (h.rt v M q).up g, fun st M q => (h.bk st M q).up g, fun st M q => (h.ct st M q).up g⟩
theorem _root_.L2.PG.imp {e : Expr} {t t' : TG} (h : PG X e t) (k : ∀ x σ H Q, t' x σ H Q → t x σ H Q) : PG X e t' := ⟨fun pins s σ H v u Q I r q => h.run pins s σ H v u Q I r (k _ _ _ _ q)⟩
theorem _root_.L2.PGs.imp {e : List Expr} {t t' : TGs} (h : PGs X e t) (k : ∀ x σ H Q, t' x σ H Q → t x σ H Q) : PGs X e t' := ⟨fun pins s σ H v u Q I r q => h.run pins s σ H v u Q I r (k _ _ _ _ q)⟩

/-! #### targets -/
theorem pg_nm' (c : Ctx W k tc X) {i : Nat} {x : Str} {pos : Pos} (hi : X.N[i]? = some x) (hs : tc.sto x = true) : PG X (.Name x pos) (rdG W T C (.nm i)) := by
  obtain ⟨h1, h2⟩ := sto_ok c hs
  refine (pg_name (by rw [c.N]; exact c.nd) hi h1 h2).imp fun x σ H Q ⟨v, st, M, r, es, em, w⟩ => ?_
  simp only [wpTg] at w
  exact w H _ (Grow.refl _) (es.set r i) em
theorem pgs_nil' : PGs X [] (rdGs W T C .nil) := pgs_nil.imp fun xs σ H Q ⟨vs, st, M, r, es, em, w⟩ => by
  simp only [wpTgs] at w
  obtain ⟨rfl, w⟩ := w
  simp only [RelPs] at r
  exact ⟨r, w H _ (Grow.refl _) es em⟩
theorem assignEach_one {e : Expr} {r : List Expr} {env : Env} (h : ∀ v p, e ≠ .Starred v p) : assignEach (e :: r) env = (false, assign e env) :: assignEach r env := by
  cases e <;> first
    | rfl
    | exact absurd rfl (h _ _)
theorem pgs_cons' (hC : CMono C) {e : Expr} {es : List Expr} {t : Tg} {ts : Tgs} (hs : ∀ v p, e ≠ .Starred v p) (h1 : PG X e (rdG W T C t)) (h2 : PGs X es (rdGs W T C ts)) : PGs X (e :: es) (rdGs W T C (.cons t ts)) :=
  (pgs_cons h1 h2 (by rw [assignEach_one hs]; rfl)).imp fun xs σ H Q ⟨vs, st, M, r, es, em, w⟩ => by
    simp only [wpTgs] at w
    split at w
    · rename_i v vs
      simp only [RelPs] at r
      obtain ⟨x, ys, e, r1, r2⟩ := r
      refine ⟨x, ys, e, v, st, M, r1, es, em, wpTg_mono hC t _ _ _ _ _ (fun st1 M1 w1 H1 σ1 g1 es1 em1 => ?_) w⟩
      exact ⟨vs, st1, M1, RelPs.grow g1 _ _ r2, es1, em1, wpTgs_mono hC ts _ _ _ _ _ (fun _ _ z => z.up g1) w1⟩
    · exact w.elim
theorem pg_tup' (c : Ctx W k tc X) {es : List Expr} {kk : Nat} {pos : Pos} {ts : Tgs} (hp : Plain es) (hl : es.length = ts.len) (h : PGs X es (rdGs W T C ts)) : PG X (.Tuple es kk pos) (rdG W T C (.tup ts)) := by
  have hn : assignEach es X.env = es.map fun e => (false, assign e X.env) := by
    clear hl h
    induction es with
    | nil => rfl
    | cons e es ih => rw [assignEach_one hp.head, ih hp.tail, List.map_cons]
  have hidx : (assignEach es X.env).findIdx? (·.1) = none := by
    rw [hn, List.findIdx?_eq_none_iff]
    intro x hx
    obtain ⟨e, _, rfl⟩ := List.mem_map.mp hx
    rfl
  refine (pg_tup c.calm h (n := ts.len) (by rw [hn, List.length_map, hl]) hidx).imp fun x σ H Q ⟨v, st, M, r, es, em, w⟩ => ?_
  simp only [wpTg] at w
  split at w
  · rename_i xs
    simp only [RelP] at r
    obtain ⟨a, vs, e, sq, rs⟩ := r
    exact ⟨a, vs, e, c.K ▸ sq, by rw [← rs.length]; exact w.1, xs, st, M, rs, es, em, w.2⟩
  · exact w.elim
/-- o[i] = v by values -/
def rSt (W : Wd) : TSet := fun o i v H Q => ∃ M po pi pv, Emb W M H ∧ RelP W H po o ∧ RelP W H pi i ∧ RelP W H pv v ∧ setR M po pi pv fun M' => ∀ H', Grow H H' → Emb W M' H' → Q H'
theorem set_all (G : Fit W X) : PSet X (rSt W) := by
  intro pins s σ H o i v ov iv u Q I ro ri rv ⟨M, po, pi, pv, em, r1, r2, r3, w⟩
  have hr := G.room
  unfold setR at w
  split at w
  · rename_i a
    cases r1
    cases ro
    split at w
    · rename_i xs hM
      split at w
      · rename_i j
        simp only [RelP] at r2
        subst r2
        obtain ⟨vs, h1, rs⟩ := em a _ hM
        have gg : Grow H (upd H a (.lst (vs.set j.toNat v))) := Grow.set h1 (fun _ z => nomatch z) fun _ _ z => nomatch z
        refine set_list pins s σ H (.ref a) (.int j) v _ iv u Q I rfl ri rv ⟨a, vs, j, j.toNat, rfl, rfl, h1, ?_, ?_⟩
        · unfold ixN
          rw [if_pos w.1.1, if_pos (by rw [← rs.length]; exact w.1.2)]
        · exact w.2 _ gg (em.put gg ⟨_, upd_same, RelPs.set _ (RelPs.grow gg _ _ rs) (RelP.grow gg _ _ r3)⟩)
      · exact w.elim
    · rename_i kvs hM
      obtain ⟨hf, hl, w⟩ := w
      rcases dct_look I G em hM hf r2 ri with ⟨H1, qk, ks, I1, g, em1, h1, rfl, _, hk, en, nd⟩ | ⟨H1, xs, nk, q, I1, g, em1, h1, hs, rfl, rfl, ht, hko, hk, is_, en, dd, hz⟩
      · have gg : Grow H1 (upd H1 a (.dK (putK ks qk v))) := Grow.set h1 (fun _ z => nomatch z) fun _ _ z => nomatch z
        refine d_setItem (A := X.A) (by omega) I1 (DPut.k h1 (by rw [← en.length]; exact hl)) ri rv fun s' I' => ⟨_, I', w _ (g.trans gg) (em1.put gg (.inl ⟨_, upd_same, ?_⟩))⟩
        exact EntK.grow gg (en.put hk (RelP.grow g _ _ r3) nd)
      · refine wpAny_setItem_heap (hsz := hz) (room_nk G) is_ dd fun h' dd' hs' => ?_
        obtain ⟨o, es, ep, q1, q2, q3, q4, _, q5⟩ := dd'
        have gg : Grow H1 (upd H1 a (DicT W a (storedH xs nk q u))) := Grow.set h1 (fun _ z => nomatch z) fun _ _ z => nomatch z
        have hz' : (storedH xs nk q u).length ≤ sizeLine := by
          have := storedH_len xs nk q u
          have := en.length
          omega
        have I2 := d_write (t' := s.toks + (nestedKind X.prog X.w).draws nk) I1 (by rw [h1]; exact True.intro) hs' ⟨o, q1⟩ (DicT.ok (W := W) (H := upd H1 a (DicT W a (storedH xs nk q u))) G hz' q1 q2 q3 q4 q5)
        refine ⟨_, I2, w _ (g.trans gg) (em1.put gg (.inr ⟨_, upd_same, hs, ?_⟩))⟩
        obtain ⟨_, _, _, _, _, q6⟩ : s.heap.DictOfH (nestedKind X.prog X.w) a xs := dd
        exact EntT.grow gg (en.put ht hko hk (RelP.grow g _ _ r2) (RelP.grow g _ _ r3) rv q6.2.2.2)
    · exact w.elim
  · exact w.elim
theorem pg_idx' (hC : CMono C) (c : Ctx W k tc X) {o i : Expr} {o' i' : E} {pos : Pos} (hn : ∀ (l u : Option Expr) (p : Pos), i ≠ .Slice l u none p) (ho : PE X o (rdE W T C o')) (hi : PE X i (rdE W T C i')) : PG X (.Subscript o i pos) (rdG W T C (.idx o' i')) := by
  refine (pg_sub ho hi (set_all c.fit) (fun v => by
    unfold assign
    split
    · rename_i l u p
      exact absurd rfl (hn l u p)
    · rfl)).imp fun x σ H Q ⟨v, st, M, r, es, em, w⟩ => ?_
  simp only [wpTg] at w
  refine one hC es em w fun H1 M1 po o g1 em1 r1 w1 => one hC (es.grow g1) em1 w1 fun H2 M2 pi i g2 em2 r2 w2 => ?_
  exact ⟨M2, po, pi, v, em2, RelP.grow g2 _ _ r1, r2, RelP.grow (g1.trans g2) _ _ r, setR_mono (fun M3 q H3 g3 em3 => q H3 _ ((g1.trans g2).trans g3) (((es.grow g1).grow g2).grow g3) em3) w2⟩
theorem Flds.length : ∀ {fs : List (Str × PV)} {hs : List (Str × V)}, Flds W H fs hs → fs.length = hs.length
  | _, _, .nil => rfl
  | _, _, .cons _ t => by simp [Flds.length t]
theorem Flds.put {f : Str} {v : PV} {x : V} (r : RelP W H v x) : ∀ {fs : List (Str × PV)} {hs : List (Str × V)}, Flds W H fs hs → Flds W H (pput f v fs) (putF f x hs)
  | _, _, .nil => .cons r .nil
  | _, _, .cons (f := f') q t => by
    by_cases e : f' = f
    · simp only [pput, putF, e, if_true]
      exact .cons r t
    · simp only [pput, putF, e, if_false]
      exact .cons q (Flds.put r t)
theorem pg_fld' (hC : CMono C) (G : Glb W T g) (c : Ctx W k tc X) {o : Expr} {o' : E} {f : Str} {pos : Pos} (ho : PE X o (rdE W T C o')) : PG X (.Attribute o f pos) (rdG W T C (.fld o' f)) := by
  refine ⟨fun pins s σ H x u Q I rx ⟨v, st, M, r, es, em, w⟩ => ?_⟩
  simp only [wpTg] at w
  show wpAny _ _ (do
    let ov ← holding [u] (eval o X.env)
    standAt pos.atName
    holding [u, ov] (setAttr ov f u)
    release [u, ov] []) _ _ _
  refine wpAny_bind (wpAny_holding (run1 hC ho I es em w fun ov s1 H1 M1 po ox I1 ro g1 em1 r1 w1 => ?_))
  split at w1
  · rename_i p
    cases r1
    cases ro
    split at w1
    · rename_i j fs hM
      obtain ⟨dx, hs, h1, fl⟩ := em1 p _ hM
      obtain ⟨cl, na⟩ := G.fld j f w1.1
      refine wpAny_bind (wpAny_standAt (wpAny_bind (wpAny_holding (setattr_ok I1 h1 (c.K ▸ cl) (c.K ▸ na) (by rw [← fl.length]; have := w1.2.1; omega) rx fun s2 I2 => wpAny_release ?_))))
      have gg : Grow H1 (upd H1 p (.ins (W.ca j) dx (putF f x hs))) := Grow.set h1 (fun _ z => nomatch z) fun _ _ z => nomatch z
      exact ⟨σ, _, I2, w1.2.2 _ _ (g1.trans gg) ((es.grow g1).grow gg) (em1.put gg ⟨dx, _, upd_same, Flds.put (RelP.grow (g1.trans gg) _ _ r) (fl.grow gg)⟩)⟩
    · exact w1.elim
  · exact w1.elim

/-! #### statements -/
theorem pss_nil' : PSs X [] (rdSs W T C .nil) := pss_nil.imp fun L σ H ⟨D, st, M, es, em, e, w⟩ => by
  simp only [wpSs] at w
  exact e.nx _ _ w H _ (Grow.refl _) es em
theorem pss_cons' {s : Stmt} {r : List Stmt} {s' : S} {r' : Ss} (h1 : PS X s (rdS W T C s')) (h2 : PSs X r (rdSs W T C r')) : PSs X (s :: r) (rdSs W T C (.cons s' r')) :=
  (pss_cons h1 h2).imp fun L σ H ⟨D, st, M, es, em, e, w⟩ => by
    simp only [wpSs] at w
    exact ⟨{ D with nx := wpSs T C r' D }, st, M, es, em, ⟨fun st1 M1 q H1 σ1 g1 es1 em1 => ⟨D, st1, M1, es1, em1, e.up g1, q⟩, e.rt, e.bk, e.ct⟩, w⟩
theorem ps_pas' {pos : Pos} : PS X (.Pass pos) (rdS W T C .pas) := ps_pass.imp fun L σ H ⟨D, st, M, es, em, e, w⟩ => by
  simp only [wpS] at w
  exact e.nx _ _ w H _ (Grow.refl _) es em
theorem ps_doc' {x j pos pos'} : PS X (.Expr (.Constant (.str x) j pos) pos') (rdS W T C .pas) := ps_doc.imp fun L σ H ⟨D, st, M, es, em, e, w⟩ => by
  simp only [wpS] at w
  exact e.nx _ _ w H _ (Grow.refl _) es em
theorem ps_brk' {pos : Pos} : PS X (.Break pos) (rdS W T C .brk) := ps_break.imp fun L σ H ⟨D, st, M, es, em, e, w⟩ => by
  simp only [wpS] at w
  exact e.bk _ _ w H _ (Grow.refl _) es em
theorem ps_cnt' {pos : Pos} : PS X (.Continue pos) (rdS W T C .cnt) := ps_continue.imp fun L σ H ⟨D, st, M, es, em, e, w⟩ => by
  simp only [wpS] at w
  exact e.ct _ _ w H _ (Grow.refl _) es em
theorem ps_rai' {s : Stmt} : PS X s (rdS W T C .rai) := ps_never.imp fun L σ H ⟨D, st, M, es, em, e, w⟩ => by
  simp only [wpS] at w
theorem ps_exp' (hC : CMono C) {e : Expr} {e' : E} {pos : Pos} (he : PE X e (rdE W T C e')) (hs : swapsWith e none pos.line X.env = pure false) : PS X (.Expr e pos) (rdS W T C (.exp e')) :=
  (ps_expr he hs).imp fun L σ H ⟨D, st, M, es, em, ed, w⟩ => by
    simp only [wpS] at w
    exact one hC es em w fun H1 M1 v x g1 em1 r q => ed.nx _ _ q H1 _ g1 (es.grow g1) em1
theorem ps_ret' (hC : CMono C) {e : Expr} {e' : E} {pos : Pos} (he : PE X e (rdE W T C e')) : PS X (.Return (some e) pos) (rdS W T C (.ret e')) :=
  (ps_ret he).imp fun L σ H ⟨D, st, M, es, em, ed, w⟩ => by
    simp only [wpS] at w
    exact one hC es em w fun H1 M1 v x g1 em1 r q => ed.rt _ _ q H1 _ g1 em1 r
theorem ps_retn' {pos : Pos} : PS X (.Return none pos) (rdS W T C .retn) := ps_retN.imp fun L σ H ⟨D, st, M, es, em, e, w⟩ => by
  simp only [wpS] at w
  exact e.rt _ _ w H _ (Grow.refl _) em rfl
theorem ps_ifs' (hC : CMono C) {t : Expr} {a b : List Stmt} {t' : E} {a' b' : Ss} {pos : Pos} (ht : PT X t (rdT W T C t')) (ha : PSs X a (rdSs W T C a')) (hb : PSs X b (rdSs W T C b')) : PS X (.If t a b pos) (rdS W T C (.ifs t' a' b')) :=
  (ps_if ht ha hb).imp fun L σ H ⟨D, st, M, es, em, ed, w⟩ => by
    simp only [wpS] at w
    refine ⟨st, M, es, em, wpE_mono hC t' _ _ _ _ (fun v M1 q => ?_) w⟩
    split at q
    · rename_i e
      exact ⟨true, e, fun H' g em' => ift ⟨D, st, M1, es.grow g, em', ed.up g, q⟩⟩
    · rename_i e
      exact ⟨false, e, fun H' g em' => iff' ⟨D, st, M1, es.grow g, em', ed.up g, q⟩⟩
    · exact q.elim
theorem ps_asg' (hC : CMono C) {t e : Expr} {t' : Tg} {e' : E} {pos : Pos} (he : PE X e (rdE W T C e')) (hg : PG X t (rdG W T C t')) (hst : ∀ v p, t ≠ .Starred v p) (hs : swapsWithSole [t] e pos.line X.env = pure false) (hw : swappedStores [t] e X.env = pure none) : PS X (.Assign [t] e pos) (rdS W T C (.asg t' e')) :=
  (ps_asg he hg hs hw (by rw [assignEach_one hst]; rfl)).imp fun L σ H ⟨D, st, M, es, em, ed, w⟩ => by
    simp only [wpS] at w
    refine one hC es em w fun H1 M1 v x g1 em1 r q => ⟨v, st, M1, r, es.grow g1, em1, wpTg_mono hC t' _ _ _ _ _ (fun st2 M2 z => (ed.nx _ _ z).up g1) q⟩
theorem ps_whl' (hC : CMono C) (c : Ctx W k tc X) {t : Expr} {b : List Stmt} {t' : E} {b' : Ss} {pos : Pos} (ht : PT X t (rdT W T C t')) (hb : PSs X b (rdSs W T C b')) : PS X (.While t b [] pos) (rdS W T C (.whl t' b')) :=
  (ps_while (by rw [c.xe]; exact .never) ht hb).imp fun L σ H ⟨D, st, M, es, em, ed, w⟩ => by
    simp only [wpS] at w
    obtain ⟨n, w⟩ := w
    refine ⟨fun m σ1 H1 => ∃ st1 M1, Grow H H1 ∧ EmbS W H1 st1 σ1 ∧ Emb W M1 H1 ∧ whN (wpE T C t') (wpSs T C b') D m st1 M1, ⟨n, st, M, Grow.refl _, es, em, w⟩, ?_⟩
    rintro m σ1 H1 ⟨st1, M1, g1, es1, em1, w1⟩
    cases m with
    | zero => exact w1.elim
    | succ m =>
      simp only [whN] at w1
      refine ⟨st1, M1, es1, em1, wpE_mono hC t' _ _ _ _ (fun v M2 q => ?_) w1⟩
      split at q
      · rename_i e
        refine ⟨true, e, fun H2 g2 em2 => ift ⟨fun σ' H' => ∃ st' M', Grow H H' ∧ EmbS W H' st' σ' ∧ Emb W M' H' ∧ whN (wpE T C t') (wpSs T C b') D m st' M', fun σ' H' h => ⟨m, Nat.lt_succ_self m, h⟩, ?_⟩⟩
        have nx : ∀ st' M', whN (wpE T C t') (wpSs T C b') D m st' M' → AftS W H2 (fun σ' H' => ∃ st' M', Grow H H' ∧ EmbS W H' st' σ' ∧ Emb W M' H' ∧ whN (wpE T C t') (wpSs T C b') D m st' M') st' M' := fun st' M' z H3 σ3 g3 es3 em3 => ⟨st', M', (g1.trans g2).trans g3, es3, em3, z⟩
        exact ⟨{ D with nx := whN (wpE T C t') (wpSs T C b') D m, ct := whN (wpE T C t') (wpSs T C b') D m, bk := D.nx }, st1, M2, es1.grow g2, em2, ⟨nx, fun v M' z => (ed.rt v M' z).up (g1.trans g2), fun st' M' z => (ed.nx st' M' z).up (g1.trans g2), nx⟩, q⟩
      · rename_i e
        exact ⟨false, e, fun H2 g2 em2 => iff' (ed.nx _ _ q H2 _ (g1.trans g2) (es1.grow g2) em2)⟩
      · exact q.elim
end
end Ev
end

section
/-! EvS: pairs stored from the right; loops. -/
namespace Ev
open PySem PySem.Spec PyProof.Rows L2
section
variable {W : Wd} {T : Tab} {C : CT} {X : Cx} {H H' : Hp} {M : MH} {pins : List (Addr × Obj)} {s : Shared} {σ : L2.St} {st : St} {k : Nat} {tc : TC} {g : Env1}
theorem block_fn (c : Ctx W k tc X) (I : X.env.scope.kind = .function) : (X.env.blockKind != .function) = false := by
  unfold Env.blockKind
  rw [I]
  rfl
theorem any_no {vs : List Expr} (f : Expr → Bool) (h : ∀ e ∈ vs, f e = false) : vs.any f = false := by
  rw [List.any_eq_false]
  intro e he
  rw [h e he]
  decide
theorem fm_swN {ts : List Expr} (f : Expr → Option Str) (h : ∀ e, f e = match e with
  | .Name id pos => if tc.kind id == some .local && pos.line == swL ts then some id else none
  | _ => none) : ts.filterMap f = swN tc ts := by
  unfold swN
  congr 1
  funext e
  rw [h e]
  all_goals (cases e <;> rfl)
theorem sw_some (c : Ctx W k tc X) (I : X.env.scope.kind = .function) {ts vs : List Expr} {k1 k2 : Nat} {p1 p2 : Pos} (hp : Plain vs) (h : swp tc ts vs = true) (hc : vs.all (constantsAlone 8) = false) : swappedStores [.Tuple ts k1 p1] (.Tuple vs k2 p2) X.env = pure (some (swN tc ts)) := by
  unfold swp at h
  simp only [Bool.and_eq_true, Bool.not_eq_true'] at h
  obtain ⟨⟨h1, h2⟩, h3⟩ := h
  unfold swappedStores
  simp only [block_fn c I, h1, Bool.false_or, Bool.or_false, Bool.false_eq_true, if_false]
  rw [any_no, fm_swN (tc := tc)]
  · simp only [h2, h3, hc, Bool.false_eq_true, if_false]
  · intro e
    cases e <;> first
      | rfl
      | (simp only [Env.kindOf, TC.kind, swL, c.sc]; rfl)
  · intro e he
    have := hp e he
    cases e <;> first
      | rfl
      | exact absurd rfl (this _ _)
theorem sw_none (c : Ctx W k tc X) (I : X.env.scope.kind = .function) {ts vs : List Expr} {k1 k2 : Nat} {p1 p2 : Pos} (hp : Plain vs) (h : swp tc ts vs = false) : swappedStores [.Tuple ts k1 p1] (.Tuple vs k2 p2) X.env = pure none := by
  unfold swp at h
  unfold swappedStores
  simp only [block_fn c I, Bool.or_false]
  cases h1 : (!(ts.length == 2 || ts.length == 3) || vs.length != ts.length) with
  | true => simp only [if_true]
  | false =>
    simp only [Bool.false_eq_true, if_false]
    rw [any_no, fm_swN (tc := tc)]
    · cases h2 : ((swN tc ts).length != ts.length || (swN tc ts).eraseDups.length != (swN tc ts).length) with
      | true => simp only [Bool.false_eq_true, if_false, if_true]
      | false =>
        rw [h1, h2] at h
        simp only [Bool.not_false, Bool.true_and, Bool.not_eq_false'] at h
        simp only [h, Bool.false_eq_true, if_false, if_true]
    · intro e
      cases e <;> first
        | rfl
        | (simp only [Env.kindOf, TC.kind, swL, c.sc]; rfl)
    · intro e he
      have := hp e he
      cases e <;> first
        | rfl
        | exact absurd rfl (this _ _)
theorem swN_len {f : Expr → Option Str} : ∀ {ts : List Expr}, (ts.filterMap f).length = ts.length → ∀ t ∈ ts, ∃ x, f t = some x
  | [], _, t, ht => by cases ht
  | a :: ts, h, t, ht => by
    rw [List.filterMap_cons] at h
    split at h
    · have := List.length_filterMap_le f ts
      simp at h
      omega
    · rename_i x e
      rcases List.mem_cons.mp ht with rfl | ht
      · exact ⟨x, e⟩
      · exact swN_len (by simpa using h) t ht
def swf (tc : TC) (l : Nat) : Expr → Option Str
  | .Name id pos => if tc.kind id == some .local && pos.line == l then some id else none
  | _ => none
theorem swN_eq (ts : List Expr) : swN tc ts = ts.filterMap (swf tc (swL ts)) := (fm_swN (tc := tc) (swf tc (swL ts)) fun e => by cases e <;> rfl).symm
theorem swf_name {l : Nat} {t : Expr} {x : Str} (h : swf tc l t = some x) : ∃ p, t = .Name x p ∧ tc.kind x = some .local := by
  unfold swf at h
  split at h
  · rename_i id pos
    split at h
    · rename_i e
      cases h
      rw [Bool.and_eq_true] at e
      exact ⟨pos, rfl, beq_iff_eq.mp e.1⟩
    · cases h
  · cases h
theorem ps_par' (hC : CMono C) (c : Ctx W k tc X) (I : X.env.scope.kind = .function) {ts vs : List Expr} {k1 k2 : Nat} {p1 p2 pos : Pos} {is : List Nat} {vs' : Es} (hp : Plain vs) (h : swp tc ts vs = true) (hc : vs.all (constantsAlone 8) = false) (hi : (swN tc ts).mapM (fun x => ixOf x tc.N) = some is) (hn : is.Nodup)
    (ha : PA X vs (rdEs W T C vs')) : PS X (.Assign [.Tuple ts k1 p1] (.Tuple vs k2 p2) pos) (rdS W T C (.par is vs')) := by
  have hw := sw_some (k1 := k1) (k2 := k2) (p1 := p1) (p2 := p2) c I hp h hc
  unfold swp at h
  simp only [Bool.and_eq_true, Bool.not_eq_true', Bool.or_eq_false_iff, Bool.not_eq_false', bne_eq_false_iff_eq, Bool.or_eq_true, beq_iff_eq] at h
  obtain ⟨⟨⟨h1, hl⟩, h2, _⟩, _⟩ := h
  rw [swN_eq] at h2 hw hi
  have all := swN_len h2
  have hN : X.N.Nodup := by rw [c.N]; exact c.nd
  have get : ∀ {x : Str} {i : Nat}, ixOf x tc.N = some i → X.N[i]? = some x := fun e => by rw [c.N]; exact ixOf_get e
  have loc : ∀ {x : Str}, tc.kind x = some .local → X.env.scope.names.lookup x = some .local := fun e => by rw [c.sc]; exact e
  match ts, vs, h1, hl with
  | [t1, t2], [v1, v2], _, _ =>
    obtain ⟨x, ex⟩ := all t1 (by simp)
    obtain ⟨y, ey⟩ := all t2 (by simp)
    obtain ⟨px, rfl, kx⟩ := swf_name ex
    obtain ⟨py, rfl, ky⟩ := swf_name ey
    have en : [Expr.Name x px, Expr.Name y py].filterMap (swf tc (swL [Expr.Name x px, Expr.Name y py])) = [x, y] := by simp [List.filterMap_cons, ex, ey]
    rw [en] at hw hi
    simp only [List.mapM_cons, List.mapM_nil, Option.bind_eq_bind, Option.bind_eq_some_iff, Option.pure_def, Option.some.injEq] at hi
    obtain ⟨i, ei, _, ⟨j, ej, _, rfl, rfl⟩, rfl⟩ := hi
    have hij : i ≠ j := by simpa using hn
    refine (ps_par c.calm hN (get ei) (get ej) hij (loc kx) (loc ky) ha hw).imp fun L σ H ⟨D, st, M, es, em, ed, w⟩ => ?_
    simp only [wpS] at w
    refine oneEs hC es em w fun H1 M1 ps xs g1 em1 r ⟨hlen, q⟩ => ?_
    match ps, hlen with
    | [a, b], _ =>
      obtain ⟨u, v, rfl, r1, r2⟩ := r.two
      exact ⟨u, v, rfl, ed.nx _ _ q H1 _ g1 (((es.grow g1).set r1 i).set r2 j) em1⟩
  | [t1, t2, t3], [v1, v2, v3], _, _ =>
    obtain ⟨x, ex⟩ := all t1 (by simp)
    obtain ⟨y, ey⟩ := all t2 (by simp)
    obtain ⟨z, ez⟩ := all t3 (by simp)
    obtain ⟨px, rfl, kx⟩ := swf_name ex
    obtain ⟨py, rfl, ky⟩ := swf_name ey
    obtain ⟨pz, rfl, kz⟩ := swf_name ez
    have en : [Expr.Name x px, Expr.Name y py, Expr.Name z pz].filterMap (swf tc (swL [Expr.Name x px, Expr.Name y py, Expr.Name z pz])) = [x, y, z] := by simp [List.filterMap_cons, ex, ey, ez]
    rw [en] at hw hi
    simp only [List.mapM_cons, List.mapM_nil, Option.bind_eq_bind, Option.bind_eq_some_iff, Option.pure_def, Option.some.injEq] at hi
    obtain ⟨i, ei, _, ⟨j, ej, _, ⟨l, el, _, rfl, rfl⟩, rfl⟩, rfl⟩ := hi
    simp only [List.nodup_cons, List.mem_cons, List.not_mem_nil, or_false, not_or, not_false_eq_true, List.nodup_nil, and_true] at hn
    refine (ps_par3 c.calm hN (get ei) (get ej) (get el) hn.1.1 hn.1.2 hn.2 (loc kx) (loc ky) (loc kz) ha hw).imp fun L σ H ⟨D, st, M, es, em, ed, w⟩ => ?_
    simp only [wpS] at w
    refine oneEs hC es em w fun H1 M1 ps xs g1 em1 r ⟨hlen, q⟩ => ?_
    match ps, hlen with
    | [a, b, d], _ =>
      simp only [RelPs] at r
      obtain ⟨u, _, e1, r1, v, _, e2, r2, y3, _, e3, r3, e4⟩ := r
      subst e4 e3 e2 e1
      exact ⟨u, v, y3, rfl, ed.nx _ _ q H1 _ g1 ((((es.grow g1).set r1 i).set r2 j).set r3 l) em1⟩

/-! #### what is walked -/
/-- the turns of an iterator: it yields xs while g is kept -/
def ItR (W : Wd) (xs : List PV) (g : MH → Prop) (J : L2.It) (H0 : Hp) : Prop := ∀ (i : Nat) (H : Hp) (M : MH), Grow H0 H → Emb W M H → g M → (∀ v, xs[i]? = some v → J.go i H ∧ ∀ x H', J.yld i H x H' → Grow H H' ∧ Emb W M H' ∧ RelP W H' v x) ∧ (i = xs.length → J.stop i H)
def rdI (W : Wd) (T : Tab) (C : CT) (i : It) : TI := fun σ H R => ∃ st M, EmbS W H st σ ∧ Emb W M H ∧ wpI T C i st M fun xs g M' => ∀ H' J, Grow H H' → Emb W M' H' → ItR W xs g J H' → R J H'
theorem itr_lst {a : Addr} {xs : List PV} {H0 : Hp} (hM : M a = some (.lst xs)) : ItR W xs (stays M (.ref a)) (Itl W.K a) H0 := fun i H M' g em (st : M' a = M a) => by
  obtain ⟨vs, h1, rs⟩ := em a _ (st.trans hM)
  have sq : SqL W.K H a vs := SqL.of h1
  refine ⟨fun v e => ?_, fun e => ⟨vs, sq, by rw [← rs.length, e]; exact Nat.le_refl _⟩⟩
  obtain ⟨x, e2, r⟩ := rs.get e
  refine ⟨⟨vs, x, sq, e2⟩, fun y H' hy => ?_⟩
  obtain ⟨rfl, hy⟩ := hy
  have := hy vs sq
  rw [e2] at this
  cases this
  exact ⟨Grow.refl _, em, r⟩
theorem itr_fl {a : Addr} {xs : List PV} {vs : List V} {H0 : Hp} (hs : FzL W.K H0 a vs) (rs : RelPs W H0 xs vs) (gq : MH → Prop) : ItR W xs gq (Itl W.K a) H0 := fun i H M' g em st => by
  have sq : SqL W.K H a vs := (hs.grow g).sq
  have rs := RelPs.grow g _ _ rs
  refine ⟨fun v e => ?_, fun e => ⟨vs, sq, by rw [← rs.length, e]; exact Nat.le_refl _⟩⟩
  obtain ⟨x, e2, r⟩ := rs.get e
  refine ⟨⟨vs, x, sq, e2⟩, fun y H' hy => ?_⟩
  obtain ⟨rfl, hy⟩ := hy
  have := hy vs sq
  rw [e2] at this
  cases this
  exact ⟨Grow.refl _, em, r⟩
theorem itr_tup {a : Addr} {xs : List PV} {vs : List V} {H0 : Hp} (hs : SqT W.K H0 a vs) (rs : RelPs W H0 xs vs) (gq : MH → Prop) : ItR W xs gq (Itt W.K a) H0 := fun i H M' g em st => by
  have sq : SqT W.K H a vs := SqT.grow g hs
  have rs := RelPs.grow g _ _ rs
  refine ⟨fun v e => ?_, fun e => ⟨vs, sq, by rw [← rs.length, e]; exact Nat.le_refl _⟩⟩
  obtain ⟨x, e2, r⟩ := rs.get e
  refine ⟨⟨vs, x, sq, e2⟩, fun y H' hy => ?_⟩
  obtain ⟨rfl, hy⟩ := hy
  have := hy vs sq
  rw [e2] at this
  cases this
  exact ⟨Grow.refl _, em, r⟩
theorem rngL_get : ∀ (n : Nat) (lo : Int) (i : Nat), (rngL lo n)[i]? = if i < n then some (.int (lo + i)) else none
  | 0, lo, i => by simp [rngL]
  | n + 1, lo, 0 => by simp [rngL]
  | n + 1, lo, i + 1 => by
    rw [rngL, List.getElem?_cons_succ, rngL_get n (lo + 1) i]
    by_cases h : i < n
    · rw [if_pos h, if_pos (by omega)]
      congr 2
      omega
    · rw [if_neg h, if_neg (by omega)]
theorem rngL_len : ∀ (n : Nat) (lo : Int), (rngL lo n).length = n
  | 0, _ => rfl
  | n + 1, lo => by rw [rngL, List.length_cons, rngL_len n]
theorem itr_rng {lo : Int} {n : Nat} {H0 : Hp} : ItR W (rngL lo n) (fun _ => True) (Itr lo n) H0 := fun i H M' g em _ => by
  refine ⟨fun v e => ?_, fun e => by rw [rngL_len] at e; exact Nat.le_of_eq e.symm⟩
  rw [rngL_get] at e
  split at e
  · rename_i h
    cases e
    refine ⟨h, fun y H' hy => ?_⟩
    obtain ⟨rfl, rfl⟩ := hy
    exact ⟨Grow.refl _, em, rfl⟩
  · cases e
theorem pi_rng' (hC : CMono C) (c : Ctx W k tc X) {tg : Expr} {es : List Expr} {es' : Es} {p pos : Pos} (hp : Plain es) (hn : es.length = es'.len) (h12 : (es.length == 1 || es.length == 2) = true) (hg : Gl X "range") (hm : W.mg "range" = none) (ha : PA X es (rdEs W T C es')) : PI X tg (.Call (.Name "range" p) es [] pos) (rdI W T C (.range es')) := by
  refine ⟨fun pins s σ H R I ⟨st, M, ems, em, w⟩ => ?_⟩
  simp only [wpI] at w
  have w := wpEs_len hC es' _ _ _ w
  rw [← c.mg] at hm
  rw [← hn] at w
  match es, h12 with
  | [a], _ =>
    refine (pi_range1 hg hm ha (starEach_one hp.head)).run pins s σ H R I (oneEs hC ems em w fun H1 M1 vs xs g1 em1 r ⟨hl, q⟩ => ?_)
    match vs, hl with
    | [v], _ =>
      split at q
      · rename_i rs e
        obtain ⟨x, rfl, r1⟩ := r.one
        cases v <;> simp only [rngOf, reduceCtorEq] at e
        split at e
        · rename_i hj
          cases e
          exact ⟨_, by rw [show x = _ from r1], hj.1, hj.2, q H1 _ g1 em1 itr_rng⟩
        · cases e
      · exact q.elim
  | [a, b], _ =>
    refine (pi_range2 hg hm ha (by rw [starEach_one hp.head, starEach_one hp.tail.head]; rfl) (by rw [starEach_one hp.tail.head]; rfl)).run pins s σ H R I (oneEs hC ems em w fun H1 M1 vs xs g1 em1 r ⟨hl, q⟩ => ?_)
    match vs, hl with
    | [v, u], _ =>
      split at q
      · rename_i rs e
        obtain ⟨x, y, rfl, r1, r2⟩ := r.two
        cases v <;> cases u <;> simp only [rngOf, reduceCtorEq] at e
        split at e
        · rename_i hj
          cases e
          exact ⟨_, _, by rw [r1, r2], ⟨hj.1.1, hj.1.2, hj.2.1, hj.2.2⟩, q H1 _ g1 em1 itr_rng⟩
        · cases e
      · exact q.elim
/-- a list or a tuple is walked -/
theorem pi_of' (hC : CMono C) (c : Ctx W k tc X) {tg e : Expr} {e' : E} (he : PE X e (rdE W T C e')) : PI X tg e (rdI W T C (.of e')) := by
  refine ⟨fun pins s σ H R I ⟨st, M, ems, em, w⟩ => ?_⟩
  simp only [wpI] at w
  refine run1 hC he I ems em w fun v s1 H1 M1 pv x I1 rx g1 em1 r q => ?_
  split at q
  · rename_i xs e
    have fin : ∀ (a : Addr) (J : L2.It) (tn : Nat → Heap → Prop) (h' : Heap), (∀ b o, s1.heap.get? b = some o → h'.get? b = some o) → Turn X.prog X.w X.K tg J [s1.heap.objs.size] s1.heap.objs.size tn → tn 0 h' → ItR W xs (stays M1 pv) J H1 →
        PIE X pins σ tg R (.ref s1.heap.objs.size) { s1 with heap := h' } := fun a J tn h' hk tu t0 ir => by
      refine ⟨s1.heap.objs.size, [s1.heap.objs.size], tn, J, H1, rfl, I1.kept (t' := s1.toks) hk, tu, t0, fun b hb => ?_, q H1 J g1 em1 ir⟩
      rw [List.mem_singleton.mp hb]
      exact I1.fpOk (Nat.le_refl _) (I1.hok.fresh (Nat.le_refl _))
    have lst : ∀ (a : Addr) (vs : List V), x = .ref a → SqL X.K H1 a vs → ItR W xs (stays M1 pv) (Itl W.K a) H1 → wpAny (model X.prog X.w) X.A (pyIter v) (PIE X pins σ tg R) X.xe s1 := fun a vs ex sq ir => by
      subst ex
      cases rx
      obtain ⟨its, rv, p, hz⟩ := I1.list sq
      rw [← c.K] at ir
      exact wpAny_pyIter_list p.isList (fin a _ _ _ (fun b o e => Heap.get?_push_of_some _ e) (turn_list a _) ⟨_, Heap.get?_push_size _ rfl, rfl, rfl⟩ ir)
    cases pv with
    | tup ys =>
      cases e
      simp only [RelP] at r
      obtain ⟨a, vs, rfl, sq, rs⟩ := r
      cases rx
      have ir := itr_tup sq rs (stays M1 (.tup xs))
      rw [← c.K] at sq ir
      obtain ⟨its, rv, p, hz⟩ := I1.tuple sq
      exact wpAny_pyIter_tuple (show s1.heap.IsTuple a its.toArray from p) (fin a _ _ _ (fun b o e => Heap.get?_push_of_some _ e) (turn_tuple a _) ⟨_, Heap.get?_push_size _ rfl, rfl, rfl⟩ ir)
    | fl ys =>
      cases e
      simp only [RelP] at r
      obtain ⟨a, vs, ex, sq, rs⟩ := r
      exact lst a vs ex (c.K ▸ sq.sq) (itr_fl sq rs _)
    | ref a =>
      simp only [seqOf, lstOf] at e
      split at e
      · rename_i ys hM
        cases e
        obtain ⟨vs, h1, rs⟩ := em1 a _ hM
        exact lst a vs r (SqL.of h1) (itr_lst hM)
      · cases e
    | _ => simp [seqOf, lstOf] at e
  · exact q.elim
theorem enumL_get : ∀ (xs : List PV) (lo : Int) (i : Nat) (v : PV), (enumL lo xs)[i]? = some v → ∃ u, xs[i]? = some u ∧ v = .tup [.int (lo + i), u]
  | [], _, _, _, h => by simp [enumL] at h
  | x :: r, lo, 0, v, h => by
    simp only [enumL, List.getElem?_cons_zero, Option.some.injEq] at h
    subst h
    exact ⟨x, rfl, by simp⟩
  | x :: r, lo, i + 1, v, h => by
    simp only [enumL, List.getElem?_cons_succ] at h
    obtain ⟨u, h1, h2⟩ := enumL_get r (lo + 1) i v h
    exact ⟨u, by simpa using h1, by rw [h2]; congr 2; congr 1; omega⟩
theorem enumL_len : ∀ (xs : List PV) (lo : Int), (enumL lo xs).length = xs.length
  | [], _ => rfl
  | x :: r, lo => by rw [enumL, List.length_cons, enumL_len r, List.length_cons]
/-- a new pair -/
theorem pair_rel {H : Hp} {T : Addr} {i : Nat} {u : PV} {x : V} (em : Emb W M H) (hT : H T = none) (r : RelP W H u x) : Grow H (upd H T (.tup [.int (i : Nat), x])) ∧ Emb W M (upd H T (.tup [.int (i : Nat), x])) ∧ RelP W (upd H T (.tup [.int (i : Nat), x])) (.tup [.int (0 + (i : Nat)), u]) (.ref T) := by
  refine ⟨Grow.new hT, em.lay hT, ?_⟩
  simp only [RelP]
  refine ⟨T, _, rfl, SqT.of upd_same, RelPs.cons (by rw [Int.zero_add]; rfl) (RelPs.cons (RelP.grow (Grow.new hT) _ _ r) RelPs.nil)⟩
theorem pi_enu' (hC : CMono C) (c : Ctx W k tc X) {elts : List Expr} {kk : Nat} {tpos p pos : Pos} {e : Expr} {e' : E} (hs : ∀ v p, e ≠ .Starred v p) (hg : Gl X "enumerate") (hm : W.mg "enumerate" = none) (he : PE X e (rdE W T C e')) : PI X (.Tuple elts kk tpos) (.Call (.Name "enumerate" p) [e] [] pos) (rdI W T C (.enum e')) := by
  refine ⟨fun pins s σ H R I ⟨st, M, ems, em, w⟩ => ?_⟩
  simp only [wpI] at w
  rw [← c.mg] at hm
  refine Call_ (ld_blt I hg hm boot_enumerate (PyProof.Rows.callWith_type1 (PyProof.Rows.args_cons (run1 hC he I ems em w fun v s1 H1 M1 pv x I1 rx g1 em1 r q => PyProof.Rows.args_nil ?_) (starEach_one hs)) (starEach_one hs) rfl))
  split at q
  · rename_i xs e
    have lst : ∀ (a : Addr) (vs : List V), x = .ref a → SqL X.K H1 a vs → ItR W (enumL 0 xs) (stays M1 pv) (Ite W.K a) H1 → wpAny (model X.prog X.w) X.A (call (.type "enumerate") [v]) (fun v s1 => wpAny (model X.prog X.w) X.A (pyIter v) (PIE X pins σ (.Tuple elts kk tpos) R) X.xe s1) X.xe s1 := fun a vs ex sq ir => by
      subst ex
      cases rx
      obtain ⟨its, rv, p, hz⟩ := I1.list sq
      rw [← c.K] at ir
      refine call_enumerate_list p.isList fun h' he hit _ hk => wpAny_pyIter_enum he ?_
      refine ⟨s1.heap.objs.size + 1, [s1.heap.objs.size + 1, s1.heap.objs.size], _, _, H1, rfl, I1.kept (t' := s1.toks) hk, turn_enum a (s1.heap.objs.size + 1) s1.heap.objs.size, ⟨⟨.none, he⟩, hit, Nat.succ_ne_self _⟩, fun b hb => ?_, q H1 _ g1 em1 ir⟩
      rcases List.mem_cons.mp hb with z | z
      · rw [z]; exact I1.fpOk (Nat.le_succ _) (I1.hok.fresh (Nat.le_succ _))
      · rw [List.mem_singleton.mp z]; exact I1.fpOk (Nat.le_refl _) (I1.hok.fresh (Nat.le_refl _))
    have turnL : ∀ (a : Addr) (vs : List V) (H : Hp) (M' : MH) (i : Nat), Emb W M' H → SqL W.K H a vs → RelPs W H xs vs → (∀ v, (enumL 0 xs)[i]? = some v → (Ite W.K a).go i H ∧ ∀ x H', (Ite W.K a).yld i H x H' → Grow H H' ∧ Emb W M' H' ∧ RelP W H' v x) ∧ (i = (enumL 0 xs).length → (Ite W.K a).stop i H) := fun a vs H M' i em sq rs => by
      refine ⟨fun v ev => ?_, fun ei => ⟨vs, sq, by rw [← rs.length, ei, enumL_len]; exact Nat.le_refl _⟩⟩
      obtain ⟨u, e1, rfl⟩ := enumL_get xs 0 i v ev
      obtain ⟨y, e2, r⟩ := rs.get e1
      refine ⟨⟨vs, y, sq, e2⟩, fun z H' hy => ?_⟩
      obtain ⟨T', y', rfl, hT, rfl, hy⟩ := hy
      have := hy vs sq
      rw [e2] at this
      cases this
      exact pair_rel em hT r
    cases pv with
    | tup ys =>
      cases e
      simp only [RelP] at r
      obtain ⟨a, vs, rfl, sq, rs⟩ := r
      cases rx
      have sq' := sq
      rw [← c.K] at sq'
      obtain ⟨its, rv, p, hz⟩ := I1.tuple sq'
      have lta : a < s1.heap.objs.size := p.lt
      refine call_enuT (show s1.heap.IsTuple a its.toArray from p) fun h' he hit hk => wpAny_pyIter_enum he ?_
      refine ⟨s1.heap.objs.size + 1, [s1.heap.objs.size + 1, s1.heap.objs.size], _, _, H1, rfl, I1.kept (t' := s1.toks) hk, turn_enuT a (s1.heap.objs.size + 1) s1.heap.objs.size, ⟨⟨⟨.none, he⟩, hit⟩, Nat.succ_ne_self _, Nat.ne_of_lt lta, Nat.ne_of_lt (Nat.lt_succ_of_lt lta)⟩, fun b hb => ?_, q H1 _ g1 em1 ?_⟩
      · rcases List.mem_cons.mp hb with z | z
        · rw [z]; exact I1.fpOk (Nat.le_succ _) (I1.hok.fresh (Nat.le_succ _))
        · rw [List.mem_singleton.mp z]; exact I1.fpOk (Nat.le_refl _) (I1.hok.fresh (Nat.le_refl _))
      · rw [c.K]
        intro i H M' g em _
        have sq2 : SqT W.K H a vs := SqT.grow g sq
        have rs2 := RelPs.grow g _ _ rs
        refine ⟨fun v ev => ?_, fun ei => ⟨vs, sq2, by rw [← rs.length, ei, enumL_len]⟩⟩
        obtain ⟨u, e1, rfl⟩ := enumL_get xs 0 i v ev
        obtain ⟨y, e2, r⟩ := rs2.get e1
        refine ⟨⟨vs, y, sq2, e2⟩, fun z H' hy => ?_⟩
        obtain ⟨T', y', rfl, hT, rfl, hy⟩ := hy
        have := hy vs sq2
        rw [e2] at this
        cases this
        exact pair_rel em hT r
    | fl ys =>
      cases e
      simp only [RelP] at r
      obtain ⟨a, vs, ex, sq, rs⟩ := r
      exact lst a vs ex (c.K ▸ sq.sq) fun i H M' g em _ => turnL a vs H M' i em (sq.grow g).sq (RelPs.grow g _ _ rs)
    | ref a =>
      simp only [seqOf, lstOf] at e
      split at e
      · rename_i ys hM
        cases e
        obtain ⟨vs, h1, rs⟩ := em1 a _ hM
        exact lst a vs r (SqL.of h1) fun i H M' g em (sta : M' a = M1 a) => by
          obtain ⟨vs2, h2, rs2⟩ := em a _ (sta.trans hM)
          exact turnL a vs2 H M' i em (SqL.of h2) rs2
      · cases e
    | _ => simp [seqOf, lstOf] at e
  · exact q.elim

/-! #### for -/
theorem ps_for' (hC : CMono C) (c : Ctx W k tc X) {tg iter : Expr} {body : List Stmt} {t' : Tg} {i' : It} {b' : Ss} {pos : Pos} (hi : PI X tg iter (rdI W T C i')) (hg : PG X tg (rdG W T C t')) (hb : PSs X body (rdSs W T C b')) (hs : ∀ x, foldedSetIterable iter X.env x = pure x) : PS X (.For tg iter body [] pos) (rdS W T C (.for_ t' i' b')) := by
  have hp : PassesOwn (model X.prog X.w) X.A X.env X.xe := by
    rw [c.xe]
    exact .never
  refine (ps_for hp c.calm hi hg hb hs).imp fun L σ H ⟨D, st, M, es, em, ed, w⟩ => ?_
  simp only [wpS] at w
  refine ⟨st, M, es, em, wpI_mono hC i' _ _ _ _ (fun xs gq M1 w1 H1 J g1 em1 ir => ?_) w⟩
  refine ⟨fun i m σ2 H2 => ∃ st2 M2, Grow H1 H2 ∧ EmbS W H2 st2 σ2 ∧ Emb W M2 H2 ∧ i ≤ xs.length ∧ m = xs.length - i ∧ forL gq D.nx (fun x σ1 M2 K => wpTg T C t' x σ1 M2 fun σ2 M3 => wpSs T C b' { D with nx := K, ct := K, bk := D.nx } σ2 M3) (xs.drop i) st2 M2,
    ⟨_, st, M1, Grow.refl _, es.grow g1, em1, Nat.zero_le _, rfl, by rw [List.drop_zero]; exact w1⟩, ?_⟩
  rintro i m σ2 H2 ⟨st2, M2, g2, es2, em2, hle, rfl, w2⟩
  by_cases e : i = xs.length
  · rw [e, List.drop_length] at w2
    simp only [forL] at w2
    exact .inl ⟨(ir i H2 M2 g2 em2 w2.1).2 e, ed.nx _ _ w2.2 H2 _ (g1.trans g2) es2 em2⟩
  · have lt : i < xs.length := by omega
    rw [List.drop_eq_getElem_cons lt] at w2
    simp only [forL] at w2
    obtain ⟨gg, w2⟩ := w2
    obtain ⟨hgo, hy⟩ := (ir i H2 M2 g2 em2 gg).1 _ (List.getElem?_eq_getElem lt)
    refine .inr ⟨hgo, fun σ' H' => ∃ st3 M3, Grow H1 H' ∧ EmbS W H' st3 σ' ∧ Emb W M3 H' ∧ i + 1 ≤ xs.length ∧ forL gq D.nx (fun x σ1 M2 K => wpTg T C t' x σ1 M2 fun σ2 M3 => wpSs T C b' { D with nx := K, ct := K, bk := D.nx } σ2 M3) (xs.drop (i + 1)) st3 M3, ?_, fun x H' hyld => ?_⟩
    · rintro σ' H' ⟨st3, M3, a1, a2, a3, a4, a5⟩
      exact ⟨xs.length - (i + 1), by omega, st3, M3, a1, a2, a3, a4, rfl, a5⟩
    · obtain ⟨g3, em3, r3⟩ := hy x H' hyld
      refine ⟨_, st2, M2, r3, es2.grow g3, em3, wpTg_mono hC t' _ _ _ _ _ (fun st4 M4 w4 H4 σ4 g4 es4 em4 => ?_) w2⟩
      have gall := (g2.trans g3).trans g4
      have nx : ∀ st' M', forL gq D.nx (fun x σ1 M2 K => wpTg T C t' x σ1 M2 fun σ2 M3 => wpSs T C b' { D with nx := K, ct := K, bk := D.nx } σ2 M3) (xs.drop (i + 1)) st' M' → AftS W H4 (fun σ' H' => ∃ st3 M3, Grow H1 H' ∧ EmbS W H' st3 σ' ∧ Emb W M3 H' ∧ i + 1 ≤ xs.length ∧ forL gq D.nx (fun x σ1 M2 K => wpTg T C t' x σ1 M2 fun σ2 M3 => wpSs T C b' { D with nx := K, ct := K, bk := D.nx } σ2 M3) (xs.drop (i + 1)) st3 M3) st' M' := fun st' M' z H5 σ5 g5 es5 em5 => ⟨st', M', gall.trans g5, es5, em5, lt, z⟩
      exact ⟨{ D with nx := forL gq D.nx (fun x σ1 M2 K => wpTg T C t' x σ1 M2 fun σ2 M3 => wpSs T C b' { D with nx := K, ct := K, bk := D.nx } σ2 M3) (xs.drop (i + 1)), ct := forL gq D.nx (fun x σ1 M2 K => wpTg T C t' x σ1 M2 fun σ2 M3 => wpSs T C b' { D with nx := K, ct := K, bk := D.nx } σ2 M3) (xs.drop (i + 1)), bk := D.nx }, st4, M4, es4, em4, ⟨nx, fun v M' z => (ed.rt v M' z).up (g1.trans gall), fun st' M' z => (ed.nx st' M' z).up (g1.trans gall), nx⟩, w4⟩
end
end Ev
end

section
/-! EvU: list comprehensions. -/
namespace Ev
open PySem PySem.Spec PyProof.Rows L2
/-- alike but at own names -/
def Off (own : List Nat) (σ σ' : L2.St) : Prop := σ'.length = σ.length ∧ ∀ i, i ∉ own → σ'[i]? = σ[i]?
def AftO (W : Wd) (H : Hp) (own : List Nat) (σ0 : L2.St) (Q : L2.St → Hp → Prop) : St → MH → Prop := fun st M => ∀ H' σ, Grow H H' → EmbS W H' st σ → Emb W M H' → Off own σ0 σ → Q σ H'
def rdGo (W : Wd) (T : Tab) (C : CT) (own : List Nat) (t : Tg) : TG := fun x σ H Q => ∃ v st M, RelP W H v x ∧ EmbS W H st σ ∧ Emb W M H ∧ wpTg T C t v st M (AftO W H own σ Q)
def rdGso (W : Wd) (T : Tab) (C : CT) (own : List Nat) (t : Tgs) : TGs := fun xs σ H Q => ∃ vs st M, RelPs W H vs xs ∧ EmbS W H st σ ∧ Emb W M H ∧ wpTgs T C t vs st M (AftO W H own σ Q)
def rdIfs (W : Wd) (T : Tab) (C : CT) (es : Es) : TT := fun σ H Q => ∃ st M, EmbS W H st σ ∧ Emb W M H ∧ wpIfs T C es st M (fun b M' => ∀ H', Grow H H' → Emb W M' H' → Q b H')
section
variable {W : Wd} {T : Tab} {C : CT} {X : Cx} {H H' : Hp} {M : MH} {pins : List (Addr × Obj)} {s : Shared} {σ σ' : L2.St} {st : St} {k : Nat} {tc : TC} {g : Env1} {own : List Nat}
theorem Off.refl : Off own σ σ := ⟨rfl, fun _ _ => rfl⟩
theorem Off.trans {τ : L2.St} (a : Off own σ σ') (b : Off own σ' τ) : Off own σ τ := ⟨b.1.trans a.1, fun i h => (b.2 i h).trans (a.2 i h)⟩
theorem Off.set {i : Nat} {x : Option V} (h : i ∈ own) : Off own σ (σ.set i x) := ⟨by simp, fun j hj => by
  rw [List.getElem?_set_ne]
  intro e
  exact hj (e ▸ h)⟩
theorem wipe_get (σ : L2.St) : ∀ (vs : List Nat) (i : Nat), (L2.wipe σ vs)[i]? = if i ∈ vs ∧ i < σ.length then some none else σ[i]?
  | [], i => by simp [L2.wipe]
  | v :: vs, i => by
    rw [L2.wipe, List.getElem?_set, wipe_get σ vs i, L2.wipe_length]
    by_cases h : v = i
    · subst h
      by_cases h2 : v < σ.length
      · simp [h2]
      · simp [h2]
    · have h' : ¬ i = v := fun e => h e.symm
      simp [h, h']
theorem Off.wipe (h : Off own σ σ') : L2.wipe σ' own = L2.wipe σ own := by
  apply List.ext_getElem?
  intro i
  rw [wipe_get, wipe_get, h.1]
  by_cases hi : i ∈ own
  · by_cases h2 : i < σ.length
    · simp [hi, h2]
    · have := h.1
      simp only [h2, and_false, if_false]
      rw [List.getElem?_eq_none (by omega), List.getElem?_eq_none (by omega)]
  · simp only [hi, false_and, if_false]
    exact h.2 i hi
theorem wipe_off : Off own σ (L2.wipe σ own) := ⟨L2.wipe_length _ _, fun i h => by rw [wipe_get]; simp [h]⟩
theorem pg_nmo (c : Ctx W k tc X) {i : Nat} {x : Str} {pos : Pos} (hi : X.N[i]? = some x) (hs : tc.sto x = true) (ho : i ∈ own) : PG X (.Name x pos) (rdGo W T C own (.nm i)) := by
  obtain ⟨h1, h2⟩ := sto_ok c hs
  refine (pg_name (by rw [c.N]; exact c.nd) hi h1 h2).imp fun x σ H Q ⟨v, st, M, r, es, em, w⟩ => ?_
  simp only [wpTg] at w
  exact w H _ (Grow.refl _) (es.set r i) em (Off.set ho)
theorem pgs_nilo : PGs X [] (rdGso W T C own .nil) := pgs_nil.imp fun xs σ H Q ⟨vs, st, M, r, es, em, w⟩ => by
  simp only [wpTgs] at w
  obtain ⟨rfl, w⟩ := w
  simp only [RelPs] at r
  exact ⟨r, w H _ (Grow.refl _) es em Off.refl⟩
theorem pgs_conso (hC : CMono C) {e : Expr} {es : List Expr} {t : Tg} {ts : Tgs} (hs : ∀ v p, e ≠ .Starred v p) (h1 : PG X e (rdGo W T C own t)) (h2 : PGs X es (rdGso W T C own ts)) : PGs X (e :: es) (rdGso W T C own (.cons t ts)) :=
  (pgs_cons h1 h2 (by rw [assignEach_one hs]; rfl)).imp fun xs σ H Q ⟨vs, st, M, r, es, em, w⟩ => by
    simp only [wpTgs] at w
    split at w
    · rename_i v vs
      simp only [RelPs] at r
      obtain ⟨x, ys, e, r1, r2⟩ := r
      refine ⟨x, ys, e, v, st, M, r1, es, em, wpTg_mono hC t _ _ _ _ _ (fun st1 M1 w1 H1 σ1 g1 es1 em1 o1 => ?_) w⟩
      exact ⟨vs, st1, M1, RelPs.grow g1 _ _ r2, es1, em1, wpTgs_mono hC ts _ _ _ _ _ (fun _ _ z H2 σ2 g2 es2 em2 o2 => z H2 σ2 (g1.trans g2) es2 em2 (o1.trans o2)) w1⟩
    · exact w.elim
theorem pg_tupo (c : Ctx W k tc X) {es : List Expr} {kk : Nat} {pos : Pos} {ts : Tgs} (hp : Plain es) (hl : es.length = ts.len) (h : PGs X es (rdGso W T C own ts)) : PG X (.Tuple es kk pos) (rdGo W T C own (.tup ts)) := by
  have hn : assignEach es X.env = es.map fun e => (false, assign e X.env) := by
    clear hl h
    induction es with
    | nil => rfl
    | cons e es ih => rw [assignEach_one hp.head, ih hp.tail, List.map_cons]
  have hidx : (assignEach es X.env).findIdx? (·.1) = none := by
    rw [hn, List.findIdx?_eq_none_iff]
    intro x hx
    obtain ⟨e, _, rfl⟩ := List.mem_map.mp hx
    rfl
  refine (pg_tup c.calm h (n := ts.len) (by rw [hn, List.length_map, hl]) hidx).imp fun x σ H Q ⟨v, st, M, r, es, em, w⟩ => ?_
  simp only [wpTg] at w
  split at w
  · rename_i xs
    simp only [RelP] at r
    obtain ⟨a, vs, e, sq, rs⟩ := r
    exact ⟨a, vs, e, c.K ▸ sq, by rw [← rs.length]; exact w.1, xs, st, M, rs, es, em, w.2⟩
  · exact w.elim

/-! #### tests -/
theorem forIn_no (f : Expr → Bool → Sem (ForInStep Bool)) (h : ∀ e, f e false = pure (.yield false)) : ∀ cs : List Expr, forIn cs false f = pure false
  | [] => by rw [List.forIn_nil]
  | c :: cs => by
    rw [List.forIn_cons, h]
    exact forIn_no f h cs
theorem _root_.L2.PTs.imp {e : List Expr} {t t' : TT} (h : PTs X e t) (k : ∀ σ H Q, t' σ H Q → t σ H Q) : PTs X e t' := ⟨fun pins s σ H Q I w => h.run pins s σ H Q I (k _ _ _ w)⟩
theorem pts_nil' : PTs X [] (rdIfs W T C .nil) := pts_nil.imp fun σ H Q ⟨st, M, es, em, w⟩ => by
  simp only [wpIfs] at w
  exact w H (Grow.refl _) em
theorem pts_cons' (hC : CMono C) {e : Expr} {r : List Expr} {e' : E} {r' : Es} (he : PT X e (rdT W T C e')) (hr : PTs X r (rdIfs W T C r')) : PTs X (e :: r) (rdIfs W T C (.cons e' r')) := by
  refine ⟨fun pins s σ H Q I ⟨st, M, es, em, w⟩ => ?_⟩
  simp only [wpIfs] at w
  rw [List.forIn_cons]
  refine wpAny_bind (wpAny_bind (runT hC he I es em w (fun pv M1 q => ?_) fun b s1 H1 M1 pv I1 g1 em1 tr q => ?_))
  · split at q
    · rename_i e; exact ⟨_, e⟩
    · rename_i e; exact ⟨_, e⟩
    · exact q.elim
  · rw [tr] at q
    cases b with
    | true =>
      refine wpAny_pure (hr.run pins s1 σ H1 Q I1 ⟨st, M1, es.grow g1, em1, wpIfs_mono hC r' _ _ _ _ (fun b M2 z H2 g2 em2 => z H2 (g1.trans g2) em2) q⟩)
    | false =>
      refine wpAny_pure ?_
      show wpAny _ _ (forIn r false _) _ _ _
      rw [forIn_no _ (fun e => by rw [if_neg (by decide)])]
      exact wpAny_pure ⟨H1, I1, q H1 g1 em1⟩

/-! #### the block -/
theorem Ctx.blk (c : Ctx W k tc X) (scope : Scope) (s : Shared) (H : Hp) (D : Addr) (cl : List (Str × Addr)) (fp : List Addr) : Ctx W k (tc.blk scope) (X.blk s H scope (compEnvC scope cl D X.env) fp) :=
  ⟨c.prog, c.w, c.K, c.mg, c.base, c.calm, c.room, c.N, c.nd, by
    show relabel scope X.env = relSc scope tc.sc
    rw [← c.sc]
    rfl, rfl, rfl⟩
theorem rd_cmpr (hC : CMono C) {e' : E} {tg' : Tg} {it' : It} {ifs' : Es} {Q : VK} (h : rdE W T C (.cmpr e' tg' it' ifs' own) σ H Q) : tLc (rdI W T C it') (rdGo W T C own tg') (rdIfs W T C ifs') (rdE W T C e') own σ H Q := by
  obtain ⟨st, M, es, em, w⟩ := h
  simp only [wpE] at w
  refine ⟨st, M, es, em, wpI_mono hC it' _ _ _ _ (fun xs gq M1 w1 H1 J g1 em1 ir D hD => ?_) w⟩
  have w1 := w1 D (em1.fresh hD)
  have gD : Grow H1 (upd H1 D (.lst [])) := Grow.new hD
  have emD : Emb W (mup M1 D (.lst [])) (upd H1 D (.lst [])) := em1.new hD ⟨_, upd_same, RelPs.nil⟩
  refine ⟨fun i m H2 => ∃ M2, Grow (upd H1 D (.lst [])) H2 ∧ Emb W M2 H2 ∧ i ≤ xs.length ∧ m = xs.length - i ∧ cmpL gq (fun M' => Aft W H Q (.ref D) M') (fun x M2 K => wpTg T C tg' x (Ev.wipe own st) M2 fun σ2 M3 => wpIfs T C ifs' σ2 M3 fun b M4 =>
      if b = true then wpE T C e' σ2 M4 fun y M5 => ∃ acc, M5 D = some (.lst acc) ∧ acc.length < sizeLine ∧ K (mup M5 D (.lst (acc ++ [y]))) else K M4) (xs.drop i) M2,
    ⟨_, _, Grow.refl _, emD, Nat.zero_le _, rfl, by rw [List.drop_zero]; exact w1⟩, ?_⟩
  rintro i m H2 ⟨M2, g2, em2, hle, rfl, w2⟩
  by_cases e : i = xs.length
  · rw [e, List.drop_length] at w2
    simp only [cmpL] at w2
    exact .inl ⟨(ir i H2 M2 (gD.trans g2) em2 w2.1).2 e, w2.2 H2 _ ((g1.trans gD).trans g2) em2 rfl⟩
  · have lt : i < xs.length := by omega
    rw [List.drop_eq_getElem_cons lt] at w2
    simp only [cmpL] at w2
    obtain ⟨gg, w2⟩ := w2
    obtain ⟨hgo, hy⟩ := (ir i H2 M2 (gD.trans g2) em2 gg).1 _ (List.getElem?_eq_getElem lt)
    refine .inr ⟨hgo, fun H' => ∃ M3, Grow (upd H1 D (.lst [])) H' ∧ Emb W M3 H' ∧ i + 1 ≤ xs.length ∧ cmpL gq (fun M' => Aft W H Q (.ref D) M') (fun x M2 K => wpTg T C tg' x (Ev.wipe own st) M2 fun σ2 M3 => wpIfs T C ifs' σ2 M3 fun b M4 =>
      if b = true then wpE T C e' σ2 M4 fun y M5 => ∃ acc, M5 D = some (.lst acc) ∧ acc.length < sizeLine ∧ K (mup M5 D (.lst (acc ++ [y]))) else K M4) (xs.drop (i + 1)) M3, ?_, fun x H' hyld => ?_⟩
    · rintro H' ⟨M3, a1, a2, a3, a4⟩
      exact ⟨xs.length - (i + 1), by omega, M3, a1, a2, a3, rfl, a4⟩
    · obtain ⟨g3, em3, r3⟩ := hy x H' hyld
      have ga := (gD.trans g2).trans g3
      refine ⟨_, Ev.wipe own st, M2, r3, ((es.grow g1).grow ga).wipe own, em3, wpTg_mono hC tg' _ _ _ _ _ (fun st4 M4 w4 H4 σ4 g4 es4 em4 o4 => ?_) w2⟩
      refine ⟨(o4.wipe).trans wipe_off.wipe, st4, M4, es4, em4, wpIfs_mono hC ifs' _ _ _ _ (fun b M5 w5 H5 g5 em5 => ?_) w4⟩
      cases b with
      | true =>
        rw [if_pos rfl] at w5
        rw [if_pos rfl]
        refine ⟨st4, M5, es4.grow g5, em5, wpE_mono hC e' _ _ _ _ (fun y M6 ⟨acc, eD, lt', w6⟩ H6 z g6 em6 r6 => ?_) w5⟩
        obtain ⟨vs, h1, rs⟩ := em6 D _ eD
        have g7 : Grow H6 (upd H6 D (.lst (vs ++ [z]))) := Grow.set h1 (fun _ z => nomatch z) fun _ _ z => nomatch z
        refine ⟨vs, h1, by rw [← rs.length]; exact lt', mup M6 D (.lst (acc ++ [y])), ?_, em6.put g7 ⟨_, upd_same, RelPs.append (RelPs.grow g7 _ _ rs) (RelPs.cons (RelP.grow g7 _ _ r6) RelPs.nil)⟩, lt, w6⟩
        exact ((((g2.trans g3).trans g4).trans g5).trans g6).trans g7
      | false =>
        rw [if_neg (by decide)] at w5
        rw [if_neg (by decide)]
        exact ⟨M5, (((g2.trans g3).trans g4).trans g5), em5, lt, w5⟩
theorem pe_cmpr' (hC : CMono C) (c : Ctx W k tc X) {elt tg iter : Expr} {ifs : List Expr} {scope : Scope} {pos : Pos} {e' : E} {tg' : Tg} {it' : It} {ifs' : Es} {ow : List (Str × Nat)} (hb : blkC tc.N tc.sc scope ow = true) (hi : PI X tg iter (rdI W T C it'))
    (hg : ∀ Y, Ctx W k (tc.blk scope) Y → PG Y tg (rdGo W T C (ow.map (·.2)) tg')) (ht : ∀ Y, Ctx W k (tc.blk scope) Y → PTs Y ifs (rdIfs W T C ifs')) (he : ∀ Y, Ctx W k (tc.blk scope) Y → PE Y elt (rdE W T C e')) (hs : ∀ x, foldedSetIterable iter X.env x = pure x) : PE X (.ListComp elt [⟨tg, iter, ifs, 0⟩] scope pos) (rdE W T C (.cmpr e' tg' it' ifs' (ow.map (·.2)))) :=
  (pe_lc c.calm (by rw [c.N]; exact c.nd) hi (blkOk_by (by rw [c.N, c.sc]; exact hb)) (fun s H D cl fp => hg _ (c.blk scope s H D cl fp)) (fun s H D cl fp => ht _ (c.blk scope s H D cl fp)) (fun s H D cl fp => he _ (c.blk scope s H D cl fp)) hs).imp fun σ H Q h => rd_cmpr hC h
theorem ps_cmpr' (hC : CMono C) (c : Ctx W k tc X) (I : X.env.scope.kind = .function) {y : Str} {i : Nat} {py spos : Pos} {elt tg iter : Expr} {ifs : List Expr} {scope : Scope} {pos : Pos} {e' : E} {tg' : Tg} {it' : It} {ifs' : Es} {ow : List (Str × Nat)} (hy : X.N[i]? = some y) (hf : onFly tc (.Name y py) (.ListComp elt [⟨tg, iter, ifs, 0⟩] scope pos) = true) (hb : blkC tc.N tc.sc scope ow = true) (hi : PI X tg iter (rdI W T C it'))
    (hg : ∀ Y, Ctx W k (tc.blk scope) Y → PG Y tg (rdGo W T C (ow.map (·.2)) tg')) (ht : ∀ Y, Ctx W k (tc.blk scope) Y → PTs Y ifs (rdIfs W T C ifs')) (he : ∀ Y, Ctx W k (tc.blk scope) Y → PE Y elt (rdE W T C e')) (hs : ∀ x, foldedSetIterable iter X.env x = pure x) : PS X (.Assign [.Name y py] (.ListComp elt [⟨tg, iter, ifs, 0⟩] scope pos) spos) (rdS W T C (.asg (.nm i) (.cmpr e' tg' it' ifs' (ow.map (·.2))))) := by
  unfold onFly at hf
  simp only [Bool.and_eq_true, Bool.not_eq_true'] at hf
  have hl : X.env.scope.names.lookup y = some .local := by rw [c.sc]; exact beq_iff_eq.mp hf.1.1
  refine (ps_setLc c.calm (by rw [c.N]; exact c.nd) hy hl (sw_true I hl hf.1.2 hf.2) hi (blkOk_by (by rw [c.N, c.sc]; exact hb)) (fun s H D cl fp => hg _ (c.blk scope s H D cl fp)) (fun s H D cl fp => ht _ (c.blk scope s H D cl fp)) (fun s H D cl fp => he _ (c.blk scope s H D cl fp)) hs).imp fun L σ H ⟨D, st, M, es, em, ed, w⟩ => ?_
  simp only [wpS] at w
  refine rd_cmpr hC (one hC es em w fun H1 M1 v x g1 em1 r q => ?_)
  simp only [wpTg] at q
  exact ed.nx _ _ q H1 _ g1 ((es.grow g1).set r i) em1
end
end Ev
end

section
/-! EvV: what is translated is so. -/
namespace Ev
open PySem PySem.Spec PyProof.Rows L2
/-- what is given at a level of calls -/
structure Inp (W : Wd) (T : Tab) (C : CT) (g : Env1) (k : Nat) : Prop where
  hC : CMono C
  G : Glb W T g
  F : ∀ i, (∀ vs M Q, ¬ C i vs M Q) ∨ FnF W C (2 * k) i
  FF : ∀ i x, g.fns[i]? = some x → FnF W C (2 * k) i
  HI : ∀ j x, g.cls[j]? = some x → ∃ i, T.init j = some i
  FI : ∀ j i, T.init j = some i → FnF W C (2 * k) i
  KW : KwF W C (2 * k) g
/-! ### forms -/
def shape : Expr → Bool
  | .Constant .. => true
  | .Name .. => true
  | .BinOp .. => true
  | .UnaryOp .. => true
  | .BoolOp .. => true
  | .IfExp .. => true
  | .Compare .. => true
  | .Tuple .. => true
  | .List .. => true
  | .Dict .. => true
  | .Subscript .. => true
  | .Attribute .. => true
  | .Call (.Name f _) _ _ _ => !(f == ("super" : Str))
  | .Call (.Attribute ..) _ _ _ => true
  | .ListComp .. => true
  | _ => false
theorem trE_shape {n : Nat} {tc : TC} {e : Expr} {e' : E} (h : trE n tc e = some e') : shape e = true := by
  cases n with
  | zero => simp [trE] at h
  | succ n =>
    cases e <;> first
      | rfl
      | (simp only [trE, reduceCtorEq] at h; done)
      | skip
    rename_i f es kws pos
    cases f <;> first
      | rfl
      | (simp only [trE, reduceCtorEq] at h; done)
      | skip
    rename_i f p
    simp only [trE] at h
    split at h
    · cases h
    · rename_i hd
      simp only [Bool.or_eq_true, not_or, Bool.not_eq_true] at hd
      show (!(f == ("super" : Str))) = true
      rw [hd.1.2]
      rfl
theorem shape_star {e : Expr} (h : shape e = true) : ∀ v p, e ≠ .Starred v p := by
  rintro v p rfl
  cases h
theorem shape_slice {e : Expr} (h : shape e = true) : ∀ l u s p, e ≠ .Slice l u s p := by
  rintro l u s p rfl
  cases h
theorem shape_ix {e : Expr} (h : shape e = true) : PlainIx e := by
  intro o i
  cases e <;> first
    | rfl
    | cases h
theorem shape_sup {e : Expr} (h : shape e = true) : noSup e = true := by
  unfold noSup
  split
  · exact h
  · rfl
theorem shape_in {e : Expr} {op : CmpOp} (h : shape e = true) : behindInMarks op e = false := by
  cases e <;> first
    | rfl
    | cases h
theorem shape_set {e : Expr} (h : shape e = true) (env : Env) (x : Value) : foldedSetIterable e env x = pure x := by
  cases e <;> first
    | rfl
    | cases h
theorem swap_no {e : Expr} (h : isComp e = false) (t : Option Expr) (l : Nat) (env : Env) : swapsWith e t l env = pure false := by
  cases e <;> first
    | rfl
    | cases h
theorem swap_no2 {e t : Expr} (h : ∀ x p, t ≠ .Name x p) (l : Nat) (env : Env) : swapsWith e (some t) l env = pure false := by
  cases hc : isComp e with
  | false => exact swap_no hc _ _ _
  | true =>
    cases e <;> first
      | (simp only [isComp, Bool.false_eq_true] at hc; done)
      | (cases t <;> first
        | rfl
        | exact absurd rfl (h _ _))
theorem mth_nm {m : Str} {mm : Mth} (h : mths.lookup m = some mm) : m = mthNm mm := by
  unfold mths at h
  simp only [List.lookup_cons, List.lookup_nil] at h
  repeat
    split at h
    · rename_i e
      cases h
      exact beq_iff_eq.mp e
  cases h
theorem tyLen {tc : TC} : ∀ {es : List Expr} {us : List Ty1}, tysOf tc es = some us → us.length = es.length
  | [], us, h => by
    simp only [tysOf, Option.some.injEq] at h
    subst h
    rfl
  | e :: r, us, h => by
    cases e <;> first
      | (simp only [tysOf, reduceCtorEq] at h; done)
      | skip
    simp only [tysOf] at h
    split at h
    · rename_i t ts h1 h2
      cases h
      simp [tyLen h2]
    · cases h
theorem kw_len : ∀ {kws : List Keyword} {ks : List Str}, kwNames kws = some ks → (kwVals kws).length = ks.length
  | [], ks, h => by
    simp only [kwNames, Option.some.injEq] at h
    subst h
    rfl
  | ⟨nm, v, p⟩ :: r, ks, h => by
    cases nm with
    | none => simp [kwNames] at h
    | some x =>
      simp only [kwNames, Option.map_eq_some_iff] at h
      obtain ⟨l, h1, rfl⟩ := h
      simp [kwVals, kw_len h1]
theorem trE_sub {n : Nat} {tc : TC} {v i : Expr} {pos : Pos} (hi : ∀ l u s p, i ≠ .Slice l u s p) : trE (n + 1) tc (.Subscript v i pos) = match trE n tc v, trE n tc i with
      | some v', some i' => some (.idx v' i')
      | _, _ => none := by
  cases i <;> first
    | (exact absurd rfl (hi _ _ _ _))
    | (rw [trE] <;> first | rfl | (intros; contradiction))
theorem trTg_sub {n : Nat} {tc : TC} {v i : Expr} {pos : Pos} (hi : ∀ l u s p, i ≠ .Slice l u s p) : trTg (n + 1) tc (.Subscript v i pos) = match trE n tc v, trE n tc i with
      | some v', some i' => some (.idx v' i')
      | _, _ => none := by
  cases i <;> first
    | (exact absurd rfl (hi _ _ _ _))
    | (rw [trTg] <;> first | rfl | (intros; contradiction))
theorem comp_parts {n : Nat} {tc : TC} {elt : Expr} {gens : List Comprehension} {scope : Scope} {pos : Pos} {e' : E} (h : trE (n + 1) tc (.ListComp elt gens scope pos) = some e') : ∃ tg it ifs it' tg' ifs' e1, gens = [⟨tg, it, ifs, 0⟩] ∧ e' = .cmpr e1 tg' it' ifs' ((ownOf tc.N scope.names).map (·.2)) ∧ trIt n tc it = some it' ∧ trTg n (tc.blk scope) tg = some tg' ∧ trEs n (tc.blk scope) ifs = some ifs' ∧ trE n (tc.blk scope) elt = some e1 ∧
    itOk it' tg = true ∧ tgIn ((ownOf tc.N scope.names).map (·.2)) tg' = true ∧ blkC tc.N tc.sc scope (ownOf tc.N scope.names) = true := by
  rcases gens with _ | ⟨⟨tg, it, ifs, m⟩, _ | ⟨_, _⟩⟩
  · simp only [trE, reduceCtorEq] at h
  · by_cases hm : m = 0
    · subst hm
      simp only [trE] at h
      split at h
      · rename_i it' tg' ifs' e1 h1 h2 h3 h4
        split at h
        · rename_i hc
          cases h
          simp only [Bool.and_eq_true] at hc
          exact ⟨tg, it, ifs, it', tg', ifs', e1, rfl, rfl, h1, h2, h3, h4, hc.1.1, hc.1.2, hc.2⟩
        · cases h
      · cases h
    · exfalso
      unfold trE at h
      split at h <;> simp_all
  · simp only [trE, reduceCtorEq] at h
/-! ### what holds at so much fuel -/
section
variable {W : Wd} {T : Tab} {C : CT} {g : Env1} {k : Nat}
structure Snd (W : Wd) (T : Tab) (C : CT) (g : Env1) (k n : Nat) : Prop where
  e : ∀ {tc X e e'}, Ctx W k tc X → TcG tc g → trE n tc e = some e' → PE X e (rdE W T C e') ∧ PT X e (rdT W T C e')
  o : ∀ {tc X o e'}, Ctx W k tc X → TcG tc g → trO n tc o = some e' → PO X o (rdO W T C e')
  b : ∀ {tc X op es e'}, Ctx W k tc X → TcG tc g → trB n tc op es = some e' → ∀ pos, PE X (.BoolOp op es pos) (rdE W T C e') ∧ PW X (.BoolOp op es pos) (rdT W T C e')
  es : ∀ {tc X es es'}, Ctx W k tc X → TcG tc g → trEs n tc es = some es' → Plain es ∧ es.length = es'.len ∧ PA X es (rdEs W T C es') ∧ (∀ kws, kwVals kws = es → PK X kws (rdEs W T C es')) ∧ PTs X es (rdIfs W T C es')
  it : ∀ {tc X it it' tg}, Ctx W k tc X → TcG tc g → trIt n tc it = some it' → itOk it' tg = true → PI X tg it (rdI W T C it') ∧ ∀ x, foldedSetIterable it X.env x = pure x
  tg : ∀ {tc X t t'}, Ctx W k tc X → TcG tc g → trTg n tc t = some t' → (∀ v p, t ≠ .Starred v p) ∧ PG X t (rdG W T C t') ∧ ∀ own, tgIn own t' = true → PG X t (rdGo W T C own t')
  tgs : ∀ {tc X ts ts'}, Ctx W k tc X → TcG tc g → trTgs n tc ts = some ts' → Plain ts ∧ ts.length = ts'.len ∧ PGs X ts (rdGs W T C ts') ∧ ∀ own, tgsIn own ts' = true → PGs X ts (rdGso W T C own ts')
theorem plain_cons {e : Expr} {es : List Expr} (h1 : ∀ v p, e ≠ .Starred v p) (h2 : Plain es) : Plain (e :: es) := fun x hx => by
  rcases List.mem_cons.mp hx with rfl | hx
  · exact h1
  · exact h2 x hx
theorem nil_of {es : List Expr} {es' : Es} (h : es.length = es'.len) : es = [] → es' = .nil := by
  rintro rfl
  cases es' with
  | nil => rfl
  | cons e r => simp [Es.len] at h
variable {n : Nat} {tc : TC} {X : Cx}
theorem TcG.blk (tg : TcG tc g) (scope : Scope) : TcG (tc.blk scope) g := ⟨tg.fns, tg.cns, tg.cls, tg.kwl⟩
theorem e_pl (hC : CMono C) (c : Ctx W k tc X) {e : Expr} {e' : E} (h : PE X e (rdE W T C e')) (hp : ∀ whole, isTrue e X.env whole = (do let v ← whole; standAt e.pos; holding [v] (PySem.truthy v))) : PE X e (rdE W T C e') ∧ PT X e (rdT W T C e') := ⟨h, pt_plain' hC c.fit h hp⟩
theorem s_call (V : Inp W T C g k) (ih : Snd W T C g k n) (c : Ctx W k tc X) (tg : TcG tc g) {f : Str} {p pos : Pos} {es : List Expr} {kws : List Keyword} {e' : E} (h : trE (n + 1) tc (.Call (.Name f p) es kws pos) = some e') : PE X (.Call (.Name f p) es kws pos) (rdE W T C e') := by
  simp only [trE] at h
  split at h
  · cases h
  · rename_i hd
    simp only [Bool.or_eq_true, not_or, Bool.not_eq_true] at hd
    split at h
    · rename_i hv
      split at h
      · rename_i i es' h1 h2
        cases h
        obtain ⟨a1, a2, a3, -, -⟩ := ih.es c tg h2
        exact pe_calv' V.hC c V.F a1 (nil_of a2) (by rw [c.N]; exact ixOf_get h1) (vis_ok c hv) hd.1.1 hd.2 a3
      · cases h
    · split at h
      · rename_i hv hg
        split at h
        · rename_i i hi
          obtain ⟨ps, hps⟩ := ixFn_get hi
          rw [tg.fns] at hps
          obtain ⟨hm, hk⟩ := V.G.fns i f ps hps
          split at h
          · obtain ⟨es', h1, rfl⟩ := Option.map_eq_some_iff.mp h
            obtain ⟨a1, a2, a3, -, -⟩ := ih.es c tg h1
            exact pe_call' V.hC c (V.FF i _ hps) a1 (nil_of a2) (gl_ok c hg) hm hk hd.1.1 a3
          · split at h
            · rename_i ks es1 es2 h1 h2 h3
              split at h
              · rename_i pm hp
                split at h
                · rename_i hc
                  cases h
                  obtain ⟨a1, a2, a3, -, -⟩ := ih.es c tg h2
                  obtain ⟨b1, b2, -, b4, -⟩ := ih.es c tg h3
                  rw [tg.kwl] at hc
                  rw [tg.fns] at hp
                  exact pe_calk' V.hC c (V.KW i es1.len ks (List.contains_iff_mem.mp hc) pm hp) h1 (b2.symm.trans (kw_len h1)) a1 (nil_of a2) (gl_ok c hg) hm hk hd.1.1 a3 (b4 _ rfl)
                · cases h
              · cases h
            · cases h
        · split at h
          · split at h
            · rename_i j hj
              obtain ⟨es', h1, rfl⟩ := Option.map_eq_some_iff.mp h
              obtain ⟨a1, a2, a3, -, -⟩ := ih.es c tg h1
              have hj := ixOf_get hj
              rw [tg.cls] at hj
              obtain ⟨i, hT⟩ := V.HI j _ hj
              exact pe_mak' V.hC c hT (V.G.make j i hT) (V.FI j i hT) a1 (nil_of a2) (gl_ok c hg) (V.G.cls j f hj (by rw [hT]; rfl)) hd.1.1 a3
            · split at h
              · rename_i hf
                subst hf
                split at h
                · split at h
                  · rename_i a' ts' h1 h2
                    split at h
                    · rename_i hz
                      cases h
                      exact pe_isiT' V.hC V.G tg c (shape_star (trE_shape h1)) (gl_ok c hg) (ih.e c tg h1).1 h2 hz
                    · cases h
                  · cases h
                · split at h
                  · rename_i a' ts' h1 h2
                    cases h
                    exact pe_isi1' V.hC V.G tg c (shape_star (trE_shape h1)) (gl_ok c hg) (ih.e c tg h1).1 h2
                  · cases h
                · cases h
              · split at h
                · rename_i b hb
                  obtain ⟨es', h1, rfl⟩ := Option.map_eq_some_iff.mp h
                  obtain ⟨a1, a2, a3, -, -⟩ := ih.es c tg h1
                  exact pe_blt' V.hC c a1 (nil_of a2) (gl_ok c hg) hb (V.G.nob f (blt_boot hb).2.1) a3
                · cases h
          · cases h
      · cases h
theorem s_e (V : Inp W T C g k) (ih : Snd W T C g k n) (c : Ctx W k tc X) (tg : TcG tc g) {e : Expr} {e' : E} (h : trE (n + 1) tc e = some e') : PE X e (rdE W T C e') ∧ PT X e (rdT W T C e') := by
  cases e with
  | Constant v j pos =>
    cases v <;> simp only [trE, reduceCtorEq, Option.some.injEq] at h <;> subst h
    all_goals first
      | exact e_pl V.hC c pe_int' fun _ => rfl
      | exact e_pl V.hC c pe_bl' fun _ => rfl
      | exact e_pl V.hC c pe_non' fun _ => rfl
      | exact e_pl V.hC c pe_str' fun _ => rfl
  | Name x pos =>
    simp only [trE] at h
    split at h
    · cases h
    · rename_i hd
      simp only [Bool.or_eq_true, not_or, Bool.not_eq_true] at hd
      split at h
      · rename_i hv
        obtain ⟨i, hi, rfl⟩ := Option.map_eq_some_iff.mp h
        exact e_pl V.hC c (pe_var' (by rw [c.N]; exact ixOf_get hi) (vis_ok c hv) hd.1 hd.2) fun _ => rfl
      · split at h
        · rename_i hg
          split at h
          · rename_i i hi
            cases h
            refine e_pl V.hC c ?_ fun _ => rfl
            cases hcs : T.cs i with
            | none =>
              refine pe_bad fun st M Q w => ?_
              simp only [wpE, hcs] at w
            | some v =>
              have hi := ixOf_get hi
              rw [tg.cns] at hi
              obtain ⟨y, u, hm, r, hr⟩ := V.G.cns i x v hi hcs
              exact pe_gc' (gl_ok c hg) (by rw [c.mg]; exact hm) r hcs hr hd.1
          · obtain ⟨i, hi, rfl⟩ := Option.map_eq_some_iff.mp h
            obtain ⟨ps, hps⟩ := ixFn_get hi
            rw [tg.fns] at hps
            obtain ⟨hm, hk⟩ := V.G.fns i x ps hps
            exact e_pl V.hC c (pe_fn' (gl_ok c hg) (by rw [c.mg]; exact hm) hk hd.1) fun _ => rfl
        · cases h
  | BinOp a op b pos =>
    simp only [trE] at h
    split at h
    · rename_i o a' b' ho ha hb
      cases h
      obtain rfl : op = opOf o := by
        cases op <;> simp only [trBop, reduceCtorEq, Option.some.injEq] at ho <;> subst ho <;> rfl
      exact e_pl V.hC c (pe_bin' V.hC c.fit (ih.e c tg ha).1 (ih.e c tg hb).1) fun _ => rfl
    · cases h
  | UnaryOp op a pos =>
    cases op <;> simp only [trE, reduceCtorEq] at h
    all_goals
      obtain ⟨a', ha, rfl⟩ := Option.map_eq_some_iff.mp h
      first
        | exact ⟨pe_not' V.hC c.fit (ih.e c tg ha).1, pt_not' V.hC (ih.e c tg ha).2⟩
        | exact e_pl V.hC c (pe_neg' V.hC (ih.e c tg ha).1) fun _ => rfl
  | BoolOp op es pos =>
    simp only [trE] at h
    have := ih.b c tg h pos
    exact ⟨this.1, this.2.pt⟩
  | IfExp t a b pos =>
    simp only [trE] at h
    split at h
    · rename_i t' a' b' ht ha hb
      cases h
      exact ⟨pe_ite' V.hC (ih.e c tg ht).2 (ih.e c tg ha).1 (ih.e c tg hb).1, pt_ite' V.hC (ih.e c tg ht).2 (ih.e c tg ha).2 (ih.e c tg hb).2⟩
    · cases h
  | Compare a ops bs pos =>
    have O := own_ok V.hC V.G c V.F
    rcases ops with _ | ⟨o1, _ | ⟨o2, _ | ⟨o3, r⟩⟩⟩ <;> rcases bs with _ | ⟨b1, _ | ⟨b2, _ | ⟨b3, q⟩⟩⟩ <;> simp only [trE, reduceCtorEq] at h
    · split at h
      · rename_i a' b' ha hb
        cases h
        have hm := shape_in (op := o1) (trE_shape hb)
        exact ⟨pe_cmp' V.hC c.fit O (ih.e c tg ha).1 (ih.e c tg hb).1 hm, pt_cmp' V.hC c.fit O (ih.e c tg ha).1 (ih.e c tg hb).1 hm⟩
      · cases h
    · split at h
      · rename_i a' b' d' ha hb hd
        cases h
        have hm := shape_in (op := o2) (trE_shape hd)
        exact ⟨pe_chain' V.hC c.fit (ih.e c tg ha).1 (ih.e c tg hb).1 (ih.e c tg hd).1 hm, pt_chain' V.hC c.fit (ih.e c tg ha).1 (ih.e c tg hb).1 (ih.e c tg hd).1 hm⟩
      · cases h
  | Tuple es kk pos =>
    simp only [trE] at h
    obtain ⟨es', h1, rfl⟩ := Option.map_eq_some_iff.mp h
    exact e_pl V.hC c (pe_tup' V.hC (ih.es c tg h1).2.2.1) fun _ => rfl
  | List es pos =>
    simp only [trE] at h
    obtain ⟨es', h1, rfl⟩ := Option.map_eq_some_iff.mp h
    exact e_pl V.hC c (pe_lst' V.hC (ih.es c tg h1).2.2.1) fun _ => rfl
  | Dict ks vs pos =>
    rcases ks with _ | ⟨_ | k1, _ | ⟨_, _⟩⟩ <;> rcases vs with _ | ⟨v1, _ | ⟨_, _⟩⟩ <;> simp only [trE, reduceCtorEq, Option.some.injEq] at h
    · subst h
      exact e_pl V.hC c pe_dct0' fun _ => rfl
    · split at h
      · rename_i k' v' h1 h2
        cases h
        exact e_pl V.hC c (pe_dct1' V.hC c (ih.e c tg h1).1 (ih.e c tg h2).1) fun _ => rfl
      · cases h
  | Subscript v i pos =>
    by_cases hi : ∀ l u s p, i ≠ .Slice l u s p
    · rw [trE_sub hi] at h
      split at h
      · rename_i v' i' h1 h2
        cases h
        exact e_pl V.hC c (pe_idx' V.hC c.fit (ih.e c tg h1).1 (ih.e c tg h2).1 (shape_ix (trE_shape h2))) fun _ => rfl
      · cases h
    · have : ∃ l u s p, i = .Slice l u s p := by
        cases i <;> first
          | exact ⟨_, _, _, _, rfl⟩
          | exact absurd (fun _ _ _ _ => Expr.noConfusion) hi
      obtain ⟨l, u, s, p, rfl⟩ := this
      cases s with
      | none =>
        simp only [trE] at h
        split at h
        · rename_i v' l' u' h1 h2 h3
          cases h
          exact e_pl V.hC c (pe_slc' V.hC c.fit (ih.e c tg h1).1 (ih.o c tg h2) (ih.o c tg h3)) fun _ => rfl
        · cases h
      | some s => simp only [trE, reduceCtorEq] at h
  | Attribute o f pos =>
    simp only [trE] at h
    split at h
    · rename_i o' ho
      cases h
      exact e_pl V.hC c (pe_fld' V.hC V.G c V.F (shape_sup (trE_shape ho)) (ih.e c tg ho).1) fun _ => rfl
    · cases h
  | Call f es kws pos =>
    cases f <;> first
      | (simp only [trE, reduceCtorEq] at h; done)
      | skip
    · rename_i o m apos
      cases kws with
      | cons a b => simp only [trE, reduceCtorEq] at h
      | nil =>
        refine e_pl V.hC c ?_ fun _ => rfl
        simp only [trE] at h
        split at h
        · rename_i hl
          split at h
          · rename_i mm hm
            split at h
            · rename_i o' es' h1 h2
              cases h
              obtain ⟨a1, a2, a3, -, -⟩ := ih.es c tg h2
              obtain rfl := mth_nm hm
              exact pe_mth' V.hC c (shape_sup (trE_shape h1)) hl a1 (nil_of a2) (ih.e c tg h1).1 a3
            · cases h
          · split at h
            · rename_i o' es' h1 h2
              cases h
              obtain ⟨a1, a2, a3, -, -⟩ := ih.es c tg h2
              exact pe_omt' V.hC V.G c V.F (shape_sup (trE_shape h1)) hl a1 (nil_of a2) (ih.e c tg h1).1 a3
            · cases h
        · cases h
    · exact e_pl V.hC c (s_call V ih c tg h) fun _ => rfl
  | ListComp elt gens scope pos =>
    obtain ⟨tg0, it, ifs, it', tg', ifs', e1, rfl, rfl, h1, h2, h3, h4, h5, h6, h7⟩ := comp_parts h
    obtain ⟨hi, hs⟩ := ih.it c tg h1 h5
    exact e_pl V.hC c (pe_cmpr' V.hC c h7 hi (fun Y cY => (ih.tg cY (tg.blk _) h2).2.2 _ h6) (fun Y cY => (ih.es cY (tg.blk _) h3).2.2.2.2) (fun Y cY => (ih.e cY (tg.blk _) h4).1) hs) fun _ => rfl
  | _ => simp only [trE, reduceCtorEq] at h
theorem s_o (V : Inp W T C g k) (ih : Snd W T C g k n) (c : Ctx W k tc X) (tg : TcG tc g) {o : Option Expr} {e' : E} (h : trO (n + 1) tc o = some e') : PO X o (rdO W T C e') := by
  cases o with
  | none =>
    simp only [trO, Option.some.injEq] at h
    subst h
    exact po_none'
  | some e =>
    simp only [trO] at h
    exact po_some' V.hC (ih.e c tg h).1
theorem s_b (V : Inp W T C g k) (ih : Snd W T C g k n) (c : Ctx W k tc X) (tg : TcG tc g) {op : BoolOp} {es : List Expr} {e' : E} (h : trB (n + 1) tc op es = some e') (pos : Pos) : PE X (.BoolOp op es pos) (rdE W T C e') ∧ PW X (.BoolOp op es pos) (rdT W T C e') := by
  rcases es with _ | ⟨a, _ | ⟨b, r⟩⟩
  · simp only [trB, reduceCtorEq] at h
  · simp only [trB] at h
    have := ih.e c tg h
    refine ⟨⟨fun pins s σ H Q I w => this.1.run pins s σ H Q I w⟩, ?_⟩
    cases op
    · exact pw_and1 this.2
    · exact pw_or1 this.2
  · simp only [trB] at h
    split at h
    · rename_i a' r' h1 h2
      have p1 := ih.e c tg h1
      have p2 := ih.b c tg h2 pos
      cases op <;> simp only [Option.some.injEq] at h <;> subst h
      · exact ⟨pe_and' V.hC c.fit p1.1 p2.1, pw_and' V.hC p1.2 p2.2⟩
      · exact ⟨pe_or' V.hC c.fit p1.1 p2.1, pw_or' V.hC p1.2 p2.2⟩
    · cases h
theorem kwVals_cons {kws : List Keyword} {e : Expr} {r : List Expr} (h : kwVals kws = e :: r) : ∃ nm p kw, kws = ⟨nm, e, p⟩ :: kw ∧ kwVals kw = r := by
  cases kws with
  | nil => simp [kwVals] at h
  | cons x kw =>
    obtain ⟨nm, v, p⟩ := x
    simp only [kwVals, List.cons.injEq] at h
    obtain ⟨rfl, h⟩ := h
    exact ⟨nm, p, kw, rfl, h⟩
theorem s_es (V : Inp W T C g k) (ih : Snd W T C g k n) (c : Ctx W k tc X) (tg : TcG tc g) {es : List Expr} {es' : Es} (h : trEs (n + 1) tc es = some es') : Plain es ∧ es.length = es'.len ∧ PA X es (rdEs W T C es') ∧ (∀ kws, kwVals kws = es → PK X kws (rdEs W T C es')) ∧ PTs X es (rdIfs W T C es') := by
  cases es with
  | nil =>
    simp only [trEs, Option.some.injEq] at h
    subst h
    refine ⟨(fun _ h => nomatch h), rfl, pa_nil', fun kws hk => ?_, pts_nil'⟩
    cases kws with
    | nil => exact pk_nil'
    | cons x kw => obtain ⟨nm, v, p⟩ := x; simp [kwVals] at hk
  | cons e r =>
    simp only [trEs] at h
    split at h
    · rename_i e' r' h1 h2
      cases h
      obtain ⟨a1, a2, a3, a4, a5⟩ := ih.es c tg h2
      have p := ih.e c tg h1
      have hs := shape_star (trE_shape h1)
      refine ⟨plain_cons hs a1, by simp [Es.len, a2], pa_cons' V.hC hs p.1 a3, fun kws hk => ?_, pts_cons' V.hC p.2 a5⟩
      obtain ⟨nm, q, kw, rfl, hk2⟩ := kwVals_cons hk
      exact pk_cons' V.hC p.1 (a4 kw hk2)
    · cases h
theorem s_of (V : Inp W T C g k) (ih : Snd W T C g k n) (c : Ctx W k tc X) (tg : TcG tc g) {it tt : Expr} {it' : It} (h : (trE n tc it).map It.of = some it') : PI X tt it (rdI W T C it') ∧ ∀ x, foldedSetIterable it X.env x = pure x := by
  obtain ⟨e', h1, rfl⟩ := Option.map_eq_some_iff.mp h
  exact ⟨pi_of' V.hC c (ih.e c tg h1).1, shape_set (trE_shape h1) X.env⟩
theorem s_it (V : Inp W T C g k) (ih : Snd W T C g k n) (c : Ctx W k tc X) (tg : TcG tc g) {it tt : Expr} {it' : It} (h : trIt (n + 1) tc it = some it') (ho : itOk it' tt = true) : PI X tt it (rdI W T C it') ∧ ∀ x, foldedSetIterable it X.env x = pure x := by
  cases it with
  | Call f es kws pos =>
    cases f with
    | Name f p =>
      cases kws with
      | cons _ _ =>
        simp only [trIt] at h
        exact s_of V ih c tg h
      | nil =>
        simp only [trIt] at h
        split at h
        · rename_i hc
          simp only [Bool.and_eq_true, decide_eq_true_eq] at hc
          obtain ⟨⟨⟨⟨hg, -⟩, -⟩, rfl⟩, hl⟩ := hc
          obtain ⟨es', h1, rfl⟩ := Option.map_eq_some_iff.mp h
          obtain ⟨a1, a2, a3, -, -⟩ := ih.es c tg h1
          exact ⟨pi_rng' V.hC c a1 a2 hl (gl_ok c hg) (V.G.nob "range" (by simp [bltNames])) a3, fun _ => rfl⟩
        · split at h
          · rename_i hc
            simp only [Bool.and_eq_true, decide_eq_true_eq] at hc
            obtain ⟨⟨⟨hg, -⟩, -⟩, rfl⟩ := hc
            split at h
            · obtain ⟨e', h1, rfl⟩ := Option.map_eq_some_iff.mp h
              cases tt <;> first
                | (simp only [itOk, Bool.false_eq_true] at ho; done)
                | skip
              exact ⟨pi_enu' V.hC c (shape_star (trE_shape h1)) (gl_ok c hg) (V.G.nob "enumerate" (by simp [bltNames])) (ih.e c tg h1).1, fun _ => rfl⟩
            · cases h
          · exact s_of V ih c tg h
    | _ =>
      simp only [trIt] at h
      exact s_of V ih c tg h
  | _ =>
    simp only [trIt] at h
    exact s_of V ih c tg h
theorem s_tg (V : Inp W T C g k) (ih : Snd W T C g k n) (c : Ctx W k tc X) (tg : TcG tc g) {t : Expr} {t' : Tg} (h : trTg (n + 1) tc t = some t') : (∀ v p, t ≠ .Starred v p) ∧ PG X t (rdG W T C t') ∧ ∀ own, tgIn own t' = true → PG X t (rdGo W T C own t') := by
  cases t with
  | Name x pos =>
    simp only [trTg] at h
    split at h
    · rename_i hs
      obtain ⟨i, hi, rfl⟩ := Option.map_eq_some_iff.mp h
      have hN : X.N[i]? = some x := by rw [c.N]; exact ixOf_get hi
      refine ⟨fun _ _ => Expr.noConfusion, pg_nm' c hN hs, fun own ho => pg_nmo c hN hs ?_⟩
      simp only [tgIn] at ho
      exact List.contains_iff_mem.mp ho
    · cases h
  | Tuple ts kk pos =>
    simp only [trTg] at h
    obtain ⟨ts', h1, rfl⟩ := Option.map_eq_some_iff.mp h
    obtain ⟨a1, a2, a3, a4⟩ := ih.tgs c tg h1
    refine ⟨fun _ _ => Expr.noConfusion, pg_tup' c a1 a2 a3, fun own ho => pg_tupo c a1 a2 (a4 own ?_)⟩
    simpa only [tgIn] using ho
  | Subscript v i pos =>
    by_cases hi : ∀ l u s p, i ≠ .Slice l u s p
    · rw [trTg_sub hi] at h
      split at h
      · rename_i v' i' h1 h2
        cases h
        refine ⟨fun _ _ => Expr.noConfusion, pg_idx' V.hC c (fun l u p => hi l u none p) (ih.e c tg h1).1 (ih.e c tg h2).1, fun own ho => ?_⟩
        simp only [tgIn, Bool.false_eq_true] at ho
      · cases h
    · have : ∃ l u s p, i = .Slice l u s p := by
        cases i <;> first
          | exact ⟨_, _, _, _, rfl⟩
          | exact absurd (fun _ _ _ _ => Expr.noConfusion) hi
      obtain ⟨l, u, s, p, rfl⟩ := this
      simp only [trTg, reduceCtorEq] at h
  | Attribute o f pos =>
    simp only [trTg] at h
    split at h
    · rename_i o' h1
      cases h
      refine ⟨fun _ _ => Expr.noConfusion, pg_fld' V.hC V.G c (ih.e c tg h1).1, fun own ho => ?_⟩
      simp only [tgIn, Bool.false_eq_true] at ho
    · cases h
  | _ => simp only [trTg, reduceCtorEq] at h
theorem s_tgs (V : Inp W T C g k) (ih : Snd W T C g k n) (c : Ctx W k tc X) (tg : TcG tc g) {ts : List Expr} {ts' : Tgs} (h : trTgs (n + 1) tc ts = some ts') : Plain ts ∧ ts.length = ts'.len ∧ PGs X ts (rdGs W T C ts') ∧ ∀ own, tgsIn own ts' = true → PGs X ts (rdGso W T C own ts') := by
  cases ts with
  | nil =>
    simp only [trTgs, Option.some.injEq] at h
    subst h
    exact ⟨(fun _ h => nomatch h), rfl, pgs_nil', fun _ _ => pgs_nilo⟩
  | cons t r =>
    simp only [trTgs] at h
    split at h
    · rename_i t' r' h1 h2
      cases h
      obtain ⟨a1, a2, a3, a4⟩ := ih.tgs c tg h2
      obtain ⟨b1, b2, b3⟩ := ih.tg c tg h1
      refine ⟨plain_cons b1 a1, by simp [Tgs.len, a2], pgs_cons' V.hC b1 b2 a3, fun own ho => ?_⟩
      simp only [tgsIn, Bool.and_eq_true] at ho
      exact pgs_conso V.hC b1 (b3 own ho.1) (a4 own ho.2)
    · cases h
theorem snd (V : Inp W T C g k) : ∀ n, Snd W T C g k n
  | 0 => ⟨fun _ _ h => by simp [trE] at h, fun _ _ h => by simp [trO] at h, fun _ _ h => by simp [trB] at h, fun _ _ h => by simp [trEs] at h, fun _ _ h => by simp [trIt] at h, fun _ _ h => by simp [trTg] at h, fun _ _ h => by simp [trTgs] at h⟩
  | n + 1 =>
    have ih := snd V n
    ⟨fun c tg h => s_e V ih c tg h, fun c tg h => s_o V ih c tg h, fun c tg h => s_b V ih c tg h, fun c tg h => s_es V ih c tg h, fun c tg h => s_it V ih c tg h, fun c tg h => s_tg V ih c tg h, fun c tg h => s_tgs V ih c tg h⟩

/-! ### statements -/
theorem swapped_no {t e : Expr} {env : Env} (h : ∀ ts a b vs c d, ¬ (t = .Tuple ts a b ∧ e = .Tuple vs c d)) (h2 : ∀ ts p, t ≠ .List ts p) : swappedStores [t] e env = pure none := by
  cases t <;> first
    | rfl
    | exact absurd rfl (h2 _ _)
    | skip
  cases e <;> first
    | rfl
    | exact absurd ⟨rfl, rfl⟩ (h _ _ _ _ _ _)
theorem trS_asg {n : Nat} {tc : TC} {t e : Expr} {pos : Pos} (h : ∀ ts a b vs c d, ¬ (t = .Tuple ts a b ∧ e = .Tuple vs c d)) : trS (n + 1) tc (.Assign [t] e pos) = if onFly tc t e then (match trTg n tc t, trE n tc e with
      | some t', some e' => some (.asg t' e')
      | _, _ => none) else none := by
  cases t <;> first
    | rfl
    | skip
  cases e <;> first
    | rfl
    | exact absurd ⟨rfl, rfl⟩ (h _ _ _ _ _ _)
theorem s_asg (V : Inp W T C g k) (c : Ctx W k tc X) (tg : TcG tc g) (I : X.env.scope.kind = .function) {t e : Expr} {pos : Pos} {s' : S} (hn : ∀ ts a b vs c d, ¬ (t = .Tuple ts a b ∧ e = .Tuple vs c d)) (h : (if onFly tc t e then (match trTg n tc t, trE n tc e with
      | some t', some e' => some (S.asg t' e')
      | _, _ => none) else none) = some s') : PS X (.Assign [t] e pos) (rdS W T C s') := by
  split at h
  · rename_i hf
    split at h
    · rename_i t' e' h1 h2
      cases h
      obtain ⟨b1, b2, -⟩ := (snd V n).tg c tg h1
      have pe := ((snd V n).e c tg h2).1
      have hl : ∀ ts p, t ≠ .List ts p := by
        rintro ts p rfl
        cases n with
        | zero => simp [trTg] at h1
        | succ n => simp only [trTg, reduceCtorEq] at h1
      have hw := swapped_no (env := X.env) hn hl
      by_cases ht : ∃ x p, t = .Name x p
      · obtain ⟨x, p, rfl⟩ := ht
        cases hc : isComp e with
        | false => exact ps_asg' V.hC pe b2 b1 (by
            show swapsWith e (some (.Name x p)) pos.line X.env = pure false
            exact swap_no hc _ _ _) hw
        | true =>
          have : ∃ a b d q, e = .ListComp a b d q := by
            cases e <;> first
              | exact ⟨_, _, _, _, rfl⟩
              | (simp only [isComp, Bool.false_eq_true] at hc; done)
              | (exfalso; cases n <;> simp only [trE, reduceCtorEq] at h2; done)
          obtain ⟨elt, gens, scope, q, rfl⟩ := this
          cases n with
          | zero => simp [trE] at h2
          | succ n =>
            obtain ⟨tg0, it, ifs, it', tg', ifs', e1, rfl, rfl, h3, h4, h5, h6, h7, h8, h9⟩ := comp_parts h2
            have ih := snd V n
            obtain ⟨hi, hs⟩ := ih.it c tg h3 h7
            simp only [trTg] at h1
            split at h1
            · obtain ⟨i, hi', rfl⟩ := Option.map_eq_some_iff.mp h1
              exact ps_cmpr' V.hC c I (by rw [c.N]; exact ixOf_get hi') hf h9 hi (fun Y cY => (ih.tg cY (tg.blk _) h4).2.2 _ h8) (fun Y cY => (ih.es cY (tg.blk _) h5).2.2.2.2) (fun Y cY => (ih.e cY (tg.blk _) h6).1) hs
            · cases h1
      · exact ps_asg' V.hC pe b2 b1 (show swapsWith _ _ _ _ = _ from swap_no2 (fun x p e => ht ⟨x, p, e⟩) _ _) hw
    · cases h
  · cases h
structure SndS (W : Wd) (T : Tab) (C : CT) (g : Env1) (k n : Nat) : Prop where
  s : ∀ {tc X s s'}, Ctx W k tc X → TcG tc g → X.env.scope.kind = .function → trS n tc s = some s' → PS X s (rdS W T C s')
  ss : ∀ {tc X s s'}, Ctx W k tc X → TcG tc g → X.env.scope.kind = .function → trSs n tc s = some s' → PSs X s (rdSs W T C s')
theorem s_ss (V : Inp W T C g k) (ih : SndS W T C g k n) (c : Ctx W k tc X) (tg : TcG tc g) (I : X.env.scope.kind = .function) {s : List Stmt} {s' : Ss} (h : trSs (n + 1) tc s = some s') : PSs X s (rdSs W T C s') := by
  cases s with
  | nil =>
    simp only [trSs, Option.some.injEq] at h
    subst h
    exact pss_nil'
  | cons s r =>
    simp only [trSs] at h
    split at h
    · rename_i a b h1 h2
      cases h
      exact pss_cons' (ih.s c tg I h1) (ih.ss c tg I h2)
    · cases h
theorem trS_exp {n : Nat} {tc : TC} {e : Expr} {pos : Pos} (h : ∀ x j p, e ≠ .Constant (.str x) j p) : trS (n + 1) tc (.Expr e pos) = if isComp e then none else (trE n tc e).map .exp := by
  cases e <;> first
    | rfl
    | skip
  rename_i v j p
  cases v <;> first
    | rfl
    | exact absurd rfl (h _ _ _)
theorem s_s (V : Inp W T C g k) (ih : SndS W T C g k n) (c : Ctx W k tc X) (tg : TcG tc g) (I : X.env.scope.kind = .function) {s : Stmt} {s' : S} (h : trS (n + 1) tc s = some s') : PS X s (rdS W T C s') := by
  have ie := snd V n
  cases s with
  | Expr e pos =>
    by_cases hd : ∃ x j p, e = .Constant (.str x) j p
    · obtain ⟨x, j, p, rfl⟩ := hd
      simp only [trS, Option.some.injEq] at h
      subst h
      exact ps_doc'
    · rw [trS_exp fun x j p e => hd ⟨x, j, p, e⟩] at h
      split at h
      · cases h
      · rename_i hc
        obtain ⟨e', h1, rfl⟩ := Option.map_eq_some_iff.mp h
        exact ps_exp' V.hC (ie.e c tg h1).1 (swap_no (by simpa using hc) _ _ _)
  | Pass pos =>
    simp only [trS, Option.some.injEq] at h
    subst h
    exact ps_pas'
  | Break pos =>
    simp only [trS, Option.some.injEq] at h
    subst h
    exact ps_brk'
  | Continue pos =>
    simp only [trS, Option.some.injEq] at h
    subst h
    exact ps_cnt'
  | Raise a b pos =>
    simp only [trS, Option.some.injEq] at h
    subst h
    exact ps_rai'
  | Return o pos =>
    cases o with
    | none =>
      simp only [trS, Option.some.injEq] at h
      subst h
      exact ps_retn'
    | some e =>
      simp only [trS] at h
      obtain ⟨e', h1, rfl⟩ := Option.map_eq_some_iff.mp h
      exact ps_ret' V.hC (ie.e c tg h1).1
  | Assign ts e pos =>
    rcases ts with _ | ⟨t, _ | ⟨u, r⟩⟩
    · simp only [trS, reduceCtorEq] at h
    · by_cases hn : ∀ ts a b vs c d, ¬ (t = .Tuple ts a b ∧ e = .Tuple vs c d)
      · rw [trS_asg hn] at h
        exact s_asg V c tg I hn h
      · simp only [Classical.not_forall, Classical.not_not] at hn
        obtain ⟨ts, k1, p1, vs, k2, p2, rfl, rfl⟩ := hn
        simp only [trS] at h
        split at h
        · rename_i hw
          split at h
          · cases h
          · rename_i hc
            split at h
            · rename_i is vs' h1 h2
              split at h
              · rename_i hn
                cases h
                obtain ⟨a1, a2, a3, -, -⟩ := ie.es c tg h2
                exact ps_par' V.hC c I a1 hw (by simpa using hc) h1 hn a3
              · cases h
            · cases h
        · rename_i hw
          split at h
          · rename_i ts' vs' h1 h2
            cases h
            obtain ⟨a1, a2, a3, -, -⟩ := ie.es c tg h2
            obtain ⟨b1, b2, b3, -⟩ := ie.tgs c tg h1
            exact ps_asg' V.hC (pe_tup' V.hC a3) (pg_tup' c b1 b2 b3) (fun _ _ => Expr.noConfusion) rfl (sw_none c I a1 (by simpa using hw))
          · cases h
    · simp only [trS, reduceCtorEq] at h
  | If t a b pos =>
    simp only [trS] at h
    split at h
    · rename_i t' a' b' h1 h2 h3
      cases h
      exact ps_ifs' V.hC (ie.e c tg h1).2 (ih.ss c tg I h2) (ih.ss c tg I h3)
    · cases h
  | While t b o pos =>
    cases o with
    | cons _ _ => simp only [trS, reduceCtorEq] at h
    | nil =>
      simp only [trS] at h
      split at h
      · rename_i t' b' h1 h2
        cases h
        exact ps_whl' V.hC c (ie.e c tg h1).2 (ih.ss c tg I h2)
      · cases h
  | For t i b o pos =>
    cases o with
    | cons _ _ => simp only [trS, reduceCtorEq] at h
    | nil =>
      simp only [trS] at h
      split at h
      · rename_i t' i' b' h1 h2 h3
        split at h
        · rename_i ho
          cases h
          obtain ⟨a1, a2⟩ := ie.it c tg h2 ho
          exact ps_for' V.hC c a1 (ie.tg c tg h1).2.1 (ih.ss c tg I h3) a2
        · cases h
      · cases h
  | _ => simp only [trS, reduceCtorEq] at h
theorem sndS (V : Inp W T C g k) : ∀ n, SndS W T C g k n
  | 0 => ⟨fun _ _ _ h => by simp [trS] at h, fun _ _ _ h => by simp [trSs] at h⟩
  | n + 1 =>
    have ih := sndS V n
    ⟨fun c tg I h => s_s V ih c tg I h, fun c tg I h => s_ss V ih c tg I h⟩
end
end Ev
end

section
/-! EvW: tools for proofs over the small language. -/
namespace Ev
open PySem
/-- what was there stays as it was -/
def Ext (M M' : MH) : Prop := ∀ a o, M a = some o → M' a = some o
theorem Ext.refl {M : MH} : Ext M M := fun _ _ h => h
theorem Ext.trans {M M1 M2 : MH} (h : Ext M M1) (k : Ext M1 M2) : Ext M M2 := fun a o e => k a o (h a o e)
theorem Ext.mup {M0 M : MH} {a : Addr} {o : MO} (e : Ext M0 M) (h : M0 a = none) : Ext M0 (mup M a o) := fun b u hb => by
  unfold Ev.mup
  split
  · rename_i hab
    subst hab
    rw [h] at hb
    cases hb
  · exact e b u hb
theorem Ext.new {M : MH} {a : Addr} {o : MO} (h : M a = none) : Ext M (Ev.mup M a o) := Ext.refl.mup h
theorem Ext.non {M M' : MH} {a : Addr} (e : Ext M M') (h : M' a = none) : M a = none := by
  cases q : M a with
  | none => rfl
  | some o =>
    have := e a o q
    rw [h] at this
    cases this
theorem Ext.ne {M M' : MH} {a b : Addr} {o : MO} (e : Ext M M') (h : M' a = none) (k : M b = some o) : b ≠ a := by
  rintro rfl
  have := e b o k
  rw [h] at this
  cases this
section
variable {T : Tab} {C : CT} {F : Nat → Option Fn} {k : Nat}
theorem cn_of {i : Nat} {fn : Fn} {vs : List PV} {M : MH} {Q : PV → MH → Prop} (h : F i = some fn) (hl : vs.length = fn.np) (w : wpSs T (Cn T F k) fn.body { nx := fun _ M' => Q .non M', rt := Q } (vs.map some ++ List.replicate (fn.ns - fn.np) none) M) : Cn T F (k + 1) i vs M Q := by
  unfold Cn
  rw [h]
  exact ⟨hl, w⟩
theorem forL_ind {g : MH → Prop} {dn : St → MH → Prop} {step : PV → St → MH → (St → MH → Prop) → Prop} {xs : List PV} (I : Nat → St → MH → Prop) (hg : ∀ i σ M, i ≤ xs.length → I i σ M → g M)
    (hs : ∀ i x σ M (K : St → MH → Prop), xs[i]? = some x → I i σ M → (∀ σ' M', I (i + 1) σ' M' → K σ' M') → step x σ M K) (hd : ∀ σ M, I xs.length σ M → dn σ M) {σ : St} {M : MH} (h0 : I 0 σ M) : forL g dn step xs σ M := by
  have key : ∀ n i σ M, i + n = xs.length → I i σ M → forL g dn step (xs.drop i) σ M := by
    intro n
    induction n with
    | zero =>
      intro i σ M e h
      have e : i = xs.length := by omega
      subst e
      rw [List.drop_length]
      exact ⟨hg _ _ _ (Nat.le_refl _) h, hd _ _ h⟩
    | succ n ih =>
      intro i σ M e h
      have lt : i < xs.length := by omega
      rw [List.drop_eq_getElem_cons lt]
      exact ⟨hg _ _ _ (Nat.le_of_lt lt) h, hs i _ σ M _ (List.getElem?_eq_getElem lt) h fun σ' M' h' => ih (i + 1) σ' M' (by omega) h'⟩
  have := key xs.length 0 σ M (by omega) h0
  rwa [List.drop_zero] at this
theorem cmpL_ind {g : MH → Prop} {dn : MH → Prop} {step : PV → MH → (MH → Prop) → Prop} {xs : List PV} (I : Nat → MH → Prop) (hg : ∀ i M, i ≤ xs.length → I i M → g M)
    (hs : ∀ i x M (K : MH → Prop), xs[i]? = some x → I i M → (∀ M', I (i + 1) M' → K M') → step x M K) (hd : ∀ M, I xs.length M → dn M) {M : MH} (h0 : I 0 M) : cmpL g dn step xs M := by
  have key : ∀ n i M, i + n = xs.length → I i M → cmpL g dn step (xs.drop i) M := by
    intro n
    induction n with
    | zero =>
      intro i M e h
      have e : i = xs.length := by omega
      subst e
      rw [List.drop_length]
      exact ⟨hg _ _ (Nat.le_refl _) h, hd _ h⟩
    | succ n ih =>
      intro i M e h
      have lt : i < xs.length := by omega
      rw [List.drop_eq_getElem_cons lt]
      exact ⟨hg _ _ (Nat.le_of_lt lt) h, hs i _ M _ (List.getElem?_eq_getElem lt) h fun M' h' => ih (i + 1) M' (by omega) h'⟩
  have := key xs.length 0 M (by omega) h0
  rwa [List.drop_zero] at this
/-- while, by a measure -/
theorem whN_ind {c : St → MH → (PV → MH → Prop) → Prop} {b : Ends → St → MH → Prop} {D : Ends} (I : Nat → St → MH → Prop) (hc : ∀ σ M (Q Q' : PV → MH → Prop), (∀ x M, Q x M → Q' x M) → c σ M Q → c σ M Q')
    (h : ∀ n σ M, I n σ M → c σ M fun x M1 => (truthy M1 x = some false ∧ D.nx σ M1) ∨ (truthy M1 x = some true ∧ ∀ K : St → MH → Prop, (∀ m σ' M', m < n → I m σ' M' → K σ' M') → b { D with nx := K, ct := K, bk := D.nx } σ M1)) {n : Nat} {σ : St} {M : MH} (h0 : I n σ M) : ∃ m, whN c b D m σ M := by
  refine ⟨n + 1, ?_⟩
  have key : ∀ N n σ M, n ≤ N → I n σ M → whN c b D (N + 1) σ M := by
    intro N
    induction N with
    | zero =>
      intro n σ M hn hi
      simp only [whN]
      refine hc _ _ _ _ (fun x M1 q => ?_) (h n σ M hi)
      rcases q with ⟨e, q⟩ | ⟨e, q⟩
      · rw [e]
        exact q
      · rw [e]
        exact q _ fun m σ' M' hm _ => absurd hm (by omega)
    | succ N ih =>
      intro n σ M hn hi
      unfold whN
      refine hc _ _ _ _ (fun x M1 q => ?_) (h n σ M hi)
      rcases q with ⟨e, q⟩ | ⟨e, q⟩
      · rw [e]
        exact q
      · rw [e]
        exact q _ fun m σ' M' hm hi' => ih m σ' M' (by omega) hi'
  exact key n n σ M (Nat.le_refl _) h0
end
end Ev
end

section
/-! EvX: all defs, at every level of calls. -/
namespace Ev
open PySem PySem.Spec PyProof.Rows L2
/-- a def of the table: where it lies -/
structure DefF (W : Wd) (fd : FuncData) (i : Nat) (d : Df) : Prop where
  ex : ∃ (x qual : Str) (params : Arguments), FunD W.K x qual params d.body d.sc [] [] (W.fa i) fd
  sc : C8.scC d.N d.ps d.sc = true
  binds : Binds W.K fd d.ps []
  keep : PySem.W.keepIn W.K (.ref (W.fa i)) = true
def FT (g : Env1) (dfs : List Df) (i : Nat) : Option Fn := dfs[i]?.bind fun d => d.tr g
section
variable {W : Wd} {T : Tab} {g : Env1} {dfs : List Df} {fd : Nat → FuncData}
theorem tr_eq {d : Df} {fn : Fn} (h : d.tr g = some fn) : ∃ b, trSs fuelT (d.tc g) d.body = some b ∧ fn = ⟨d.ps.length, d.N.length, b⟩ := by
  unfold Df.tr at h
  obtain ⟨b, h1, h2⟩ := Option.map_eq_some_iff.mp h
  exact ⟨b, h1, h2.symm⟩
theorem fn_zero {i : Nat} {d : Df} : FnOk W.P W.w W.K W.mg W.base C8.CX0 0 (W.fa i) (fd i) d.ps (spOf W (Cn T (FT g dfs) 0) i) :=
  ⟨fun _ _ _ _ ⟨_, _, _, _, w⟩ => w.elim, fun _ _ _ _ _ _ _ _ _ _ _ _ _ ⟨_, _, _, _, w⟩ => w.elim⟩
theorem fn_succ {k i : Nat} {d : Df} (hd : dfs[i]? = some d) (D : DefF W (fd i) i d) (V : Inp W T (Cn T (FT g dfs) k) g k) : FnOk W.P W.w W.K W.mg W.base C8.CX0 (2 * (k + 1)) (W.fa i) (fd i) d.ps (spOf W (Cn T (FT g dfs) (k + 1)) i) := by
  obtain ⟨x, qual, params, F⟩ := D.ex
  have S := C8.fnScope_by D.sc
  have get : ∀ vs H Q E, spOf W (Cn T (FT g dfs) (k + 1)) i vs H Q E → ∃ pvs M b, RelPs W H pvs vs ∧ Emb W M H ∧ trSs fuelT (d.tc g) d.body = some b ∧ pvs.length = d.ps.length ∧ wpSs T (Cn T (FT g dfs) k) b { nx := fun _ M' => Aft W H Q .non M', rt := Aft W H Q } (pvs.map some ++ List.replicate (d.N.length - d.ps.length) none) M := by
    rintro vs H Q E ⟨pvs, M, r, em, w⟩
    have e : FT g dfs i = d.tr g := by unfold FT; rw [hd]; rfl
    unfold Cn at w
    rw [e] at w
    split at w
    · rename_i fn hf
      obtain ⟨b, h1, rfl⟩ := tr_eq hf
      exact ⟨pvs, M, b, r, em, h1, w.1, w.2⟩
    · exact w.elim
  refine FunD.ok (k := 2 * k + 1) F S (fun vs H Q E h => ?_) fun cdv A outer s H vs Q E hr h => ?_
  · obtain ⟨pvs, M, b, r, -, -, l, -⟩ := get vs H Q E h
    rw [← r.length, l]
  · obtain ⟨pvs, M, b, r, em, h1, l, w⟩ := get vs H Q E h
    have c : Ctx W k (d.tc g) (cxOf C8.CX0 W.P W.w W.K W.mg W.base d.N qual d.sc (W.fa i) cdv A outer s H E).nox :=
      ⟨rfl, rfl, rfl, rfl, rfl, rfl, hr, rfl, S.nd, rfl, rfl, rfl⟩
    refine ⟨rdSs W T (Cn T (FT g dfs) k) b, ?_, ?_⟩
    · exact ((sndS V fuelT).ss c ⟨rfl, rfl, rfl, rfl⟩ S.kind h1).nox
    · refine ⟨({ nx := fun _ M' => Aft W H Q .non M', rt := Aft W H Q } : Ev.Ends), _, M, ?_, em, ⟨fun st' M' q H' σ g' es' em' => q H' _ g' em' (by simp only [RelP]), fun v M' q => q, fun st' M' q => q.elim, fun st' M' q => q.elim⟩, w⟩
      rw [← l, r.length]
      exact (EmbS.args r).app (EmbS.empty _)
/-- all levels -/
theorem levels (G : Glb W T g) (D : ∀ i d, dfs[i]? = some d → DefF W (fd i) i d) (hf : g.fns.length ≤ dfs.length) (HI : ∀ j x, g.cls[j]? = some x → ∃ i, T.init j = some i) (hi : ∀ j i, T.init j = some i → i < dfs.length)
    (KB : ∀ i np ks, (i, np, ks) ∈ g.kwl → ∀ p, permOf ((g.fns.getD i ("", [])).2) np ks = some p → ∃ d, dfs[i]? = some d ∧ KBn W.K (fd i) d.ps np ks (perU p) (perV p)) : ∀ k, Inp W T (Cn T (FT g dfs) k) g k ∧ ∀ i d, dfs[i]? = some d → FnOk W.P W.w W.K W.mg W.base C8.CX0 (2 * k) (W.fa i) (fd i) d.ps (spOf W (Cn T (FT g dfs) k) i) := by
  have mk : ∀ k, (∀ i d, dfs[i]? = some d → FnOk W.P W.w W.K W.mg W.base C8.CX0 (2 * k) (W.fa i) (fd i) d.ps (spOf W (Cn T (FT g dfs) k) i)) → Inp W T (Cn T (FT g dfs) k) g k := fun k h => by
    have one : ∀ i d, dfs[i]? = some d → FnF W (Cn T (FT g dfs) k) (2 * k) i := fun i d e => ⟨fd i, d.ps, h i d e, (D i d e).binds, (D i d e).keep⟩
    have lt : ∀ i, i < dfs.length → FnF W (Cn T (FT g dfs) k) (2 * k) i := fun i hl => one i _ (List.getElem?_eq_getElem hl)
    refine ⟨Cn_mono T _ k, G, fun i => ?_, fun i x e => lt i ?_, HI, fun j i e => lt i (hi j i e), fun i np ks hm p hp => ?_⟩
    · by_cases hl : i < dfs.length
      · exact .inr (lt i hl)
      · refine .inl fun vs M Q w => ?_
        cases k with
        | zero => exact w
        | succ k =>
          have e : FT g dfs i = none := by
            unfold FT
            rw [List.getElem?_eq_none (by omega)]
            rfl
          unfold Cn at w
          rw [e] at w
          exact w
    · have := (List.getElem?_eq_some_iff.mp e).1
      omega
    · obtain ⟨d, e, kb⟩ := KB i np ks hm p hp
      exact ⟨fd i, d.ps, h i d e, kb⟩
  intro k
  induction k with
  | zero => exact ⟨mk 0 fun i d e => fn_zero, fun i d e => fn_zero⟩
  | succ k ih =>
    have h : ∀ i d, dfs[i]? = some d → FnOk W.P W.w W.K W.mg W.base C8.CX0 (2 * (k + 1)) (W.fa i) (fd i) d.ps (spOf W (Cn T (FT g dfs) (k + 1)) i) := fun i d e => fn_succ e (D i d e) ih.1
    exact ⟨mk (k + 1) h, h⟩
end
end Ev
end

section
/-! EvY: the facts of the module, from the head's run. -/
namespace Ev
open PySem PySem.Spec PyProof.Rows L2
theorem fm_congr {α β : Type} {f g : α → Option β} : ∀ {l : List α}, (∀ x ∈ l, f x = g x) → l.filterMap f = l.filterMap g
  | [], _ => rfl
  | a :: l, h => by
    rw [List.filterMap_cons, List.filterMap_cons, h a (List.mem_cons_self ..), fm_congr fun x hx => h x (List.mem_cons_of_mem _ hx)]
theorem look_zip {α : Type} : ∀ {ns : List Str} {us : List α}, ns.Nodup → us.length = ns.length → ns.filterMap (fun n => ((ns.zip us).lookup n).map (n, ·)) = ns.zip us
  | [], us, _, _ => by simp
  | n :: ns, [], _, h => by simp at h
  | n :: ns, u :: us, nd, h => by
    obtain ⟨h1, h2⟩ := List.nodup_cons.mp nd
    rw [List.zip_cons_cons, List.filterMap_cons]
    simp only [List.lookup_cons, BEq.rfl, Option.map_some]
    congr 1
    refine Eq.trans (fm_congr (g := fun n => ((ns.zip us).lookup n).map (n, ·)) fun m hm => ?_) (look_zip h2 (by simpa using h))
    have : (m == n) = false := by
      rw [beq_eq_false_iff_ne]
      rintro rfl
      exact h1 hm
    rw [this]
theorem zip_some {α : Type} : ∀ {ns : List Str} {us : List α}, us.length = ns.length → ∀ n ∈ ns, ((ns.zip us).lookup n).isSome = true
  | [], _, _, _, h => by cases h
  | n :: ns, [], h, _, _ => by simp at h
  | n :: ns, u :: us, h, m, hm => by
    rw [List.zip_cons_cons, List.lookup_cons]
    cases e : m == n with
    | true => rfl
    | false =>
      rcases List.mem_cons.mp hm with rfl | hm
      · simp at e
      · exact zip_some (by simpa using h) m hm
theorem bind_pos {ar : List Arg} {kd : List (Option Expr)} {df : List Expr} {x qual : Str} {body : List Stmt} {scope : Scope} {kV doc pm : Value} {an : Option Addr} {cdv ct : Value} {us : List Value} (nd : (ar.map (·.arg)).Nodup) (hl : us.length = (ar.map (·.arg)).length) :
    bindArgs (PySem.W.fnOf x qual ⟨[], ar, none, [], kd, none, df⟩ body scope .none kV doc pm an cdv ct) ⟨us, []⟩ = pure ((ar.map (·.arg)).zip us) := by
  have hm : ((ar.map (·.arg)).filter fun n => ((((ar.map (·.arg)).zip us).lookup n).isNone)) = [] := by
    rw [List.filter_eq_nil_iff]
    intro n hn
    have := zip_some hl n hn
    cases e : ((ar.map (·.arg)).zip us).lookup n <;> simp_all
  have hs : seqItems? .none = pure none := rfl
  unfold bindArgs PySem.W.fnOf
  have hg : ¬ (us.length > (ar.map (·.arg)).length) := by omega
  simp only [List.map_nil, List.nil_append, List.append_nil, List.forIn_nil, pure_bind, hs, hl, Option.getD_none, List.drop_nil, List.length_nil, Nat.zero_sub, Nat.sub_zero, List.take_length, List.drop_length, List.zip_nil_right, Nat.lt_irrefl, decide_false, Bool.false_and, hm, List.isEmpty_nil, Bool.not_true, Bool.false_eq_true, if_false, Option.isNone_none, gt_iff_lt, Array.toList_empty]
  rw [look_zip nd hl]
  first | done | rfl | trace_state

/-! ### where a def stands -/
inductive At
  | top (x : Str) | met (C m : Str) | pro (C f : Str)
  deriving DecidableEq
def At.ad (K : PySem.W.Frag) : At → Addr
  | .top x => He.ga K x
  | .met C m => He.ma K (He.ga K C) m
  | .pro C f => match PySem.W.recIn K (He.ma K (He.ga K C) f) "property" with
    | some (.ref g :: _) => g
    | _ => 0
structure DefA where
  at_ : At
  name : Str
  qual : Str
  ar : List Arg
  kd : List (Option Expr)
  body : List Stmt
  scope : Scope
def DefA.params (d : DefA) : Arguments := ⟨[], d.ar, none, [], d.kd, none, []⟩
def DefA.df (d : DefA) : Df := ⟨d.ar.map (·.arg), d.body, d.scope⟩
def DefA.val (d : DefA) : He.FnW := some (d.name, d.qual, d.params, .stmts d.body, d.scope, mainGlobals, [], builtinsNs)
def fnWA (K : PySem.W.Frag) (a : Addr) : He.FnW := match K.lookup a with
  | some ⟨_, _, .func fd, _⟩ => some (fd.name, fd.qualname, fd.params, fd.body, fd.scope, fd.globals, fd.closure, fd.builtins)
  | _ => none
def isNon : Value → Bool
  | .none => true
  | _ => false
theorem isNon_ok {v : Value} (h : isNon v = true) : v = .none := by
  cases v <;> first
    | rfl
    | cases h
def DefA.ok (K : PySem.W.Frag) (d : DefA) : Bool := PySem.W.keepIn K (.ref (d.at_.ad K)) && match K.lookup (d.at_.ad K) with
  | some ⟨_, _, .func fd, _⟩ => PySem.W.codeIn K fd.code d.qual && isNon fd.defaults
  | _ => false
theorem DefA.fun {K : PySem.W.Frag} {d : DefA} (e : fnWA K (d.at_.ad K) = d.val) (c : d.ok K = true) : ∃ fd, FunD K d.name d.qual d.params d.body d.scope [] [] (d.at_.ad K) fd := by
  unfold DefA.ok at c
  obtain ⟨kp, c2⟩ := Bool.and_eq_true_iff.mp c
  unfold fnWA at e
  split at c2
  · rename_i oc od fd osl q
    rw [q] at e
    cases fd
    simp only [DefA.val, Option.some.injEq, Prod.mk.injEq] at e
    obtain ⟨h1, h2, h3, h4, h5, h6, h7, h8⟩ := e
    subst h1 h2 h3 h4 h5 h6 h7 h8
    obtain ⟨k1, k2⟩ := Bool.and_eq_true_iff.mp c2
    exact ⟨_, ⟨oc, od, _, _, _, _, _, _, _, osl, rfl, q, k1, .inl ⟨rfl, isNon_ok k2⟩, .inl rfl⟩, kp⟩
  · cases c2
/-! ### the data of a program -/
structure Dat where
  body : List Stmt
  kwl : List (Nat × Nat × List Str)
  kc : List (Str × List Str)
  pr : List (Str × Str)
  cs : List (Str × Int)
def defA (at_ : At) (qual : Str) : Stmt → List DefA
  | .FunctionDef n ⟨[], ar, none, [], kd, none, []⟩ b _ _ _ sc _ _ _ => [⟨at_, n, qual, ar, kd, b, sc⟩]
  | _ => []
def nmOf : Stmt → Str
  | .FunctionDef n _ _ _ _ _ _ _ _ _ => n
  | _ => ""
def topsA : List Stmt → List DefA
  | [] => []
  | s :: r => defA (.top (nmOf s)) (nmOf s) s ++ topsA r
def dotA (C m : Str) : Str := ⟨C.cps ++ #[46] ++ m.cps⟩
def metsA (kc : List (Str × List Str)) (pr : List (Str × Str)) : List Stmt → List DefA
  | [] => []
  | .ClassDef C _ _ body _ _ _ _ _ _ _ :: r => (if (kc.lookup C).isSome then body.flatMap (fun s => defA (if pr.contains (C, nmOf s) then .pro C (nmOf s) else .met C (nmOf s)) (dotA C (nmOf s)) s) else []) ++ metsA kc pr r
  | _ :: r => metsA kc pr r
def Dat.tops (d : Dat) : List DefA := topsA d.body
def Dat.defs (d : Dat) : List DefA := d.tops ++ metsA d.kc d.pr d.body
def Dat.g (d : Dat) : Env1 := ⟨d.tops.map fun q => (q.name, q.ar.map (·.arg)), d.cs.map (·.1), d.kc.map (·.1), d.kwl⟩
def Dat.dfs (d : Dat) : List Df := d.defs.map DefA.df
def ixAt (a : At) : List DefA → Option Nat
  | [] => none
  | d :: r => if d.at_ = a then some 0 else (ixAt a r).map (· + 1)
theorem ixAt_get {a : At} : ∀ {l : List DefA} {i : Nat}, ixAt a l = some i → ∃ d, l[i]? = some d ∧ d.at_ = a
  | [], _, h => by simp [ixAt] at h
  | d :: r, i, h => by
    unfold ixAt at h
    split at h
    · rename_i e
      cases h
      exact ⟨d, rfl, e⟩
    · obtain ⟨j, e1, rfl⟩ := Option.map_eq_some_iff.mp h
      simpa using ixAt_get e1
def Dat.cname (d : Dat) (c : Nat) : Option Str := d.kc[c]?.map (·.1)
def Dat.tab (d : Dat) : Tab where
  cs i := d.cs[i]?.map fun q => .int q.2
  fld c f := match d.kc[c]? with
    | some q => q.2.contains f
    | none => false
  init c := (d.cname c).bind fun C => ixAt (.met C "__init__") d.defs
  meth c m := (d.cname c).bind fun C => ixAt (.met C m) d.defs
  prop c f := (d.cname c).bind fun C => ixAt (.pro C f) d.defs
  eqm c := (d.cname c).bind fun C => ixAt (.met C "__eq__") d.defs
def Dat.wd (d : Dat) (P : Program) (w : World) (K : PySem.W.Frag) (mg : Str → Option Value) (base : Heap) : Wd where
  P := P
  w := w
  K := K
  mg := mg
  base := base
  fa i := match d.defs[i]? with
    | some q => q.at_.ad K
    | none => 0
  ca c := match d.kc[c]? with
    | some q => He.ga K q.1
    | none => 0
/-! ### what is asked of the head -/
def oEq (a b : Option (Option Value)) : Bool := decide (a = b)
def bEq (a : Option Bool) (b : Bool) : Bool := match a with
  | some c => c == b
  | none => false
theorem bEq_ok {a : Option Bool} {b : Bool} (h : bEq a b = true) : a = some b := by
  unfold bEq at h
  split at h
  · rw [beq_iff_eq.mp h]
  · cases h
def tyB : List Ty2 := [.bi "NoneType", .bi "bool", .bi "int", .bi "str", .bi "tuple", .bi "list"]
def tyV (K : PySem.W.Frag) (d : Dat) : Ty2 → Value
  | .bi n => .type n
  | .cl c => match d.kc[c]? with
    | some q => .ref (He.ga K q.1)
    | none => .ref 0
def tyU (K : PySem.W.Frag) (d : Dat) : Ty1 → Value
  | .int => .type "int"
  | .bool => .type "bool"
  | .str => .type "str"
  | .tuple => .type "tuple"
  | .list => .type "list"
  | .cls c => match d.kc[c]? with
    | some q => .ref (He.ga K q.1)
    | none => .ref 0
def isiB (K : PySem.W.Frag) (d : Dat) : Bool :=
  let cl := List.range d.kc.length
  (tyB ++ cl.map Ty2.cl).all fun t => (([.int, .bool, .str, .tuple, .list] : List Ty1) ++ cl.map Ty1.cls).all fun u => bEq (PySem.W.kitOne K (tyV K d t) (tyU K d u)) (isi1 t u)
/-- a known class -/
def clB (K : PySem.W.Frag) (d : Dat) (q : Str × List Str) : Bool :=
  let C := He.ga K q.1
  (He.Fa.glo q.1).ok K && ((He.Fa.cls q.1).ok K && ((He.Fa.mkr q.1).ok K && (q.2.all (fun f => (He.Fa.noat q.1 f).ok K) &&
    (oEq (PySem.W.findIn K (.ref C) "__class__") (some (some (.builtin "object.__class__"))) && (oEq (PySem.W.specialIn K (.builtin "object.__class__") "__get__") (some (some (.builtin "getset_descriptor.__get__"))) &&
    (bEq (PySem.W.takesIn K (.builtin "object.__class__")) true && (bEq (PySem.W.mroIn K C (.type "object")) true && oEq (PySem.W.findIn K (.ref C) "__ne__") (some (some (.builtin "object.__ne__"))))))))))
/-- a method, a getter -/
def atB (K : PySem.W.Frag) : At → Bool
  | .top x => (He.Fa.glo x).ok K
  | .met C m => (He.Fa.meth C m).ok K
  | .pro C f =>
    let p := He.ma K (He.ga K C) f
    oEq (PySem.W.findIn K (.ref (He.ga K C)) f) (some (some (.ref p))) && (oEq (PySem.W.specialIn K (.ref p) "__get__") (some (some (.builtin "property.__get__"))) && (bEq (PySem.W.takesIn K (.ref p)) true && match PySem.W.recIn K p "property" with
      | some (.ref _ :: _) => true
      | _ => false))
def Dat.good (d : Dat) (K : PySem.W.Frag) : Bool :=
  bltNames.all (fun x => (He.Fa.free x).ok K) && (d.cs.all (fun q => (He.Fa.int q.1 q.2).ok K) && (d.kc.all (clB K d) && (d.defs.all (fun q => atB K q.at_ && q.ok K) && isiB K d)))
abbrev AlY : Type := Bool × List He.FnW
def obsY (d : Dat) (K : PySem.W.Frag) : AlY := (d.good K, d.defs.map fun q => fnWA K (q.at_.ad K))
def valY (d : Dat) : AlY := (true, d.defs.map DefA.val)
def SaysY (d : Dat) (K : PySem.W.Frag) : Prop := obsY d K = valY d
def obsYG (n : Nat) (d : Dat) (g : Addr → Option Obj) : AlY := obsY d (He.frG g (He.asD g n))
def hookY (n : Nat) (d : Dat) : PySem.W.Hook where
  α := AlY
  obs := fun s => obsYG n d s.heap.get?
  val := fun _ => valY d
  says := fun _ h => ∃ K : PySem.W.Frag, K.In h ∧ SaysY d K
  of := fun _ _ e => ⟨_, He.frG_in, e⟩
  keeps := fun _ _ _ ⟨K, hK, c⟩ k => ⟨K, PySem.W.Frag.In.keeps hK k, c⟩
theorem obsYG_eq {n : Nat} {d : Dat} {g : Addr → Option Obj} {s : Shared} (h : ∀ a, g a = s.heap.get? a) : obsYG n d g = (hookY n d).obs s := by
  have e : g = s.heap.get? := funext h
  rw [e] <;> rfl
end Ev
end

section
/-! EvZ: from the head's facts to the layer's. -/
namespace Ev
open PySem PySem.Spec PyProof.Rows L2
theorem defA_at {a : At} {q : Str} {s : Stmt} {x : DefA} (h : x ∈ defA a q s) : x.at_ = a ∧ x.name = nmOf s := by
  unfold defA at h
  split at h
  · rw [List.mem_singleton] at h
    subst h
    exact ⟨rfl, rfl⟩
  · cases h
theorem topsA_at : ∀ {b : List Stmt} {x : DefA}, x ∈ topsA b → x.at_ = .top x.name
  | [], x, h => by cases h
  | s :: r, x, h => by
    unfold topsA at h
    rcases List.mem_append.mp h with h | h
    · obtain ⟨h1, h2⟩ := defA_at h
      rw [h1, h2]
    · exact topsA_at h
section
variable {d : Dat} {P : Program} {w : World} {K : PySem.W.Frag} {mg : Str → Option Value} {base h : Heap}
structure Good (d : Dat) (K : PySem.W.Frag) : Prop where
  nob : ∀ x ∈ bltNames, (He.Fa.free x).ok K = true
  cs : ∀ q ∈ d.cs, (He.Fa.int q.1 q.2).ok K = true
  cl : ∀ q ∈ d.kc, clB K d q = true
  df : ∀ q ∈ d.defs, atB K q.at_ = true ∧ q.ok K = true ∧ fnWA K (q.at_.ad K) = q.val
  isi : isiB K d = true
theorem good_of (c : SaysY d K) : Good d K := by
  have c1 : d.good K = true := congrArg (fun z : AlY => z.1) c
  have c2 : (d.defs.map fun q => fnWA K (q.at_.ad K)) = d.defs.map DefA.val := congrArg (fun z : AlY => z.2) c
  unfold Dat.good at c1
  simp only [Bool.and_eq_true, List.all_eq_true] at c1
  obtain ⟨h1, h2, h3, h4, h5⟩ := c1
  exact ⟨h1, h2, h3, fun q hq => ⟨(h4 q hq).1, (h4 q hq).2, List.map_inj_left.mp c2 q hq⟩, h5⟩
theorem oEq_ok {a b : Option (Option Value)} (h : oEq a b = true) : a = b := of_decide_eq_true h
structure ClF (K : PySem.W.Frag) (q : Str × List Str) : Prop where
  glo : (He.Fa.glo q.1).ok K = true
  cls : (He.Fa.cls q.1).ok K = true
  mkr : (He.Fa.mkr q.1).ok K = true
  no : ∀ f ∈ q.2, (He.Fa.noat q.1 f).ok K = true
  ins : InsF K (He.ga K q.1)
  ne : PySem.W.findIn K (.ref (He.ga K q.1)) "__ne__" = some (some (.builtin "object.__ne__"))
theorem clF {q : Str × List Str} (h : clB K d q = true) : ClF K q := by
  unfold clB at h
  simp only [Bool.and_eq_true, List.all_eq_true] at h
  obtain ⟨h1, h2, h3, h4, h5, h6, h7, h8, h9⟩ := h
  exact ⟨h1, h2, h3, h4, ⟨He.cls_ok h2, oEq_ok h5, oEq_ok h6, bEq_ok h7, bEq_ok h8⟩, oEq_ok h9⟩
theorem init_at {c i : Nat} {a : Str → At} (e : ((d.cname c).bind fun C => ixAt (a C) d.defs) = some i) : ∃ q x, d.kc[c]? = some q ∧ d.defs[i]? = some x ∧ x.at_ = a q.1 ∧ (d.wd P w K mg base).ca c = He.ga K q.1 ∧ (d.wd P w K mg base).fa i = (a q.1).ad K := by
  unfold Dat.cname at e
  cases hq : d.kc[c]? with
  | none => rw [hq] at e; cases e
  | some q =>
    rw [hq] at e
    obtain ⟨x, h1, h2⟩ := ixAt_get (show ixAt (a q.1) d.defs = some i from e)
    refine ⟨q, x, rfl, h1, h2, ?_, ?_⟩
    · show (match d.kc[c]? with | some q => He.ga K q.1 | none => 0) = _
      rw [hq]
    · show (match d.defs[i]? with | some q => q.at_.ad K | none => 0) = _
      rw [h1, ← h2]
theorem fa_at {i : Nat} {x : DefA} (e : d.defs[i]? = some x) : (d.wd P w K mg base).fa i = x.at_.ad K := by
  show (match d.defs[i]? with | some q => q.at_.ad K | none => 0) = _
  rw [e]
theorem keep_of {x : DefA} (c : x.ok K = true) : PySem.W.keepIn K (.ref (x.at_.ad K)) = true := by
  unfold DefA.ok at c
  exact (Bool.and_eq_true_iff.mp c).1
theorem glb (X : K.In h) (N : h.Ns mainGlobals mg) (G : Good d K) : Glb (d.wd P w K mg base) d.tab d.g where
  nob x hx := He.free_ok X N (G.nob x hx)
  fns i x ps e := by
    have e : (d.tops.map fun q => (q.name, q.ar.map (·.arg)))[i]? = some (x, ps) := e
    rw [List.getElem?_map] at e
    obtain ⟨q, h1, h2⟩ := Option.map_eq_some_iff.mp e
    cases h2
    have hm : q ∈ d.tops := List.mem_of_getElem? h1
    have hd : d.defs[i]? = some q := by
      unfold Dat.defs
      rw [List.getElem?_append_left (List.getElem?_eq_some_iff.mp h1).1]
      exact h1
    have ha := topsA_at hm
    have g := G.df q (List.mem_of_getElem? hd)
    rw [fa_at hd]
    refine ⟨?_, keep_of g.2.1⟩
    rw [ha]
    have g1 := g.1
    rw [ha] at g1
    exact He.glo_ok X N g1
  cns i x v e1 e2 := by
    have e1 : (d.cs.map (·.1))[i]? = some x := e1
    have e2 : (d.cs[i]?.map fun q => PV.int q.2) = some v := e2
    rw [List.getElem?_map] at e1
    obtain ⟨q, h1, rfl⟩ := Option.map_eq_some_iff.mp e1
    rw [h1] at e2
    cases e2
    obtain ⟨t, ht⟩ := He.int_ok X N (G.cs q (List.mem_of_getElem? h1))
    exact ⟨.int q.2, _, ht, by first | rfl | exact ⟨_, rfl⟩ | simp [RelV], fun H => by simp only [RelP]⟩
  cls i x e _ := by
    have e : (d.kc.map (·.1))[i]? = some x := e
    rw [List.getElem?_map] at e
    obtain ⟨q, h1, rfl⟩ := Option.map_eq_some_iff.mp e
    show mg q.1 = some (.ref (match d.kc[i]? with | some q => He.ga K q.1 | none => 0))
    rw [h1]
    exact He.glo_ok X N (clF (G.cl q (List.mem_of_getElem? h1))).glo
  make i f e := by
    obtain ⟨q, x, h1, h2, h3, h4, h5⟩ := init_at (P := P) (w := w) (K := K) (mg := mg) (base := base) (a := fun C => .met C "__init__") e
    rw [h4, h5]
    exact He.mkr_ok (clF (G.cl q (List.mem_of_getElem? h1))).mkr
  ins i e := by
    obtain ⟨f, e⟩ := Option.isSome_iff_exists.mp e
    obtain ⟨q, x, h1, h2, h3, h4, h5⟩ := init_at (P := P) (w := w) (K := K) (mg := mg) (base := base) (a := fun C => .met C "__init__") e
    rw [h4]
    exact (clF (G.cl q (List.mem_of_getElem? h1))).ins
  fld c f e := by
    have e : (match d.kc[c]? with | some q => q.2.contains f | none => false) = true := e
    show Cls K (match d.kc[c]? with | some q => He.ga K q.1 | none => 0) ∧ NoAttr K (match d.kc[c]? with | some q => He.ga K q.1 | none => 0) f
    split at e
    · rename_i q h1
      have g := clF (G.cl q (List.mem_of_getElem? h1))
      exact ⟨He.cls_ok g.cls, He.noat_ok (g.no f (List.contains_iff_mem.mp e))⟩
    · cases e
  prop c f i e := by
    obtain ⟨q, x, h1, h2, h3, h4, h5⟩ := init_at (P := P) (w := w) (K := K) (mg := mg) (base := base) (a := fun C => .pro C f) e
    rw [h4, h5]
    have g := clF (G.cl q (List.mem_of_getElem? h1))
    have b := (G.df x (List.mem_of_getElem? h2)).1
    rw [h3] at b
    simp only [atB, Bool.and_eq_true] at b
    obtain ⟨b1, b2, b3, b4⟩ := b
    refine ⟨He.cls_ok g.cls, _, oEq_ok b1, oEq_ok b2, bEq_ok b3, ?_⟩
    unfold At.ad
    split at b4
    · rename_i g' rest e'
      refine ⟨rest, ?_⟩
      show PySem.W.recIn K (He.ma K (He.ga K q.1) f) "property" = some (.ref (match PySem.W.recIn K (He.ma K (He.ga K q.1) f) "property" with | some (.ref g :: _) => g | _ => 0) :: rest)
      rw [e']
    · cases b4
  meth c m i e := by
    obtain ⟨q, x, h1, h2, h3, h4, h5⟩ := init_at (P := P) (w := w) (K := K) (mg := mg) (base := base) (a := fun C => .met C m) e
    rw [h4, h5]
    have g := clF (G.cl q (List.mem_of_getElem? h1))
    have b := (G.df x (List.mem_of_getElem? h2)).1
    rw [h3] at b
    exact ⟨He.cls_ok g.cls, He.meth_ok b⟩
  eqm c i e := by
    obtain ⟨q, x, h1, h2, h3, h4, h5⟩ := init_at (P := P) (w := w) (K := K) (mg := mg) (base := base) (a := fun C => .met C "__eq__") e
    rw [h4, h5]
    have g := clF (G.cl q (List.mem_of_getElem? h1))
    have b := (G.df x (List.mem_of_getElem? h2)).1
    rw [h3] at b
    have m := He.meth_ok b
    exact ⟨m.at_, m.fn, g.ne, g.ins.hm⟩
  isi t c e ht := by
    have b := G.isi
    unfold isiB at b
    simp only [List.all_eq_true, List.mem_append, List.mem_map, List.mem_range] at b
    have lt : ∀ j, (d.tab.init j).isSome = true → j < d.kc.length := fun j hj => by
      obtain ⟨f, e⟩ := Option.isSome_iff_exists.mp hj
      obtain ⟨q, x, h1, -⟩ := init_at (P := P) (w := w) (K := K) (mg := mg) (base := base) (a := fun C => .met C "__init__") e
      exact (List.getElem?_eq_some_iff.mp h1).1
    unfold isiOk at e
    simp only [List.all_cons, List.all_nil, Bool.and_true, Bool.and_eq_true] at e
    have e1 : tyVal (d.wd P w K mg base) t = tyV K d t := by
      cases t with
      | bi n => rfl
      | cl j =>
        have := lt j e.1
        show Value.ref (match d.kc[j]? with | some q => He.ga K q.1 | none => 0) = match d.kc[j]? with | some q => .ref (He.ga K q.1) | none => .ref 0
        rw [List.getElem?_eq_getElem this]
    have e2 : tyU1 (d.wd P w K mg base) c = tyU K d c := by
      cases c <;> first
        | rfl
        | skip
      rename_i j
      have := lt j e.2
      show Value.ref (match d.kc[j]? with | some q => He.ga K q.1 | none => 0) = match d.kc[j]? with | some q => .ref (He.ga K q.1) | none => .ref 0
      rw [List.getElem?_eq_getElem this]
    show PySem.W.kitOne K _ _ = _
    rw [e1, e2]
    refine bEq_ok (b t ?_ c ?_)
    · cases t with
      | bi n =>
        left
        have := ht n rfl
        simp only [List.mem_cons, List.not_mem_nil, or_false] at this
        rcases this with rfl | rfl | rfl | rfl | rfl | rfl <;> simp [tyB]
      | cl j => exact .inr ⟨j, lt j e.1, rfl⟩
    · cases c with
      | cls j => exact .inr ⟨j, lt j e.2, rfl⟩
      | _ => exact .inl (by simp)
/-- what is to be seen in the text alone -/
def Dat.chk (d : Dat) : Bool := d.defs.all (fun q => C8.scC q.df.N q.df.ps q.df.sc) && d.kc.all fun q => (ixAt (.met q.1 "__init__") d.defs).isSome
theorem vals_getD : ∀ {vs : List V} {us : List Value} (i : Nat), Vals vs us → RelV (vs.getD i V.non) (us.getD i Value.none)
  | [], us, i, h => by
    cases h
    first | rfl | exact ⟨rfl⟩ | simp [RelV]
  | v :: vs, us, 0, h => by
    cases h with
    | cons a b => exact a
  | v :: vs, us, i + 1, h => by
    cases h with
    | cons a b => simpa using vals_getD i b
theorem vals_per {p : List Nat} {vs zs : List V} {us ws : List Value} (h1 : Vals vs us) (h2 : Vals zs ws) : Vals (perV p vs zs) (perU p us ws) := by
  unfold perV perU
  induction p with
  | nil => exact .nil
  | cons i p ih => exact .cons (vals_getD i (h1.append h2)) ih
theorem lev (X : K.In h) (N : h.Ns mainGlobals mg) (G : Good d K) (c : d.chk = true)
    (KB : ∀ i np ks, (i, np, ks) ∈ d.kwl → ∀ p, permOf ((d.g.fns.getD i ("", [])).2) np ks = some p → ∃ q, d.defs[i]? = some q ∧ ∀ (a : Addr) (fd : FuncData), FunD K q.name q.qual q.params q.body q.scope [] [] a fd → KBn K fd q.df.ps np ks (perU p) (perV p)) :
    ∃ fd : Nat → FuncData, (∀ i q, d.defs[i]? = some q → FunD K q.name q.qual q.params q.body q.scope [] [] (q.at_.ad K) (fd i)) ∧
      ∀ base k i q, d.dfs[i]? = some q → FnOk P w K mg base C8.CX0 (2 * k) ((d.wd P w K mg base).fa i) (fd i) q.ps (spOf (d.wd P w K mg base) (Cn d.tab (FT d.g d.dfs) k) i) := by
  have ex : ∀ i : Nat, ∃ fd : FuncData, ∀ q : DefA, d.defs[i]? = some q → FunD K q.name q.qual q.params q.body q.scope [] [] (q.at_.ad K) fd := fun i => by
    cases hq : d.defs[i]? with
    | none => exact ⟨default, fun q e => nomatch e⟩
    | some q =>
      have g := G.df q (List.mem_of_getElem? hq)
      obtain ⟨fd, F⟩ := DefA.fun g.2.2 g.2.1
      exact ⟨fd, fun q' e => by cases e; exact F⟩
  refine ⟨fun i => (ex i).choose, fun i => (ex i).choose_spec, fun base k i q hq => ?_⟩
  unfold Dat.chk at c
  simp only [Bool.and_eq_true, List.all_eq_true] at c
  refine (levels (W := d.wd P w K mg base) (T := d.tab) (fd := fun i => (ex i).choose) (glb X N G) (fun i q hq => ?_) ?_ ?_ ?_ ?_ k).2 i q hq
  · unfold Dat.dfs at hq
    rw [List.getElem?_map] at hq
    obtain ⟨x, h1, rfl⟩ := Option.map_eq_some_iff.mp hq
    have F := (ex i).choose_spec x h1
    have sc := c.1 x (List.mem_of_getElem? h1)
    have S := C8.fnScope_by sc
    refine ⟨⟨x.name, x.qual, x.params, ?_⟩, sc, ?_, ?_⟩
    · rw [fa_at h1]
      exact F
    · refine FunD.bindsN F fun kV doc pm an cdv ct us hl => bind_pos ?_ hl
      have := S.nd
      have pre := S.pre
      show x.df.ps.Nodup
      rw [← pre]
      exact (List.take_sublist _ _).nodup this
    · rw [fa_at h1]
      exact F.kp
  · show (d.tops.map fun q => (q.name, q.ar.map (·.arg))).length ≤ (d.defs.map DefA.df).length
    rw [List.length_map, List.length_map]
    unfold Dat.defs
    rw [List.length_append]
    omega
  · intro j x e
    have e : (d.kc.map (·.1))[j]? = some x := e
    rw [List.getElem?_map] at e
    obtain ⟨q, h1, rfl⟩ := Option.map_eq_some_iff.mp e
    obtain ⟨i, hi⟩ := Option.isSome_iff_exists.mp (c.2 q (List.mem_of_getElem? h1))
    refine ⟨i, ?_⟩
    show ((d.cname j).bind fun C => ixAt (.met C "__init__") d.defs) = some i
    unfold Dat.cname
    rw [h1]
    exact hi
  · intro j i e
    obtain ⟨q, x, h1, h2, -⟩ := init_at (P := P) (w := w) (K := K) (mg := mg) (base := base) (a := fun C => .met C "__init__") e
    show i < (d.defs.map DefA.df).length
    rw [List.length_map]
    exact (List.getElem?_eq_some_iff.mp h2).1
  · intro i np ks hm p hp
    obtain ⟨q, h1, h2⟩ := KB i np ks hm p hp
    refine ⟨q.df, ?_, h2 _ _ ((ex i).choose_spec q h1)⟩
    show (d.defs.map DefA.df)[i]? = _
    rw [List.getElem?_map, h1]
    rfl
end
end Ev
end

section
/-! EvZ2: the law's def, called with a script. -/
namespace Ev
open PySem PySem.Spec PyProof.Rows L2
section
variable {W : Wd} {C : CT} {H : Hp}
theorem relP_ints : ∀ ns : List Int, RelPs W H (ns.map PV.int) (ns.map V.int)
  | [] => RelPs.nil
  | n :: ns => RelPs.cons (by simp only [RelP]) (relP_ints ns)
theorem sp_law {i : Nat} {a : Addr} {ns : List Int} {Q : VK} {E : XK} (hS : SqL W.K H a (ns.map V.int)) (hQ : ∀ H', Q (.bl true) H') (h : ∀ M v, lstOf M v = some (ns.map PV.int) → C i [v] M fun u _ => u = .bl true) (hC : CMono C) : spOf W C i [.ref a] H Q E := by
  have fin : ∀ (M : MH) (v : PV), RelP W H v (.ref a) → Emb W M H → lstOf M v = some (ns.map PV.int) → spOf W C i [.ref a] H Q E := fun M v r em e => by
    refine ⟨[v], M, RelPs.cons r RelPs.nil, em, hC _ _ _ _ _ (fun u M' hu => ?_) (h M v e)⟩
    subst hu
    intro H' x _ _ rx
    simp only [RelP] at rx
    subst rx
    exact hQ H'
  rcases hS with (h1 | ⟨o, h1⟩) | h1
  · refine fin (fun b => if b = a then some (.lst (ns.map PV.int)) else none) (.ref a) (by simp only [RelP]) (fun b u e => ?_) (by simp [lstOf])
    dsimp only at e
    split at e
    · rename_i hb
      subst hb
      cases e
      exact ⟨_, h1, relP_ints ns⟩
    · cases e
  · refine fin (fun _ => none) (.fl (ns.map PV.int)) ?_ (fun b u e => nomatch e) rfl
    simp only [RelP]
    exact ⟨a, _, rfl, .inl ⟨o, h1⟩, relP_ints ns⟩
  · refine fin (fun _ => none) (.fl (ns.map PV.int)) ?_ (fun b u e => nomatch e) rfl
    simp only [RelP]
    exact ⟨a, _, rfl, .inr h1, relP_ints ns⟩
end
theorem kb_of {K : PySem.W.Frag} {q : DefA} {np : Nat} {ks : List Str} {p : List Nat} (h : ∀ (kV doc pm : Value) (an : Option Addr) (cdv ct : Value) (us ws : List Value), us.length = np → ws.length = ks.length → bindArgs (PySem.W.fnOf q.name q.qual q.params q.body q.scope .none kV doc pm an cdv ct) ⟨us, ks.zip ws⟩ = pure (q.df.ps.zip (perU p us ws))) (a : Addr) (fd : FuncData) (F : FunD K q.name q.qual q.params q.body q.scope [] [] a fd) : KBn K fd q.df.ps np ks (perU p) (perV p) := by
  obtain ⟨oc, od, dV, kV, doc, pm, an, cdv, ct, osl, rfl, lk, hcd, hD, hK⟩ := F.ex
  rcases hD with ⟨_, rfl⟩ | ⟨e, _⟩
  · exact ⟨fun s us ws _ hu hw => .of_eq (h kV doc pm an cdv ct us ws hu hw), fun r1 r2 => vals_per r1 r2⟩
  · exact absurd rfl e
theorem ar_two {ar : List Arg} {x y : Str} (h : ar.map (·.arg) = [x, y]) : ∃ a b, ar = [a, b] ∧ a.arg = x ∧ b.arg = y := by
  match ar, h with
  | [a, b], h =>
    simp only [List.map_cons, List.map_nil, List.cons.injEq, and_true] at h
    exact ⟨a, b, rfl, h.1, h.2⟩
end Ev
end

section
namespace Rv
/-! Ma: lists that grow, sets of places that stay. No program in sight. -/
section
variable {α : Type} [DecidableEq α]
def addN (l : List α) (x : α) : List α := if x ∈ l then l else l ++ [x]
def addL (l xs : List α) : List α := xs.foldl addN l
theorem mem_addN {l : List α} {x y : α} : y ∈ addN l x ↔ y ∈ l ∨ y = x := by
  unfold addN
  split
  · rename_i h
    exact ⟨.inl, fun k => k.elim id fun e => e ▸ h⟩
  · simp
theorem mem_addL {y : α} : ∀ {xs l : List α}, y ∈ addL l xs ↔ y ∈ l ∨ y ∈ xs
  | [], l => by simp [addL]
  | x :: xs, l => by
    have := mem_addL (y := y) (xs := xs) (l := addN l x)
    unfold addL at this ⊢
    rw [List.foldl_cons, this, mem_addN, List.mem_cons, or_assoc]
theorem nodup_addN {l : List α} {x : α} (h : l.Nodup) : (addN l x).Nodup := by
  unfold addN
  split
  · exact h
  · rename_i k
    exact List.nodup_append.mpr ⟨h, by simp, fun a ha b hb => by
      rw [List.mem_singleton] at hb
      rintro rfl
      exact k (hb ▸ ha)⟩
theorem nodup_addL : ∀ {xs l : List α}, l.Nodup → (addL l xs).Nodup
  | [], _, h => h
  | x :: xs, l, h => nodup_addL (xs := xs) (nodup_addN h)
theorem pre_addN {l : List α} {x : α} : l <+: addN l x := by
  unfold addN
  split
  · exact List.prefix_rfl
  · exact List.prefix_append _ _
theorem pre_addL : ∀ {xs l : List α}, l <+: addL l xs
  | [], _ => List.prefix_rfl
  | x :: xs, l => (pre_addN (x := x)).trans (pre_addL (xs := xs))
theorem pre_get {l m : List α} (h : l <+: m) {i : Nat} (k : i < l.length) : m[i]? = l[i]? := by
  obtain ⟨t, rfl⟩ := h
  exact List.getElem?_append_left k
def wl (sc : α → List α) (ini : List α) : Nat → List α
  | 0 => ini
  | n + 1 => match (wl sc ini n)[n]? with
    | some x => addL (wl sc ini n) (sc x)
    | none => wl sc ini n
variable {sc : α → List α} {ini : List α}
theorem wl_some {n : Nat} {x : α} (h : (wl sc ini n)[n]? = some x) : wl sc ini (n + 1) = addL (wl sc ini n) (sc x) := by
  rw [wl, h]
theorem wl_none {n : Nat} (h : (wl sc ini n).length ≤ n) : wl sc ini (n + 1) = wl sc ini n := by
  rw [wl, List.getElem?_eq_none h]
theorem wl_pre1 {n : Nat} : wl sc ini n <+: wl sc ini (n + 1) := by
  rw [wl]
  split
  · exact pre_addL
  · exact List.prefix_rfl
theorem wl_pre {n : Nat} : ∀ m, wl sc ini n <+: wl sc ini (n + m)
  | 0 => List.prefix_rfl
  | m + 1 => (wl_pre m).trans wl_pre1
theorem wl_nodup (h : ini.Nodup) : ∀ n, (wl sc ini n).Nodup
  | 0 => h
  | n + 1 => by
    rw [wl]
    split
    · exact nodup_addL (wl_nodup h n)
    · exact wl_nodup h n
/-- come to -/
inductive Rea (sc : α → List α) (ini : List α) : α → Prop
  | ini {x : α} : x ∈ ini → Rea sc ini x
  | nx {x y : α} : Rea sc ini x → y ∈ sc x → Rea sc ini y
theorem wl_rea : ∀ n, ∀ x ∈ wl sc ini n, Rea sc ini x
  | 0, x, h => .ini h
  | n + 1, x, h => by
    rw [wl] at h
    split at h
    · rename_i y hy
      rcases mem_addL.mp h with h | h
      · exact wl_rea n x h
      · exact .nx (wl_rea n y (List.mem_of_getElem? hy)) h
    · exact wl_rea n x h
theorem wl_done {n i : Nat} {x : α} : i < n → (wl sc ini n)[i]? = some x → ∀ y ∈ sc x, y ∈ wl sc ini n := by
  induction n with
  | zero => intro h; omega
  | succ n ih =>
    intro h hx y hy
    have pr := wl_pre1 (sc := sc) (ini := ini) (n := n)
    by_cases k : i < n
    · by_cases l : i < (wl sc ini n).length
      · have : (wl sc ini n)[i]? = some x := by rw [← pre_get pr l, hx]
        exact pr.subset (ih k this y hy)
      · have e := wl_none (sc := sc) (ini := ini) (n := n) (by omega)
        rw [e] at hx
        rw [List.getElem?_eq_none (by omega)] at hx
        cases hx
    · have e : i = n := by omega
      subst e
      by_cases l : i < (wl sc ini i).length
      · have q : (wl sc ini i)[i]? = some (wl sc ini i)[i] := List.getElem?_eq_getElem l
        rw [wl_some q] at hx ⊢
        have : (addL (wl sc ini i) (sc (wl sc ini i)[i]))[i]? = (wl sc ini i)[i]? := pre_get pre_addL l
        rw [this, q] at hx
        cases hx
        exact mem_addL.mpr (.inr hy)
      · have e := wl_none (sc := sc) (ini := ini) (n := i) (by omega)
        rw [e, List.getElem?_eq_none (by omega)] at hx
        cases hx
theorem wl_mem {n : Nat} (h : (wl sc ini n).length ≤ n) {x : α} : x ∈ wl sc ini n ↔ Rea sc ini x := by
  refine ⟨wl_rea n x, fun k => ?_⟩
  induction k with
  | ini h => exact (by simpa using (wl_pre (sc := sc) (ini := ini) (n := 0) n).subset h)
  | nx _ hy ih =>
    obtain ⟨i, hi⟩ := List.mem_iff_getElem?.mp ih
    refine wl_done (i := i) ?_ hi _ hy
    have := (List.getElem?_eq_some_iff.mp hi).1
    omega
theorem wl_fix {n : Nat} (h : (wl sc ini n).length ≤ n) : ∀ m, wl sc ini (n + m) = wl sc ini n
  | 0 => rfl
  | m + 1 => by
    rw [← Nat.add_assoc, wl_none (by rw [wl_fix h m]; omega), wl_fix h m]
theorem wl_end {n m : Nat} (h : (wl sc ini n).length ≤ n) (k : (wl sc ini m).length ≤ m) : wl sc ini n = wl sc ini m := by
  rcases Nat.le_total n m with l | l
  · obtain ⟨d, rfl⟩ := Nat.le.dest l
    exact (wl_fix h d).symm
  · obtain ⟨d, rfl⟩ := Nat.le.dest l
    exact wl_fix k d
/-- as many as the places there are -/
theorem nodup_len {l u : List α} (h : l.Nodup) (s : ∀ x ∈ l, x ∈ u) : l.length ≤ u.length := by
  induction l generalizing u with
  | nil => simp
  | cons x l ih =>
    obtain ⟨h1, h2⟩ := List.nodup_cons.mp h
    have hx := s x (List.mem_cons_self ..)
    have := ih (u := u.erase x) h2 fun y hy => (List.mem_erase_of_ne (by rintro rfl; exact h1 hy)).mpr (s y (List.mem_cons_of_mem _ hy))
    rw [List.length_erase_of_mem hx] at this
    have := List.length_pos_of_mem hx
    simp only [List.length_cons]
    omega
/-- what stays: rounds of leaving out -/
structure Stay (ok : List α → α → Bool) (fnd lft : List α) : Prop where
  sub : ∀ x ∈ lft, x ∈ fnd
  big : ∀ S : α → Prop, (∀ x, S x → x ∈ fnd) → (∀ x, S x → ∀ l, (∀ y, S y → y ∈ l) → ok l x = true) → ∀ x, S x → x ∈ lft
theorem Stay.refl {ok : List α → α → Bool} {l : List α} : Stay ok l l := ⟨fun _ h => h, fun _ h _ => h⟩
theorem Stay.next {ok : List α → α → Bool} {fnd lft : List α} (h : Stay ok fnd lft) : Stay ok fnd (lft.filter (ok lft)) where
  sub x hx := h.sub x (List.mem_filter.mp hx).1
  big S h1 h2 x hx := List.mem_filter.mpr ⟨h.big S h1 h2 x hx, h2 x hx lft (h.big S h1 h2)⟩
theorem filter_all {p : α → Bool} {l : List α} (h : l.length ≤ (l.filter p).length) : l.filter p = l := by
  refine List.filter_eq_self.mpr fun a ha => ?_
  have e : (l.filter p).length = l.length := Nat.le_antisymm (List.length_filter_le ..) h
  exact List.length_filter_eq_length_iff.mp e a ha
end
end Rv
end

section
namespace Rv
/-- a way: room, letter, to, slip -/
abbrev Way := Nat × Nat × Nat × Nat

/-! M86: the plain mathematics of rows let by. -/
def Stp (ws : List Way) (l r q : Nat) : Prop := ∃ s, (r, l, q, s) ∈ ws
def Cln (ws : List Way) (l r q : Nat) : Prop := (r, l, q, 0) ∈ ws
theorem Cln.stp {ws : List Way} {l r q : Nat} (h : Cln ws l r q) : Stp ws l r q := ⟨0, h⟩
/-- by a word -/
def Wrd (E : Nat → Nat → Nat → Prop) : List Nat → Nat → Nat → Prop
  | [], r, q => r = q
  | l :: u, r, q => ∃ m, E l r m ∧ Wrd E u m q
/-- a row's letter at a time: the beginning, then the rest again and again -/
def ltr (b a : List Nat) (t : Nat) : Nat := if t < b.length then b.getD t 0 else a.getD ((t - b.length) % a.length) 0
/-- a room that is come to at a time -/
def Rch (ws : List Way) (b a : List Nat) : Nat → Nat → Prop
  | 0, r => r = 0
  | t + 1, r => ∃ m, Rch ws b a t m ∧ Stp ws (ltr b a t) m r
/-- clean from a time on, for ever -/
def Inf (ws : List Way) (b a : List Nat) (t r : Nat) : Prop := ∃ f : Nat → Nat, f 0 = r ∧ ∀ i, Cln ws (ltr b a (t + i)) (f i) (f (i + 1))
def Lets (ws : List Way) (b a : List Nat) : Prop := ∃ t r, Rch ws b a t r ∧ Inf ws b a t r
theorem Inf.next {ws : List Way} {b a : List Nat} {t r : Nat} (h : Inf ws b a t r) : ∃ q, Cln ws (ltr b a t) r q ∧ Inf ws b a (t + 1) q := by
  obtain ⟨f, h0, h1⟩ := h
  refine ⟨f 1, ?_, fun i => f (i + 1), rfl, fun i => ?_⟩
  · have := h1 0
    rw [h0] at this
    simpa using this
  · have := h1 (i + 1)
    rwa [show t + (i + 1) = t + 1 + i by omega] at this
theorem Lets.later {ws : List Way} {b a : List Nat} {t r : Nat} (h1 : Rch ws b a t r) (h2 : Inf ws b a t r) : ∀ n, ∃ q, Rch ws b a (t + n) q ∧ Inf ws b a (t + n) q
  | 0 => ⟨r, h1, h2⟩
  | n + 1 => by
    obtain ⟨q, h3, h4⟩ := Lets.later h1 h2 n
    obtain ⟨m, h5, h6⟩ := h4.next
    exact ⟨m, ⟨q, h3, h5.stp⟩, h6⟩
/-- the reader of both, by its rooms' names -/
structure Both (near far due : List Way) (nm : Nat → Option (Nat × Nat)) : Prop where
  zero : nm 0 = some (0, 0)
  inj : ∀ i j p, nm i = some p → nm j = some p → i = j
  to : ∀ i p l q s q2 s2, nm i = some p → (p.1, l, q, s) ∈ near → (p.2, l, q2, s2) ∈ far → ∃ j, nm j = some (q, q2) ∧ (i, l, j, max s s2) ∈ due
  fro : ∀ i l j s, (i, l, j, s) ∈ due → ∃ p q s1 s2, nm i = some p ∧ nm j = some q ∧ (p.1, l, q.1, s1) ∈ near ∧ (p.2, l, q.2, s2) ∈ far ∧ s = max s1 s2
section
variable {near far due : List Way} {nm : Nat → Option (Nat × Nat)} {b a : List Nat}
theorem Both.rch (B : Both near far due nm) : ∀ {t x y : Nat}, Rch near b a t x → Rch far b a t y → ∃ i, nm i = some (x, y) ∧ Rch due b a t i
  | 0, x, y, h1, h2 => by
    simp only [Rch] at h1 h2
    subst h1 h2
    exact ⟨0, B.zero, rfl⟩
  | t + 1, x, y, ⟨m, h1, s1, e1⟩, ⟨n, h2, s2, e2⟩ => by
    obtain ⟨i, hi, hr⟩ := B.rch h1 h2
    obtain ⟨j, hj, hd⟩ := B.to i (m, n) _ _ _ _ _ hi e1 e2
    exact ⟨j, hj, i, hr, _, hd⟩
theorem Both.back (B : Both near far due nm) : ∀ {t i : Nat}, Rch due b a t i → ∃ p, nm i = some p ∧ Rch near b a t p.1 ∧ Rch far b a t p.2
  | 0, i, h => by
    simp only [Rch] at h
    subst h
    exact ⟨(0, 0), B.zero, rfl, rfl⟩
  | t + 1, i, ⟨m, h, s, e⟩ => by
    obtain ⟨p, hp, h1, h2⟩ := B.back h
    obtain ⟨p', q, s1, s2, hp', hq, e1, e2, -⟩ := B.fro _ _ _ _ e
    rw [hp] at hp'
    cases hp'
    exact ⟨q, hq, ⟨_, h1, _, e1⟩, ⟨_, h2, _, e2⟩⟩
theorem Both.lets (B : Both near far due nm) : Lets due b a ↔ Lets near b a ∧ Lets far b a := by
  constructor
  · rintro ⟨t, i, hr, f, hf, hc⟩
    obtain ⟨p, hp, h1, h2⟩ := B.back hr
    have key : ∀ n, ∃ p, nm (f n) = some p := fun n => by
      cases n with
      | zero => rw [hf]; exact ⟨p, hp⟩
      | succ n =>
        obtain ⟨_, q, _, _, _, hq, _⟩ := B.fro _ _ _ _ (hc n)
        exact ⟨q, hq⟩
    have cl : ∀ n, Cln near (ltr b a (t + n)) ((key n).choose).1 ((key (n + 1)).choose).1 ∧ Cln far (ltr b a (t + n)) ((key n).choose).2 ((key (n + 1)).choose).2 := fun n => by
      obtain ⟨p', q', s1, s2, hp', hq', e1, e2, em⟩ := B.fro _ _ _ _ (hc n)
      have k1 := (key n).choose_spec
      have k2 := (key (n + 1)).choose_spec
      rw [k1] at hp'
      rw [k2] at hq'
      cases hp'
      cases hq'
      have z1 : s1 = 0 := by omega
      have z2 : s2 = 0 := by omega
      subst z1 z2
      exact ⟨e1, e2⟩
    have e0 : (key 0).choose = p := by
      have hp' : nm (f 0) = some p := by rw [hf]; exact hp
      exact Option.some.inj ((key 0).choose_spec.symm.trans hp')
    exact ⟨⟨t, p.1, h1, fun n => ((key n).choose).1, congrArg Prod.fst e0, fun n => (cl n).1⟩, ⟨t, p.2, h2, fun n => ((key n).choose).2, congrArg Prod.snd e0, fun n => (cl n).2⟩⟩
  · rintro ⟨⟨t1, r1, h1, i1⟩, ⟨t2, r2, h2, i2⟩⟩
    obtain ⟨x, hx, f, hf, cf⟩ := Lets.later h1 i1 t2
    obtain ⟨y, hy, g, hg, cg⟩ := Lets.later h2 i2 t1
    rw [show t2 + t1 = t1 + t2 by omega] at hy cg
    obtain ⟨i, hi, hr⟩ := B.rch hx hy
    have step : ∀ n j, nm j = some (f n, g n) → ∃ j', nm j' = some (f (n + 1), g (n + 1)) ∧ Cln due (ltr b a (t1 + t2 + n)) j j' := fun n j hj => by
      obtain ⟨j', h3, h4⟩ := B.to j _ _ _ _ _ _ hj (cf n) (cg n)
      exact ⟨j', h3, h4⟩
    have hi : nm i = some (f 0, g 0) := by rw [hf, hg]; exact hi
    have pk : ∀ n, ∃ j, nm j = some (f n, g n) := fun n => by
      induction n with
      | zero => exact ⟨i, hi⟩
      | succ n ih =>
        obtain ⟨j, hj⟩ := ih
        obtain ⟨j', h3, -⟩ := step n j hj
        exact ⟨j', h3⟩
    refine ⟨t1 + t2, i, hr, fun n => (pk n).choose, B.inj _ _ _ (pk 0).choose_spec hi, fun n => ?_⟩
    obtain ⟨j', h3, h4⟩ := step n _ (pk n).choose_spec
    have := B.inj _ _ _ (pk (n + 1)).choose_spec h3
    show Cln due _ (pk n).choose (pk (n + 1)).choose
    rw [this]
    exact h4
end

/-! M86b: what the law's own search finds. -/
/-- a place within the part that comes again, and a room -/
abbrev Nd := Nat × Nat
def nxt (a : List Nat) (p : Nat) : Nat := (p + 1) % a.length
def EN (ws : List Way) (a : List Nat) (x y : Nd) : Prop := y.1 = nxt a x.1 ∧ Stp ws (a.getD x.1 0) x.2 y.2
def CN (ws : List Way) (a : List Nat) (x y : Nd) : Prop := y.1 = nxt a x.1 ∧ Cln ws (a.getD x.1 0) x.2 y.2
/-- come to, at a time behind the beginning -/
def RN (ws : List Way) (b a : List Nat) (x : Nd) : Prop := ∃ t, b.length ≤ t ∧ x.1 = (t - b.length) % a.length ∧ Rch ws b a t x.2
/-- clean for ever -/
def IN (ws : List Way) (b a : List Nat) (x : Nd) : Prop := ∃ t, b.length ≤ t ∧ x.1 = (t - b.length) % a.length ∧ Rch ws b a t x.2 ∧ Inf ws b a t x.2
section
variable {ws : List Way} {b a : List Nat}
theorem ltr_late {t : Nat} (h : b.length ≤ t) : ltr b a t = a.getD ((t - b.length) % a.length) 0 := by
  unfold ltr
  rw [if_neg (by omega)]
theorem plc_next (ha : a ≠ []) {t : Nat} (h : b.length ≤ t) : (t + 1 - b.length) % a.length = nxt a ((t - b.length) % a.length) := by
  unfold nxt
  rw [show t + 1 - b.length = t - b.length + 1 by omega, Nat.mod_add_mod]
theorem RN.step (ha : a ≠ []) {x y : Nd} (h : RN ws b a x) (e : EN ws a x y) : RN ws b a y := by
  obtain ⟨t, h1, h2, h3⟩ := h
  refine ⟨t + 1, by omega, ?_, x.2, h3, ?_⟩
  · rw [e.1, plc_next ha h1, h2]
  · rw [ltr_late h1, ← h2]
    exact e.2
theorem IN.next (ha : a ≠ []) {x : Nd} (h : IN ws b a x) : ∃ y, CN ws a x y ∧ IN ws b a y := by
  obtain ⟨t, h1, h2, h3, h4⟩ := h
  obtain ⟨q, h5, h6⟩ := h4.next
  have h5' := h5
  rw [ltr_late h1, ← h2] at h5'
  refine ⟨(nxt a x.1, q), ⟨rfl, h5'⟩, t + 1, by omega, ?_, ⟨x.2, h3, h5.stp⟩, h6⟩
  rw [plc_next ha h1, h2]
/-- a part whose every place goes on cleanly within it -/
theorem lets_of (ha : a ≠ []) {S : Nd → Prop} (hS : ∀ x, S x → RN ws b a x) (hc : ∀ x, S x → ∃ y, S y ∧ CN ws a x y) {x : Nd} (hx : S x) : Lets ws b a := by
  obtain ⟨t, h1, h2, h3⟩ := hS x hx
  let run : Nat → { x : Nd // S x } := fun n => Nat.rec ⟨x, hx⟩ (fun _ y => ⟨(hc y.1 y.2).choose, (hc y.1 y.2).choose_spec.1⟩) n
  have hr : ∀ n, CN ws a (run n).1 (run (n + 1)).1 := fun n => (hc (run n).1 (run n).2).choose_spec.2
  have hp : ∀ n, (run n).1.1 = (t + n - b.length) % a.length := fun n => by
    induction n with
    | zero => exact h2
    | succ n ih => rw [(hr n).1, ih, ← plc_next ha (by omega)]; rfl
  refine ⟨t, x.2, h3, fun n => (run n).1.2, rfl, fun n => ?_⟩
  rw [ltr_late (by omega), ← hp n]
  exact (hr n).2
theorem in_of (h : Lets ws b a) : ∃ x, IN ws b a x := by
  obtain ⟨t, r, h1, h2⟩ := h
  obtain ⟨q, h3, h4⟩ := Lets.later h1 h2 b.length
  exact ⟨((t + b.length - b.length) % a.length, q), t + b.length, by omega, rfl, h3, h4⟩
end

/-! words, rounds, homes -/
theorem wrd_app {E : Nat → Nat → Nat → Prop} : ∀ {u v : List Nat} {r q : Nat}, Wrd E (u ++ v) r q ↔ ∃ m, Wrd E u r m ∧ Wrd E v m q
  | [], v, r, q => by simp [Wrd]
  | l :: u, v, r, q => by
    simp only [List.cons_append, Wrd]
    constructor
    · rintro ⟨m, h1, h2⟩
      obtain ⟨k, h3, h4⟩ := wrd_app.mp h2
      exact ⟨k, ⟨m, h1, h3⟩, h4⟩
    · rintro ⟨k, ⟨m, h1, h3⟩, h4⟩
      exact ⟨m, h1, wrd_app.mpr ⟨k, h3, h4⟩⟩
section
variable {ws : List Way} {b a : List Nat}
theorem rch_word : ∀ {u : List Nat} {t q : Nat}, (∀ i, i < u.length → ltr b a (t + i) = u.getD i 0) → (Rch ws b a (t + u.length) q ↔ ∃ m, Rch ws b a t m ∧ Wrd (Stp ws) u m q)
  | [], t, q, _ => by simp [Wrd]
  | l :: u, t, q, h => by
    have h0 : ltr b a t = l := by simpa using h 0 (by simp)
    have h1 : ∀ i, i < u.length → ltr b a (t + 1 + i) = u.getD i 0 := fun i hi => by
      have := h (i + 1) (by simpa using hi)
      rw [show t + 1 + i = t + (i + 1) by omega, this]
      simp
    have ih := rch_word (u := u) (t := t + 1) (q := q) h1
    rw [show t + (l :: u).length = t + 1 + u.length by simp; omega, ih]
    constructor
    · rintro ⟨m, ⟨k, h2, h3⟩, h4⟩
      exact ⟨k, h2, m, h0 ▸ h3, h4⟩
    · rintro ⟨k, h2, m, h3, h4⟩
      exact ⟨m, ⟨k, h2, h0.symm ▸ h3⟩, h4⟩
theorem ltr_begin {i : Nat} (h : i < b.length) : ltr b a (0 + i) = b.getD i 0 := by
  unfold ltr
  rw [Nat.zero_add, if_pos h]
theorem ltr_round {n i : Nat} (h : i < a.length) : ltr b a (b.length + n * a.length + i) = a.getD i 0 := by
  unfold ltr
  rw [if_neg (by omega), show b.length + n * a.length + i - b.length = i + a.length * n by rw [Nat.mul_comm]; omega, Nat.add_mul_mod_self_left, Nat.mod_eq_of_lt h]
theorem rch_begin {q : Nat} : Rch ws b a b.length q ↔ Wrd (Stp ws) b 0 q := by
  have := rch_word (ws := ws) (b := b) (a := a) (u := b) (t := 0) (q := q) fun i hi => ltr_begin hi
  rw [Nat.zero_add] at this
  rw [this]
  constructor
  · rintro ⟨m, h, k⟩
    simp only [Rch] at h
    exact h ▸ k
  · exact fun h => ⟨0, rfl, h⟩
theorem rch_round {n q : Nat} : Rch ws b a (b.length + (n + 1) * a.length) q ↔ ∃ m, Rch ws b a (b.length + n * a.length) m ∧ Wrd (Stp ws) a m q := by
  have := rch_word (ws := ws) (b := b) (a := a) (u := a) (t := b.length + n * a.length) (q := q) fun i hi => ltr_round hi
  rwa [show b.length + n * a.length + a.length = b.length + (n + 1) * a.length by rw [Nat.succ_mul]; omega] at this
/-- a room in which a run can stand where a round begins -/
def Rnd (ws : List Way) (b a : List Nat) (r : Nat) : Prop := ∃ n, Rch ws b a (b.length + n * a.length) r
/-- round after round -/
inductive Rds (ws : List Way) (a : List Nat) : Nat → Nat → Prop
  | one {r q : Nat} : Wrd (Cln ws) a r q → Rds ws a r q
  | cons {r m q : Nat} : Wrd (Cln ws) a r m → Rds ws a m q → Rds ws a r q
theorem Rds.first {r q : Nat} (h : Rds ws a r q) : ∃ m, Wrd (Cln ws) a r m ∧ (m = q ∨ Rds ws a m q) := by
  cases h with
  | one h => exact ⟨q, h, .inl rfl⟩
  | cons h k => exact ⟨_, h, .inr k⟩
theorem inf_word {t : Nat} {f : Nat → Nat} (hc : ∀ i, Cln ws (ltr b a (t + i)) (f i) (f (i + 1))) : ∀ {u : List Nat} {k : Nat}, (∀ i, i < u.length → ltr b a (t + k + i) = u.getD i 0) → Wrd (Cln ws) u (f k) (f (k + u.length))
  | [], k, _ => rfl
  | l :: u, k, h => by
    have h0 : ltr b a (t + k) = l := by simpa using h 0 (by simp)
    refine ⟨f (k + 1), h0 ▸ hc k, ?_⟩
    have := inf_word hc (u := u) (k := k + 1) fun i hi => by
      have := h (i + 1) (by simpa using hi)
      rw [show t + (k + 1) + i = t + k + (i + 1) by omega, this]
      simp
    rwa [show k + 1 + u.length = k + (l :: u).length by simp; omega] at this
theorem pigeon {R : Nat} {f : Nat → Nat} (h : ∀ i, f i < R) : ∃ i j, i < j ∧ f i = f j := by
  refine Classical.byContradiction fun no => ?_
  have nd : ((List.range (R + 1)).map f).Nodup := by
    rw [List.nodup_iff_pairwise_ne, List.pairwise_map]
    refine (List.nodup_iff_pairwise_ne.mp List.nodup_range |>.imp_of_mem ?_ : List.Pairwise (fun x y => f x ≠ f y) _)
    intro x y hx hy ne e
    rcases Nat.lt_or_ge x y with l | l
    · exact no ⟨x, y, l, e⟩
    · exact no ⟨y, x, by omega, e.symm⟩
  have := nodup_len (u := List.range R) nd fun x hx => by
    obtain ⟨i, -, rfl⟩ := List.mem_map.mp hx
    exact List.mem_range.mpr (h i)
  simp at this
  omega
theorem rds_of {g : Nat → Nat} (h : ∀ i, Wrd (Cln ws) a (g i) (g (i + 1))) (i : Nat) : ∀ d, Rds ws a (g i) (g (i + d + 1))
  | 0 => .one (h i)
  | d + 1 => by
    have : ∀ {r m q : Nat}, Rds ws a r m → Wrd (Cln ws) a m q → Rds ws a r q := fun h k => by
      induction h with
      | one h => exact .cons h (.one k)
      | cons h _ ih => exact .cons h (ih k)
    exact this (rds_of h i d) (h (i + d + 1))
/-- let by: some room where a round begins is come to and comes back cleanly -/
theorem lets_home (ha : a ≠ []) {R : Nat} (hR : ∀ r l q s, (r, l, q, s) ∈ ws → q < R) : Lets ws b a ↔ ∃ r, Rnd ws b a r ∧ Rds ws a r r := by
  have la : 0 < a.length := List.length_pos_iff.mpr ha
  constructor
  · rintro ⟨t, r, h1, h2⟩
    -- at a time where a round begins
    obtain ⟨n, hn⟩ : ∃ n, t ≤ b.length + n * a.length := ⟨t, by have := Nat.mul_le_mul_left t la; omega⟩
    obtain ⟨q, h3, f, f0, hc⟩ := Lets.later h1 h2 (b.length + n * a.length - t)
    rw [show t + (b.length + n * a.length - t) = b.length + n * a.length by omega] at h3 hc
    have hg : ∀ i, Wrd (Cln ws) a (f (i * a.length)) (f ((i + 1) * a.length)) := fun i => by
      have := inf_word hc (u := a) (k := i * a.length) fun j hj => by
        rw [show b.length + n * a.length + i * a.length + j = b.length + (n + i) * a.length + j by rw [Nat.add_mul]; omega]
        exact ltr_round hj
      rwa [show i * a.length + a.length = (i + 1) * a.length by rw [Nat.succ_mul]] at this
    have hr : ∀ i, Rch ws b a (b.length + (n + i) * a.length) (f (i * a.length)) := fun i => by
      induction i with
      | zero => simpa [f0] using h3
      | succ i ih =>
        have lift : ∀ {u : List Nat} {x y : Nat}, Wrd (Cln ws) u x y → Wrd (Stp ws) u x y := fun {u} => by
          induction u with
          | nil => exact fun h => h
          | cons l u ih => exact fun ⟨m, h, k⟩ => ⟨m, h.stp, ih k⟩
        exact rch_round.mpr ⟨_, ih, lift (hg i)⟩
    have hb : ∀ i, f ((i + 1) * a.length) < R := fun i => by
      have e : (i + 1) * a.length = ((i + 1) * a.length - 1) + 1 := by
        have : 0 < (i + 1) * a.length := Nat.mul_pos (Nat.succ_pos i) la
        omega
      rw [e]
      exact hR _ _ _ _ (hc _)
    obtain ⟨i, j, lt, e⟩ := pigeon hb
    refine ⟨f ((i + 1) * a.length), ⟨n + (i + 1), hr (i + 1)⟩, ?_⟩
    have := rds_of (g := fun i => f (i * a.length)) hg (i + 1) (j - i - 1)
    rw [show i + 1 + (j - i - 1) + 1 = j + 1 by omega] at this
    rwa [← e] at this
  · rintro ⟨r, ⟨n, hn⟩, hh⟩
    let S : Nd → Prop := fun x => RN ws b a x ∧ x.1 < a.length ∧ ∃ q, Wrd (Cln ws) (a.drop x.1) x.2 q ∧ (q = r ∨ Rds ws a q r)
    have h0 : ∀ {q : Nat}, (q = r ∨ Rds ws a q r) → ∃ m, Wrd (Cln ws) a q m ∧ (m = r ∨ Rds ws a m r) := fun h => by
      rcases h with rfl | h
      · exact hh.first
      · exact h.first
    have hS0 : S (0, r) := by
      obtain ⟨m, h1, h2⟩ := h0 (.inl rfl)
      exact ⟨⟨b.length + n * a.length, by omega, by simp [Nat.add_sub_cancel_left], hn⟩, la, m, h1, h2⟩
    refine lets_of ha (S := S) (fun x h => h.1) (fun x ⟨h1, h2, q, h3, h4⟩ => ?_) hS0
    obtain ⟨p, y⟩ := x
    dsimp only at h2 h3
    rw [List.drop_eq_getElem_cons h2] at h3
    obtain ⟨m, h5, h6⟩ := h3
    have gd : a.getD p 0 = a[p] := by rw [List.getD_eq_getElem?_getD, List.getElem?_eq_getElem h2]; rfl
    have cn : CN ws a (p, y) (nxt a p, m) := ⟨rfl, by rw [gd]; exact h5⟩
    refine ⟨(nxt a p, m), ⟨h1.step ha ⟨rfl, cn.2.stp⟩, Nat.mod_lt _ la, ?_⟩, cn⟩
    by_cases hp : p + 1 = a.length
    · have e : nxt a p = 0 := by unfold nxt; rw [hp, Nat.mod_self]
      rw [hp, List.drop_length] at h6
      simp only [Wrd] at h6
      subst h6
      obtain ⟨m', h7, h8⟩ := h0 h4
      refine ⟨m', ?_, h8⟩
      dsimp only
      rw [e]
      exact h7
    · have e : nxt a p = p + 1 := Nat.mod_eq_of_lt (by omega)
      refine ⟨q, ?_, h4⟩
      dsimp only
      rw [e]
      exact h6
/-- the search over places and rooms -/
theorem lets_stay (ha : a ≠ []) {fnd lft : List Nd} {ok : List Nd → Nd → Bool} (h1 : ∀ x, x ∈ fnd ↔ RN ws b a x) (h2 : ∀ l x, ok l x = true ↔ ∃ y ∈ l, CN ws a x y) (h3 : Stay ok fnd lft) (h4 : ∀ x ∈ lft, ok lft x = true) : Lets ws b a ↔ lft ≠ [] := by
  constructor
  · intro h
    obtain ⟨x, hx⟩ := in_of h
    have rn : ∀ x, IN ws b a x → RN ws b a x := fun x ⟨t, k1, k2, k3, _⟩ => ⟨t, k1, k2, k3⟩
    have := h3.big (IN ws b a) (fun x hx => (h1 x).mpr (rn x hx)) (fun x hx l hl => by
      obtain ⟨y, hy, hi⟩ := hx.next ha
      exact (h2 l x).mpr ⟨y, hl y hi, hy⟩) x hx
    exact List.ne_nil_of_mem this
  · intro h
    obtain ⟨x, hx⟩ := List.exists_mem_of_ne_nil _ h
    exact lets_of ha (S := fun x => x ∈ lft) (fun x hx => (h1 x).mp (h3.sub x hx)) (fun x hx => (h2 lft x).mp (h4 x hx)) hx
end
end Rv
end

section
namespace Rv
/-! Mc: readers joined, place by place as they come. -/
def byW (ws : List Way) (r l : Nat) : List Way := ws.filter fun w => decide (w.1 = r) && decide (w.2.1 = l)
theorem mem_byW {ws : List Way} {r l : Nat} {w : Way} : w ∈ byW ws r l ↔ w ∈ ws ∧ w.1 = r ∧ w.2.1 = l := by
  simp [byW, List.mem_filter]
theorem idx_pre {α : Type} [DecidableEq α] {l m : List α} {x : α} (h : l <+: m) (k : x ∈ l) : m.idxOf x = l.idxOf x := by
  obtain ⟨t, rfl⟩ := h
  rw [List.idxOf_append, if_pos k]
theorem idx_get {α : Type} [DecidableEq α] {l : List α} {x : α} (k : x ∈ l) : l[l.idxOf x]? = some x := by
  rw [List.getElem?_eq_getElem (List.idxOf_lt_length_of_mem k), List.getElem_idxOf]
theorem idx_eq {α : Type} [DecidableEq α] {l : List α} {x : α} {i : Nat} (n : l.Nodup) (k : l[i]? = some x) : l.idxOf x = i := by
  obtain ⟨hi, rfl⟩ := List.getElem?_eq_some_iff.mp k
  exact n.idxOf_getElem _ hi
structure Jn (N : Type) where
  p1 : N → Nat
  p2 : N → Nat
  st : N → Way → Way → N × Nat
  near : List Way
  far : List Way
  L : Nat
  first : N
namespace Jn
variable {N : Type} [DecidableEq N] (J : Jn N)
def jps (x : N) (l : Nat) : List (N × Nat) := (byW J.near (J.p1 x) l).flatMap fun w => (byW J.far (J.p2 x) l).map fun v => J.st x w v
def sc (x : N) : List N := (List.range J.L).flatMap fun l => (J.jps x l).map Prod.fst
def j1 (at_ l : Nat) (s : List N × List Way) (y : N × Nat) : List N × List Way := (addN s.1 y.1, s.2 ++ [(at_, l, (addN s.1 y.1).idxOf y.1, y.2)])
def jl (at_ : Nat) (x : N) (s : List N × List Way) (l : Nat) : List N × List Way := (J.jps x l).foldl (j1 at_ l) s
def jx (at_ : Nat) (x : N) (s : List N × List Way) : List N × List Way := (List.range J.L).foldl (J.jl at_ x) s
def jn (J : Jn N) : Nat → List N × List Way
  | 0 => ([J.first], [])
  | n + 1 => match (jn J n).1[n]? with
    | some x => J.jx n x (jn J n)
    | none => jn J n
variable {J}
theorem j1_fst {at_ l : Nat} : ∀ {ys : List (N × Nat)} {s : List N × List Way}, (ys.foldl (j1 at_ l) s).1 = addL s.1 (ys.map Prod.fst)
  | [], _ => rfl
  | y :: ys, s => by
    rw [List.foldl_cons, j1_fst]
    rfl
theorem addL_app {α : Type} [DecidableEq α] {l a b : List α} : addL l (a ++ b) = addL (addL l a) b := by
  unfold addL
  rw [List.foldl_append]
theorem j1_snd {at_ l : Nat} {w : Way} : ∀ {ys : List (N × Nat)} {s : List N × List Way}, w ∈ (ys.foldl (j1 at_ l) s).2 ↔ w ∈ s.2 ∨ ∃ y ∈ ys, w = (at_, l, (addL s.1 (ys.map Prod.fst)).idxOf y.1, y.2)
  | [], s => by simp
  | y :: ys, s => by
    rw [List.foldl_cons, j1_snd (ys := ys)]
    have e : addL s.1 ((y :: ys).map Prod.fst) = addL (addN s.1 y.1) (ys.map Prod.fst) := rfl
    have e2 : (j1 at_ l s y).1 = addN s.1 y.1 := rfl
    have e3 : w ∈ (j1 at_ l s y).2 ↔ w ∈ s.2 ∨ w = (at_, l, (addN s.1 y.1).idxOf y.1, y.2) := by simp [j1]
    have e4 : (addL (addN s.1 y.1) (ys.map Prod.fst)).idxOf y.1 = (addN s.1 y.1).idxOf y.1 := idx_pre pre_addL (mem_addN.mpr (.inr rfl))
    rw [e, e2, e3, or_assoc]
    constructor
    · rintro (h | h | ⟨z, hz, h⟩)
      · exact .inl h
      · exact .inr ⟨y, List.mem_cons_self .., by rw [e4]; exact h⟩
      · exact .inr ⟨z, List.mem_cons_of_mem _ hz, h⟩
    · rintro (h | ⟨z, hz, h⟩)
      · exact .inl h
      · rcases List.mem_cons.mp hz with rfl | hz
        · rw [e4] at h
          exact .inr (.inl h)
        · exact .inr (.inr ⟨z, hz, h⟩)
theorem jls_fst {at_ : Nat} {x : N} : ∀ {ls : List Nat} {s : List N × List Way}, (ls.foldl (J.jl at_ x) s).1 = addL s.1 (ls.flatMap fun l => (J.jps x l).map Prod.fst)
  | [], _ => rfl
  | l :: ls, s => by
    rw [List.foldl_cons, jls_fst, List.flatMap_cons, addL_app]
    congr 1
    exact j1_fst
theorem jls_snd {at_ : Nat} {x : N} {w : Way} : ∀ {ls : List Nat} {s : List N × List Way}, w ∈ (ls.foldl (J.jl at_ x) s).2 ↔ w ∈ s.2 ∨ ∃ l ∈ ls, ∃ y ∈ J.jps x l, w = (at_, l, (ls.foldl (J.jl at_ x) s).1.idxOf y.1, y.2)
  | [], s => by simp
  | l :: ls, s => by
    rw [List.foldl_cons, jls_snd (ls := ls)]
    have e3 : w ∈ (J.jl at_ x s l).2 ↔ w ∈ s.2 ∨ ∃ y ∈ J.jps x l, w = (at_, l, (J.jl at_ x s l).1.idxOf y.1, y.2) := by
      unfold jl
      rw [j1_snd, j1_fst]
    have e4 : ∀ y ∈ J.jps x l, (ls.foldl (J.jl at_ x) (J.jl at_ x s l)).1.idxOf y.1 = (J.jl at_ x s l).1.idxOf y.1 := fun y hy => by
      refine idx_pre (by rw [jls_fst]; exact pre_addL) ?_
      unfold jl
      rw [j1_fst]
      exact mem_addL.mpr (.inr (List.mem_map.mpr ⟨y, hy, rfl⟩))
    rw [e3, or_assoc]
    constructor
    · rintro (h | ⟨y, hy, h⟩ | ⟨l', hl, h⟩)
      · exact .inl h
      · exact .inr ⟨l, List.mem_cons_self .., y, hy, by rw [e4 y hy]; exact h⟩
      · exact .inr ⟨l', List.mem_cons_of_mem _ hl, h⟩
    · rintro (h | ⟨l', hl, y, hy, h⟩)
      · exact .inl h
      · rcases List.mem_cons.mp hl with rfl | hl
        · rw [e4 y hy] at h
          exact .inr (.inl ⟨y, hy, h⟩)
        · exact .inr (.inr ⟨l', hl, y, hy, h⟩)
theorem jn_fst : ∀ n, (J.jn n).1 = wl J.sc [J.first] n
  | 0 => rfl
  | n + 1 => by
    have ih := jn_fst n
    unfold jn wl
    rw [← ih]
    cases hx : (J.jn n).1[n]? with
    | none => rfl
    | some x =>
      show (J.jx n x (J.jn n)).1 = addL (J.jn n).1 (J.sc x)
      rw [jx, jls_fst]
      rfl
theorem jn_nodup (n : Nat) : (J.jn n).1.Nodup := by
  rw [jn_fst]
  exact wl_nodup (by simp) n
theorem jn_pre (n : Nat) : (J.jn n).1 <+: (J.jn (n + 1)).1 := by
  rw [jn_fst, jn_fst]
  exact wl_pre1
theorem mem_jps {x : N} {l : Nat} {y : N × Nat} : y ∈ J.jps x l ↔ ∃ w ∈ J.near, ∃ v ∈ J.far, (w.1 = J.p1 x ∧ w.2.1 = l) ∧ (v.1 = J.p2 x ∧ v.2.1 = l) ∧ y = J.st x w v := by
  simp only [jps, List.mem_flatMap, List.mem_map, mem_byW]
  constructor
  · rintro ⟨w, ⟨h1, h2⟩, v, ⟨h3, h4⟩, rfl⟩
    exact ⟨w, h1, v, h3, h2, h4, rfl⟩
  · rintro ⟨w, h1, v, h3, h2, h4, rfl⟩
    exact ⟨w, ⟨h1, h2⟩, v, ⟨h3, h4⟩, rfl⟩
theorem mem_sc {x z : N} : z ∈ J.sc x ↔ ∃ l s, l < J.L ∧ (z, s) ∈ J.jps x l := by
  simp only [sc, List.mem_flatMap, List.mem_map, List.mem_range]
  constructor
  · rintro ⟨l, hl, ⟨y, s⟩, hy, rfl⟩
    exact ⟨l, s, hl, hy⟩
  · rintro ⟨l, s, hl, hy⟩
    exact ⟨l, hl, (z, s), hy, rfl⟩
theorem jn_mem : ∀ n, ∀ i l j s, (i, l, j, s) ∈ (J.jn n).2 ↔ i < n ∧ ∃ x y, (J.jn n).1[i]? = some x ∧ (J.jn n).1[j]? = some y ∧ l < J.L ∧ (y, s) ∈ J.jps x l
  | 0, i, l, j, s => by simp [jn]
  | n + 1, i, l, j, s => by
    have ih := jn_mem n i l j s
    have nd := jn_nodup (J := J) (n + 1)
    have pr := jn_pre (J := J) n
    have dn : ∀ {i x z}, i < n → (J.jn n).1[i]? = some x → z ∈ J.sc x → z ∈ (J.jn n).1 := fun hi hx hz => by
      rw [jn_fst] at hx ⊢
      exact wl_done hi hx _ hz
    have up : ∀ {i : Nat} {x : N}, (J.jn n).1[i]? = some x → (J.jn (n + 1)).1[i]? = some x := fun {i x} h => by
      rw [pre_get pr (List.getElem?_eq_some_iff.mp h).1, h]
    -- an entry of an old place
    have old : i < n → ((∃ x y, (J.jn n).1[i]? = some x ∧ (J.jn n).1[j]? = some y ∧ l < J.L ∧ (y, s) ∈ J.jps x l) ↔ ∃ x y, (J.jn (n + 1)).1[i]? = some x ∧ (J.jn (n + 1)).1[j]? = some y ∧ l < J.L ∧ (y, s) ∈ J.jps x l) := fun hi => by
      constructor
      · rintro ⟨x, y, h1, h2, h3⟩
        exact ⟨x, y, up h1, up h2, h3⟩
      · rintro ⟨x, y, h1, h2, h3, h4⟩
        have hx : (J.jn n).1[i]? = some x := by
          by_cases k : i < (J.jn n).1.length
          · rw [← pre_get pr k, h1]
          · have : (J.jn (n + 1)).1 = (J.jn n).1 := by
              rw [jn_fst, jn_fst]
              rw [jn_fst] at k
              exact wl_none (by omega)
            rwa [this] at h1
        have hy := dn hi hx (mem_sc.mpr ⟨l, s, h3, h4⟩)
        refine ⟨x, y, hx, ?_, h3, h4⟩
        have e1 := idx_eq nd h2
        rw [idx_pre pr hy] at e1
        rw [← e1]
        exact idx_get hy
    cases hx : (J.jn n).1[n]? with
    | none =>
      have e : J.jn (n + 1) = J.jn n := by rw [jn, hx]
      have hm : (i, l, j, s) ∈ (J.jn (n + 1)).2 ↔ (i, l, j, s) ∈ (J.jn n).2 := by rw [e]
      rw [hm, ih]
      constructor
      · rintro ⟨hi, h⟩
        exact ⟨by omega, (old hi).mp h⟩
      · rintro ⟨hi, h⟩
        by_cases k : i = n
        · subst k
          obtain ⟨x, y, h1, -⟩ := h
          rw [e, hx] at h1
          cases h1
        · exact ⟨by omega, (old (by omega)).mpr h⟩
    | some x =>
      have e : J.jn (n + 1) = J.jx n x (J.jn n) := by rw [jn, hx]
      have hm : (i, l, j, s) ∈ (J.jn (n + 1)).2 ↔ (i, l, j, s) ∈ (J.jn n).2 ∨ ∃ l' ∈ List.range J.L, ∃ y ∈ J.jps x l', (i, l, j, s) = (n, l', (J.jn (n + 1)).1.idxOf y.1, y.2) := by
        rw [e]
        unfold jx
        exact jls_snd
      rw [hm, ih]
      constructor
      · rintro (⟨hi, h⟩ | ⟨l', hl, y, hy, h⟩)
        · exact ⟨by omega, (old hi).mp h⟩
        · cases h
          refine ⟨by omega, x, y.1, up hx, idx_get ?_, List.mem_range.mp hl, hy⟩
          rw [e, jx, jls_fst]
          exact mem_addL.mpr (.inr (List.mem_flatMap.mpr ⟨l, hl, List.mem_map.mpr ⟨y, hy, rfl⟩⟩))
      · rintro ⟨hi, h⟩
        by_cases k : i = n
        · subst k
          obtain ⟨x', y, h1, h2, h3, h4⟩ := h
          rw [up hx] at h1
          cases h1
          exact .inr ⟨l, List.mem_range.mpr h3, (y, s), h4, by rw [idx_eq nd h2]⟩
        · exact .inl ⟨by omega, (old (by omega)).mpr h⟩
/-- all of it -/
structure Full (J : Jn N) (n : Nat) : Prop where
  len : (J.jn n).1.length ≤ n
theorem Full.mem {n : Nat} (h : J.Full n) {i l j s : Nat} : (i, l, j, s) ∈ (J.jn n).2 ↔ ∃ x y, (J.jn n).1[i]? = some x ∧ (J.jn n).1[j]? = some y ∧ l < J.L ∧ (y, s) ∈ J.jps x l := by
  rw [jn_mem]
  constructor
  · exact fun k => k.2
  · rintro ⟨x, y, h1, h2⟩
    have := (List.getElem?_eq_some_iff.mp h1).1
    have := h.len
    exact ⟨by omega, x, y, h1, h2⟩
theorem Full.to {n : Nat} (h : J.Full n) {i l s : Nat} {x y : N} (h1 : (J.jn n).1[i]? = some x) (h2 : l < J.L) (h3 : (y, s) ∈ J.jps x l) : ∃ j, (J.jn n).1[j]? = some y ∧ (i, l, j, s) ∈ (J.jn n).2 := by
  have hi := (List.getElem?_eq_some_iff.mp h1).1
  have hl := h.len
  have hy : y ∈ (J.jn n).1 := by
    rw [jn_fst] at h1 ⊢
    rw [jn_fst] at hi hl
    exact wl_done (by omega) h1 _ (mem_sc.mpr ⟨l, s, h2, h3⟩)
  exact ⟨_, idx_get hy, h.mem.mpr ⟨x, y, h1, idx_get hy, h2, h3⟩⟩
theorem Full.zero {n : Nat} : (J.jn n).1[0]? = some J.first := by
  have := wl_pre (sc := J.sc) (ini := [J.first]) (n := 0) n
  rw [Nat.zero_add] at this
  rw [jn_fst, pre_get this (by simp [wl])]
  rfl
theorem Full.inj {n i j : Nat} {x : N} (h1 : (J.jn n).1[i]? = some x) (h2 : (J.jn n).1[j]? = some x) : i = j := by
  rw [← idx_eq (jn_nodup n) h1, idx_eq (jn_nodup n) h2]
theorem jn_end {n m : Nat} (h : J.Full n) (k : J.Full m) : J.jn n = J.jn m := by
  have fix : ∀ n d, J.Full n → J.jn (n + d) = J.jn n := fun n d h => by
    induction d with
    | zero => rfl
    | succ d ih =>
      have := h.len
      rw [← Nat.add_assoc, jn, ih, List.getElem?_eq_none (by omega)]
  rcases Nat.le_total n m with l | l
  · obtain ⟨d, rfl⟩ := Nat.le.dest l
    exact (fix n d h).symm
  · obtain ⟨d, rfl⟩ := Nat.le.dest l
    exact fix m d k
/-- how many ways are told: as many as the steps from places that came -/
theorem j1_len {at_ l : Nat} : ∀ {ys : List (N × Nat)} {s : List N × List Way}, (ys.foldl (j1 at_ l) s).2.length = s.2.length + ys.length
  | [], _ => rfl
  | y :: ys, s => by
    rw [List.foldl_cons, j1_len]
    simp [j1]
    omega
theorem jl_len {B : Nat} {at_ : Nat} {x : N} (hB : ∀ l, (J.jps x l).length ≤ B) : ∀ {ls : List Nat} {s : List N × List Way}, (ls.foldl (J.jl at_ x) s).2.length ≤ s.2.length + ls.length * B
  | [], _ => by simp
  | l :: ls, s => by
    rw [List.foldl_cons]
    have h1 := jl_len hB (ls := ls) (s := J.jl at_ x s l) (at_ := at_)
    have h2 : (J.jl at_ x s l).2.length = s.2.length + (J.jps x l).length := j1_len
    have h3 := hB l
    have h4 : (l :: ls).length * B = ls.length * B + B := by rw [List.length_cons, Nat.succ_mul]
    omega
theorem jn_len {B : Nat} (hB : ∀ x l, (J.jps x l).length ≤ B) : ∀ n, (J.jn n).2.length ≤ min n (J.jn n).1.length * (J.L * B)
  | 0 => by simp [jn]
  | n + 1 => by
    have ih := jn_len hB n
    have pl : (J.jn n).1.length ≤ (J.jn (n + 1)).1.length := (jn_pre n).length_le
    have mono : ∀ a b : Nat, a ≤ b → a * (J.L * B) ≤ b * (J.L * B) := fun a b h => Nat.mul_le_mul_right _ h
    cases hx : (J.jn n).1[n]? with
    | none =>
      have e : J.jn (n + 1) = J.jn n := by rw [jn, hx]
      rw [e]
      exact Nat.le_trans ih (mono _ _ (by omega))
    | some x =>
      have hn := (List.getElem?_eq_some_iff.mp hx).1
      have e : J.jn (n + 1) = J.jx n x (J.jn n) := by rw [jn, hx]
      have h1 : (J.jx n x (J.jn n)).2.length ≤ (J.jn n).2.length + (List.range J.L).length * B := jl_len (hB x)
      rw [List.length_range] at h1
      rw [← e] at h1
      have h2 := mono (min n (J.jn n).1.length + 1) (min (n + 1) (J.jn (n + 1)).1.length) (by omega)
      rw [Nat.succ_mul] at h2
      omega
theorem jps_len {x : N} {l a b : Nat} (ha : (byW J.near (J.p1 x) l).length ≤ a) (hb : (byW J.far (J.p2 x) l).length ≤ b) : (J.jps x l).length ≤ a * b := by
  have : ∀ us : List Way, (us.flatMap fun w => (byW J.far (J.p2 x) l).map fun v => J.st x w v).length = us.length * (byW J.far (J.p2 x) l).length := fun us => by
    induction us with
    | nil => simp
    | cons u us ih => rw [List.flatMap_cons, List.length_append, ih, List.length_map, List.length_cons, Nat.succ_mul]; omega
  unfold jps
  rw [this]
  exact Nat.mul_le_mul ha hb
end Jn
end Rv
end

section
namespace Rv
/-! Md: readers, counting of ways, the reader of both. -/
structure ROk (L R : Nat) (ws : List Way) : Prop where
  lo : 0 < L
  l4 : L ≤ 4
  ro : 0 < R
  r12 : R ≤ 12
  bd : ∀ w ∈ ws, w.1 < R ∧ w.2.1 < L ∧ w.2.2.1 < R ∧ w.2.2.2 < 2
  ex : ∀ r l, r < R → l < L → ∃ q s, (r, l, q, s) ∈ ws
  nd : ws.Nodup
  len : ws.length < 64
theorem ROk.pos {L R : Nat} {ws : List Way} (h : ROk L R ws) : 0 < ws.length := by
  obtain ⟨q, s, hq⟩ := h.ex 0 0 h.ro h.lo
  exact List.length_pos_of_mem hq
theorem ROk.perm {L R : Nat} {ws vs : List Way} (h : ROk L R ws) (p : ws.Perm vs) : ROk L R vs :=
  ⟨h.lo, h.l4, h.ro, h.r12, fun w hw => h.bd w (p.mem_iff.mpr hw), fun r l hr hl => by
    obtain ⟨q, s, e⟩ := h.ex r l hr hl
    exact ⟨q, s, p.mem_iff.mp e⟩, p.nodup_iff.mp h.nd, by rw [← p.length_eq]; exact h.len⟩
theorem perm_of_mem {α : Type} [DecidableEq α] {l m : List α} (h : l.Nodup) (k : m.Nodup) (e : ∀ x, x ∈ l ↔ x ∈ m) : l.Perm m := by
  refine List.perm_iff_count.mpr fun a => ?_
  by_cases ha : a ∈ l
  · have h1 : l.count a ≤ 1 := List.nodup_iff_count.mp h a
    have h2 : m.count a ≤ 1 := List.nodup_iff_count.mp k a
    have h3 : 0 < l.count a := List.count_pos_iff.mpr ha
    have h4 : 0 < m.count a := List.count_pos_iff.mpr ((e a).mp ha)
    omega
  · rw [List.count_eq_zero_of_not_mem ha, List.count_eq_zero_of_not_mem fun z => ha ((e a).mpr z)]
/-! counting -/
def cells (R L : Nat) : List (Nat × Nat) := (List.range R).flatMap fun r => (List.range L).map fun l => (r, l)
theorem mem_cells {R L r l : Nat} : (r, l) ∈ cells R L ↔ r < R ∧ l < L := by
  simp only [cells, List.mem_flatMap, List.mem_map, List.mem_range, Prod.mk.injEq]
  constructor
  · rintro ⟨a, h1, b, h2, rfl, rfl⟩
    exact ⟨h1, h2⟩
  · rintro ⟨h1, h2⟩
    exact ⟨r, h1, l, h2, rfl, rfl⟩
theorem nodup_flatMap {α β : Type} {f : α → List β} : ∀ {l : List α}, (∀ x ∈ l, (f x).Nodup) → l.Pairwise (fun x y => ∀ b ∈ f x, b ∉ f y) → (l.flatMap f).Nodup
  | [], _, _ => by simp
  | x :: l, h, p => by
    rw [List.flatMap_cons]
    obtain ⟨p1, p2⟩ := List.pairwise_cons.mp p
    refine List.nodup_append.mpr ⟨h x (List.mem_cons_self ..), nodup_flatMap (fun y hy => h y (List.mem_cons_of_mem _ hy)) p2, fun a ha b hb => ?_⟩
    obtain ⟨y, hy, hb⟩ := List.mem_flatMap.mp hb
    rintro rfl
    exact p1 y hy a ha hb
theorem nodup_map {α β : Type} {f : α → β} (inj : ∀ a b, f a = f b → a = b) {l : List α} (h : l.Nodup) : (l.map f).Nodup := by
  rw [List.nodup_iff_pairwise_ne, List.pairwise_map]
  exact (List.nodup_iff_pairwise_ne.mp h).imp fun n e => n (inj _ _ e)
theorem nodup_cells (R L : Nat) : (cells R L).Nodup := by
  unfold cells
  refine nodup_flatMap (fun r _ => nodup_map (fun a b e => (Prod.mk.inj e).2) List.nodup_range) ?_
  refine (List.nodup_iff_pairwise_ne.mp List.nodup_range).imp fun n b hb hc => ?_
  obtain ⟨_, _, rfl⟩ := List.mem_map.mp hb
  obtain ⟨_, _, e⟩ := List.mem_map.mp hc
  exact n (Prod.mk.inj e).1.symm
theorem len_cells (R L : Nat) : (cells R L).length = R * L := by
  unfold cells
  have : ∀ us : List Nat, (us.flatMap fun r => (List.range L).map fun l => (r, l)).length = us.length * L := fun us => by
    induction us with
    | nil => simp
    | cons u us ih => rw [List.flatMap_cons, List.length_append, ih, List.length_map, List.length_range, List.length_cons, Nat.succ_mul]; omega
  rw [this, List.length_range]
theorem sum_one {α : Type} [DecidableEq α] {f : α → Nat} {c : α} : ∀ {l : List α}, l.Nodup → c ∈ l → (l.map fun x => if x = c then f x + 1 else f x).sum = (l.map f).sum + 1
  | [], _, h => by cases h
  | x :: l, n, h => by
    obtain ⟨n1, n2⟩ := List.nodup_cons.mp n
    simp only [List.map_cons, List.sum_cons]
    by_cases e : x = c
    · subst e
      have : (l.map fun y => if y = x then f y + 1 else f y) = l.map f := List.map_congr_left fun y hy => if_neg (by rintro rfl; exact n1 hy)
      rw [this, if_pos rfl]
      omega
    · have := sum_one (f := f) n2 ((List.mem_cons.mp h).resolve_left fun z => e z.symm)
      rw [if_neg e, this]
      omega
theorem len_sum {R L : Nat} : ∀ {ws : List Way}, (∀ w ∈ ws, w.1 < R ∧ w.2.1 < L) → ws.length = ((cells R L).map fun c => (byW ws c.1 c.2).length).sum
  | [], _ => by
    have : ∀ l : List (Nat × Nat), (l.map fun c => (byW [] c.1 c.2).length).sum = 0 := fun l => by
      induction l with
      | nil => rfl
      | cons c l ih => rw [List.map_cons, List.sum_cons, ih]; rfl
    rw [this]
    rfl
  | w :: ws, h => by
    have ih := len_sum (R := R) (L := L) (ws := ws) fun v hv => h v (List.mem_cons_of_mem _ hv)
    have hw := h w (List.mem_cons_self ..)
    have e : ((cells R L).map fun c => (byW (w :: ws) c.1 c.2).length) = (cells R L).map fun c => if c = (w.1, w.2.1) then (byW ws c.1 c.2).length + 1 else (byW ws c.1 c.2).length := by
      refine List.map_congr_left fun c _ => ?_
      unfold byW
      rw [List.filter_cons]
      obtain ⟨c1, c2⟩ := c
      by_cases k : (c1, c2) = (w.1, w.2.1)
      · cases k
        simp
      · rw [if_neg k, if_neg]
        intro z
        simp only [Bool.and_eq_true, decide_eq_true_eq] at z
        exact k (by rw [z.1, z.2])
    rw [e, sum_one (nodup_cells R L) (mem_cells.mpr hw), ← ih]
    rfl
theorem ones_of {α : Type} {f : α → Nat} : ∀ {l : List α}, (∀ x ∈ l, 1 ≤ f x) → (l.map f).sum = l.length → ∀ x ∈ l, f x = 1
  | [], _, _, _, h => by cases h
  | x :: l, h, e, y, hy => by
    have ge : ∀ l : List α, (∀ x ∈ l, 1 ≤ f x) → l.length ≤ (l.map f).sum := fun l h => by
      induction l with
      | nil => simp
      | cons z l ih =>
        have := ih fun y hy => h y (List.mem_cons_of_mem _ hy)
        have := h z (List.mem_cons_self ..)
        simp only [List.map_cons, List.sum_cons, List.length_cons]
        omega
    have h1 := h x (List.mem_cons_self ..)
    have h2 := ge l fun y hy => h y (List.mem_cons_of_mem _ hy)
    simp only [List.map_cons, List.sum_cons, List.length_cons] at e
    rcases List.mem_cons.mp hy with rfl | hy
    · omega
    · exact ones_of (fun z hz => h z (List.mem_cons_of_mem _ hz)) (by omega) y hy
theorem single_cell {L R : Nat} {ws : List Way} (h : ROk L R ws) (e : ws.length = L * R) {r l : Nat} (hr : r < R) (hl : l < L) : (byW ws r l).length = 1 := by
  have s := len_sum (R := R) (L := L) fun w hw => ⟨(h.bd w hw).1, (h.bd w hw).2.1⟩
  refine ones_of (f := fun c : Nat × Nat => (byW ws c.1 c.2).length) (l := cells R L) (fun c hc => ?_) (by rw [← s, e, len_cells, Nat.mul_comm]) (r, l) (mem_cells.mpr ⟨hr, hl⟩)
  obtain ⟨c1, c2⟩ := c
  obtain ⟨h1, h2⟩ := mem_cells.mp hc
  obtain ⟨q, s, hq⟩ := h.ex c1 c2 h1 h2
  exact List.length_pos_of_mem (mem_byW.mpr ⟨hq, rfl, rfl⟩)
theorem single_of {L R : Nat} {ws : List Way} (h : ∀ w ∈ ws, w.1 < R ∧ w.2.1 < L) (k : ∀ r l, r < R → l < L → (byW ws r l).length = 1) : ws.length = L * R := by
  rw [len_sum h]
  have : ((cells R L).map fun c => (byW ws c.1 c.2).length) = (cells R L).map fun _ => 1 := List.map_congr_left fun c hc => k _ _ (mem_cells.mp hc).1 (mem_cells.mp hc).2
  rw [this]
  have one : ∀ l : List (Nat × Nat), (l.map fun _ => 1).sum = l.length := fun l => by
    induction l with
    | nil => rfl
    | cons x l ih => simp only [List.map_cons, List.sum_cons, List.length_cons, ih]; omega
  rw [one, len_cells, Nat.mul_comm]
/-! the reader of both -/
def bothJ (near far : List Way) (L : Nat) : Jn (Nat × Nat) := ⟨Prod.fst, Prod.snd, fun _ w v => ((w.2.2.1, v.2.2.1), max w.2.2.2 v.2.2.2), near, far, L, (0, 0)⟩
section
variable {near far due : List Way} {L R1 R2 n : Nat}
theorem both_step {x y : Nat × Nat} {l s : Nat} : (y, s) ∈ (bothJ near far L).jps x l ↔ ∃ s1 s2, (x.1, l, y.1, s1) ∈ near ∧ (x.2, l, y.2, s2) ∈ far ∧ s = max s1 s2 := by
  rw [Jn.mem_jps]
  constructor
  · rintro ⟨⟨w1, w2, w3, w4⟩, hw, ⟨v1, v2, v3, v4⟩, hv, ⟨h1, h2⟩, ⟨h3, h4⟩, e⟩
    simp only [bothJ, Prod.mk.injEq] at h1 h2 h3 h4 e
    subst h1 h2 h3
    subst h4
    obtain ⟨e1, e2⟩ := e
    subst e1 e2
    exact ⟨_, _, hw, hv, rfl⟩
  · rintro ⟨s1, s2, hw, hv, rfl⟩
    exact ⟨_, hw, _, hv, ⟨rfl, rfl⟩, ⟨rfl, rfl⟩, rfl⟩
theorem both_names (h1 : ROk L R1 near) (h2 : ROk L R2 far) : ∀ n, ∀ x ∈ ((bothJ near far L).jn n).1, x.1 < R1 ∧ x.2 < R2 := by
  intro n x hx
  rw [Jn.jn_fst] at hx
  have := wl_rea n x hx
  clear hx
  induction this with
  | ini h =>
    rw [List.mem_singleton] at h
    subst h
    exact ⟨h1.ro, h2.ro⟩
  | nx _ hy ih =>
    obtain ⟨l, s, hl, hy⟩ := Jn.mem_sc.mp hy
    obtain ⟨s1, s2, hw, hv, -⟩ := both_step.mp hy
    exact ⟨(h1.bd _ hw).2.2.1, (h2.bd _ hv).2.2.1⟩
theorem both_len (h1 : ROk L R1 near) (h2 : ROk L R2 far) (n : Nat) : ((bothJ near far L).jn n).1.length ≤ R1 * R2 := by
  rw [← len_cells]
  exact nodup_len (Jn.jn_nodup n) fun x hx => mem_cells.mpr (both_names h1 h2 n x hx)
theorem both_both (h1 : ROk L R1 near) (h2 : ROk L R2 far) (hn : (bothJ near far L).Full n) (hd : ∀ w, w ∈ due ↔ w ∈ ((bothJ near far L).jn n).2) : Both near far due fun i => ((bothJ near far L).jn n).1[i]? where
  zero := Jn.Full.zero
  inj i j p hi hj := Jn.Full.inj hi hj
  to i p l q s q2 s2 hi hw hv := by
    obtain ⟨j, hj, hm⟩ := hn.to hi (h1.bd _ hw).2.1 (both_step.mpr ⟨s, s2, hw, hv, rfl⟩ : ((q, q2), max s s2) ∈ _)
    exact ⟨j, hj, (hd _).mpr hm⟩
  fro i l j s hm := by
    obtain ⟨x, y, hx, hy, -, hs⟩ := hn.mem.mp ((hd _).mp hm)
    obtain ⟨s1, s2, hw, hv, e⟩ := both_step.mp hs
    exact ⟨x, y, s1, s2, hx, hy, hw, hv, e⟩
theorem both_ok (h1 : ROk L R1 near) (h2 : ROk L R2 far) (hn : (bothJ near far L).Full n) (hd : ∀ w, w ∈ due ↔ w ∈ ((bothJ near far L).jn n).2) (nd : due.Nodup) (len : due.length < 64) (r12 : R1 * R2 ≤ 12) : ROk L ((bothJ near far L).jn n).1.length due where
  lo := h1.lo
  l4 := h1.l4
  ro := by
    have := (List.getElem?_eq_some_iff.mp (Jn.Full.zero (J := bothJ near far L) (n := n))).1
    omega
  r12 := Nat.le_trans (both_len h1 h2 n) r12
  bd w hw := by
    obtain ⟨i, l, j, s⟩ := w
    obtain ⟨x, y, hx, hy, hl, hs⟩ := hn.mem.mp ((hd _).mp hw)
    obtain ⟨s1, s2, hw, hv, e⟩ := both_step.mp hs
    have b1 := (h1.bd _ hw).2.2.2
    have b2 := (h2.bd _ hv).2.2.2
    exact ⟨(List.getElem?_eq_some_iff.mp hx).1, hl, (List.getElem?_eq_some_iff.mp hy).1, by show s < 2; dsimp only at b1 b2; omega⟩
  ex i l hi hl := by
    obtain ⟨x1, x2⟩ := both_names h1 h2 n _ (List.getElem_mem hi)
    obtain ⟨q, s, hq⟩ := h1.ex _ l x1 hl
    obtain ⟨q2, s2, hq2⟩ := h2.ex _ l x2 hl
    obtain ⟨j, hj, hm⟩ := hn.to (List.getElem?_eq_getElem hi) hl (both_step.mpr ⟨s, s2, hq, hq2, rfl⟩ : ((q, q2), max s s2) ∈ _)
    exact ⟨j, _, (hd _).mpr hm⟩
  nd := nd
  len := len
/-- without choices none comes -/
theorem both_single (h1 : ROk L R1 near) (h2 : ROk L R2 far) (hn : (bothJ near far L).Full n) (hd : ∀ w, w ∈ due ↔ w ∈ ((bothJ near far L).jn n).2) (nd : due.Nodup) (e1 : near.length = L * R1) (e2 : far.length = L * R2)
    (b : ∀ w ∈ due, w.1 < ((bothJ near far L).jn n).1.length ∧ w.2.1 < L) : due.length = L * ((bothJ near far L).jn n).1.length := by
  refine single_of b fun r l hr hl => ?_
  obtain ⟨x1, x2⟩ := both_names h1 h2 n _ (List.getElem_mem hr)
  have c1 := single_cell h1 e1 x1 hl
  have c2 := single_cell h2 e2 x2 hl
  obtain ⟨w, hw⟩ := List.length_eq_one_iff.mp c1
  obtain ⟨v, hv⟩ := List.length_eq_one_iff.mp c2
  have u1 : ∀ q s, ((((bothJ near far L).jn n).1[r]).1, l, q, s) ∈ near → (((bothJ near far L).jn n).1[r].1, l, q, s) = w := fun q s h => by
    have : _ ∈ byW near _ l := mem_byW.mpr ⟨h, rfl, rfl⟩
    rw [hw, List.mem_singleton] at this
    exact this
  have u2 : ∀ q s, ((((bothJ near far L).jn n).1[r]).2, l, q, s) ∈ far → (((bothJ near far L).jn n).1[r].2, l, q, s) = v := fun q s h => by
    have : _ ∈ byW far _ l := mem_byW.mpr ⟨h, rfl, rfl⟩
    rw [hv, List.mem_singleton] at this
    exact this
  have uq : ∀ a ∈ byW due r l, ∀ b ∈ byW due r l, a = b := by
    have key : ∀ a ∈ byW due r l, ∃ j, a = (r, l, j, max w.2.2.2 v.2.2.2) ∧ ((bothJ near far L).jn n).1[j]? = some (w.2.2.1, v.2.2.1) := fun a ha => by
      obtain ⟨i, l', j, s⟩ := a
      obtain ⟨ha2, h3, h4⟩ := mem_byW.mp ha
      dsimp only at h3 h4
      subst h3 h4
      obtain ⟨x, y, hx, hy, -, hs⟩ := hn.mem.mp ((hd _).mp ha2)
      rw [List.getElem?_eq_getElem hr] at hx
      cases hx
      obtain ⟨s1, s2, hw', hv', e⟩ := both_step.mp hs
      have k1 := u1 _ _ hw'
      have k2 := u2 _ _ hv'
      refine ⟨j, ?_, ?_⟩
      · rw [e, ← k1, ← k2]
      · rw [hy, ← k1, ← k2]
    intro a ha b hb
    obtain ⟨j, rfl, hj⟩ := key a ha
    obtain ⟨j', rfl, hj'⟩ := key b hb
    rw [Jn.Full.inj hj hj']
  have nb : (byW due r l).Nodup := nd.filter _
  obtain ⟨q, s, hq⟩ := h1.ex _ l x1 hl
  obtain ⟨q2, s2, hq2⟩ := h2.ex _ l x2 hl
  obtain ⟨j, hj, hm⟩ := hn.to (List.getElem?_eq_getElem hr) hl (both_step.mpr ⟨s, s2, hq, hq2, rfl⟩ : ((q, q2), max s s2) ∈ _)
  have hm : _ ∈ byW due r l := mem_byW.mpr ⟨(hd _).mpr hm, rfl, rfl⟩
  have : (byW due r l).length ≤ [(r, l, j, max s s2)].length := nodup_len nb fun a ha => List.mem_singleton.mpr (uq a ha _ hm)
  have := List.length_pos_of_mem hm
  simp at *
  omega
end
end Rv
end

section
/-! Ws: how the language's operations answer, one rule for each form. -/
namespace Ev
open PySem
/-- so that a rule is used as a rewriting, not by computing -/
theorem nr {α : Sort _} {a b : α} (h : a = b) : a = b := h
section
variable {T : Tab} {C : CT} {M : MH} {Q : PV → MH → Prop} {K : MH → Prop} {i j : Int} {b c : Bool} {xs ys : List PV} {v x y : PV} {n : Nat} {a : Addr}
theorem t_bl : truthy M (.bl b) = some b := nr rfl
theorem t_int : truthy M (.int i) = some (i != 0) := nr rfl
theorem t_tup : truthy M (.tup xs) = some !xs.isEmpty := nr rfl
theorem t_non : truthy M .non = some false := nr rfl
theorem t_fl : truthy M (.fl xs) = some !xs.isEmpty := nr rfl
theorem t_lst (h : M a = some (.lst xs)) : truthy M (.ref a) = some !xs.isEmpty := by simp [truthy, h]
theorem r_val : res (some (.val v)) M Q = Q v M := nr rfl
theorem r_new {o : MO} : res (some (.new o)) M Q = (okO o ∧ ∀ p, M p = none → Q (.ref p) (mup M p o)) := nr rfl
theorem o_lst : okO (.lst xs) = (xs.length ≤ sizeLine) := nr rfl
theorem o_set : okO (.set xs) = (xs.length ≤ sizeLine) := nr rfl
theorem s_tup : seqOf M (.tup xs) = some xs := nr rfl
theorem s_fl : seqOf M (.fl xs) = some xs := nr rfl
theorem s_ref : seqOf M (.ref a) = lstOf M (.ref a) := nr rfl
theorem l_fl : lstOf M (.fl xs) = some xs := nr rfl
theorem l_ref (h : M a = some (.lst xs)) : lstOf M (.ref a) = some xs := by simp [lstOf, h]
theorem m_ref (h : M a = some (.lst xs)) : lsM M (.ref a) = some xs := by simp [lsM, h]
theorem i_tup : idxR M (.tup xs) (.int i) = atI xs i := nr rfl
theorem i_seq (h : seqOf M v = some xs) : idxR M v (.int i) = atI xs i := by simp [idxR, h]
theorem i_lst (h : M a = some (.lst xs)) : idxR M (.ref a) (.int i) = atI xs i := i_seq (l_ref h)
theorem a_nat : atI xs (n : Int) = xs[n]? := by
  unfold atI
  rw [if_pos (by omega)]
  rfl
theorem a_0 : atI xs 0 = xs[0]? := a_nat (n := 0)
theorem a_1 : atI xs 1 = xs[1]? := a_nat (n := 1)
theorem a_2 : atI xs 2 = xs[2]? := a_nat (n := 2)
theorem a_3 : atI xs 3 = xs[3]? := a_nat (n := 3)
theorem a_4 : atI xs 4 = xs[4]? := a_nat (n := 4)
theorem b_len : bltR M .len [v] = (lenOf M v).map fun (n : Nat) => R.val (PV.int (n : Int)) := by
  simp only [bltR]
  cases lenOf M v <;> rfl
theorem b_abs : bltR M .abs [.int i] = some (.val (.int (if i < 0 then -i else i))) := nr rfl
theorem b_max : bltR M .max [.int i, .int j] = some (.val (.int (if j > i then j else i))) := nr rfl
theorem b_min : bltR M .min [.int i, .int j] = some (.val (.int (if j < i then j else i))) := nr rfl
theorem b_int : bltR M .int [.int i] = some (.val (.int i)) := nr rfl
theorem b_inb : bltR M .int [.bl b] = some (.val (.int (if b then 1 else 0))) := nr rfl
theorem b_tuple (h : seqOf M v = some xs) : bltR M .tuple [v] = some (.val (.tup xs)) := by simp [bltR, h]
theorem b_list (h : itemsOf M v = some xs) : bltR M .list [v] = some (.new (.lst xs)) := by simp [bltR, h]
theorem b_divmod (h : cDiv j = true) : bltR M .divmod [.int i, .int j] = some (.val (.tup [.int (i / j), .int (i % j)])) := by simp [bltR, h]
theorem b_all {bs : List Bool} (h : lstOf M v = some (bs.map .bl)) : bltR M .all [v] = some (.val (.bl (bs.all id))) := by
  have e : mapO blOf (bs.map PV.bl) = some bs := by
    clear h
    induction bs with
    | nil => rfl
    | cons x l ih => simp only [List.map_cons, mapO, blOf, ih]
  simp only [bltR, h, e]
  rfl
theorem b_any {bs : List Bool} (h : lstOf M v = some (bs.map .bl)) : bltR M .any [v] = some (.val (.bl (bs.any id))) := by
  have e : mapO blOf (bs.map PV.bl) = some bs := by
    clear h
    induction bs with
    | nil => rfl
    | cons x l ih => simp only [List.map_cons, mapO, blOf, ih]
  simp only [bltR, h, e]
  rfl
theorem b_sorted (h : lstOf M v = some xs) (s : sortable xs = true) : bltR M .sorted [v] = some (.new (.lst (sortP xs))) := by simp [bltR, h, s]
theorem b_sorted_set (h : M a = some (.set xs)) (l : xs.length < 64) (s : ((mapO intOf xs).isSome || tupsFit xs) = true) : bltR M .sorted [.ref a] = some (.new (.lst (sortP xs))) := by
  have e : lstOf M (.ref a) = none := by simp [lstOf, h]
  simp only [bltR, e, h, l, s, and_self, if_true]
theorem b_set (h : lstOf M v = some xs) (l : xs.length < 64) (s : ((mapO intOf xs).isSome || (mapO intTup xs).isSome) = true) : bltR M .set [v] = some (.new (.set (dedup xs))) := by
  simp only [bltR, h, l, s, and_self, if_true]
theorem n_tup : lenOf M (.tup xs) = some xs.length := nr rfl
theorem n_lst (h : M a = some (.lst xs)) : lenOf M (.ref a) = some xs.length := by simp [lenOf, h]
theorem n_set (h : M a = some (.set xs)) : lenOf M (.ref a) = some xs.length := by simp [lenOf, h]
theorem n_dct {kvs : List (PV × PV)} (h : M a = some (.dct kvs)) : lenOf M (.ref a) = some kvs.length := by simp [lenOf, h]
theorem d_add : binR M .add (.int i) (.int j) = some (.val (.int (i + j))) := nr rfl
theorem d_sub : binR M .sub (.int i) (.int j) = some (.val (.int (i - j))) := nr rfl
theorem d_mul (h : cMul i j = true) : binR M .mul (.int i) (.int j) = some (.val (.int (i * j))) := by simp [binR, h]
theorem d_mod (h : 0 < j) : binR M .mod (.int i) (.int j) = some (.val (.int (i % j))) := by simp [binR, h]
theorem d_fdiv (h : cDiv j = true) : binR M .fdiv (.int i) (.int j) = some (.val (.int (i / j))) := by simp [binR, h]
theorem d_adt (h : xs.length + ys.length ≤ sizeLine) : binR M .add (.tup xs) (.tup ys) = some (.val (.tup (xs ++ ys))) := by simp [binR, h]
theorem d_adl {c : Addr} (h : M a = some (.lst xs)) (k : M c = some (.lst ys)) : binR M .add (.ref a) (.ref c) = some (.new (.lst (xs ++ ys))) := by simp [binR, lsM, h, k]
theorem c_lt : cmpR M .lt (.int i) (.int j) = some (decide (i < j)) := nr rfl
theorem c_le : cmpR M .le (.int i) (.int j) = some (decide (i ≤ j)) := nr rfl
theorem c_gt : cmpR M .gt (.int i) (.int j) = some (decide (j < i)) := nr rfl
theorem c_ge : cmpR M .ge (.int i) (.int j) = some (decide (j ≤ i)) := nr rfl
theorem c_eq : cmpR M .eq x y = eqR M x y := nr rfl
theorem c_ne : cmpR M .ne x y = (eqR M x y).map not := nr rfl
theorem q_int : eqR M (.int i) (.int j) = some (decide (i = j)) := by
  simp only [eqR, dD, den, PyData.eqv, Option.some.injEq]
  rw [Bool.eq_iff_iff]
  simp
theorem q_bl : eqR M (.bl b) (.bl c) = some (decide (b = c)) := by
  simp only [eqR, dD, den, PyData.eqv, Option.some.injEq]
  rw [Bool.eq_iff_iff]
  simp
theorem q_emp {p : Addr} (h : lstOf M v = some xs) (g : M p = some (.lst [])) (e : ∀ x ∈ xs, (den M 11 x).isSome = true) : eqR M v (.ref p) = some (decide (xs = [])) := by
  have e2 : ∃ ds, mapO (den M 11) xs = some ds ∧ (ds = [] ↔ xs = []) := by
    clear h
    cases xs with
    | nil => exact ⟨[], rfl, by simp⟩
    | cons x r =>
      have : ∀ l : List PV, (∀ x ∈ l, (den M 11 x).isSome = true) → ∃ ds, mapO (den M 11) l = some ds := fun l h => by
        induction l with
        | nil => exact ⟨[], rfl⟩
        | cons z l ih =>
          obtain ⟨d, hd⟩ := Option.isSome_iff_exists.mp (h z (List.mem_cons_self ..))
          obtain ⟨ds, hds⟩ := ih fun y hy => h y (List.mem_cons_of_mem _ hy)
          exact ⟨d :: ds, by simp only [mapO, hd, hds]⟩
      obtain ⟨d, hd⟩ := Option.isSome_iff_exists.mp (e x (List.mem_cons_self ..))
      obtain ⟨ds, hds⟩ := this r fun y hy => e y (List.mem_cons_of_mem _ hy)
      exact ⟨d :: ds, by simp only [mapO, hd, hds], by simp⟩
  obtain ⟨ds, e2, e3⟩ := e2
  have d1 : den M 12 v = some (.list ds) := by
    unfold lstOf at h
    split at h
    · split at h
      · rename_i q
        cases h
        simp only [den, q, e2, Option.map_some]
      · cases h
    · cases h
      simp only [den, e2, Option.map_some]
    · cases h
  have d2 : den M 12 (.ref p) = some (.list []) := by simp only [den, g, mapO, Option.map_some]
  unfold eqR dD
  rw [d1, d2]
  cases ds with
  | nil => rw [e3.mp rfl]; rfl
  | cons d ds =>
    have : ¬ xs = [] := fun z => by simpa using e3.mpr z
    simp only [PyData.eqv, PyData.eqvAll, this, decide_false]
/-- a comparison of values that are no instances -/
theorem k_lt {r : Bool} (h : cmpR M .lt x y = some r) : wpCmp T C .lt x y M Q = Q (.bl r) M := by simp [wpCmp, isEq, h]
theorem w_lt : wpCmp T C .lt (.int i) (.int j) M Q = Q (.bl (decide (i < j))) M := nr rfl
theorem w_le : wpCmp T C .le (.int i) (.int j) M Q = Q (.bl (decide (i ≤ j))) M := nr rfl
theorem w_gt : wpCmp T C .gt (.int i) (.int j) M Q = Q (.bl (decide (j < i))) M := nr rfl
theorem w_ge : wpCmp T C .ge (.int i) (.int j) M Q = Q (.bl (decide (j ≤ i))) M := nr rfl
theorem w_in {r : Bool} (h : cmpR M .in_ x y = some r) : wpCmp T C .in_ x y M Q = Q (.bl r) M := by simp [wpCmp, isEq, h]
theorem w_nin {r : Bool} (h : cmpR M .nin x y = some r) : wpCmp T C .nin x y M Q = Q (.bl r) M := by simp [wpCmp, isEq, h]
theorem w_eq {r : Bool} (n : insC M x = none) (h : eqR M x y = some r) : wpCmp T C .eq x y M Q = Q (.bl r) M := by simp [wpCmp, isEq, n, cmpR, h]
theorem w_ne {r : Bool} (n : insC M x = none) (h : eqR M x y = some r) : wpCmp T C .ne x y M Q = Q (.bl !r) M := by simp [wpCmp, isEq, n, cmpR, h]
theorem w_eqi : wpCmp T C .eq (.int i) (.int j) M Q = Q (.bl (decide (i = j))) M := w_eq rfl q_int
theorem w_nei : wpCmp T C .ne (.int i) (.int j) M Q = Q (.bl !decide (i = j)) M := w_ne rfl q_int
theorem w_neb : wpCmp T C .ne (.bl b) (.bl c) M Q = Q (.bl !decide (b = c)) M := w_ne rfl q_bl
theorem w_eqb : wpCmp T C .eq (.bl b) (.bl c) M Q = Q (.bl (decide (b = c))) M := w_eq rfl q_bl
theorem ins_lst (h : M a = some (.lst xs)) : insC M (.ref a) = none := by simp [insC, h]
theorem ins_of {v : PV} (h : lstOf M v = some xs) : insC M v = none := by
  unfold lstOf at h
  split at h
  · split at h
    · rename_i q
      simp [insC, q]
    · cases h
  · rfl
  · cases h
theorem k_in {kvs : List (PV × PV)} (h : M a = some (.dct kvs)) (f : keyFit kvs x = true) : cmpR M .in_ x (.ref a) = some (dget kvs x).isSome := by simp [cmpR, h, f]
theorem k_nin {kvs : List (PV × PV)} (h : M a = some (.dct kvs)) (f : keyFit kvs x = true) : cmpR M .nin x (.ref a) = some !(dget kvs x).isSome := by simp [cmpR, h, f]
theorem i_dct {kvs : List (PV × PV)} (h : M a = some (.dct kvs)) (f : keyFit kvs x = true) : idxR M (.ref a) x = dget kvs x := by simp [idxR, seqOf, lstOf, h, f]
theorem p_lst {z : PV} (h : M a = some (.lst xs)) : setR M (.ref a) (.int i) z K = ((0 ≤ i ∧ i < xs.length) ∧ K (mup M a (.lst (xs.set i.toNat z)))) := by simp [setR, h]
theorem p_dct {kvs : List (PV × PV)} {z : PV} (h : M a = some (.dct kvs)) : setR M (.ref a) x z K = (keyFit kvs x = true ∧ kvs.length < sizeLine ∧ K (mup M a (.dct (dput kvs x z)))) := by simp [setR, h]
theorem u_app {z : PV} (h : M a = some (.lst xs)) : appR M .append (.ref a) [z] Q = (xs.length < sizeLine ∧ Q .non (mup M a (.lst (xs ++ [z])))) := by simp [appR, h]
theorem u_pop (h : M a = some (.lst xs)) {z : PV} (l : xs.getLast? = some z) : appR M .pop (.ref a) [] Q = Q z (mup M a (.lst xs.dropLast)) := by simp [appR, h, l]
theorem u_get {kvs : List (PV × PV)} {z : PV} (h : M a = some (.dct kvs)) : appR M .get (.ref a) [x, z] Q = (keyFit kvs x = true ∧ Q ((dget kvs x).getD z) M) := by simp [appR, h]
theorem o_app (h : M a = some (.lst xs)) : mthOn M .append (.ref a) = true := by simp [mthOn, h]
theorem o_pop (h : M a = some (.lst xs)) : mthOn M .pop (.ref a) = true := by simp [mthOn, h]
theorem o_get {kvs : List (PV × PV)} (h : M a = some (.dct kvs)) : mthOn M .get (.ref a) = true := by simp [mthOn, h]
theorem y_int : tyP M (.int i) = some (.bi "int") := nr rfl
theorem y_bl : tyP M (.bl b) = some (.bi "bool") := nr rfl
theorem y_tup : tyP M (.tup xs) = some (.bi "tuple") := nr rfl
theorem y_lst (h : M a = some (.lst xs)) : tyP M (.ref a) = some (.bi "list") := by simp [tyP, h]
theorem y_ins {c : Nat} {fs : List (Str × PV)} (h : M a = some (.ins c fs)) : tyP M (.ref a) = some (.cl c) := by simp [tyP, h]
theorem it_lst (h : M a = some (.lst xs)) : itemsOf M (.ref a) = some xs := by simp [itemsOf, h]
theorem it_tup : itemsOf M (.tup xs) = some xs := nr rfl
theorem it_dct {kvs : List (PV × PV)} (h : M a = some (.dct kvs)) : itemsOf M (.ref a) = some (kvs.map (·.1)) := by simp [itemsOf, h]
theorem it_of (h : lstOf M v = some xs) : itemsOf M v = some xs := by
  unfold lstOf at h
  split at h
  · split at h
    · rename_i q
      cases h
      simp [itemsOf, q]
    · cases h
  · cases h
    rfl
  · cases h
theorem g_rng (h : 0 ≤ j) (h2 : j < 2 ^ 62) : rngOf [.int j] = some ((List.range j.toNat).map fun n => .int (n : Int)) := by
  have : ∀ (n : Nat) (lo : Int), rngL lo n = (List.range n).map fun m => .int (lo + (m : Nat)) := fun n => by
    induction n with
    | zero => intro lo; rfl
    | succ n ih =>
      intro lo
      rw [rngL, ih, List.range_succ_eq_map, List.map_cons, List.map_map]
      congr 1
      · simp
      · refine List.map_congr_left fun m _ => ?_
        simp only [Function.comp]
        congr 1
        omega
  simp only [rngOf]
  rw [if_pos ⟨by omega, h2⟩, this]
  simp
theorem g_rngN {n : Nat} (h2 : n < 1000000) : rngOf [.int (n : Int)] = some ((List.range n).map fun n => .int (n : Int)) := by
  have := g_rng (j := n) (by omega) (by omega)
  rwa [Int.toNat_natCast] at this
theorem g_enum : ∀ (xs : List PV) (i : Nat), enumL (i : Int) xs = (xs.zipIdx i).map fun p => .tup [.int (p.2 : Int), p.1]
  | [], _ => rfl
  | x :: r, i => by
    rw [enumL, List.zipIdx_cons, List.map_cons]
    have := g_enum r (i + 1)
    rw [← this]
    rfl
theorem z_slc2 {p q r s : PV} : slcR M (.tup [p, q, r, s]) .non (.int 2) = some (.val (.tup [p, q])) := nr rfl
theorem z_ii : isi1 (.bi "int") .int = true := by decide
theorem z_bi : isi1 (.bi "bool") .int = true := by decide
theorem z_ib : isi1 (.bi "int") .bool = false := by decide
theorem z_ll : isi1 (.bi "list") .list = true := by decide
theorem z_lt : isi1 (.bi "list") .tuple = false := by decide
theorem z_tt : isi1 (.bi "tuple") .tuple = true := by decide
theorem z_tl : isi1 (.bi "tuple") .list = false := by decide
theorem z_cc {c : Nat} : isi1 (.cl c) (.cls c) = true := by simp [isi1]
theorem x_fld {c : Nat} {fs : List (Str × PV)} {f : Str} (h : M a = some (.ins c fs)) (l : fs.lookup f = some v) (tf : T.fld c f = true) : wpFld T C (.ref a) f M Q = Q v M := by
  unfold wpFld
  simp only [h, l]
  simp [tf]
theorem h_app : mup M a (.lst xs) a = some (.lst xs) := mup_same
end
end Ev
end

section
/-! Wt: stepping through statements, one by one. -/
namespace Ev
open PySem
/-! the weakest preconditions by names that are not unfolded by chance -/
@[irreducible] def zE : Tab → CT → E → St → MH → (PV → MH → Prop) → Prop := wpE
@[irreducible] def zEs : Tab → CT → Es → St → MH → (List PV → MH → Prop) → Prop := wpEs
@[irreducible] def zIfs : Tab → CT → Es → St → MH → (Bool → MH → Prop) → Prop := wpIfs
@[irreducible] def zI : Tab → CT → It → St → MH → (List PV → (MH → Prop) → MH → Prop) → Prop := wpI
@[irreducible] def zTg : Tab → CT → Tg → PV → St → MH → (St → MH → Prop) → Prop := wpTg
@[irreducible] def zTgs : Tab → CT → Tgs → List PV → St → MH → (St → MH → Prop) → Prop := wpTgs
@[irreducible] def zS : Tab → CT → S → Ends → St → MH → Prop := wpS
@[irreducible] def zSs : Tab → CT → Ss → Ends → St → MH → Prop := wpSs
theorem zE_eq : zE = wpE := by unfold zE; rfl
theorem zEs_eq : zEs = wpEs := by unfold zEs; rfl
theorem zIfs_eq : zIfs = wpIfs := by unfold zIfs; rfl
theorem zI_eq : zI = wpI := by unfold zI; rfl
theorem zTg_eq : zTg = wpTg := by unfold zTg; rfl
theorem zTgs_eq : zTgs = wpTgs := by unfold zTgs; rfl
theorem zS_eq : zS = wpS := by unfold zS; rfl
theorem zSs_eq : zSs = wpSs := by unfold zSs; rfl
section
variable {T : Tab} {C : CT} {M : MH} {Q : PV → MH → Prop} {D : Ends} {σ : St} {e a b c : E} {es zs : Es} {s : S} {r : Ss} {i : Nat} {tg : Tg} {it : It}
/-- a loop's body -/
def bdF (T : Tab) (C : CT) (t : Tg) (b : Ss) (D : Ends) (x : PV) (σ : St) (M : MH) (K : St → MH → Prop) : Prop := zTg T C t x σ M fun σ2 M3 => zSs T C b { D with nx := K, ct := K, bk := D.nx } σ2 M3
/-- a comprehension's body -/
def bdK (T : Tab) (C : CT) (elt : E) (tg : Tg) (ifs : Es) (own : List Nat) (σ : St) (p : Addr) (x : PV) (M : MH) (K : MH → Prop) : Prop := zTg T C tg x (wipe own σ) M fun σ2 M3 => zIfs T C ifs σ2 M3 fun b M4 =>
  if b = true then zE T C elt σ2 M4 fun y M5 => ∃ acc, M5 p = some (.lst acc) ∧ acc.length < sizeLine ∧ K (mup M5 p (.lst (acc ++ [y]))) else K M4
/-- a while's body -/
def bdW (T : Tab) (C : CT) (b : Ss) (D : Ends) (I : Nat → St → MH → Prop) (n : Nat) (σ : St) (M : MH) : Prop := ∀ K : St → MH → Prop, (∀ m σ' M', m < n → I m σ' M' → K σ' M') → zSs T C b { D with nx := K, ct := K, bk := D.nx } σ M
theorem bdF_eq {t : Tg} {b : Ss} : bdF T C t b D = fun x σ M K => wpTg T C t x σ M fun σ2 M3 => wpSs T C b { D with nx := K, ct := K, bk := D.nx } σ2 M3 := by
  funext x σ M K
  unfold bdF
  rw [zTg_eq, zSs_eq]
theorem bdK_eq {elt : E} {ifs : Es} {own : List Nat} {p : Addr} : bdK T C elt tg ifs own σ p = fun x M K => wpTg T C tg x (wipe own σ) M fun σ2 M3 => wpIfs T C ifs σ2 M3 fun b M4 => if b = true then wpE T C elt σ2 M4 fun y M5 => ∃ acc, M5 p = some (.lst acc) ∧ acc.length < sizeLine ∧ K (mup M5 p (.lst (acc ++ [y]))) else K M4 := by
  funext x M K
  unfold bdK
  rw [zTg_eq, zIfs_eq, zE_eq]
theorem bdW_eq {b : Ss} {I : Nat → St → MH → Prop} {n : Nat} : bdW T C b D I n σ M = ∀ K : St → MH → Prop, (∀ m σ' M', m < n → I m σ' M' → K σ' M') → wpSs T C b { D with nx := K, ct := K, bk := D.nx } σ M := by
  unfold bdW
  rw [zSs_eq]
theorem x_nil : zSs T C .nil D σ M = D.nx σ M := by simp only [zE_eq, zEs_eq, zIfs_eq, zI_eq, zTg_eq, zTgs_eq, zS_eq, zSs_eq, wpSs] <;> rfl
theorem x_cons : zSs T C (.cons s r) D σ M = zS T C s { D with nx := zSs T C r D } σ M := by simp only [zE_eq, zEs_eq, zIfs_eq, zI_eq, zTg_eq, zTgs_eq, zS_eq, zSs_eq, wpSs] <;> rfl
theorem s_exp : zS T C (.exp e) D σ M = zE T C e σ M fun _ M1 => D.nx σ M1 := by simp only [zE_eq, zEs_eq, zIfs_eq, zI_eq, zTg_eq, zTgs_eq, zS_eq, zSs_eq, wpS] <;> rfl
theorem s_asgn : zS T C (.asg tg e) D σ M = zE T C e σ M fun v M1 => zTg T C tg v σ M1 D.nx := by simp only [zE_eq, zEs_eq, zIfs_eq, zI_eq, zTg_eq, zTgs_eq, zS_eq, zSs_eq, wpS] <;> rfl
theorem s_par {is : List Nat} : zS T C (.par is es) D σ M = zEs T C es σ M fun vs M1 => vs.length = is.length ∧ D.nx (setAll is vs σ) M1 := by simp only [zE_eq, zEs_eq, zIfs_eq, zI_eq, zTg_eq, zTgs_eq, zS_eq, zSs_eq, wpS] <;> rfl
theorem sa_cons {n : Nat} {ns : List Nat} {v : PV} {vs : List PV} : setAll (n :: ns) (v :: vs) σ = setAll ns vs (σ.set n (some v)) := rfl
theorem sa_nil : setAll [] [] σ = σ := rfl
theorem s_par2 {m n : Nat} : zS T C (.par [m, n] (.cons a (.cons b .nil))) D σ M = zE T C a σ M fun x M1 => zE T C b σ M1 fun y M2 => D.nx ((σ.set m (some x)).set n (some y)) M2 := by
  have e : ∀ (x y : PV) (M2 : MH), ([x, y].length = [m, n].length ∧ D.nx (setAll [m, n] [x, y] σ) M2) = D.nx ((σ.set m (some x)).set n (some y)) M2 := fun x y M2 => propext ⟨fun h => h.2, fun h => ⟨by rw [List.length_cons, List.length_cons, List.length_cons, List.length_cons, List.length_nil, List.length_nil], h⟩⟩
  simp only [zE_eq, zEs_eq, zIfs_eq, zI_eq, zTg_eq, zTgs_eq, zS_eq, zSs_eq, wpS, wpEs, e]
theorem s_ret : zS T C (.ret e) D σ M = zE T C e σ M D.rt := by simp only [zE_eq, zEs_eq, zIfs_eq, zI_eq, zTg_eq, zTgs_eq, zS_eq, zSs_eq, wpS] <;> rfl
theorem s_retn : zS T C .retn D σ M = D.rt .non M := by simp only [zE_eq, zEs_eq, zIfs_eq, zI_eq, zTg_eq, zTgs_eq, zS_eq, zSs_eq, wpS] <;> rfl
theorem s_ifs {x y : Ss} : zS T C (.ifs e x y) D σ M = zE T C e σ M fun v M1 => match truthy M1 v with
    | some true => zSs T C x D σ M1
    | some false => zSs T C y D σ M1
    | none => False := by simp only [zE_eq, zEs_eq, zIfs_eq, zI_eq, zTg_eq, zTgs_eq, zS_eq, zSs_eq, wpS] <;> rfl
theorem s_pas : zS T C .pas D σ M = D.nx σ M := by simp only [zE_eq, zEs_eq, zIfs_eq, zI_eq, zTg_eq, zTgs_eq, zS_eq, zSs_eq, wpS] <;> rfl
theorem s_brk : zS T C .brk D σ M = D.bk σ M := by simp only [zE_eq, zEs_eq, zIfs_eq, zI_eq, zTg_eq, zTgs_eq, zS_eq, zSs_eq, wpS] <;> rfl
theorem s_cnt : zS T C .cnt D σ M = D.ct σ M := by simp only [zE_eq, zEs_eq, zIfs_eq, zI_eq, zTg_eq, zTgs_eq, zS_eq, zSs_eq, wpS] <;> rfl
theorem s_for : zS T C (.for_ tg it r) D σ M = zI T C it σ M fun xs g M1 => forL g D.nx (bdF T C tg r D) xs σ M1 := by simp only [zE_eq, zEs_eq, zIfs_eq, zI_eq, zTg_eq, zTgs_eq, zS_eq, zSs_eq, bdF_eq, wpS]
theorem whl_ind {t : E} {b : Ss} (hC : CMono C) (I : Nat → St → MH → Prop) (n : Nat) (h0 : I n σ M) (h : ∀ n σ M, I n σ M → zE T C t σ M fun x M1 => (truthy M1 x = some false ∧ D.nx σ M1) ∨ (truthy M1 x = some true ∧ bdW T C b D I n σ M1)) : zS T C (.whl t b) D σ M := by
  simp only [zS_eq, wpS]
  exact whN_ind I (fun σ M Q Q' hq hw => wpE_mono hC t σ M Q Q' hq hw) (fun n σ M hi => by
    have := h n σ M hi
    simp only [zE_eq, bdW_eq] at this
    exact this) h0
theorem e_var : zE T C (.var i) σ M Q = (match σ[i]? with
    | some (some v) => Q v M
    | _ => False) := by simp only [zE_eq, zEs_eq, zIfs_eq, zI_eq, zTg_eq, zTgs_eq, zS_eq, zSs_eq, wpE] <;> rfl
theorem e_int {n : Int} : zE T C (.int n) σ M Q = Q (.int n) M := by simp only [zE_eq, zEs_eq, zIfs_eq, zI_eq, zTg_eq, zTgs_eq, zS_eq, zSs_eq, wpE] <;> rfl
theorem e_bl {n : Bool} : zE T C (.bl n) σ M Q = Q (.bl n) M := by simp only [zE_eq, zEs_eq, zIfs_eq, zI_eq, zTg_eq, zTgs_eq, zS_eq, zSs_eq, wpE] <;> rfl
theorem e_non : zE T C .non σ M Q = Q .non M := by simp only [zE_eq, zEs_eq, zIfs_eq, zI_eq, zTg_eq, zTgs_eq, zS_eq, zSs_eq, wpE] <;> rfl
theorem e_str {n : Str} : zE T C (.str n) σ M Q = Q (.str n) M := by simp only [zE_eq, zEs_eq, zIfs_eq, zI_eq, zTg_eq, zTgs_eq, zS_eq, zSs_eq, wpE] <;> rfl
theorem e_gc : zE T C (.gc i) σ M Q = (match T.cs i with
    | some v => Q v M
    | none => False) := by simp only [zE_eq, zEs_eq, zIfs_eq, zI_eq, zTg_eq, zTgs_eq, zS_eq, zSs_eq, wpE] <;> rfl
theorem e_fn : zE T C (.fn i) σ M Q = Q (.fn i) M := by simp only [zE_eq, zEs_eq, zIfs_eq, zI_eq, zTg_eq, zTgs_eq, zS_eq, zSs_eq, wpE] <;> rfl
theorem e_bin {op : Bop} : zE T C (.bin op a b) σ M Q = zE T C a σ M fun x M1 => zE T C b σ M1 fun y M2 => res (binR M2 op x y) M2 Q := by simp only [zE_eq, zEs_eq, zIfs_eq, zI_eq, zTg_eq, zTgs_eq, zS_eq, zSs_eq, wpE] <;> rfl
theorem e_neg : zE T C (.neg a) σ M Q = zE T C a σ M fun x M1 => match x with
    | .int i => Q (.int (-i)) M1
    | _ => False := by simp only [zE_eq, zEs_eq, zIfs_eq, zI_eq, zTg_eq, zTgs_eq, zS_eq, zSs_eq, wpE] <;> rfl
theorem e_not : zE T C (.not a) σ M Q = zE T C a σ M fun x M1 => match truthy M1 x with
    | some b => Q (.bl !b) M1
    | none => False := by simp only [zE_eq, zEs_eq, zIfs_eq, zI_eq, zTg_eq, zTgs_eq, zS_eq, zSs_eq, wpE] <;> rfl
theorem e_and : zE T C (.and a b) σ M Q = zE T C a σ M fun x M1 => match truthy M1 x with
    | some true => zE T C b σ M1 Q
    | some false => Q x M1
    | none => False := by simp only [zE_eq, zEs_eq, zIfs_eq, zI_eq, zTg_eq, zTgs_eq, zS_eq, zSs_eq, wpE] <;> rfl
theorem e_or : zE T C (.or a b) σ M Q = zE T C a σ M fun x M1 => match truthy M1 x with
    | some true => Q x M1
    | some false => zE T C b σ M1 Q
    | none => False := by simp only [zE_eq, zEs_eq, zIfs_eq, zI_eq, zTg_eq, zTgs_eq, zS_eq, zSs_eq, wpE] <;> rfl
theorem e_ite : zE T C (.ite c a b) σ M Q = zE T C c σ M fun x M1 => match truthy M1 x with
    | some true => zE T C a σ M1 Q
    | some false => zE T C b σ M1 Q
    | none => False := by simp only [zE_eq, zEs_eq, zIfs_eq, zI_eq, zTg_eq, zTgs_eq, zS_eq, zSs_eq, wpE] <;> rfl
theorem e_cmp {op : Cop} : zE T C (.cmp op a b) σ M Q = zE T C a σ M fun x M1 => zE T C b σ M1 fun y M2 => wpCmp T C op x y M2 Q := by simp only [zE_eq, zEs_eq, zIfs_eq, zI_eq, zTg_eq, zTgs_eq, zS_eq, zSs_eq, wpE] <;> rfl
theorem e_chain {o1 o2 : Cop} : zE T C (.chain o1 o2 a b c) σ M Q = zE T C a σ M fun x M1 => zE T C b σ M1 fun y M2 => match cmpR M2 o1 x y with
    | some true => zE T C c σ M2 fun z M3 => match cmpR M3 o2 y z with
      | some k => Q (.bl k) M3
      | none => False
    | some false => Q (.bl false) M2
    | none => False := by simp only [zE_eq, zEs_eq, zIfs_eq, zI_eq, zTg_eq, zTgs_eq, zS_eq, zSs_eq, wpE] <;> rfl
theorem e_tup : zE T C (.tup es) σ M Q = zEs T C es σ M fun vs M1 => vs.length ≤ sizeLine ∧ Q (.tup vs) M1 := by simp only [zE_eq, zEs_eq, zIfs_eq, zI_eq, zTg_eq, zTgs_eq, zS_eq, zSs_eq, wpE] <;> rfl
theorem e_lst : zE T C (.lst es) σ M Q = zEs T C es σ M fun vs M1 => vs.length ≤ sizeLine ∧ ∀ p, M1 p = none → Q (.ref p) (mup M1 p (.lst vs)) := by simp only [zE_eq, zEs_eq, zIfs_eq, zI_eq, zTg_eq, zTgs_eq, zS_eq, zSs_eq, wpE] <;> rfl
theorem e_dct0 : zE T C (.dct .nil) σ M Q = ∀ p, M p = none → Q (.ref p) (mup M p (.dct [])) := by
  simp only [zE_eq, zEs_eq, zIfs_eq, zI_eq, zTg_eq, zTgs_eq, zS_eq, zSs_eq, wpE, wpEs, pairUp, mergeP, mup_same, mup_mup]
  simp
theorem e_dct1 : zE T C (.dct (.cons a (.cons b .nil))) σ M Q = ∀ p, M p = none → zE T C a σ (mup M p (.dct [])) fun x M1 => zE T C b σ M1 fun y M2 => M2 p = some (.dct []) ∧ (isTup x && keyOk x) = true ∧ Q (.ref p) (mup M2 p (.dct [(x, y)])) := by
  simp only [zE_eq, zEs_eq, zIfs_eq, zI_eq, zTg_eq, zTgs_eq, zS_eq, zSs_eq, wpE, wpEs, pairUp, mergeP, Option.map_some]
  simp [dput]
theorem e_idx : zE T C (.idx a b) σ M Q = zE T C a σ M fun x M1 => zE T C b σ M1 fun y M2 => match idxR M2 x y with
    | some v => Q v M2
    | none => False := by simp only [zE_eq, zEs_eq, zIfs_eq, zI_eq, zTg_eq, zTgs_eq, zS_eq, zSs_eq, wpE] <;> rfl
theorem e_slc : zE T C (.slc a b c) σ M Q = zE T C a σ M fun x M1 => zE T C b σ M1 fun y M2 => isPt y = true ∧ zE T C c σ M2 fun z M3 => res (slcR M3 x y z) M3 Q := by simp only [zE_eq, zEs_eq, zIfs_eq, zI_eq, zTg_eq, zTgs_eq, zS_eq, zSs_eq, wpE] <;> rfl
theorem e_rev : zE T C (.rev a) σ M Q = zE T C a σ M fun x M1 => res (revR M1 x) M1 Q := by simp only [zE_eq, zEs_eq, zIfs_eq, zI_eq, zTg_eq, zTgs_eq, zS_eq, zSs_eq, wpE] <;> rfl
theorem e_fld {f : Str} : zE T C (.fld a f) σ M Q = zE T C a σ M fun x M1 => wpFld T C x f M1 Q := by simp only [zE_eq, zEs_eq, zIfs_eq, zI_eq, zTg_eq, zTgs_eq, zS_eq, zSs_eq, wpE] <;> rfl
theorem e_call : zE T C (.call i es) σ M Q = zEs T C es σ M fun vs M1 => C i vs M1 Q := by simp only [zE_eq, zEs_eq, zIfs_eq, zI_eq, zTg_eq, zTgs_eq, zS_eq, zSs_eq, wpE] <;> rfl
theorem e_calk {p : List Nat} : zE T C (.calk i es zs p) σ M Q = zEs T C es σ M fun vs M1 => zEs T C zs σ M1 fun ws M2 => C i (p.map fun i => (vs ++ ws).getD i .non) M2 Q := by simp only [zE_eq, zEs_eq, zIfs_eq, zI_eq, zTg_eq, zTgs_eq, zS_eq, zSs_eq, wpE] <;> rfl
theorem e_calv : zE T C (.calv i es) σ M Q = (match σ[i]? with
    | some (some (.fn f)) => zEs T C es σ M fun vs M1 => C f vs M1 Q
    | _ => False) := by simp only [zE_eq, zEs_eq, zIfs_eq, zI_eq, zTg_eq, zTgs_eq, zS_eq, zSs_eq, wpE] <;> rfl
theorem e_blt {bl : Blt} : zE T C (.blt bl es) σ M Q = zEs T C es σ M fun vs M1 => res (bltR M1 bl vs) M1 Q := by simp only [zE_eq, zEs_eq, zIfs_eq, zI_eq, zTg_eq, zTgs_eq, zS_eq, zSs_eq, wpE] <;> rfl
theorem e_mak : zE T C (.mak i es) σ M Q = zEs T C es σ M fun vs M1 => wpMak T C i vs M1 Q := by simp only [zE_eq, zEs_eq, zIfs_eq, zI_eq, zTg_eq, zTgs_eq, zS_eq, zSs_eq, wpE] <;> rfl
theorem e_mth {m : Mth} : zE T C (.mth m a es) σ M Q = zE T C a σ M fun x M1 => mthOn M1 m x = true ∧ zEs T C es σ M1 fun vs M2 => appR M2 m x vs Q := by simp only [zE_eq, zEs_eq, zIfs_eq, zI_eq, zTg_eq, zTgs_eq, zS_eq, zSs_eq, wpE] <;> rfl
theorem e_omt {m : Str} : zE T C (.omt a m es) σ M Q = zE T C a σ M fun x M1 => match metOf T M1 x m with
    | some g => zEs T C es σ M1 fun vs M2 => C g (x :: vs) M2 Q
    | none => False := by simp only [zE_eq, zEs_eq, zIfs_eq, zI_eq, zTg_eq, zTgs_eq, zS_eq, zSs_eq, wpE] <;> rfl
theorem e_isi {ts : List Ty1} : zE T C (.isi a ts) σ M Q = (isiOk T (.bi "") ts = true ∧ zE T C a σ M fun x M1 => match tyP M1 x with
    | some t => isiOk T t ts = true ∧ Q (.bl (ts.any (isi1 t))) M1
    | none => False) := by simp only [zE_eq, zEs_eq, zIfs_eq, zI_eq, zTg_eq, zTgs_eq, zS_eq, zSs_eq, wpE] <;> rfl
@[irreducible] def rngQ (x : PV) (M : MH) (Q : List PV → (MH → Prop) → MH → Prop) : Prop := match rngOf [x] with
  | some xs => Q xs (fun _ => True) M
  | none => False
@[irreducible] def rngQ2 (x y : PV) (M : MH) (Q : List PV → (MH → Prop) → MH → Prop) : Prop := match rngOf [x, y] with
  | some xs => Q xs (fun _ => True) M
  | none => False
section
variable {Q : List PV → (MH → Prop) → MH → Prop}
theorem y_of : zI T C (.of e) σ M Q = zE T C e σ M fun v M1 => match seqOf M1 v with
    | some xs => Q xs (stays M1 v) M1
    | none => False := by simp only [zE_eq, zEs_eq, zIfs_eq, zI_eq, zTg_eq, zTgs_eq, zS_eq, zSs_eq, wpI] <;> rfl
theorem y_enum : zI T C (.enum e) σ M Q = zE T C e σ M fun v M1 => match seqOf M1 v with
    | some xs => Q (enumL 0 xs) (stays M1 v) M1
    | none => False := by simp only [zE_eq, zEs_eq, zIfs_eq, zI_eq, zTg_eq, zTgs_eq, zS_eq, zSs_eq, wpI] <;> rfl
theorem y_zip : zI T C (.zip a b) σ M Q = zE T C a σ M fun v M1 => zE T C b σ M1 fun u M2 => match seqOf M2 v, seqOf M2 u with
    | some xs, some ys => Q (zipL xs ys) (fun M' => stays M2 v M' ∧ stays M2 u M') M2
    | _, _ => False := by simp only [zE_eq, zEs_eq, zIfs_eq, zI_eq, zTg_eq, zTgs_eq, zS_eq, zSs_eq, wpI] <;> rfl
theorem y_rng : zI T C (.range (.cons e .nil)) σ M Q = zE T C e σ M fun v M1 => rngQ v M1 Q := by
  unfold rngQ
  simp only [zE_eq, zEs_eq, zIfs_eq, zI_eq, zTg_eq, zTgs_eq, zS_eq, zSs_eq, wpI, wpEs] <;> rfl
theorem y_rng2 : zI T C (.range (.cons a (.cons b .nil))) σ M Q = zE T C a σ M fun v M1 => zE T C b σ M1 fun u M2 => rngQ2 v u M2 Q := by
  unfold rngQ2
  simp only [zE_eq, zEs_eq, zIfs_eq, zI_eq, zTg_eq, zTgs_eq, zS_eq, zSs_eq, wpI, wpEs] <;> rfl
theorem y_items : zI T C (.items e) σ M Q = zE T C e σ M fun v M1 => match dctOf M1 v with
    | some kvs => Q (kvs.map fun p => .tup [p.1, p.2]) (stays M1 v) M1
    | none => False := by simp only [zE_eq, zEs_eq, zIfs_eq, zI_eq, zTg_eq, zTgs_eq, zS_eq, zSs_eq, wpI] <;> rfl
theorem y_vals : zI T C (.vals e) σ M Q = zE T C e σ M fun v M1 => match dctOf M1 v with
    | some kvs => Q (kvs.map fun p => p.2) (stays M1 v) M1
    | none => False := by simp only [zE_eq, zEs_eq, zIfs_eq, zI_eq, zTg_eq, zTgs_eq, zS_eq, zSs_eq, wpI] <;> rfl
theorem rngQ_eq {x : PV} {xs : List PV} (e : rngOf [x] = some xs) : rngQ x M Q = Q xs (fun _ => True) M := by
  unfold rngQ
  rw [e]
theorem rngN {n : Nat} (h : n < 1000000) : rngQ (.int (n : Int)) M Q = Q ((List.range n).map fun (n : Nat) => PV.int (n : Int)) (fun _ => True) M := rngQ_eq (g_rngN h)
theorem rngI {i : Int} {n : Nat} (e : i = n) (h : n < 1000000) : rngQ (.int i) M Q = Q ((List.range n).map fun (n : Nat) => PV.int (n : Int)) (fun _ => True) M := by
  subst e
  exact rngN h
theorem rngQ2_eq {x y : PV} {xs : List PV} (e : rngOf [x, y] = some xs) : rngQ2 x y M Q = Q xs (fun _ => True) M := by
  unfold rngQ2
  rw [e]
end
theorem tg_nm {v : PV} {K : St → MH → Prop} : zTg T C (.nm i) v σ M K = K (σ.set i (some v)) M := by simp only [zE_eq, zEs_eq, zIfs_eq, zI_eq, zTg_eq, zTgs_eq, zS_eq, zSs_eq, wpTg]
theorem tg_tup {ts : Tgs} {xs : List PV} {K : St → MH → Prop} : zTg T C (.tup ts) (.tup xs) σ M K = (xs.length = ts.len ∧ zTgs T C ts xs σ M K) := by simp only [zE_eq, zEs_eq, zIfs_eq, zI_eq, zTg_eq, zTgs_eq, zS_eq, zSs_eq, wpTg]
theorem tg_idx {v : PV} {K : St → MH → Prop} : zTg T C (.idx a b) v σ M K = zE T C a σ M fun x M1 => zE T C b σ M1 fun y M2 => setR M2 x y v fun M3 => K σ M3 := by simp only [zE_eq, zEs_eq, zIfs_eq, zI_eq, zTg_eq, zTgs_eq, zS_eq, zSs_eq, wpTg]
theorem tg_fld {v : PV} {f : Str} {K : St → MH → Prop} : zTg T C (.fld a f) v σ M K = zE T C a σ M fun x M1 => match x with
    | .ref p => (match M1 p with
      | some (.ins c fs) => T.fld c f = true ∧ fs.length < 100 ∧ K σ (mup M1 p (.ins c (pput f v fs)))
      | _ => False)
    | _ => False := by simp only [zE_eq, zEs_eq, zIfs_eq, zI_eq, zTg_eq, zTgs_eq, zS_eq, zSs_eq, wpTg] <;> rfl
theorem tgs_nil {K : St → MH → Prop} : zTgs T C .nil [] σ M K = K σ M := by simp [zE_eq, zEs_eq, zIfs_eq, zI_eq, zTg_eq, zTgs_eq, zS_eq, zSs_eq, wpTgs]
theorem tgs_cons {ts : Tgs} {v : PV} {vs : List PV} {K : St → MH → Prop} : zTgs T C (.cons tg ts) (v :: vs) σ M K = zTg T C tg v σ M fun σ1 M1 => zTgs T C ts vs σ1 M1 K := by simp only [zE_eq, zEs_eq, zIfs_eq, zI_eq, zTg_eq, zTgs_eq, zS_eq, zSs_eq, wpTgs]
theorem es_nil {Q : List PV → MH → Prop} : zEs T C .nil σ M Q = Q [] M := by simp only [zE_eq, zEs_eq, zIfs_eq, zI_eq, zTg_eq, zTgs_eq, zS_eq, zSs_eq, wpEs]
theorem es_cons {Q : List PV → MH → Prop} : zEs T C (.cons e es) σ M Q = zE T C e σ M fun v M1 => zEs T C es σ M1 fun vs M2 => Q (v :: vs) M2 := by simp only [zE_eq, zEs_eq, zIfs_eq, zI_eq, zTg_eq, zTgs_eq, zS_eq, zSs_eq, wpEs]
theorem if_nil {Q : Bool → MH → Prop} : zIfs T C .nil σ M Q = Q true M := by simp only [zE_eq, zEs_eq, zIfs_eq, zI_eq, zTg_eq, zTgs_eq, zS_eq, zSs_eq, wpIfs]
theorem if_cons {Q : Bool → MH → Prop} : zIfs T C (.cons e es) σ M Q = zE T C e σ M fun x M1 => match truthy M1 x with
    | some true => zIfs T C es σ M1 Q
    | some false => Q false M1
    | none => False := by simp only [zE_eq, zEs_eq, zIfs_eq, zI_eq, zTg_eq, zTgs_eq, zS_eq, zSs_eq, wpIfs] <;> rfl
theorem e_cmpr {ifs : Es} {own : List Nat} : zE T C (.cmpr e tg it ifs own) σ M Q = zI T C it σ M fun xs g M1 => ∀ p, M1 p = none → cmpL g (fun M' => Q (.ref p) M') (bdK T C e tg ifs own σ p) xs (mup M1 p (.lst [])) := by
  simp only [zE_eq, zEs_eq, zIfs_eq, zI_eq, zTg_eq, zTgs_eq, zS_eq, zSs_eq, bdK_eq, wpE]
theorem cn_z {F : Nat → Option Fn} {k i : Nat} {fn : Fn} {vs : List PV} {M : MH} {Q : PV → MH → Prop} (h : F i = some fn) (hl : vs.length = fn.np) (w : zSs T (Cn T F k) fn.body { nx := fun _ M' => Q .non M', rt := Q } (vs.map some ++ List.replicate (fn.ns - fn.np) none) M) : Cn T F (k + 1) i vs M Q := cn_of h hl (by rw [zSs_eq] at w; exact w)
end
end Ev
end

section
/-! Wa: loops and comprehensions by plain functions; ways as values. -/
namespace Rv
open PySem Ev
theorem lstOf_ext {M M' : MH} (e : Ext M M') {v : PV} {xs : List PV} (h : lstOf M v = some xs) : lstOf M' v = some xs := by
  unfold lstOf at h ⊢
  split at h
  · split at h
    · rename_i hq
      rw [e _ _ hq]
      exact h
    · cases h
  · exact h
  · cases h
theorem seqOf_ext {M M' : MH} (e : Ext M M') {v : PV} {xs : List PV} (h : seqOf M v = some xs) : seqOf M' v = some xs := by
  unfold seqOf at h ⊢
  split at h
  · exact h
  · rename_i hn
    exact lstOf_ext e h
theorem seqOf_stays {M M' : MH} (e : Ext M M') {v : PV} {xs : List PV} (h : seqOf M v = some xs) : stays M v M' := by
  unfold stays
  split
  · rename_i a
    unfold seqOf lstOf at h
    dsimp only at h
    split at h
    · rename_i q
      rw [q, e _ _ q]
    · cases h
  · trivial
theorem seq_stays {M M0 M1 : MH} (e0 : Ext M M0) (e1 : Ext M M1) {v : PV} {xs : List PV} (h : seqOf M v = some xs) : stays M0 v M1 := by
  unfold stays
  split
  · rename_i a
    unfold seqOf lstOf at h
    dsimp only at h
    split at h
    · rename_i q
      rw [e0 _ _ q, e1 _ _ q]
    · cases h
  · trivial
/-- a comprehension, by a plain function -/
theorem cmpL_fm {α : Type} {g dn : MH → Prop} {step : PV → MH → (MH → Prop) → Prop} (as : List α) (enc : α → PV) {M : MH} {D : Addr} (f : α → Option PV) (hD : M D = none) (len : as.length ≤ sizeLine) (hg : ∀ M', Ext M M' → g M')
    (hs : ∀ a ∈ as, ∀ M1 (K : MH → Prop), Ext M M1 → (∀ y M5, f a = some y → Ext M1 M5 → ∃ acc, M5 D = some (.lst acc) ∧ acc.length < sizeLine ∧ K (mup M5 D (.lst (acc ++ [y])))) → (∀ M4, f a = none → Ext M1 M4 → K M4) → step (enc a) M1 K)
    (hd : ∀ M', Ext M M' → M' D = some (.lst (as.filterMap f)) → dn M') : cmpL g dn step (as.map enc) (mup M D (.lst [])) := by
  refine cmpL_ind (fun i M1 => Ext M M1 ∧ M1 D = some (.lst ((as.take i).filterMap f))) (fun i M1 _ h => hg _ h.1) (fun i x M1 K hx h hk => ?_) (fun M1 h => hd _ h.1 (by rw [List.length_map, List.take_length] at h; exact h.2)) ⟨Ext.new hD, by simp [mup_same]⟩
  rw [List.getElem?_map] at hx
  obtain ⟨a, ha, rfl⟩ := Option.map_eq_some_iff.mp hx
  have hi := (List.getElem?_eq_some_iff.mp ha).1
  have tk : as.take (i + 1) = as.take i ++ [a] := by rw [List.take_succ, ha]; rfl
  refine hs a (List.mem_of_getElem? ha) M1 K h.1 (fun y M5 hy e => ?_) fun M4 hy e => ?_
  · refine ⟨_, e _ _ h.2, ?_, hk _ ⟨(h.1.trans e).mup hD, ?_⟩⟩
    · have := List.length_filterMap_le f (as.take i)
      rw [List.length_take] at this
      omega
    · rw [mup_same, tk, List.filterMap_append]
      simp [hy]
  · refine hk _ ⟨h.1.trans e, ?_⟩
    rw [e _ _ h.2, tk, List.filterMap_append]
    simp [hy]
theorem cmpL_map {α : Type} {g dn : MH → Prop} {step : PV → MH → (MH → Prop) → Prop} (as : List α) (enc : α → PV) {M : MH} {D : Addr} (f : α → PV) (hD : M D = none) (len : as.length ≤ sizeLine) (hg : ∀ M', Ext M M' → g M')
    (hs : ∀ a ∈ as, ∀ M1 (K : MH → Prop), Ext M M1 → (∀ M5, Ext M1 M5 → ∃ acc, M5 D = some (.lst acc) ∧ acc.length < sizeLine ∧ K (mup M5 D (.lst (acc ++ [f a])))) → step (enc a) M1 K)
    (hd : ∀ M', Ext M M' → M' D = some (.lst (as.map f)) → dn M') : cmpL g dn step (as.map enc) (mup M D (.lst [])) :=
  cmpL_fm as enc (fun a => some (f a)) hD len hg (fun a ha M1 K e yes _ => hs a ha M1 K e fun M5 e5 => yes _ _ rfl e5) fun M' e h => hd M' e (by
    have : as.filterMap (fun a => some (f a)) = as.map f := by
      clear h hs len hd
      induction as with
      | nil => rfl
      | cons x l ih => simp
    rw [h, this])
theorem cmpL_filter {α : Type} {g dn : MH → Prop} {step : PV → MH → (MH → Prop) → Prop} (as : List α) (enc : α → PV) {M : MH} {D : Addr} (p : α → Bool) (f : α → PV) (hD : M D = none) (len : as.length ≤ sizeLine) (hg : ∀ M', Ext M M' → g M')
    (hs : ∀ a ∈ as, ∀ M1 (K : MH → Prop), Ext M M1 → (∀ M5, p a = true → Ext M1 M5 → ∃ acc, M5 D = some (.lst acc) ∧ acc.length < sizeLine ∧ K (mup M5 D (.lst (acc ++ [f a])))) → (∀ M4, p a = false → Ext M1 M4 → K M4) → step (enc a) M1 K)
    (hd : ∀ M', Ext M M' → M' D = some (.lst ((as.filter p).map f)) → dn M') : cmpL g dn step (as.map enc) (mup M D (.lst [])) :=
  cmpL_fm as enc (fun a => if p a = true then some (f a) else none) hD len hg (fun a ha M1 K e yes no => hs a ha M1 K e (fun M5 hp e5 => yes _ _ (if_pos hp) e5) fun M4 hp e4 => no _ (if_neg (by rw [hp]; decide)) e4) fun M' e h => hd M' e (by
    have : as.filterMap (fun a => if p a = true then some (f a) else none) = (as.filter p).map f := by
      clear h hs len hd
      induction as with
      | nil => rfl
      | cons x l ih =>
        rw [List.filterMap_cons, List.filter_cons, ih]
        cases p x <;> rfl
    rw [h, this])
/-- a loop, by a plain function -/
theorem forL_fold {S α : Type} {g : MH → Prop} {dn : Ev.St → MH → Prop} {step : PV → Ev.St → MH → (Ev.St → MH → Prop) → Prop} (enc : α → PV) (as : List α) (f : S → α → S) {s0 : S} (Rel : S → Ev.St → MH → Prop) (hg : ∀ s σ M, Rel s σ M → g M)
    (hs : ∀ s a σ M (K : Ev.St → MH → Prop) p q, as = p ++ a :: q → s = p.foldl f s0 → Rel s σ M → (∀ σ' M', Rel (f s a) σ' M' → K σ' M') → step (enc a) σ M K) (hd : ∀ σ M, Rel (as.foldl f s0) σ M → dn σ M) {σ : Ev.St} {M : MH} (h0 : Rel s0 σ M) : forL g dn step (as.map enc) σ M := by
  refine forL_ind (fun i σ M => Rel ((as.take i).foldl f s0) σ M) (fun i σ M _ h => hg _ _ _ h) (fun i x σ M K hx h hk => ?_) (fun σ M h => hd σ M (by rw [List.length_map, List.take_length] at h; exact h)) h0
  rw [List.getElem?_map] at hx
  obtain ⟨a, ha, rfl⟩ := Option.map_eq_some_iff.mp hx
  have hi := (List.getElem?_eq_some_iff.mp ha).1
  have tk : as.take (i + 1) = as.take i ++ [a] := by rw [List.take_succ, ha]; rfl
  refine hs _ a σ M K (as.take i) (as.drop (i + 1)) ?_ rfl h fun σ' M' h' => hk σ' M' ?_
  · have := (List.getElem?_eq_some_iff.mp ha).2
    rw [← this, ← List.drop_eq_getElem_cons hi, List.take_append_drop]
  · rw [tk, List.foldl_append]
    exact h'
/-! ways -/
def wL (w : Way) : List Int := [w.1, w.2.1, w.2.2.1, w.2.2.2]
def wp (w : Way) : PV := .tup [.int w.1, .int w.2.1, .int w.2.2.1, .int w.2.2.2]
theorem wp_eq (w : Way) : wp w = tupI (wL w) := rfl
theorem wL_inj {a b : Way} (h : wL a = wL b) : a = b := by
  obtain ⟨a1, a2, a3, a4⟩ := a
  obtain ⟨b1, b2, b3, b4⟩ := b
  simp only [wL, List.cons.injEq, Int.natCast_inj] at h
  obtain ⟨rfl, rfl, rfl, rfl, -⟩ := h
  rfl
theorem wp_inj {a b : Way} (h : wp a = wp b) : a = b := by
  obtain ⟨a1, a2, a3, a4⟩ := a
  obtain ⟨b1, b2, b3, b4⟩ := b
  simp only [wp, PV.tup.injEq, List.cons.injEq, PV.int.injEq, Int.natCast_inj] at h
  obtain ⟨rfl, rfl, rfl, rfl, -⟩ := h
  rfl
def ddp {α : Type} [DecidableEq α] : List α → List α
  | [] => []
  | x :: r => if x ∈ r then ddp r else x :: ddp r
theorem mem_inj {α β : Type} {f : α → β} (hf : ∀ a b, f a = f b → a = b) {x : α} {l : List α} : f x ∈ l.map f ↔ x ∈ l :=
  ⟨fun h => by obtain ⟨y, hy, e⟩ := List.mem_map.mp h; exact hf _ _ e ▸ hy, fun h => List.mem_map.mpr ⟨x, h, rfl⟩⟩
theorem dedup_map {α : Type} [DecidableEq α] (f : α → PV) (hf : ∀ a b, f a = f b → a = b) : ∀ l : List α, dedup (l.map f) = (ddp l).map f
  | [] => rfl
  | x :: r => by
    have : f x ∈ r.map f ↔ x ∈ r := mem_inj hf
    rw [List.map_cons, dedup, ddp, dedup_map f hf r]
    by_cases h : x ∈ r
    · rw [if_pos h, if_pos (this.mpr h)]
    · rw [if_neg h, if_neg fun z => h (this.mp z), List.map_cons]
theorem mem_ddp {α : Type} [DecidableEq α] {x : α} : ∀ {l : List α}, x ∈ ddp l ↔ x ∈ l
  | [] => by simp [ddp]
  | y :: r => by
    rw [ddp]
    split
    · rename_i h
      rw [mem_ddp, List.mem_cons]
      exact ⟨.inr, fun z => z.elim (fun e => e ▸ h) id⟩
    · rw [List.mem_cons, List.mem_cons, mem_ddp]
theorem nodup_ddp {α : Type} [DecidableEq α] : ∀ l : List α, (ddp l).Nodup
  | [] => by simp [ddp]
  | y :: r => by
    rw [ddp]
    split
    · exact nodup_ddp r
    · rename_i h
      exact List.nodup_cons.mpr ⟨fun z => h (mem_ddp.mp z), nodup_ddp r⟩
theorem ddp_self {α : Type} [DecidableEq α] : ∀ {l : List α}, l.Nodup → ddp l = l
  | [], _ => rfl
  | x :: r, h => by
    obtain ⟨h1, h2⟩ := List.nodup_cons.mp h
    rw [ddp, if_neg h1, ddp_self h2]
theorem ddp_len {α : Type} [DecidableEq α] (l : List α) : (ddp l).length ≤ l.length := nodup_len (nodup_ddp l) fun x hx => mem_ddp.mp hx
def wle (a b : Way) : Bool := decide (wL a ≤ wL b)
def sW (l : List Way) : List Way := l.mergeSort wle
theorem sortP_ways (l : List Way) : sortP (l.map wp) = (sW l).map wp := by
  have e : l.map wp = (l.map wL).map tupI := by rw [List.map_map]; rfl
  rw [e, sortP_tups]
  unfold sW
  have := List.map_mergeSort (r := wle) (s := fun a b => decide (a ≤ b)) (f := wL) (l := l) fun a _ b _ => rfl
  rw [← this, List.map_map]
  rfl
theorem sW_perm (l : List Way) : (sW l).Perm l := List.mergeSort_perm _ _
theorem mem_sW {x : Way} {l : List Way} : x ∈ sW l ↔ x ∈ l := (sW_perm l).mem_iff
theorem len_sW (l : List Way) : (sW l).length = l.length := (sW_perm l).length_eq
theorem wle_total (a b : Way) : (wle a b || wle b a) = true := by
  unfold wle
  simp only [Bool.or_eq_true, decide_eq_true_eq]
  exact List.le_total _ _
theorem wle_trans {a b c : Way} (h : wle a b = true) (k : wle b c = true) : wle a c = true := by
  unfold wle at *
  simp only [decide_eq_true_eq] at *
  exact List.le_trans h k
theorem wle_anti {a b : Way} (h : wle a b = true) (k : wle b a = true) : a = b := by
  unfold wle at *
  simp only [decide_eq_true_eq] at *
  exact wL_inj (List.le_antisymm h k)
theorem sW_pw (l : List Way) : (sW l).Pairwise (fun a b => wle a b = true) := by
  unfold sW
  exact List.pairwise_mergeSort (le := wle) (fun a b c h k => wle_trans h k) (fun a b => wle_total a b) l
theorem sW_eq {l m : List Way} (h : l.Perm m) : sW l = sW m := by
  have p : (sW l).Perm (sW m) := (sW_perm l).trans (h.trans (sW_perm m).symm)
  exact p.eq_of_pairwise (fun a b _ _ h k => wle_anti h k) (sW_pw l) (sW_pw m)
theorem sW_sW (l : List Way) : sW (sW l) = sW l := sW_eq (sW_perm l)
theorem ROk.sort {L R : Nat} {ws : List Way} (h : ROk L R ws) : ROk L R (sW ws) := h.perm (sW_perm ws).symm
/-! what the ways are to the language -/
theorem mapO_map {α β : Type} (f : α → PV) (g : PV → Option β) (h : α → β) (e : ∀ a, g (f a) = some (h a)) : ∀ l : List α, mapO g (l.map f) = some (l.map h)
  | [] => rfl
  | x :: r => by
    simp only [List.map_cons, mapO, e, mapO_map f g h e r]
theorem ways_tup (l : List Way) : mapO intTup (l.map wp) = some (l.map wL) := mapO_map wp intTup wL (fun w => rfl) l
theorem ways_fit (l : List Way) : tupsFit (l.map wp) = true := by
  unfold tupsFit
  rw [ways_tup]
  cases l with
  | nil => rfl
  | cons x r =>
    simp only [List.map_cons, List.all_eq_true, Bool.and_eq_true, decide_eq_true_eq]
    refine ⟨by simp [wL], fun z hz => ?_⟩
    obtain ⟨w, -, rfl⟩ : ∃ w, w ∈ x :: r ∧ wL w = z := List.mem_map.mp (by rw [List.map_cons]; exact hz)
    refine ⟨rfl, fun i hi => ?_⟩
    simp only [wL, List.mem_cons, List.not_mem_nil, or_false] at hi
    rcases hi with rfl | rfl | rfl | rfl <;> omega
theorem den_way (M : MH) (n : Nat) (w : Way) : den M (n + 2) (wp w) = some (.tuple [.int w.1, .int w.2.1, .int w.2.2.1, .int w.2.2.2]) := rfl
theorem ways_sortable (l : List Way) : sortable (l.map wp) = true := by
  unfold sortable
  have e : mapO toD (l.map wp) = some (l.map fun w => PyData.tuple [.int w.1, .int w.2.1, .int w.2.2.1, .int w.2.2.2]) := mapO_map wp toD _ (fun w => rfl) l
  rw [e]
  simp only [Bool.and_eq_true, List.all_eq_true, Bool.or_eq_true]
  refine ⟨fun d hd f hf => ?_, .inl fun d hd => ?_⟩
  · obtain ⟨w, -, rfl⟩ := List.mem_map.mp hd
    obtain ⟨v, -, rfl⟩ := List.mem_map.mp hf
    rfl
  · obtain ⟨w, -, rfl⟩ := List.mem_map.mp hd
    rfl
end Rv
end

section
/-! IrL: the defs in the small language, by names. -/
namespace Rv
open PySem
abbrev c_Reader : Nat := 0
abbrev g_MOST_LETTERS : Nat := 0
abbrev g_MOST_ROOMS : Nat := 1
abbrev g_MOST_WAYS : Nat := 2
abbrev g_WAY_PARTS : Nat := 3
abbrev g_MOST_BEGIN : Nat := 4
abbrev g_SLIP : Nat := 5
abbrev i_wall : Nat := 0
abbrev i_is_integer : Nat := 1
abbrev i_is_count : Nat := 2
abbrev i_is_list : Nat := 3
abbrev i_want_letters : Nat := 4
abbrev i_want_at_most : Nat := 5
abbrev i_is_way_of : Nat := 6
abbrev i_are_ways : Nat := 7
abbrev i_numbers_by : Nat := 8
abbrev i_want_reader : Nat := 9
abbrev i_want_two : Nat := 10
abbrev i_want_way : Nat := 11
abbrev i_reader_made : Nat := 12
abbrev i_is_single : Nat := 13
abbrev i_both_step : Nat := 14
abbrev i_steps_from : Nat := 15
abbrev i_joined_by : Nat := 16
abbrev i_both_made : Nat := 17
abbrev i_both_of : Nat := 18
abbrev i_are_letters : Nat := 19
abbrev i_is_row_of : Nat := 20
abbrev i_want_row : Nat := 21
abbrev i_rooms_by : Nat := 22
abbrev i_clean_rooms_by : Nat := 23
abbrev i_rooms_by_word : Nat := 24
abbrev i_clean_by_word : Nat := 25
abbrev i_rooms_at_rounds : Nat := 26
abbrev i_comes_home : Nat := 27
abbrev i_homes_of : Nat := 28
abbrev i_is_let_by : Nat := 29
abbrev i_lets_by : Nat := 30
abbrev i_law_pot : Nat := 31
abbrev i_law_draw : Nat := 32
abbrev i_law_pick : Nat := 33
abbrev i_law_ways : Nat := 34
abbrev i_law_by : Nat := 35
abbrev i_law_lets : Nat := 36
abbrev i_law_row : Nat := 37
abbrev i_law_joined : Nat := 38
abbrev i_law_led_both : Nat := 39
abbrev i_law_right : Nat := 40
abbrev i_law : Nat := 41
abbrev i_Reader___init__ : Nat := 42
abbrev i_Reader_letters : Nat := 43
abbrev i_Reader_rooms : Nat := 44
abbrev i_Reader_many : Nat := 45
abbrev i_Reader_ways : Nat := 46
abbrev i_Reader_way : Nat := 47
abbrev i_Reader_ways_by : Nat := 48
abbrev i_Reader___eq__ : Nat := 49
/-- _wall: k -/
def f_wall : Ev.Fn := ⟨1, 1, (.cons (.whl (.bl true) (.cons .pas .nil)) .nil)⟩
/-- is_integer: value -/
def f_is_integer : Ev.Fn := ⟨1, 1, (.cons (.ret (.and (.isi (.var 0) [.int]) (.not (.isi (.var 0) [.bool])))) .nil)⟩
/-- is_count: value -/
def f_is_count : Ev.Fn := ⟨1, 1, (.cons (.ret (.and (.call i_is_integer (.cons (.var 0) .nil)) (.cmp .ge (.var 0) (.int 0)))) .nil)⟩
/-- is_list: value -/
def f_is_list : Ev.Fn := ⟨1, 1, (.cons (.ret (.isi (.var 0) [.list, .tuple])) .nil)⟩
/-- want_letters: value -/
def f_want_letters : Ev.Fn := ⟨1, 1, (.cons (.ifs (.or (.not (.call i_is_count (.cons (.var 0) .nil))) (.not (.chain .le .le (.int 1) (.var 0) (.gc g_MOST_LETTERS)))) (.cons .rai .nil) .nil) (.cons (.ret (.var 0)) .nil))⟩
/-- want_at_most: what, limit, number -/
def f_want_at_most : Ev.Fn := ⟨3, 3, (.cons (.ifs (.cmp .gt (.var 2) (.var 1)) (.cons .rai .nil) .nil) .nil)⟩
/-- is_way_of: letters, rooms, value, .0, one -/
def f_is_way_of : Ev.Fn := ⟨3, 5, (.cons (.ifs (.or (.not (.isi (.var 2) [.tuple])) (.or (.cmp .ne (.blt .len (.cons (.var 2) .nil)) (.gc g_WAY_PARTS)) (.not (.blt .all (.cons (.cmpr (.call i_is_count (.cons (.var 4) .nil)) (.nm 4) (.of (.var 2)) .nil [3, 4]) .nil))))) (.cons (.ret (.bl false)) .nil) .nil) (.cons (.ret (.and (.cmp .lt (.idx (.var 2) (.int 0)) (.var 1)) (.and (.cmp .lt (.idx (.var 2) (.int 1)) (.var 0)) (.and (.cmp .lt (.idx (.var 2) (.int 2)) (.var 1)) (.cmp .lt (.idx (.var 2) (.int 3)) (.int 2)))))) .nil))⟩
/-- are_ways: letters, rooms, value, unlike, begins, .0, way -/
def f_are_ways : Ev.Fn := ⟨3, 7, (.cons (.ifs (.or (.not (.call i_is_list (.cons (.var 2) .nil))) (.not (.chain .le .le (.int 1) (.blt .len (.cons (.var 2) .nil)) (.gc g_MOST_WAYS)))) (.cons (.ret (.bl false)) .nil) .nil) (.cons (.ifs (.not (.blt .all (.cons (.cmpr (.call i_is_way_of (.cons (.var 0) (.cons (.var 1) (.cons (.var 6) .nil)))) (.nm 6) (.of (.var 2)) .nil [5, 6]) .nil))) (.cons (.ret (.bl false)) .nil) .nil) (.cons (.asg (.nm 3) (.blt .set (.cons (.var 2) .nil))) (.cons (.asg (.nm 4) (.blt .set (.cons (.cmpr (.slc (.var 6) .non (.int 2)) (.nm 6) (.of (.var 2)) .nil [5, 6]) .nil))) (.cons (.ret (.and (.cmp .eq (.blt .len (.cons (.var 3) .nil)) (.blt .len (.cons (.var 2) .nil))) (.cmp .eq (.blt .len (.cons (.var 4) .nil)) (.bin .mul (.var 0) (.var 1))))) .nil)))))⟩
/-- numbers_by: ways, found, number, way -/
def f_numbers_by : Ev.Fn := ⟨1, 4, (.cons (.asg (.nm 1) (.dct .nil)) (.cons (.for_ (.tup (.cons (.nm 2) (.cons (.nm 3) .nil))) (.enum (.var 0)) (.cons (.asg (.idx (.var 1) (.slc (.var 3) .non (.int 2))) (.bin .add (.mth .get (.var 1) (.cons (.slc (.var 3) .non (.int 2)) (.cons (.tup .nil) .nil))) (.tup (.cons (.var 2) .nil)))) .nil)) (.cons (.ret (.var 1)) .nil)))⟩
/-- want_reader: value -/
def f_want_reader : Ev.Fn := ⟨1, 1, (.cons (.ifs (.not (.isi (.var 0) [.cls c_Reader])) (.cons .rai .nil) .nil) (.cons (.ret (.var 0)) .nil))⟩
/-- want_two: reader, other -/
def f_want_two : Ev.Fn := ⟨2, 2, (.cons (.exp (.call i_want_reader (.cons (.var 0) .nil))) (.cons (.exp (.call i_want_reader (.cons (.var 1) .nil))) (.cons (.ifs (.cmp .ne (.fld (.var 0) "own_letters") (.fld (.var 1) "own_letters")) (.cons .rai .nil) .nil) .nil)))⟩
/-- want_way: reader, value -/
def f_want_way : Ev.Fn := ⟨2, 2, (.cons (.ifs (.or (.not (.call i_is_count (.cons (.var 1) .nil))) (.cmp .ge (.var 1) (.blt .len (.cons (.fld (.var 0) "own_ways") .nil)))) (.cons .rai .nil) .nil) (.cons (.ret (.var 1)) .nil))⟩
/-- reader_made: letters, rooms, ways -/
def f_reader_made : Ev.Fn := ⟨3, 3, (.cons (.ret (.mak c_Reader (.cons (.var 0) (.cons (.var 1) (.cons (.blt .list (.cons (.var 2) .nil)) .nil))))) .nil)⟩
/-- is_single: reader -/
def f_is_single : Ev.Fn := ⟨1, 1, (.cons (.exp (.call i_want_reader (.cons (.var 0) .nil))) (.cons (.ret (.cmp .eq (.blt .len (.cons (.fld (.var 0) "own_ways") .nil)) (.bin .mul (.fld (.var 0) "own_letters") (.fld (.var 0) "own_rooms")))) .nil))⟩
/-- both_step: near, far, name -/
def f_both_step : Ev.Fn := ⟨3, 3, (.cons (.ret (.tup (.cons (.tup (.cons (.idx (.var 0) (.int 2)) (.cons (.idx (.var 1) (.int 2)) .nil))) (.cons (.blt .max (.cons (.idx (.var 0) (.int 3)) (.cons (.idx (.var 1) (.int 3)) .nil))) .nil)))) .nil)⟩
/-- steps_from: reader, other, name, letter, step, found, number, near, number_there -/
def f_steps_from : Ev.Fn := ⟨5, 9, (.cons (.asg (.nm 5) (.lst .nil)) (.cons (.for_ (.nm 6) (.of (.idx (.fld (.var 0) "own_by") (.tup (.cons (.idx (.var 2) (.int 0)) (.cons (.var 3) .nil))))) (.cons (.asg (.nm 7) (.idx (.fld (.var 0) "own_ways") (.var 6))) (.cons (.for_ (.nm 8) (.of (.idx (.fld (.var 1) "own_by") (.tup (.cons (.idx (.var 2) (.int 1)) (.cons (.var 3) .nil))))) (.cons (.exp (.mth .append (.var 5) (.cons (.calv 4 (.cons (.var 7) (.cons (.idx (.fld (.var 1) "own_ways") (.var 8)) (.cons (.var 2) .nil)))) .nil))) .nil)) .nil))) (.cons (.ret (.var 5)) .nil)))⟩
/-- joined_by: reader, other, first, step, names, places, ways, at, letter, late, slip -/
def f_joined_by : Ev.Fn := ⟨4, 11, (.cons (.asg (.tup (.cons (.nm 4) (.cons (.nm 5) (.cons (.nm 6) (.cons (.nm 7) .nil))))) (.tup (.cons (.lst (.cons (.var 2) .nil)) (.cons (.dct (.cons (.var 2) (.cons (.int 0) .nil))) (.cons (.dct .nil) (.cons (.int 0) .nil)))))) (.cons (.whl (.cmp .lt (.var 7) (.blt .len (.cons (.var 4) .nil))) (.cons (.for_ (.nm 8) (.range (.cons (.fld (.var 0) "own_letters") .nil)) (.cons (.for_ (.tup (.cons (.nm 9) (.cons (.nm 10) .nil))) (.of (.call i_steps_from (.cons (.var 0) (.cons (.var 1) (.cons (.idx (.var 4) (.var 7)) (.cons (.var 8) (.cons (.var 3) .nil))))))) (.cons (.ifs (.cmp .nin (.var 9) (.var 5)) (.cons (.asg (.idx (.var 5) (.var 9)) (.blt .len (.cons (.var 4) .nil))) (.cons (.exp (.mth .append (.var 4) (.cons (.var 9) .nil))) .nil)) .nil) (.cons (.asg (.idx (.var 6) (.tup (.cons (.var 7) (.cons (.var 8) (.cons (.idx (.var 5) (.var 9)) (.cons (.var 10) .nil)))))) (.bl true)) .nil))) .nil)) (.cons (.asg (.nm 7) (.bin .add (.var 7) (.int 1))) .nil))) (.cons (.exp (.call i_want_at_most (.cons (.str "rooms") (.cons (.gc g_MOST_ROOMS) (.cons (.blt .len (.cons (.var 4) .nil)) .nil))))) (.cons (.exp (.call i_want_at_most (.cons (.str "ways") (.cons (.gc g_MOST_WAYS) (.cons (.blt .len (.cons (.var 6) .nil)) .nil))))) (.cons (.ret (.call i_reader_made (.cons (.fld (.var 0) "own_letters") (.cons (.blt .len (.cons (.var 4) .nil)) (.cons (.blt .list (.cons (.var 6) .nil)) .nil))))) .nil)))))⟩
/-- both_made: reader, other -/
def f_both_made : Ev.Fn := ⟨2, 2, (.cons (.ret (.call i_joined_by (.cons (.var 0) (.cons (.var 1) (.cons (.tup (.cons (.int 0) (.cons (.int 0) .nil))) (.cons (.fn i_both_step) .nil)))))) .nil)⟩
/-- both_of: reader, other -/
def f_both_of : Ev.Fn := ⟨2, 2, (.cons (.exp (.call i_want_two (.cons (.var 0) (.cons (.var 1) .nil)))) (.cons (.ret (.call i_both_made (.cons (.var 0) (.cons (.var 1) .nil)))) .nil))⟩
/-- are_letters: letters, value, .0, one -/
def f_are_letters : Ev.Fn := ⟨2, 4, (.cons (.ifs (.or (.not (.isi (.var 1) [.tuple])) (.cmp .gt (.blt .len (.cons (.var 1) .nil)) (.gc g_MOST_BEGIN))) (.cons (.ret (.bl false)) .nil) .nil) (.cons (.ret (.blt .all (.cons (.cmpr (.and (.call i_is_count (.cons (.var 3) .nil)) (.cmp .lt (.var 3) (.var 0))) (.nm 3) (.of (.var 1)) .nil [2, 3]) .nil))) .nil))⟩
/-- is_row_of: letters, value -/
def f_is_row_of : Ev.Fn := ⟨2, 2, (.cons (.ifs (.or (.not (.isi (.var 1) [.tuple])) (.cmp .ne (.blt .len (.cons (.var 1) .nil)) (.int 2))) (.cons (.ret (.bl false)) .nil) .nil) (.cons (.ret (.and (.call i_are_letters (.cons (.var 0) (.cons (.idx (.var 1) (.int 0)) .nil))) (.and (.call i_are_letters (.cons (.var 0) (.cons (.idx (.var 1) (.int 1)) .nil))) (.cmp .ne (.idx (.var 1) (.int 1)) (.tup .nil))))) .nil))⟩
/-- want_row: letters, value -/
def f_want_row : Ev.Fn := ⟨2, 2, (.cons (.ifs (.not (.call i_is_row_of (.cons (.var 0) (.cons (.var 1) .nil)))) (.cons .rai .nil) .nil) (.cons (.ret (.var 1)) .nil))⟩
/-- rooms_by: reader, rooms, letter, found, room, number -/
def f_rooms_by : Ev.Fn := ⟨3, 6, (.cons (.asg (.nm 3) (.dct .nil)) (.cons (.for_ (.nm 4) (.of (.var 1)) (.cons (.for_ (.nm 5) (.of (.idx (.fld (.var 0) "own_by") (.tup (.cons (.var 4) (.cons (.var 2) .nil))))) (.cons (.asg (.idx (.var 3) (.idx (.idx (.fld (.var 0) "own_ways") (.var 5)) (.int 2))) (.bl true)) .nil)) .nil)) (.cons (.ret (.blt .sorted (.cons (.blt .list (.cons (.var 3) .nil)) .nil))) .nil)))⟩
/-- clean_rooms_by: reader, rooms, letter, found, room, number -/
def f_clean_rooms_by : Ev.Fn := ⟨3, 6, (.cons (.asg (.nm 3) (.dct .nil)) (.cons (.for_ (.nm 4) (.of (.var 1)) (.cons (.for_ (.nm 5) (.of (.idx (.fld (.var 0) "own_by") (.tup (.cons (.var 4) (.cons (.var 2) .nil))))) (.cons (.ifs (.cmp .ne (.idx (.idx (.fld (.var 0) "own_ways") (.var 5)) (.int 3)) (.gc g_SLIP)) (.cons (.asg (.idx (.var 3) (.idx (.idx (.fld (.var 0) "own_ways") (.var 5)) (.int 2))) (.bl true)) .nil) .nil) .nil)) .nil)) (.cons (.ret (.blt .sorted (.cons (.blt .list (.cons (.var 3) .nil)) .nil))) .nil)))⟩
/-- rooms_by_word: reader, rooms, word, found, letter -/
def f_rooms_by_word : Ev.Fn := ⟨3, 5, (.cons (.asg (.nm 3) (.blt .list (.cons (.var 1) .nil))) (.cons (.for_ (.nm 4) (.of (.var 2)) (.cons (.asg (.nm 3) (.call i_rooms_by (.cons (.var 0) (.cons (.var 3) (.cons (.var 4) .nil))))) .nil)) (.cons (.ret (.var 3)) .nil)))⟩
/-- clean_by_word: reader, rooms, word, found, letter -/
def f_clean_by_word : Ev.Fn := ⟨3, 5, (.cons (.asg (.nm 3) (.blt .list (.cons (.var 1) .nil))) (.cons (.for_ (.nm 4) (.of (.var 2)) (.cons (.asg (.nm 3) (.call i_clean_rooms_by (.cons (.var 0) (.cons (.var 3) (.cons (.var 4) .nil))))) .nil)) (.cons (.ret (.var 3)) .nil)))⟩
/-- rooms_at_rounds: reader, row, begin, again, found, late, .0, room -/
def f_rooms_at_rounds : Ev.Fn := ⟨2, 8, (.cons (.asg (.tup (.cons (.nm 2) (.cons (.nm 3) .nil))) (.var 1)) (.cons (.asg (.nm 4) (.call i_rooms_by_word (.cons (.var 0) (.cons (.lst (.cons (.int 0) .nil)) (.cons (.var 2) .nil))))) (.cons (.asg (.nm 5) (.var 4)) (.cons (.whl (.cmp .ne (.var 5) (.lst .nil)) (.cons (.asg (.nm 5) (.cmpr (.var 7) (.nm 7) (.of (.call i_rooms_by_word (.cons (.var 0) (.cons (.var 5) (.cons (.var 3) .nil))))) (.cons (.cmp .nin (.var 7) (.var 4)) .nil) [6, 7])) (.cons (.asg (.nm 4) (.blt .sorted (.cons (.bin .add (.var 4) (.var 5)) .nil))) .nil))) (.cons (.ret (.var 4)) .nil)))))⟩
/-- comes_home: nexts, room, found, late, later, one, other -/
def f_comes_home : Ev.Fn := ⟨2, 7, (.cons (.asg (.nm 2) (.blt .list (.cons (.idx (.var 0) (.var 1)) .nil))) (.cons (.asg (.nm 3) (.var 2)) (.cons (.whl (.and (.cmp .ne (.var 3) (.lst .nil)) (.cmp .nin (.var 1) (.var 2))) (.cons (.asg (.nm 4) (.dct .nil)) (.cons (.for_ (.nm 5) (.of (.var 3)) (.cons (.for_ (.nm 6) (.of (.idx (.var 0) (.var 5))) (.cons (.ifs (.cmp .nin (.var 6) (.var 2)) (.cons (.asg (.idx (.var 4) (.var 6)) (.bl true)) .nil) .nil) .nil)) .nil)) (.cons (.asg (.nm 3) (.blt .sorted (.cons (.blt .list (.cons (.var 4) .nil)) .nil))) (.cons (.asg (.nm 2) (.bin .add (.var 2) (.var 3))) .nil))))) (.cons (.ret (.cmp .in_ (.var 1) (.var 2))) .nil))))⟩
/-- homes_of: reader, row, nexts, room, .0 -/
def f_homes_of : Ev.Fn := ⟨2, 5, (.cons (.asg (.nm 2) (.dct .nil)) (.cons (.for_ (.nm 3) (.range (.cons (.fld (.var 0) "own_rooms") .nil)) (.cons (.asg (.idx (.var 2) (.var 3)) (.call i_clean_by_word (.cons (.var 0) (.cons (.lst (.cons (.var 3) .nil)) (.cons (.idx (.var 1) (.int 1)) .nil))))) .nil)) (.cons (.ret (.cmpr (.var 3) (.nm 3) (.of (.call i_rooms_at_rounds (.cons (.var 0) (.cons (.var 1) .nil)))) (.cons (.call i_comes_home (.cons (.var 2) (.cons (.var 3) .nil))) .nil) [4, 3])) .nil)))⟩
/-- is_let_by: reader, row -/
def f_is_let_by : Ev.Fn := ⟨2, 2, (.cons (.ret (.cmp .ne (.call i_homes_of (.cons (.var 0) (.cons (.var 1) .nil))) (.lst .nil))) .nil)⟩
/-- lets_by: reader, row, told -/
def f_lets_by : Ev.Fn := ⟨2, 3, (.cons (.asg (.nm 2) (.call i_want_reader (.cons (.var 0) .nil))) (.cons (.ret (.call i_is_let_by (.cons (.var 2) (.cons (.call i_want_row (.cons (.fld (.var 2) "own_letters") (.cons (.var 1) .nil))) .nil)))) .nil))⟩
/-- _law_pot: _law_script, _law_k, _law_cell -/
def f_law_pot : Ev.Fn := ⟨2, 3, (.cons (.asg (.nm 2) (.ite (.cmp .lt (.var 1) (.blt .len (.cons (.var 0) .nil))) (.blt .abs (.cons (.idx (.var 0) (.var 1)) .nil)) (.bin .add (.bin .mul (.int 1217) (.var 1)) (.int 971)))) (.cons (.ret (.lst (.cons (.blt .max (.cons (.int 0) (.cons (.bin .sub (.var 2) (.bin .pow (.int 10) (.int 18))) .nil))) (.cons (.bin .add (.bin .mod (.blt .int (.cons (.bin .add (.bin .add (.bin .mul (.bin .mod (.blt .int (.cons (.var 2) .nil)) (.int 2147483489)) (.int 41719)) (.bin .mul (.int 7321) (.var 1))) (.int 947)) .nil)) (.int 2147483543)) (.int 1)) .nil)))) .nil))⟩
/-- _law_draw: _law_pot_here, _law_size, _law_digit -/
def f_law_draw : Ev.Fn := ⟨2, 3, (.cons (.ifs (.cmp .gt (.idx (.var 0) (.int 0)) (.int 0)) (.cons (.asg (.tup (.cons (.idx (.var 0) (.int 0)) (.cons (.nm 2) .nil))) (.blt .divmod (.cons (.idx (.var 0) (.int 0)) (.cons (.var 1) .nil)))) (.cons (.ret (.var 2)) .nil)) .nil) (.cons (.asg (.idx (.var 0) (.int 1)) (.bin .mod (.blt .int (.cons (.bin .add (.bin .mul (.idx (.var 0) (.int 1)) (.int 41077)) (.int 31547)) .nil)) (.int 2147483543))) (.cons (.ret (.bin .mod (.blt .int (.cons (.bin .fdiv (.bin .mod (.blt .int (.cons (.bin .mul (.idx (.var 0) (.int 1)) (.idx (.var 0) (.int 1))) .nil)) (.int 2147483489)) (.int 23)) .nil)) (.var 1))) .nil)))⟩
/-- _law_pick: _law_pot_here, _law_some -/
def f_law_pick : Ev.Fn := ⟨2, 2, (.cons (.ret (.idx (.var 1) (.call i_law_draw (.cons (.var 0) (.cons (.blt .len (.cons (.var 1) .nil)) .nil))))) .nil)⟩
/-- _law_ways: _law_pot_here, _law_letters, _law_rooms, _law_choices, _law_found, _law_left, _law_room, _law_letter -/
def f_law_ways : Ev.Fn := ⟨4, 8, (.cons (.par [4, 5] (.cons (.lst .nil) (.cons (.var 3) .nil))) (.cons (.for_ (.nm 6) (.range (.cons (.var 2) .nil)) (.cons (.for_ (.nm 7) (.range (.cons (.var 1) .nil)) (.cons (.exp (.mth .append (.var 4) (.cons (.tup (.cons (.var 6) (.cons (.var 7) (.cons (.call i_law_draw (.cons (.var 0) (.cons (.var 2) .nil))) (.cons (.call i_law_draw (.cons (.var 0) (.cons (.int 2) .nil))) .nil))))) .nil))) (.cons (.ifs (.and (.cmp .eq (.call i_law_draw (.cons (.var 0) (.cons (.int 2) .nil))) (.int 0)) (.cmp .gt (.var 5) (.int 0))) (.cons (.asg (.nm 5) (.bin .sub (.var 5) (.int 1))) (.cons (.exp (.mth .append (.var 4) (.cons (.tup (.cons (.var 6) (.cons (.var 7) (.cons (.call i_law_draw (.cons (.var 0) (.cons (.var 2) .nil))) (.cons (.call i_law_draw (.cons (.var 0) (.cons (.int 2) .nil))) .nil))))) .nil))) .nil)) .nil) .nil))) .nil)) (.cons (.ret (.blt .sorted (.cons (.blt .set (.cons (.var 4) .nil)) .nil))) .nil)))⟩
/-- _law_by: _law_ways_here, _law_room, _law_letter, .0, _law_way -/
def f_law_by : Ev.Fn := ⟨3, 5, (.cons (.ret (.cmpr (.var 4) (.nm 4) (.of (.var 0)) (.cons (.and (.cmp .eq (.idx (.var 4) (.int 0)) (.var 1)) (.cmp .eq (.idx (.var 4) (.int 1)) (.var 2))) .nil) [3, 4])) .nil)⟩
/-- _law_lets: _law_ways_here, _law_row_here, _law_begin, _law_again, _law_rooms, _law_letter, _law_way, _law_room, _law_found, _law_done, _law_place, _law_late, _law_left, _law_many, _law_kept, _law_clean, .0 -/
def f_law_lets : Ev.Fn := ⟨2, 17, (.cons (.asg (.tup (.cons (.nm 2) (.cons (.nm 3) .nil))) (.var 1)) (.cons (.asg (.nm 4) (.lst (.cons (.int 0) .nil))) (.cons (.for_ (.nm 5) (.of (.var 2)) (.cons (.asg (.nm 4) (.blt .sorted (.cons (.blt .set (.cons (.cmpr (.idx (.var 6) (.int 2)) (.nm 6) (.of (.var 0)) (.cons (.and (.cmp .in_ (.idx (.var 6) (.int 0)) (.var 4)) (.cmp .eq (.idx (.var 6) (.int 1)) (.var 5))) .nil) [16, 6]) .nil)) .nil))) .nil)) (.cons (.asg (.nm 8) (.cmpr (.tup (.cons (.int 0) (.cons (.var 7) .nil))) (.nm 7) (.of (.var 4)) .nil [16, 7])) (.cons (.asg (.nm 9) (.int 0)) (.cons (.whl (.cmp .lt (.var 9) (.blt .len (.cons (.var 8) .nil))) (.cons (.asg (.tup (.cons (.nm 10) (.cons (.nm 7) .nil))) (.idx (.var 8) (.var 9))) (.cons (.for_ (.nm 6) (.of (.call i_law_by (.cons (.var 0) (.cons (.var 7) (.cons (.idx (.var 3) (.var 10)) .nil))))) (.cons (.asg (.nm 11) (.tup (.cons (.bin .mod (.bin .add (.var 10) (.int 1)) (.blt .len (.cons (.var 3) .nil))) (.cons (.idx (.var 6) (.int 2)) .nil)))) (.cons (.ifs (.cmp .nin (.var 11) (.var 8)) (.cons (.exp (.mth .append (.var 8) (.cons (.var 11) .nil))) .nil) .nil) .nil))) (.cons (.asg (.nm 9) (.bin .add (.var 9) (.int 1))) .nil)))) (.cons (.asg (.tup (.cons (.nm 12) (.cons (.nm 13) .nil))) (.tup (.cons (.var 8) (.cons (.bin .add (.blt .len (.cons (.var 8) .nil)) (.int 1)) .nil)))) (.cons (.whl (.cmp .lt (.blt .len (.cons (.var 12) .nil)) (.var 13)) (.cons (.par [13, 14] (.cons (.blt .len (.cons (.var 12) .nil)) (.cons (.lst .nil) .nil))) (.cons (.for_ (.tup (.cons (.nm 10) (.cons (.nm 7) .nil))) (.of (.var 12)) (.cons (.asg (.nm 15) (.cmpr (.var 6) (.nm 6) (.of (.call i_law_by (.cons (.var 0) (.cons (.var 7) (.cons (.idx (.var 3) (.var 10)) .nil))))) (.cons (.cmp .eq (.idx (.var 6) (.int 3)) (.int 0)) .nil) [16, 6])) (.cons (.ifs (.cmp .ne (.cmpr (.int 1) (.nm 6) (.of (.var 15)) (.cons (.cmp .in_ (.tup (.cons (.bin .mod (.bin .add (.var 10) (.int 1)) (.blt .len (.cons (.var 3) .nil))) (.cons (.idx (.var 6) (.int 2)) .nil))) (.var 12)) .nil) [16, 6]) (.lst .nil)) (.cons (.exp (.mth .append (.var 14) (.cons (.tup (.cons (.var 10) (.cons (.var 7) .nil))) .nil))) .nil) .nil) .nil))) (.cons (.asg (.nm 12) (.var 14)) .nil)))) (.cons (.ret (.cmp .ne (.var 12) (.lst .nil))) .nil)))))))))⟩
/-- _law_row: _law_pot_here, _law_letters, _law_begin, _law_again, _law_turn -/
def f_law_row : Ev.Fn := ⟨2, 5, (.cons (.par [2, 3] (.cons (.lst .nil) (.cons (.lst (.cons (.call i_law_draw (.cons (.var 0) (.cons (.var 1) .nil))) .nil)) .nil))) (.cons (.for_ (.nm 4) (.range (.cons (.call i_law_draw (.cons (.var 0) (.cons (.int 3) .nil))) .nil)) (.cons (.exp (.mth .append (.var 2) (.cons (.call i_law_draw (.cons (.var 0) (.cons (.var 1) .nil))) .nil))) .nil)) (.cons (.for_ (.nm 4) (.range (.cons (.call i_law_draw (.cons (.var 0) (.cons (.int 3) .nil))) .nil)) (.cons (.exp (.mth .append (.var 3) (.cons (.call i_law_draw (.cons (.var 0) (.cons (.var 1) .nil))) .nil))) .nil)) (.cons (.ret (.tup (.cons (.blt .tuple (.cons (.var 2) .nil)) (.cons (.blt .tuple (.cons (.var 3) .nil)) .nil)))) .nil))))⟩
/-- _law_joined: _law_near, _law_far, _law_letters, _law_begin, _law_led, _law_rooms, _law_places, _law_found, _law_done, _law_letter, _law_one, _law_other, _law_late, _law_slip -/
def f_law_joined : Ev.Fn := ⟨5, 14, (.cons (.asg (.tup (.cons (.nm 5) (.cons (.nm 6) (.cons (.nm 7) (.cons (.nm 8) .nil))))) (.tup (.cons (.lst (.cons (.var 3) .nil)) (.cons (.dct (.cons (.var 3) (.cons (.int 0) .nil))) (.cons (.lst .nil) (.cons (.int 0) .nil)))))) (.cons (.whl (.cmp .lt (.var 8) (.blt .len (.cons (.var 5) .nil))) (.cons (.for_ (.nm 9) (.range (.cons (.var 2) .nil)) (.cons (.for_ (.nm 10) (.of (.call i_law_by (.cons (.var 0) (.cons (.idx (.idx (.var 5) (.var 8)) (.int 0)) (.cons (.var 9) .nil))))) (.cons (.for_ (.nm 11) (.of (.call i_law_by (.cons (.var 1) (.cons (.idx (.idx (.var 5) (.var 8)) (.int 1)) (.cons (.var 9) .nil))))) (.cons (.asg (.tup (.cons (.nm 12) (.cons (.nm 13) .nil))) (.calv 4 (.cons (.idx (.var 5) (.var 8)) (.cons (.var 10) (.cons (.var 11) .nil))))) (.cons (.ifs (.cmp .nin (.var 12) (.var 6)) (.cons (.asg (.idx (.var 6) (.var 12)) (.blt .len (.cons (.var 5) .nil))) (.cons (.exp (.mth .append (.var 5) (.cons (.var 12) .nil))) .nil)) .nil) (.cons (.exp (.mth .append (.var 7) (.cons (.tup (.cons (.var 8) (.cons (.var 9) (.cons (.idx (.var 6) (.var 12)) (.cons (.var 13) .nil))))) .nil))) .nil)))) .nil)) .nil)) (.cons (.asg (.nm 8) (.bin .add (.var 8) (.int 1))) .nil))) (.cons (.ret (.tup (.cons (.blt .len (.cons (.var 5) .nil)) (.cons (.blt .sorted (.cons (.blt .set (.cons (.var 7) .nil)) .nil)) .nil)))) .nil)))⟩
/-- _law_led_both: _law_standing, _law_one, _law_other -/
def f_law_led_both : Ev.Fn := ⟨3, 3, (.cons (.ret (.tup (.cons (.tup (.cons (.idx (.var 1) (.int 2)) (.cons (.idx (.var 2) (.int 2)) .nil))) (.cons (.blt .max (.cons (.idx (.var 1) (.int 3)) (.cons (.idx (.var 2) (.int 3)) .nil))) .nil)))) .nil)⟩
/-- _law_right: _law_pot_here, _law_letters, _law_near, _law_far, _law_rooms, _law_due, _law_reader, _law_other, _law_told, _law_swapped, _law_turn, _law_row_here, _law_is_let, _law_is_bare -/
def f_law_right : Ev.Fn := ⟨4, 14, (.cons (.asg (.tup (.cons (.nm 4) (.cons (.nm 5) .nil))) (.call i_law_joined (.cons (.idx (.var 2) (.int 1)) (.cons (.idx (.var 3) (.int 1)) (.cons (.var 1) (.cons (.tup (.cons (.int 0) (.cons (.int 0) .nil))) (.cons (.fn i_law_led_both) .nil))))))) (.cons (.par [6, 7] (.cons (.mak c_Reader (.cons (.var 1) (.cons (.idx (.var 2) (.int 0)) (.cons (.idx (.var 2) (.int 1)) .nil)))) (.cons (.mak c_Reader (.cons (.var 1) (.cons (.idx (.var 3) (.int 0)) (.cons (.idx (.var 3) (.int 1)) .nil)))) .nil))) (.cons (.asg (.nm 8) (.call i_both_of (.cons (.var 6) (.cons (.var 7) .nil)))) (.cons (.ifs (.or (.cmp .ne (.lst (.cons (.fld (.var 8) "letters") (.cons (.fld (.var 8) "rooms") (.cons (.omt (.var 8) "ways" .nil) .nil)))) (.lst (.cons (.var 1) (.cons (.var 4) (.cons (.var 5) .nil))))) (.cmp .ne (.calk i_both_of .nil (.cons (.var 7) (.cons (.var 6) .nil)) [1, 0]) (.var 8))) (.cons (.ret (.bl false)) .nil) .nil) (.cons (.asg (.nm 9) (.call i_both_of (.cons (.var 7) (.cons (.var 6) .nil)))) (.cons (.for_ (.nm 10) (.range (.cons (.int 4) .nil)) (.cons (.asg (.nm 11) (.call i_law_row (.cons (.var 0) (.cons (.var 1) .nil)))) (.cons (.asg (.nm 12) (.and (.call i_law_lets (.cons (.idx (.var 2) (.int 1)) (.cons (.var 11) .nil))) (.call i_law_lets (.cons (.idx (.var 3) (.int 1)) (.cons (.var 11) .nil))))) (.cons (.ifs (.or (.cmp .ne (.call i_law_lets (.cons (.var 5) (.cons (.var 11) .nil))) (.var 12)) (.or (.cmp .ne (.call i_lets_by (.cons (.var 8) (.cons (.var 11) .nil))) (.var 12)) (.cmp .ne (.call i_lets_by (.cons (.var 9) (.cons (.var 11) .nil))) (.var 12)))) (.cons (.ret (.bl false)) .nil) .nil) .nil)))) (.cons (.asg (.nm 13) (.and (.call i_is_single (.cons (.var 6) .nil)) (.call i_is_single (.cons (.var 7) .nil)))) (.cons (.ret (.or (.call i_is_single (.cons (.var 8) .nil)) (.not (.var 13)))) .nil))))))))⟩
/-- law: _law_script, _law_pot_here, _law_letters, _law_some, _law_turn, _law_rooms, _law_ways_here, _law_own, _law_row_here -/
def f_law : Ev.Fn := ⟨1, 9, (.cons (.asg (.nm 1) (.call i_law_pot (.cons (.var 0) (.cons (.int 0) .nil)))) (.cons (.asg (.nm 2) (.bin .add (.int 1) (.call i_law_draw (.cons (.var 1) (.cons (.int 2) .nil))))) (.cons (.asg (.nm 3) (.lst .nil)) (.cons (.for_ (.nm 4) (.range (.cons (.int 2) .nil)) (.cons (.asg (.nm 5) (.bin .add (.int 1) (.call i_law_draw (.cons (.var 1) (.cons (.int 2) .nil))))) (.cons (.exp (.mth .append (.var 3) (.cons (.tup (.cons (.var 5) (.cons (.call i_law_ways (.cons (.var 1) (.cons (.var 2) (.cons (.var 5) (.cons (.call i_law_pick (.cons (.var 1) (.cons (.lst (.cons (.int 0) (.cons (.int 1) (.cons (.int 2) .nil)))) .nil))) .nil))))) .nil))) .nil))) .nil))) (.cons (.ifs (.not (.call i_law_right (.cons (.var 1) (.cons (.var 2) (.cons (.idx (.var 3) (.int 0)) (.cons (.idx (.var 3) (.int 1)) .nil)))))) (.cons (.ret (.bl false)) .nil) .nil) (.cons (.asg (.tup (.cons (.nm 5) (.cons (.nm 6) .nil))) (.idx (.var 3) (.int 0))) (.cons (.asg (.nm 7) (.call i_both_of (.cons (.mak c_Reader (.cons (.var 2) (.cons (.var 5) (.cons (.var 6) .nil)))) (.cons (.mak c_Reader (.cons (.var 2) (.cons (.var 5) (.cons (.var 6) .nil)))) .nil)))) (.cons (.for_ (.nm 4) (.range (.cons (.int 3) .nil)) (.cons (.asg (.nm 8) (.call i_law_row (.cons (.var 1) (.cons (.var 2) .nil)))) (.cons (.ifs (.cmp .ne (.call i_lets_by (.cons (.var 7) (.cons (.var 8) .nil))) (.call i_law_lets (.cons (.var 6) (.cons (.var 8) .nil)))) (.cons (.ret (.bl false)) .nil) .nil) .nil))) (.cons (.ret (.bl true)) .nil)))))))))⟩
/-- Reader.__init__: self, letters, rooms, ways -/
def f_Reader___init__ : Ev.Fn := ⟨4, 4, (.cons (.exp (.call i_want_letters (.cons (.var 1) .nil))) (.cons (.ifs (.or (.not (.call i_is_count (.cons (.var 2) .nil))) (.not (.chain .le .le (.int 1) (.var 2) (.gc g_MOST_ROOMS)))) (.cons .rai .nil) .nil) (.cons (.ifs (.not (.call i_are_ways (.cons (.var 1) (.cons (.var 2) (.cons (.var 3) .nil))))) (.cons .rai .nil) .nil) (.cons (.asg (.fld (.var 0) "own_letters") (.var 1)) (.cons (.asg (.fld (.var 0) "own_rooms") (.var 2)) (.cons (.asg (.fld (.var 0) "own_ways") (.blt .tuple (.cons (.blt .sorted (.cons (.var 3) .nil)) .nil))) (.cons (.asg (.fld (.var 0) "own_by") (.call i_numbers_by (.cons (.fld (.var 0) "own_ways") .nil))) .nil)))))))⟩
/-- Reader.letters: self -/
def f_Reader_letters : Ev.Fn := ⟨1, 1, (.cons (.ret (.fld (.var 0) "own_letters")) .nil)⟩
/-- Reader.rooms: self -/
def f_Reader_rooms : Ev.Fn := ⟨1, 1, (.cons (.ret (.fld (.var 0) "own_rooms")) .nil)⟩
/-- Reader.many: self -/
def f_Reader_many : Ev.Fn := ⟨1, 1, (.cons (.ret (.blt .len (.cons (.fld (.var 0) "own_ways") .nil))) .nil)⟩
/-- Reader.ways: self -/
def f_Reader_ways : Ev.Fn := ⟨1, 1, (.cons (.ret (.blt .list (.cons (.fld (.var 0) "own_ways") .nil))) .nil)⟩
/-- Reader.way: self, number -/
def f_Reader_way : Ev.Fn := ⟨2, 2, (.cons (.exp (.call i_want_way (.cons (.var 0) (.cons (.var 1) .nil)))) (.cons (.ret (.idx (.fld (.var 0) "own_ways") (.var 1))) .nil))⟩
/-- Reader.ways_by: self, room, letter -/
def f_Reader_ways_by : Ev.Fn := ⟨3, 3, (.cons (.exp (.call i_wall (.cons (.int 0) .nil))) .nil)⟩
/-- Reader.__eq__: self, other, near -/
def f_Reader___eq__ : Ev.Fn := ⟨2, 3, (.cons (.ifs (.not (.isi (.var 1) [.cls c_Reader])) (.cons (.ret (.bl false)) .nil) .nil) (.cons (.asg (.nm 2) (.tup (.cons (.fld (.var 0) "own_letters") (.cons (.fld (.var 0) "own_rooms") (.cons (.fld (.var 0) "own_ways") .nil))))) (.cons (.ret (.cmp .eq (.var 2) (.tup (.cons (.fld (.var 1) "own_letters") (.cons (.fld (.var 1) "own_rooms") (.cons (.fld (.var 1) "own_ways") .nil)))))) .nil)))⟩
structure FOk (F : Nat → Option Ev.Fn) : Prop where
  h_wall : F i_wall = some f_wall
  h_is_integer : F i_is_integer = some f_is_integer
  h_is_count : F i_is_count = some f_is_count
  h_is_list : F i_is_list = some f_is_list
  h_want_letters : F i_want_letters = some f_want_letters
  h_want_at_most : F i_want_at_most = some f_want_at_most
  h_is_way_of : F i_is_way_of = some f_is_way_of
  h_are_ways : F i_are_ways = some f_are_ways
  h_numbers_by : F i_numbers_by = some f_numbers_by
  h_want_reader : F i_want_reader = some f_want_reader
  h_want_two : F i_want_two = some f_want_two
  h_want_way : F i_want_way = some f_want_way
  h_reader_made : F i_reader_made = some f_reader_made
  h_is_single : F i_is_single = some f_is_single
  h_both_step : F i_both_step = some f_both_step
  h_steps_from : F i_steps_from = some f_steps_from
  h_joined_by : F i_joined_by = some f_joined_by
  h_both_made : F i_both_made = some f_both_made
  h_both_of : F i_both_of = some f_both_of
  h_are_letters : F i_are_letters = some f_are_letters
  h_is_row_of : F i_is_row_of = some f_is_row_of
  h_want_row : F i_want_row = some f_want_row
  h_rooms_by : F i_rooms_by = some f_rooms_by
  h_clean_rooms_by : F i_clean_rooms_by = some f_clean_rooms_by
  h_rooms_by_word : F i_rooms_by_word = some f_rooms_by_word
  h_clean_by_word : F i_clean_by_word = some f_clean_by_word
  h_rooms_at_rounds : F i_rooms_at_rounds = some f_rooms_at_rounds
  h_comes_home : F i_comes_home = some f_comes_home
  h_homes_of : F i_homes_of = some f_homes_of
  h_is_let_by : F i_is_let_by = some f_is_let_by
  h_lets_by : F i_lets_by = some f_lets_by
  h_law_pot : F i_law_pot = some f_law_pot
  h_law_draw : F i_law_draw = some f_law_draw
  h_law_pick : F i_law_pick = some f_law_pick
  h_law_ways : F i_law_ways = some f_law_ways
  h_law_by : F i_law_by = some f_law_by
  h_law_lets : F i_law_lets = some f_law_lets
  h_law_row : F i_law_row = some f_law_row
  h_law_joined : F i_law_joined = some f_law_joined
  h_law_led_both : F i_law_led_both = some f_law_led_both
  h_law_right : F i_law_right = some f_law_right
  h_law : F i_law = some f_law
  h_Reader___init__ : F i_Reader___init__ = some f_Reader___init__
  h_Reader_letters : F i_Reader_letters = some f_Reader_letters
  h_Reader_rooms : F i_Reader_rooms = some f_Reader_rooms
  h_Reader_many : F i_Reader_many = some f_Reader_many
  h_Reader_ways : F i_Reader_ways = some f_Reader_ways
  h_Reader_way : F i_Reader_way = some f_Reader_way
  h_Reader_ways_by : F i_Reader_ways_by = some f_Reader_ways_by
  h_Reader___eq__ : F i_Reader___eq__ = some f_Reader___eq__
structure TOk (T : Ev.Tab) : Prop where
  g_MOST_LETTERS : T.cs g_MOST_LETTERS = some (.int 4)
  g_MOST_ROOMS : T.cs g_MOST_ROOMS = some (.int 12)
  g_MOST_WAYS : T.cs g_MOST_WAYS = some (.int 96)
  g_WAY_PARTS : T.cs g_WAY_PARTS = some (.int 4)
  g_MOST_BEGIN : T.cs g_MOST_BEGIN = some (.int 40)
  g_SLIP : T.cs g_SLIP = some (.int 1)
  init_Reader : T.init c_Reader = some i_Reader___init__
  fld_Reader_own_letters : T.fld c_Reader "own_letters" = true
  fld_Reader_own_rooms : T.fld c_Reader "own_rooms" = true
  fld_Reader_own_ways : T.fld c_Reader "own_ways" = true
  fld_Reader_own_by : T.fld c_Reader "own_by" = true
  eqm_Reader : T.eqm c_Reader = some i_Reader___eq__
  prop_Reader_letters : T.prop c_Reader "letters" = some i_Reader_letters
  prop_Reader_many : T.prop c_Reader "many" = some i_Reader_many
  prop_Reader_rooms : T.prop c_Reader "rooms" = some i_Reader_rooms
  meth_Reader_way : T.meth c_Reader "way" = some i_Reader_way
  meth_Reader_ways : T.meth c_Reader "ways" = some i_Reader_ways
  meth_Reader_ways_by : T.meth c_Reader "ways_by" = some i_Reader_ways_by
end Rv
end

section
/-! Wb: equality of values, the basics. -/
namespace Rv
open PySem Ev
/-- values told by plain ones -/
structure Enc {α : Type} (f : α → PV) (g : α → PyData) : Prop where
  den : ∀ M n a, den M (n + 4) (f a) = some (g a)
  eqv : ∀ a b, PyData.eqv (g a) (g b) = true ↔ a = b
section
variable {α : Type} {f : α → PV} {g : α → PyData}
theorem Enc.inj (h : Enc f g) (a b : α) (e : f a = f b) : a = b := by
  have h1 := h.den (fun _ => none) 0 a
  have h2 := h.den (fun _ => none) 0 b
  rw [e, h2] at h1
  have h3 : g b = g a := Option.some.inj h1
  exact (h.eqv a b).mp (by rw [h3]; exact (h.eqv a a).mpr rfl)
theorem Enc.dec [DecidableEq α] (h : Enc f g) (a b : α) : PyData.eqv (g a) (g b) = decide (a = b) := by
  rw [Bool.eq_iff_iff, h.eqv, decide_eq_true_eq]
theorem Enc.list (h : Enc f g) (M : MH) (n : Nat) (l : List α) : mapO (Ev.den M (n + 4)) (l.map f) = some (l.map g) := mapO_map f _ g (h.den M n) l
theorem Enc.alls [DecidableEq α] (h : Enc f g) : ∀ l m : List α, PyData.eqvAll (l.map g) (m.map g) = decide (l = m)
  | [], [] => rfl
  | [], _ :: _ => rfl
  | _ :: _, [] => rfl
  | x :: l, y :: m => by
    rw [List.map_cons, List.map_cons, PyData.eqvAll, h.alls l m, h.dec]
    rw [Bool.eq_iff_iff]
    simp
theorem Enc.eq [DecidableEq α] (h : Enc f g) {M : MH} {a b : α} : eqR M (f a) (f b) = some (decide (a = b)) := by
  unfold eqR dD
  rw [h.den M 8, h.den M 8]
  exact congrArg some (h.dec a b)
theorem Enc.any [DecidableEq α] (h : Enc f g) {a : α} {l : List α} : ((l.map g).any fun e => PyData.eqv e (g a)) = decide (a ∈ l) := by
  rw [List.any_map]
  induction l with
  | nil => rfl
  | cons x l ih =>
    rw [List.any_cons, ih]
    have : ((fun e => PyData.eqv e (g a)) ∘ g) x = decide (a = x) := by
      show PyData.eqv (g x) (g a) = _
      rw [h.dec, Bool.eq_iff_iff]
      simp [eq_comm]
    rw [this, Bool.eq_iff_iff]
    simp
theorem Enc.in_ [DecidableEq α] (h : Enc f g) {M : MH} {p : Addr} {a : α} {l : List α} (hp : M p = some (.lst (l.map f))) : cmpR M .in_ (f a) (.ref p) = some (decide (a ∈ l)) := by
  simp only [cmpR, hp, dD]
  rw [h.den M 8, h.list M 8]
  exact congrArg some h.any
theorem Enc.nin [DecidableEq α] (h : Enc f g) {M : MH} {p : Addr} {a : α} {l : List α} (hp : M p = some (.lst (l.map f))) : cmpR M .nin (f a) (.ref p) = some (decide (a ∉ l)) := by
  simp only [cmpR, hp, dD]
  rw [h.den M 8, h.list M 8]
  rw [Option.some.injEq, h.any]
  simp
theorem den_lst (h : Enc f g) {M : MH} {v : PV} {l : List α} (hv : lstOf M v = some (l.map f)) (n : Nat) : Ev.den M (n + 5) v = some (.list (l.map g)) := by
  unfold lstOf at hv
  split at hv
  · split at hv
    · rename_i q
      cases hv
      simp only [Ev.den, q]
      rw [h.list]
      rfl
    · cases hv
  · cases hv
    simp only [Ev.den]
    rw [h.list]
    rfl
  · cases hv
theorem Enc.eqL [DecidableEq α] (h : Enc f g) {M : MH} {v u : PV} {l m : List α} (hv : lstOf M v = some (l.map f)) (hu : lstOf M u = some (m.map f)) : eqR M v u = some (decide (l = m)) := by
  unfold eqR dD
  rw [den_lst h hv 7, den_lst h hu 7]
  simp only [PyData.eqv]
  rw [h.alls]
theorem Enc.eqT [DecidableEq α] (h : Enc f g) {M : MH} {l m : List α} : eqR M (.tup (l.map f)) (.tup (m.map f)) = some (decide (l = m)) := by
  unfold eqR dD
  simp only [Ev.den]
  rw [h.list M 7, h.list M 7]
  simp only [Option.map_some, PyData.eqv]
  rw [h.alls]
theorem Enc.emp (h : Enc f g) {M : MH} {v u : PV} {l : List α} (hv : lstOf M v = some (l.map f)) (hu : lstOf M u = some []) : eqR M v u = some (decide (l = [])) := by
  unfold eqR dD
  have e := den_lst h (l := []) hu 7
  rw [den_lst h hv 7, e]
  cases l <;> rfl
end
theorem enc_int : Enc PV.int PyData.int := ⟨fun _ _ _ => rfl, fun a b => by simp [PyData.eqv]⟩
def nI (n : Nat) : PV := .int n
theorem enc_nat : Enc nI (fun n => PyData.int n) := ⟨fun _ _ _ => rfl, fun a b => by simp [PyData.eqv, Int.natCast_inj]⟩
theorem enc_way : Enc wp (fun w => PyData.tuple [.int w.1, .int w.2.1, .int w.2.2.1, .int w.2.2.2]) := ⟨fun _ _ _ => rfl, fun a b => by
  obtain ⟨a1, a2, a3, a4⟩ := a
  obtain ⟨b1, b2, b3, b4⟩ := b
  simp only [PyData.eqv, PyData.eqvAll, Bool.and_eq_true, beq_iff_eq, Int.natCast_inj, Bool.and_true, Prod.mk.injEq]⟩
/-- two counts -/
def nP (x : Nat × Nat) : PV := .tup [.int x.1, .int x.2]
theorem enc_pair : Enc nP (fun x => PyData.tuple [.int x.1, .int x.2]) := ⟨fun _ _ _ => rfl, fun a b => by
  obtain ⟨a1, a2⟩ := a
  obtain ⟨b1, b2⟩ := b
  simp only [PyData.eqv, PyData.eqvAll, Bool.and_eq_true, beq_iff_eq, Int.natCast_inj, Bool.and_true, Prod.mk.injEq]⟩
theorem enc_bl : Enc PV.bl PyData.bool := ⟨fun _ _ _ => rfl, fun a b => by simp [PyData.eqv]⟩
theorem eq_int {M : MH} {a b : Int} : eqR M (.int a) (.int b) = some (decide (a = b)) := enc_int.eq
theorem eq_bl {M : MH} {a b : Bool} : eqR M (.bl a) (.bl b) = some (decide (a = b)) := enc_bl.eq
theorem len_lst {M : MH} {v : PV} {xs : List PV} (h : lstOf M v = some xs) : lenOf M v = some xs.length := by
  unfold lstOf at h
  split at h
  · split at h
    · rename_i q
      cases h
      simp [lenOf, q]
    · cases h
  · cases h
    rfl
  · cases h
theorem seq_lst {M : MH} {v : PV} {xs : List PV} (h : lstOf M v = some xs) : seqOf M v = some xs := by
  unfold seqOf
  split
  · cases h
  · exact h
theorem ty_lst {M : MH} {v : PV} {xs : List PV} (h : lstOf M v = some xs) : tyP M v = some (.bi "list") := by
  unfold lstOf at h
  split at h
  · split at h
    · rename_i q
      simp [tyP, q]
    · cases h
  · rfl
  · cases h
variable {T : Tab} {F : Nat → Option Fn} {k : Nat}
theorem w_is_integer (h : FOk F) {i : Int} {M : MH} {Q : PV → MH → Prop} (q : Q (.bl true) M) : Cn T F (k + 1) i_is_integer [.int i] M Q := by
  refine cn_of h.h_is_integer rfl ?_
  simp only [f_is_integer]
  simp [Ev.setAll, Ev.wpSs, Ev.wpS, Ev.wpE, Ev.wpEs, Ev.wpI, Ev.wpIfs, Ev.wpTg, Ev.wpTgs, Ev.t_bl, Ev.t_int, Ev.t_tup, Ev.t_non, Ev.t_fl, Ev.r_val, Ev.r_new, Ev.o_lst, Ev.o_set, Ev.s_tup, Ev.s_fl, Ev.s_ref, Ev.l_fl, Ev.i_tup, Ev.a_0, Ev.a_1, Ev.a_2, Ev.a_3, Ev.a_4, Ev.a_nat, Ev.b_len, Ev.b_abs, Ev.b_max, Ev.b_min, Ev.b_int, Ev.b_inb, Ev.n_tup, Ev.d_add, Ev.d_sub, Ev.c_lt, Ev.c_le, Ev.c_gt, Ev.c_ge, Ev.w_lt, Ev.w_le, Ev.w_gt, Ev.w_ge, Ev.w_eqi, Ev.w_nei, Ev.w_neb, Ev.w_eqb, Ev.y_int, Ev.y_bl, Ev.y_tup, Ev.it_tup, Ev.z_slc2, Ev.mup_same, Ev.mup_mup, Ev.isPt, Ev.z_ii, Ev.z_bi, Ev.z_ib, Ev.z_ll, Ev.z_lt, Ev.z_tt, Ev.z_tl, Ev.z_cc, Ev.isiOk, Ev.Tgs.len, Ev.wipe, q]
theorem w_is_count (h : FOk F) {i : Int} {M : MH} {Q : PV → MH → Prop} (q : Q (.bl (decide (0 ≤ i))) M) : Cn T F (k + 2) i_is_count [.int i] M Q := by
  refine cn_of h.h_is_count rfl ?_
  simp only [f_is_count]
  simp [Ev.setAll, Ev.wpSs, Ev.wpS, Ev.wpE, Ev.wpEs, Ev.wpI, Ev.wpIfs, Ev.wpTg, Ev.wpTgs, Ev.t_bl, Ev.t_int, Ev.t_tup, Ev.t_non, Ev.t_fl, Ev.r_val, Ev.r_new, Ev.o_lst, Ev.o_set, Ev.s_tup, Ev.s_fl, Ev.s_ref, Ev.l_fl, Ev.i_tup, Ev.a_0, Ev.a_1, Ev.a_2, Ev.a_3, Ev.a_4, Ev.a_nat, Ev.b_len, Ev.b_abs, Ev.b_max, Ev.b_min, Ev.b_int, Ev.b_inb, Ev.n_tup, Ev.d_add, Ev.d_sub, Ev.c_lt, Ev.c_le, Ev.c_gt, Ev.c_ge, Ev.w_lt, Ev.w_le, Ev.w_gt, Ev.w_ge, Ev.w_eqi, Ev.w_nei, Ev.w_neb, Ev.w_eqb, Ev.y_int, Ev.y_bl, Ev.y_tup, Ev.it_tup, Ev.z_slc2, Ev.mup_same, Ev.mup_mup, Ev.isPt, Ev.z_ii, Ev.z_bi, Ev.z_ib, Ev.z_ll, Ev.z_lt, Ev.z_tt, Ev.z_tl, Ev.z_cc, Ev.isiOk, Ev.Tgs.len, Ev.wipe]
  exact w_is_integer h (by simp [Ev.setAll, Ev.wpSs, Ev.wpS, Ev.wpE, Ev.wpEs, Ev.wpI, Ev.wpIfs, Ev.wpTg, Ev.wpTgs, Ev.t_bl, Ev.t_int, Ev.t_tup, Ev.t_non, Ev.t_fl, Ev.r_val, Ev.r_new, Ev.o_lst, Ev.o_set, Ev.s_tup, Ev.s_fl, Ev.s_ref, Ev.l_fl, Ev.i_tup, Ev.a_0, Ev.a_1, Ev.a_2, Ev.a_3, Ev.a_4, Ev.a_nat, Ev.b_len, Ev.b_abs, Ev.b_max, Ev.b_min, Ev.b_int, Ev.b_inb, Ev.n_tup, Ev.d_add, Ev.d_sub, Ev.c_lt, Ev.c_le, Ev.c_gt, Ev.c_ge, Ev.w_lt, Ev.w_le, Ev.w_gt, Ev.w_ge, Ev.w_eqi, Ev.w_nei, Ev.w_neb, Ev.w_eqb, Ev.y_int, Ev.y_bl, Ev.y_tup, Ev.it_tup, Ev.z_slc2, Ev.mup_same, Ev.mup_mup, Ev.isPt, Ev.z_ii, Ev.z_bi, Ev.z_ib, Ev.z_ll, Ev.z_lt, Ev.z_tt, Ev.z_tl, Ev.z_cc, Ev.isiOk, Ev.Tgs.len, Ev.wipe, q])
theorem w_is_list (h : FOk F) {v : PV} {xs : List PV} {M : MH} {Q : PV → MH → Prop} (hv : lstOf M v = some xs) (q : Q (.bl true) M) : Cn T F (k + 1) i_is_list [v] M Q := by
  refine cn_of h.h_is_list rfl ?_
  simp only [f_is_list]
  simp [Ev.setAll, Ev.wpSs, Ev.wpS, Ev.wpE, Ev.wpEs, Ev.wpI, Ev.wpIfs, Ev.wpTg, Ev.wpTgs, Ev.t_bl, Ev.t_int, Ev.t_tup, Ev.t_non, Ev.t_fl, Ev.r_val, Ev.r_new, Ev.o_lst, Ev.o_set, Ev.s_tup, Ev.s_fl, Ev.s_ref, Ev.l_fl, Ev.i_tup, Ev.a_0, Ev.a_1, Ev.a_2, Ev.a_3, Ev.a_4, Ev.a_nat, Ev.b_len, Ev.b_abs, Ev.b_max, Ev.b_min, Ev.b_int, Ev.b_inb, Ev.n_tup, Ev.d_add, Ev.d_sub, Ev.c_lt, Ev.c_le, Ev.c_gt, Ev.c_ge, Ev.w_lt, Ev.w_le, Ev.w_gt, Ev.w_ge, Ev.w_eqi, Ev.w_nei, Ev.w_neb, Ev.w_eqb, Ev.y_int, Ev.y_bl, Ev.y_tup, Ev.it_tup, Ev.z_slc2, Ev.mup_same, Ev.mup_mup, Ev.isPt, Ev.z_ii, Ev.z_bi, Ev.z_ib, Ev.z_ll, Ev.z_lt, Ev.z_tt, Ev.z_tl, Ev.z_cc, Ev.isiOk, Ev.Tgs.len, Ev.wipe, ty_lst hv, q]
theorem w_want_letters (h : FOk F) (t : TOk T) {L : Nat} {M : MH} {Q : PV → MH → Prop} (h1 : 0 < L) (h2 : L ≤ 4) (q : Q (.int L) M) : Cn T F (k + 3) i_want_letters [.int L] M Q := by
  refine cn_of h.h_want_letters rfl ?_
  simp only [f_want_letters]
  simp [Ev.setAll, Ev.wpSs, Ev.wpS, Ev.wpE, Ev.wpEs, Ev.wpI, Ev.wpIfs, Ev.wpTg, Ev.wpTgs, Ev.t_bl, Ev.t_int, Ev.t_tup, Ev.t_non, Ev.t_fl, Ev.r_val, Ev.r_new, Ev.o_lst, Ev.o_set, Ev.s_tup, Ev.s_fl, Ev.s_ref, Ev.l_fl, Ev.i_tup, Ev.a_0, Ev.a_1, Ev.a_2, Ev.a_3, Ev.a_4, Ev.a_nat, Ev.b_len, Ev.b_abs, Ev.b_max, Ev.b_min, Ev.b_int, Ev.b_inb, Ev.n_tup, Ev.d_add, Ev.d_sub, Ev.c_lt, Ev.c_le, Ev.c_gt, Ev.c_ge, Ev.w_lt, Ev.w_le, Ev.w_gt, Ev.w_ge, Ev.w_eqi, Ev.w_nei, Ev.w_neb, Ev.w_eqb, Ev.y_int, Ev.y_bl, Ev.y_tup, Ev.it_tup, Ev.z_slc2, Ev.mup_same, Ev.mup_mup, Ev.isPt, Ev.z_ii, Ev.z_bi, Ev.z_ib, Ev.z_ll, Ev.z_lt, Ev.z_tt, Ev.z_tl, Ev.z_cc, Ev.isiOk, Ev.Tgs.len, Ev.wipe]
  refine w_is_count h ?_
  have e1 : (1 : Int) ≤ L := by omega
  have e2 : (L : Int) ≤ 4 := by omega
  simp [Ev.setAll, Ev.wpSs, Ev.wpS, Ev.wpE, Ev.wpEs, Ev.wpI, Ev.wpIfs, Ev.wpTg, Ev.wpTgs, Ev.t_bl, Ev.t_int, Ev.t_tup, Ev.t_non, Ev.t_fl, Ev.r_val, Ev.r_new, Ev.o_lst, Ev.o_set, Ev.s_tup, Ev.s_fl, Ev.s_ref, Ev.l_fl, Ev.i_tup, Ev.a_0, Ev.a_1, Ev.a_2, Ev.a_3, Ev.a_4, Ev.a_nat, Ev.b_len, Ev.b_abs, Ev.b_max, Ev.b_min, Ev.b_int, Ev.b_inb, Ev.n_tup, Ev.d_add, Ev.d_sub, Ev.c_lt, Ev.c_le, Ev.c_gt, Ev.c_ge, Ev.w_lt, Ev.w_le, Ev.w_gt, Ev.w_ge, Ev.w_eqi, Ev.w_nei, Ev.w_neb, Ev.w_eqb, Ev.y_int, Ev.y_bl, Ev.y_tup, Ev.it_tup, Ev.z_slc2, Ev.mup_same, Ev.mup_mup, Ev.isPt, Ev.z_ii, Ev.z_bi, Ev.z_ib, Ev.z_ll, Ev.z_lt, Ev.z_tt, Ev.z_tl, Ev.z_cc, Ev.isiOk, Ev.Tgs.len, Ev.wipe, t.g_MOST_LETTERS, e1, e2, q]
theorem w_want_at_most (h : FOk F) {x : PV} {a n : Int} {M : MH} {Q : PV → MH → Prop} (hn : n ≤ a) (q : Q .non M) : Cn T F (k + 1) i_want_at_most [x, .int a, .int n] M Q := by
  refine cn_of h.h_want_at_most rfl ?_
  simp only [f_want_at_most]
  have : ¬ a < n := by omega
  simp [Ev.setAll, Ev.wpSs, Ev.wpS, Ev.wpE, Ev.wpEs, Ev.wpI, Ev.wpIfs, Ev.wpTg, Ev.wpTgs, Ev.t_bl, Ev.t_int, Ev.t_tup, Ev.t_non, Ev.t_fl, Ev.r_val, Ev.r_new, Ev.o_lst, Ev.o_set, Ev.s_tup, Ev.s_fl, Ev.s_ref, Ev.l_fl, Ev.i_tup, Ev.a_0, Ev.a_1, Ev.a_2, Ev.a_3, Ev.a_4, Ev.a_nat, Ev.b_len, Ev.b_abs, Ev.b_max, Ev.b_min, Ev.b_int, Ev.b_inb, Ev.n_tup, Ev.d_add, Ev.d_sub, Ev.c_lt, Ev.c_le, Ev.c_gt, Ev.c_ge, Ev.w_lt, Ev.w_le, Ev.w_gt, Ev.w_ge, Ev.w_eqi, Ev.w_nei, Ev.w_neb, Ev.w_eqb, Ev.y_int, Ev.y_bl, Ev.y_tup, Ev.it_tup, Ev.z_slc2, Ev.mup_same, Ev.mup_mup, Ev.isPt, Ev.z_ii, Ev.z_bi, Ev.z_ib, Ev.z_ll, Ev.z_lt, Ev.z_tt, Ev.z_tl, Ev.z_cc, Ev.isiOk, Ev.Tgs.len, Ev.wipe, this, q]
theorem w_is_way_of (h : FOk F) (t : TOk T) {L R : Nat} {w : Way} {M : MH} {Q : PV → MH → Prop} (hw : w.1 < R ∧ w.2.1 < L ∧ w.2.2.1 < R ∧ w.2.2.2 < 2) (q : ∀ M', Ext M M' → Q (.bl true) M') : Cn T F (k + 3) i_is_way_of [.int L, .int R, wp w] M Q := by
  refine cn_of h.h_is_way_of rfl ?_
  simp only [f_is_way_of, wp]
  simp [Ev.setAll, Ev.wpSs, Ev.wpS, Ev.wpE, Ev.wpEs, Ev.wpI, Ev.wpIfs, Ev.wpTg, Ev.wpTgs, Ev.t_bl, Ev.t_int, Ev.t_tup, Ev.t_non, Ev.t_fl, Ev.r_val, Ev.r_new, Ev.o_lst, Ev.o_set, Ev.s_tup, Ev.s_fl, Ev.s_ref, Ev.l_fl, Ev.i_tup, Ev.a_0, Ev.a_1, Ev.a_2, Ev.a_3, Ev.a_4, Ev.a_nat, Ev.b_len, Ev.b_abs, Ev.b_max, Ev.b_min, Ev.b_int, Ev.b_inb, Ev.n_tup, Ev.d_add, Ev.d_sub, Ev.c_lt, Ev.c_le, Ev.c_gt, Ev.c_ge, Ev.w_lt, Ev.w_le, Ev.w_gt, Ev.w_ge, Ev.w_eqi, Ev.w_nei, Ev.w_neb, Ev.w_eqb, Ev.y_int, Ev.y_bl, Ev.y_tup, Ev.it_tup, Ev.z_slc2, Ev.mup_same, Ev.mup_mup, Ev.isPt, Ev.z_ii, Ev.z_bi, Ev.z_ib, Ev.z_ll, Ev.z_lt, Ev.z_tt, Ev.z_tl, Ev.z_cc, Ev.isiOk, Ev.Tgs.len, Ev.wipe, t.g_WAY_PARTS]
  intro D hD
  refine cmpL_map [w.1, w.2.1, w.2.2.1, w.2.2.2] nI (fun _ => .bl true) hD (by show 4 ≤ sizeLine; decide) (fun _ _ => trivial) (fun x hx M1 K e yes => w_is_count h ?_) fun M' e hM => ?_
  · have : decide ((0 : Int) ≤ x) = true := by simp
    rw [this]
    exact yes _ Ext.refl
  · have := b_all (bs := [true, true, true, true]) (l_ref hM)
    simp [Ev.setAll, Ev.wpSs, Ev.wpS, Ev.wpE, Ev.wpEs, Ev.wpI, Ev.wpIfs, Ev.wpTg, Ev.wpTgs, Ev.t_bl, Ev.t_int, Ev.t_tup, Ev.t_non, Ev.t_fl, Ev.r_val, Ev.r_new, Ev.o_lst, Ev.o_set, Ev.s_tup, Ev.s_fl, Ev.s_ref, Ev.l_fl, Ev.i_tup, Ev.a_0, Ev.a_1, Ev.a_2, Ev.a_3, Ev.a_4, Ev.a_nat, Ev.b_len, Ev.b_abs, Ev.b_max, Ev.b_min, Ev.b_int, Ev.b_inb, Ev.n_tup, Ev.d_add, Ev.d_sub, Ev.c_lt, Ev.c_le, Ev.c_gt, Ev.c_ge, Ev.w_lt, Ev.w_le, Ev.w_gt, Ev.w_ge, Ev.w_eqi, Ev.w_nei, Ev.w_neb, Ev.w_eqb, Ev.y_int, Ev.y_bl, Ev.y_tup, Ev.it_tup, Ev.z_slc2, Ev.mup_same, Ev.mup_mup, Ev.isPt, Ev.z_ii, Ev.z_bi, Ev.z_ib, Ev.z_ll, Ev.z_lt, Ev.z_tt, Ev.z_tl, Ev.z_cc, Ev.isiOk, Ev.Tgs.len, Ev.wipe, this]
    obtain ⟨h1, h2, h3, h4⟩ := hw
    have h4 : ((w.2.2.2 : Nat) : Int) < 2 := by omega
    simp [h1, h2, h3, h4, q _ e]
/-- the ways from a room by a letter, by their numbers -/
def atP (ws : List Way) (r l : Nat) (i : Nat) : Bool := match ws[i]? with
  | some w => decide (w.1 = r) && decide (w.2.1 = l)
  | none => false
def ixs (ws : List Way) (r l : Nat) : List Nat := (List.range ws.length).filter (atP ws r l)
theorem ixs_len (ws : List Way) (r l : Nat) : (ixs ws r l).length ≤ ws.length := by
  have := List.length_filter_le (atP ws r l) (List.range ws.length)
  rwa [List.length_range] at this
theorem pairs_tup (l : List (Nat × Nat)) : mapO intTup (l.map nP) = some (l.map fun x => [(x.1 : Int), (x.2 : Int)]) := mapO_map nP intTup _ (fun w => rfl) l
theorem cells_ddp {L R : Nat} {ws : List Way} (ok : ROk L R ws) : (ddp (ws.map fun w => (w.1, w.2.1))).length = L * R := by
  rw [Nat.mul_comm, ← len_cells]
  refine (perm_of_mem (nodup_ddp _) (nodup_cells R L) fun x => ?_).length_eq
  obtain ⟨r, l⟩ := x
  rw [mem_ddp, mem_cells, List.mem_map]
  constructor
  · rintro ⟨w, hw, e⟩
    cases e
    exact ⟨(ok.bd w hw).1, (ok.bd w hw).2.1⟩
  · rintro ⟨h1, h2⟩
    obtain ⟨q, s, hq⟩ := ok.ex r l h1 h2
    exact ⟨_, hq, rfl⟩
theorem small_mul {a b : Nat} (h : a < 1000) : cMul (a : Int) (b : Int) = true := by
  simp only [cMul, Bool.or_eq_true, Bool.and_eq_true, decide_eq_true_eq]
  exact .inl ⟨by omega, by omega⟩
theorem w_are_ways (h : FOk F) (t : TOk T) {L R : Nat} {ws : List Way} {v : PV} {M : MH} {Q : PV → MH → Prop} (hv : lstOf M v = some (ws.map wp)) (ok : ROk L R ws) (q : ∀ M', Ext M M' → Q (.bl true) M') : Cn T F (k + 4) i_are_ways [.int L, .int R, v] M Q := by
  refine cn_of h.h_are_ways rfl ?_
  simp only [f_are_ways]
  simp [Ev.setAll, Ev.wpSs, Ev.wpS, Ev.wpE, Ev.wpEs, Ev.wpI, Ev.wpIfs, Ev.wpTg, Ev.wpTgs, Ev.t_bl, Ev.t_int, Ev.t_tup, Ev.t_non, Ev.t_fl, Ev.r_val, Ev.r_new, Ev.o_lst, Ev.o_set, Ev.s_tup, Ev.s_fl, Ev.s_ref, Ev.l_fl, Ev.i_tup, Ev.a_0, Ev.a_1, Ev.a_2, Ev.a_3, Ev.a_4, Ev.a_nat, Ev.b_len, Ev.b_abs, Ev.b_max, Ev.b_min, Ev.b_int, Ev.b_inb, Ev.n_tup, Ev.d_add, Ev.d_sub, Ev.c_lt, Ev.c_le, Ev.c_gt, Ev.c_ge, Ev.w_lt, Ev.w_le, Ev.w_gt, Ev.w_ge, Ev.w_eqi, Ev.w_nei, Ev.w_neb, Ev.w_eqb, Ev.y_int, Ev.y_bl, Ev.y_tup, Ev.it_tup, Ev.z_slc2, Ev.mup_same, Ev.mup_mup, Ev.isPt, Ev.z_ii, Ev.z_bi, Ev.z_ib, Ev.z_ll, Ev.z_lt, Ev.z_tt, Ev.z_tl, Ev.z_cc, Ev.isiOk, Ev.Tgs.len, Ev.wipe]
  refine w_is_list h hv ?_
  have e1 : (1 : Int) ≤ ws.length := by have := ok.pos; omega
  have e2 : (ws.length : Int) ≤ 96 := by have := ok.len; omega
  have e3 : ws.length ≤ sizeLine := Nat.le_trans (Nat.le_of_lt ok.len) (by decide)
  simp [Ev.setAll, Ev.wpSs, Ev.wpS, Ev.wpE, Ev.wpEs, Ev.wpI, Ev.wpIfs, Ev.wpTg, Ev.wpTgs, Ev.t_bl, Ev.t_int, Ev.t_tup, Ev.t_non, Ev.t_fl, Ev.r_val, Ev.r_new, Ev.o_lst, Ev.o_set, Ev.s_tup, Ev.s_fl, Ev.s_ref, Ev.l_fl, Ev.i_tup, Ev.a_0, Ev.a_1, Ev.a_2, Ev.a_3, Ev.a_4, Ev.a_nat, Ev.b_len, Ev.b_abs, Ev.b_max, Ev.b_min, Ev.b_int, Ev.b_inb, Ev.n_tup, Ev.d_add, Ev.d_sub, Ev.c_lt, Ev.c_le, Ev.c_gt, Ev.c_ge, Ev.w_lt, Ev.w_le, Ev.w_gt, Ev.w_ge, Ev.w_eqi, Ev.w_nei, Ev.w_neb, Ev.w_eqb, Ev.y_int, Ev.y_bl, Ev.y_tup, Ev.it_tup, Ev.z_slc2, Ev.mup_same, Ev.mup_mup, Ev.isPt, Ev.z_ii, Ev.z_bi, Ev.z_ib, Ev.z_ll, Ev.z_lt, Ev.z_tt, Ev.z_tl, Ev.z_cc, Ev.isiOk, Ev.Tgs.len, Ev.wipe, len_lst hv, t.g_MOST_WAYS, e1, e2, seq_lst hv]
  intro D hD
  refine cmpL_map ws wp (fun _ => .bl true) hD e3 (fun M' e => seqOf_stays e (seq_lst hv)) (fun w hw M1 K e yes => w_is_way_of h t (ok.bd w hw) yes) fun M1 e hM => ?_
  have h1 := b_all (bs := ws.map fun _ => true) (l_ref (M := M1) (a := D) (by rw [hM, List.map_map]; rfl))
  have hv1 := lstOf_ext e hv
  have h2 := b_set hv1 (by rw [List.length_map]; exact ok.len) (by rw [ways_tup]; simp)
  rw [dedup_map wp (fun _ _ => wp_inj), ddp_self ok.nd] at h2
  have e4 : ((ws.map fun _ => true).all id) = true := by simp
  simp [Ev.setAll, Ev.wpSs, Ev.wpS, Ev.wpE, Ev.wpEs, Ev.wpI, Ev.wpIfs, Ev.wpTg, Ev.wpTgs, Ev.t_bl, Ev.t_int, Ev.t_tup, Ev.t_non, Ev.t_fl, Ev.r_val, Ev.r_new, Ev.o_lst, Ev.o_set, Ev.s_tup, Ev.s_fl, Ev.s_ref, Ev.l_fl, Ev.i_tup, Ev.a_0, Ev.a_1, Ev.a_2, Ev.a_3, Ev.a_4, Ev.a_nat, Ev.b_len, Ev.b_abs, Ev.b_max, Ev.b_min, Ev.b_int, Ev.b_inb, Ev.n_tup, Ev.d_add, Ev.d_sub, Ev.c_lt, Ev.c_le, Ev.c_gt, Ev.c_ge, Ev.w_lt, Ev.w_le, Ev.w_gt, Ev.w_ge, Ev.w_eqi, Ev.w_nei, Ev.w_neb, Ev.w_eqb, Ev.y_int, Ev.y_bl, Ev.y_tup, Ev.it_tup, Ev.z_slc2, Ev.mup_same, Ev.mup_mup, Ev.isPt, Ev.z_ii, Ev.z_bi, Ev.z_ib, Ev.z_ll, Ev.z_lt, Ev.z_tt, Ev.z_tl, Ev.z_cc, Ev.isiOk, Ev.Tgs.len, Ev.wipe, h1, e4, h2, e3]
  intro S hS
  have eS : Ext M1 (mup M1 S (.set (ws.map wp))) := Ext.new hS
  have hv2 := lstOf_ext eS hv1
  have hs2 : (mup M1 S (.set (ws.map wp))) S = some (.set (ws.map wp)) := mup_same
  generalize mup M1 S (.set (ws.map wp)) = M2 at *
  simp [Ev.setAll, Ev.wpSs, Ev.wpS, Ev.wpE, Ev.wpEs, Ev.wpI, Ev.wpIfs, Ev.wpTg, Ev.wpTgs, Ev.t_bl, Ev.t_int, Ev.t_tup, Ev.t_non, Ev.t_fl, Ev.r_val, Ev.r_new, Ev.o_lst, Ev.o_set, Ev.s_tup, Ev.s_fl, Ev.s_ref, Ev.l_fl, Ev.i_tup, Ev.a_0, Ev.a_1, Ev.a_2, Ev.a_3, Ev.a_4, Ev.a_nat, Ev.b_len, Ev.b_abs, Ev.b_max, Ev.b_min, Ev.b_int, Ev.b_inb, Ev.n_tup, Ev.d_add, Ev.d_sub, Ev.c_lt, Ev.c_le, Ev.c_gt, Ev.c_ge, Ev.w_lt, Ev.w_le, Ev.w_gt, Ev.w_ge, Ev.w_eqi, Ev.w_nei, Ev.w_neb, Ev.w_eqb, Ev.y_int, Ev.y_bl, Ev.y_tup, Ev.it_tup, Ev.z_slc2, Ev.mup_same, Ev.mup_mup, Ev.isPt, Ev.z_ii, Ev.z_bi, Ev.z_ib, Ev.z_ll, Ev.z_lt, Ev.z_tt, Ev.z_tl, Ev.z_cc, Ev.isiOk, Ev.Tgs.len, Ev.wipe, seq_lst hv2]
  intro D2 hD2
  refine cmpL_map ws wp (fun w => nP (w.1, w.2.1)) hD2 e3 (fun M' e => seqOf_stays e (seq_lst hv2)) (fun w hw M1 K e yes => ?_) fun M3 e' hM3 => ?_
  · simp [Ev.setAll, Ev.wpSs, Ev.wpS, Ev.wpE, Ev.wpEs, Ev.wpI, Ev.wpIfs, Ev.wpTg, Ev.wpTgs, Ev.t_bl, Ev.t_int, Ev.t_tup, Ev.t_non, Ev.t_fl, Ev.r_val, Ev.r_new, Ev.o_lst, Ev.o_set, Ev.s_tup, Ev.s_fl, Ev.s_ref, Ev.l_fl, Ev.i_tup, Ev.a_0, Ev.a_1, Ev.a_2, Ev.a_3, Ev.a_4, Ev.a_nat, Ev.b_len, Ev.b_abs, Ev.b_max, Ev.b_min, Ev.b_int, Ev.b_inb, Ev.n_tup, Ev.d_add, Ev.d_sub, Ev.c_lt, Ev.c_le, Ev.c_gt, Ev.c_ge, Ev.w_lt, Ev.w_le, Ev.w_gt, Ev.w_ge, Ev.w_eqi, Ev.w_nei, Ev.w_neb, Ev.w_eqb, Ev.y_int, Ev.y_bl, Ev.y_tup, Ev.it_tup, Ev.z_slc2, Ev.mup_same, Ev.mup_mup, Ev.isPt, Ev.z_ii, Ev.z_bi, Ev.z_ib, Ev.z_ll, Ev.z_lt, Ev.z_tt, Ev.z_tl, Ev.z_cc, Ev.isiOk, Ev.Tgs.len, Ev.wipe, wp]
    exact yes _ Ext.refl
  · have h3 : M3 D2 = some (.lst ((ws.map fun w => (w.1, w.2.1)).map nP)) := by rw [hM3, List.map_map]; rfl
    have h4 := b_set (l_ref h3) (by rw [List.length_map, List.length_map]; exact ok.len) (by rw [pairs_tup]; simp)
    rw [dedup_map nP enc_pair.inj] at h4
    have e5 : (ddp (ws.map fun w => (w.1, w.2.1))).length ≤ sizeLine := Nat.le_trans (ddp_len _) (by rw [List.length_map]; exact e3)
    rw [h4]
    simp [Ev.setAll, Ev.wpSs, Ev.wpS, Ev.wpE, Ev.wpEs, Ev.wpI, Ev.wpIfs, Ev.wpTg, Ev.wpTgs, Ev.t_bl, Ev.t_int, Ev.t_tup, Ev.t_non, Ev.t_fl, Ev.r_val, Ev.r_new, Ev.o_lst, Ev.o_set, Ev.s_tup, Ev.s_fl, Ev.s_ref, Ev.l_fl, Ev.i_tup, Ev.a_0, Ev.a_1, Ev.a_2, Ev.a_3, Ev.a_4, Ev.a_nat, Ev.b_len, Ev.b_abs, Ev.b_max, Ev.b_min, Ev.b_int, Ev.b_inb, Ev.n_tup, Ev.d_add, Ev.d_sub, Ev.c_lt, Ev.c_le, Ev.c_gt, Ev.c_ge, Ev.w_lt, Ev.w_le, Ev.w_gt, Ev.w_ge, Ev.w_eqi, Ev.w_nei, Ev.w_neb, Ev.w_eqb, Ev.y_int, Ev.y_bl, Ev.y_tup, Ev.it_tup, Ev.z_slc2, Ev.mup_same, Ev.mup_mup, Ev.isPt, Ev.z_ii, Ev.z_bi, Ev.z_ib, Ev.z_ll, Ev.z_lt, Ev.z_tt, Ev.z_tl, Ev.z_cc, Ev.isiOk, Ev.Tgs.len, Ev.wipe, e5]
    intro P hP
    have eP : Ext M3 (mup M3 P (.set ((ddp (ws.map fun w => (w.1, w.2.1))).map nP))) := Ext.new hP
    have hp : (mup M3 P (.set ((ddp (ws.map fun w => (w.1, w.2.1))).map nP))) P = some (.set ((ddp (ws.map fun w => (w.1, w.2.1))).map nP)) := mup_same
    have hv4 := lstOf_ext eP (lstOf_ext e' hv2)
    have hs4 := eP _ _ (e' _ _ hs2)
    have eA := ((e.trans eS).trans e').trans eP
    generalize mup M3 P (.set ((ddp (ws.map fun w => (w.1, w.2.1))).map nP)) = M4 at *
    have lr : L ≤ 4 := ok.l4
    simp [Ev.setAll, Ev.wpSs, Ev.wpS, Ev.wpE, Ev.wpEs, Ev.wpI, Ev.wpIfs, Ev.wpTg, Ev.wpTgs, Ev.t_bl, Ev.t_int, Ev.t_tup, Ev.t_non, Ev.t_fl, Ev.r_val, Ev.r_new, Ev.o_lst, Ev.o_set, Ev.s_tup, Ev.s_fl, Ev.s_ref, Ev.l_fl, Ev.i_tup, Ev.a_0, Ev.a_1, Ev.a_2, Ev.a_3, Ev.a_4, Ev.a_nat, Ev.b_len, Ev.b_abs, Ev.b_max, Ev.b_min, Ev.b_int, Ev.b_inb, Ev.n_tup, Ev.d_add, Ev.d_sub, Ev.c_lt, Ev.c_le, Ev.c_gt, Ev.c_ge, Ev.w_lt, Ev.w_le, Ev.w_gt, Ev.w_ge, Ev.w_eqi, Ev.w_nei, Ev.w_neb, Ev.w_eqb, Ev.y_int, Ev.y_bl, Ev.y_tup, Ev.it_tup, Ev.z_slc2, Ev.mup_same, Ev.mup_mup, Ev.isPt, Ev.z_ii, Ev.z_bi, Ev.z_ib, Ev.z_ll, Ev.z_lt, Ev.z_tt, Ev.z_tl, Ev.z_cc, Ev.isiOk, Ev.Tgs.len, Ev.wipe, n_set hs4, len_lst hv4, n_set hp, d_mul (small_mul (a := L) (b := R) (by omega)), cells_ddp ok, q _ eA]
end Rv
end

section
/-! Wc: readers. -/
namespace Rv
open PySem Ev
theorem dget_dput (v : PV) (x y : PV) : ∀ kvs : List (PV × PV), dget (dput kvs x v) y = if x = y then some v else dget kvs y
  | [] => by
    simp only [dput, dget]
  | (q, u) :: r => by
    rw [dput]
    by_cases h : q = x
    · subst h
      rw [if_pos rfl]
      simp only [dget]
      by_cases e : q = y
      · simp [e]
      · simp [e]
    · rw [if_neg h]
      simp only [dget]
      rw [dget_dput v x y r]
      by_cases e : q = y
      · subst e
        have : ¬ x = q := fun z => h z.symm
        simp [this]
      · simp [e]
theorem len_dput (v x : PV) : ∀ kvs : List (PV × PV), (dput kvs x v).length ≤ kvs.length + 1
  | [] => by simp [dput]
  | (q, u) :: r => by
    rw [dput]
    split
    · simp
    · have := len_dput v x r
      simp only [List.length_cons]
      omega
theorem all_dput {p : PV → Bool} (v x : PV) (hx : p x = true) : ∀ {kvs : List (PV × PV)}, (kvs.all fun q => p q.1) = true → ((dput kvs x v).all fun q => p q.1) = true
  | [], _ => by simp [dput, hx]
  | (q, u) :: r, h => by
    rw [List.all_cons, Bool.and_eq_true] at h
    rw [dput]
    split
    · rename_i e
      rw [List.all_cons, Bool.and_eq_true]
      exact h
    · rw [List.all_cons, Bool.and_eq_true]
      exact ⟨h.1, all_dput v x hx h.2⟩
/-- a dict of ways' numbers by room and letter -/
structure ByOk (kvs : List (PV × PV)) (ws : List Way) : Prop where
  tup : (kvs.all fun q => isTup q.1) = true
  get : ∀ r l : Nat, dget kvs (nP (r, l)) = if ixs ws r l = [] then none else some (.tup ((ixs ws r l).map nI))
  len : kvs.length ≤ ws.length
theorem ixs_snoc (ws : List Way) (w : Way) (r l : Nat) : ixs (ws ++ [w]) r l = ixs ws r l ++ (if w.1 = r ∧ w.2.1 = l then [ws.length] else []) := by
  unfold ixs
  rw [List.length_append, List.length_singleton, List.range_succ, List.filter_append]
  congr 1
  · refine List.filter_congr fun i hi => ?_
    unfold atP
    rw [List.getElem?_append_left (List.mem_range.mp hi)]
  · unfold atP
    rw [List.filter_cons, List.getElem?_append_right (Nat.le_refl _), Nat.sub_self]
    simp only [List.getElem?_cons_zero, List.filter_nil, Bool.and_eq_true, decide_eq_true_eq]
theorem ixs_map (ws : List Way) (r l : Nat) : (ixs ws r l).map (fun i => ws[i]?) = (byW ws r l).map some := by
  have key : ∀ n, (ixs (ws.take n) r l).map (fun i => ws[i]?) = (byW (ws.take n) r l).map some := fun n => by
    induction n with
    | zero => rfl
    | succ n ih =>
      cases h : ws[n]? with
      | none =>
        have hl := List.getElem?_eq_none_iff.mp h
        rw [List.take_of_length_le (by omega)]
        rw [List.take_of_length_le hl] at ih
        exact ih
      | some w =>
        have hl := (List.getElem?_eq_some_iff.mp h).1
        have e : ws.take (n + 1) = ws.take n ++ [w] := by rw [List.take_succ, h]; rfl
        rw [e, ixs_snoc, List.map_append, ih]
        unfold byW
        rw [List.filter_append, List.map_append]
        congr 1
        rw [List.length_take, Nat.min_eq_left (Nat.le_of_lt hl)]
        by_cases k : w.1 = r ∧ w.2.1 = l
        · simp [k, h]
        · rw [if_neg k]
          have : (decide (w.1 = r) && decide (w.2.1 = l)) = false := by
            rw [Bool.eq_false_iff]
            simpa using k
          simp [this]
  have := key ws.length
  rwa [List.take_length] at this
theorem enum_len (xs : List PV) : ∀ i, (enumL i xs).length = xs.length := by
  induction xs with
  | nil => intro; rfl
  | cons x r ih => intro i; simp [enumL, ih]
theorem enum_get (xs : List PV) (i : Nat) (x : PV) (h : (enumL 0 xs)[i]? = some x) : ∃ y, xs[i]? = some y ∧ x = .tup [.int i, y] := by
  have := g_enum xs 0
  rw [show ((0 : Nat) : Int) = 0 from rfl] at this
  rw [this, List.getElem?_map] at h
  obtain ⟨p, hp, rfl⟩ := Option.map_eq_some_iff.mp h
  rw [List.getElem?_zipIdx] at hp
  obtain ⟨y, hy, rfl⟩ := Option.map_eq_some_iff.mp hp
  exact ⟨y, hy, by simp⟩
theorem key_pair (c : Nat × Nat) : keyOk (nP c) = true := rfl
theorem fit_pair {kvs : List (PV × PV)} (h : (kvs.all fun q => isTup q.1) = true) (c : Nat × Nat) : keyFit kvs (nP c) = true := by
  unfold keyFit
  rw [key_pair, Bool.true_and]
  rw [List.all_eq_true] at h ⊢
  intro x hx
  rw [h x hx]
  rfl
variable {T : Tab} {F : Nat → Option Fn} {k : Nat}
theorem w_numbers_by (h : FOk F) {ws : List Way} {M : MH} {Q : PV → MH → Prop} (len : ws.length < 64) (q : ∀ d kvs M', Ext M M' → M' d = some (.dct kvs) → ByOk kvs ws → Q (.ref d) M') : Cn T F (k + 1) i_numbers_by [.tup (ws.map wp)] M Q := by
  refine cn_of h.h_numbers_by rfl ?_
  simp only [f_numbers_by]
  simp [Ev.setAll, Ev.wpSs, Ev.wpS, Ev.wpE, Ev.wpEs, Ev.wpI, Ev.wpIfs, Ev.wpTg, Ev.wpTgs, Ev.t_bl, Ev.t_int, Ev.t_tup, Ev.t_non, Ev.t_fl, Ev.r_val, Ev.r_new, Ev.o_lst, Ev.o_set, Ev.s_tup, Ev.s_fl, Ev.s_ref, Ev.l_fl, Ev.i_tup, Ev.a_0, Ev.a_1, Ev.a_2, Ev.a_3, Ev.a_4, Ev.a_nat, Ev.b_len, Ev.b_abs, Ev.b_max, Ev.b_min, Ev.b_int, Ev.b_inb, Ev.n_tup, Ev.d_add, Ev.d_sub, Ev.c_lt, Ev.c_le, Ev.c_gt, Ev.c_ge, Ev.w_lt, Ev.w_le, Ev.w_gt, Ev.w_ge, Ev.w_eqi, Ev.w_nei, Ev.w_neb, Ev.w_eqb, Ev.y_int, Ev.y_bl, Ev.y_tup, Ev.it_tup, Ev.z_slc2, Ev.mup_same, Ev.mup_mup, Ev.isPt, Ev.z_ii, Ev.z_bi, Ev.z_ib, Ev.z_ll, Ev.z_lt, Ev.z_tt, Ev.z_tl, Ev.z_cc, Ev.isiOk, Ev.Tgs.len, Ev.wipe, pairUp, mergeP]
  intro d hd
  refine forL_ind (fun i σ M1 => (∃ x y, σ = [some (.tup (ws.map wp)), some (.ref d), x, y]) ∧ Ext M M1 ∧ ∃ kvs, M1 d = some (.dct kvs) ∧ ByOk kvs (ws.take i)) (fun i σ M1 _ h => trivial) (fun i x σ M1 K hx h1 hk => ?_) (fun σ M1 h1 => ?_) ⟨⟨none, none, rfl⟩, Ext.new hd, [], mup_same, rfl, fun r l => by simp [ixs, dget], by simp⟩
  · obtain ⟨⟨u, v, rfl⟩, e, kvs, hM, B⟩ := h1
    obtain ⟨y, hy, rfl⟩ := enum_get _ _ _ hx
    rw [List.getElem?_map] at hy
    obtain ⟨w, hw, rfl⟩ := Option.map_eq_some_iff.mp hy
    have hl := (List.getElem?_eq_some_iff.mp hw).1
    have tk : ws.take (i + 1) = ws.take i ++ [w] := by rw [List.take_succ, hw]; rfl
    have li : (ixs (ws.take i) w.1 w.2.1).length ≤ i := by
      have := ixs_len (ws.take i) w.1 w.2.1
      rw [List.length_take] at this
      omega
    have gd : (dget kvs (PV.tup [PV.int w.1, PV.int w.2.1])).getD (PV.tup []) = .tup ((ixs (ws.take i) w.1 w.2.1).map nI) := by
      have := B.get w.1 w.2.1
      unfold nP at this
      rw [this]
      split
      · rename_i e
        rw [e]
        rfl
      · rfl
    have ft : keyFit kvs (PV.tup [PV.int w.1, PV.int w.2.1]) = true := fit_pair B.tup (w.1, w.2.1)
    have sz : 100 ≤ sizeLine := by decide
    have ln : (ixs (ws.take i) w.1 w.2.1).length + 1 ≤ sizeLine := by omega
    have lk : kvs.length < sizeLine := by have := B.len; rw [List.length_take] at this; omega
    simp [Ev.setAll, Ev.wpSs, Ev.wpS, Ev.wpE, Ev.wpEs, Ev.wpI, Ev.wpIfs, Ev.wpTg, Ev.wpTgs, Ev.t_bl, Ev.t_int, Ev.t_tup, Ev.t_non, Ev.t_fl, Ev.r_val, Ev.r_new, Ev.o_lst, Ev.o_set, Ev.s_tup, Ev.s_fl, Ev.s_ref, Ev.l_fl, Ev.i_tup, Ev.a_0, Ev.a_1, Ev.a_2, Ev.a_3, Ev.a_4, Ev.a_nat, Ev.b_len, Ev.b_abs, Ev.b_max, Ev.b_min, Ev.b_int, Ev.b_inb, Ev.n_tup, Ev.d_add, Ev.d_sub, Ev.c_lt, Ev.c_le, Ev.c_gt, Ev.c_ge, Ev.w_lt, Ev.w_le, Ev.w_gt, Ev.w_ge, Ev.w_eqi, Ev.w_nei, Ev.w_neb, Ev.w_eqb, Ev.y_int, Ev.y_bl, Ev.y_tup, Ev.it_tup, Ev.z_slc2, Ev.mup_same, Ev.mup_mup, Ev.isPt, Ev.z_ii, Ev.z_bi, Ev.z_ib, Ev.z_ll, Ev.z_lt, Ev.z_tt, Ev.z_tl, Ev.z_cc, Ev.isiOk, Ev.Tgs.len, Ev.wipe, wp, o_get hM, u_get hM, gd, p_dct hM, d_adt, ft, ln, lk]
    refine ⟨by omega, hk _ _ ⟨⟨_, _, rfl⟩, e.mup hd, _, mup_same, ?_⟩⟩
    rw [tk]
    refine ⟨all_dput _ _ rfl B.tup, fun r l => ?_, ?_⟩
    · rw [dget_dput, ixs_snoc, List.length_take, Nat.min_eq_left (Nat.le_of_lt hl)]
      by_cases c : w.1 = r ∧ w.2.1 = l
      · obtain ⟨rfl, rfl⟩ := c
        simp [nP, nI]
      · have : ¬ (PV.tup [PV.int w.1, PV.int w.2.1] = nP (r, l)) := fun z => by
          simp only [nP, PV.tup.injEq, List.cons.injEq, PV.int.injEq, Int.natCast_inj] at z
          exact c ⟨z.1, z.2.1⟩
        rw [if_neg this, if_neg c, List.append_nil, B.get]
    · have := len_dput (PV.tup ((ixs (ws.take i) w.1 w.2.1).map nI ++ [PV.int i])) (PV.tup [PV.int w.1, PV.int w.2.1]) kvs
      have := B.len
      simp only [List.length_append, List.length_singleton]
      omega
  · obtain ⟨⟨u, v, rfl⟩, e, kvs, hM, B⟩ := h1
    rw [enum_len, List.length_map, List.take_length] at B
    simp [Ev.setAll, Ev.wpSs, Ev.wpS, Ev.wpE, Ev.wpEs, Ev.wpI, Ev.wpIfs, Ev.wpTg, Ev.wpTgs, Ev.t_bl, Ev.t_int, Ev.t_tup, Ev.t_non, Ev.t_fl, Ev.r_val, Ev.r_new, Ev.o_lst, Ev.o_set, Ev.s_tup, Ev.s_fl, Ev.s_ref, Ev.l_fl, Ev.i_tup, Ev.a_0, Ev.a_1, Ev.a_2, Ev.a_3, Ev.a_4, Ev.a_nat, Ev.b_len, Ev.b_abs, Ev.b_max, Ev.b_min, Ev.b_int, Ev.b_inb, Ev.n_tup, Ev.d_add, Ev.d_sub, Ev.c_lt, Ev.c_le, Ev.c_gt, Ev.c_ge, Ev.w_lt, Ev.w_le, Ev.w_gt, Ev.w_ge, Ev.w_eqi, Ev.w_nei, Ev.w_neb, Ev.w_eqb, Ev.y_int, Ev.y_bl, Ev.y_tup, Ev.it_tup, Ev.z_slc2, Ev.mup_same, Ev.mup_mup, Ev.isPt, Ev.z_ii, Ev.z_bi, Ev.z_ib, Ev.z_ll, Ev.z_lt, Ev.z_tt, Ev.z_tl, Ev.z_cc, Ev.isiOk, Ev.Tgs.len, Ev.wipe]
    exact q _ _ _ e hM B
/-- a reader -/
def Rdr (M : MH) (v : PV) (L R : Nat) (ws : List Way) : Prop := ∃ a d kvs, v = .ref a ∧ M a = some (.ins c_Reader [("own_letters", .int L), ("own_rooms", .int R), ("own_ways", .tup (ws.map wp)), ("own_by", .ref d)]) ∧ M d = some (.dct kvs) ∧ ByOk kvs ws
theorem Rdr.ext {M M' : MH} (e : Ext M M') {v : PV} {L R : Nat} {ws : List Way} (h : Rdr M v L R ws) : Rdr M' v L R ws := by
  obtain ⟨a, d, kvs, h1, h2, h3, h4⟩ := h
  exact ⟨a, d, kvs, h1, e _ _ h2, e _ _ h3, h4⟩
section
variable {C : CT} {M : MH} {v : PV} {L R : Nat} {ws : List Way} {Q : PV → MH → Prop}
theorem Rdr.letters (h : Rdr M v L R ws) (t : TOk T) : wpFld T C v "own_letters" M Q = Q (.int L) M := by
  obtain ⟨a, d, kvs, rfl, h2, -⟩ := h
  exact x_fld h2 rfl t.fld_Reader_own_letters
theorem Rdr.rooms (h : Rdr M v L R ws) (t : TOk T) : wpFld T C v "own_rooms" M Q = Q (.int R) M := by
  obtain ⟨a, d, kvs, rfl, h2, -⟩ := h
  exact x_fld h2 rfl t.fld_Reader_own_rooms
theorem Rdr.ways (h : Rdr M v L R ws) (t : TOk T) : wpFld T C v "own_ways" M Q = Q (.tup (ws.map wp)) M := by
  obtain ⟨a, d, kvs, rfl, h2, -⟩ := h
  exact x_fld h2 rfl t.fld_Reader_own_ways
/-- reader.own_by[(room, letter)] -/
theorem Rdr.by_ (h : Rdr M v L R ws) (t : TOk T) : ∃ d kvs, M d = some (.dct kvs) ∧ ByOk kvs ws ∧ ∀ {Q : PV → MH → Prop}, wpFld T C v "own_by" M Q = Q (.ref d) M := by
  obtain ⟨a, d, kvs, rfl, h2, h3, h4⟩ := h
  refine ⟨d, kvs, h3, h4, fun {Q} => ?_⟩
  exact x_fld h2 rfl t.fld_Reader_own_by
theorem Rdr.ty (h : Rdr M v L R ws) : tyP M v = some (.cl c_Reader) := by
  obtain ⟨a, d, kvs, rfl, h2, -⟩ := h
  exact y_ins h2
theorem Rdr.ins (h : Rdr M v L R ws) : insC M v = some c_Reader := by
  obtain ⟨a, d, kvs, rfl, h2, -⟩ := h
  simp [insC, h2]
end
def fs1 (L : Nat) : List (Str × PV) := [("own_letters", .int L)]
def fs2 (L R : Nat) : List (Str × PV) := [("own_letters", .int L), ("own_rooms", .int R)]
def fs3 (L R : Nat) (z : PV) : List (Str × PV) := [("own_letters", .int L), ("own_rooms", .int R), ("own_ways", z)]
def fs4 (L R : Nat) (z y : PV) : List (Str × PV) := [("own_letters", .int L), ("own_rooms", .int R), ("own_ways", z), ("own_by", y)]
theorem w_init (h : FOk F) (t : TOk T) {L R : Nat} {ws : List Way} {v : PV} {M : MH} {p : Addr} {Q : PV → MH → Prop} (hp : M p = none) (hv : lstOf M v = some (ws.map wp)) (ok : ROk L R ws) (q : ∀ M', Ext M M' → Rdr M' (.ref p) L R (sW ws) → Q .non M') : Cn T F (k + 5) i_Reader___init__ [.ref p, .int L, .int R, v] (mup M p (.ins c_Reader [])) Q := by
  refine cn_of h.h_Reader___init__ rfl ?_
  simp only [f_Reader___init__]
  have e0 : Ext M (mup M p (.ins c_Reader [])) := Ext.new hp
  have p0 : (mup M p (.ins c_Reader [])) p = some (.ins c_Reader []) := mup_same
  generalize mup M p (.ins c_Reader []) = M0 at *
  simp [Ev.setAll, Ev.wpSs, Ev.wpS, Ev.wpE, Ev.wpEs, Ev.wpI, Ev.wpIfs, Ev.wpTg, Ev.wpTgs, Ev.t_bl, Ev.t_int, Ev.t_tup, Ev.t_non, Ev.t_fl, Ev.r_val, Ev.r_new, Ev.o_lst, Ev.o_set, Ev.s_tup, Ev.s_fl, Ev.s_ref, Ev.l_fl, Ev.i_tup, Ev.a_0, Ev.a_1, Ev.a_2, Ev.a_3, Ev.a_4, Ev.a_nat, Ev.b_len, Ev.b_abs, Ev.b_max, Ev.b_min, Ev.b_int, Ev.b_inb, Ev.n_tup, Ev.d_add, Ev.d_sub, Ev.c_lt, Ev.c_le, Ev.c_gt, Ev.c_ge, Ev.w_lt, Ev.w_le, Ev.w_gt, Ev.w_ge, Ev.w_eqi, Ev.w_nei, Ev.w_neb, Ev.w_eqb, Ev.y_int, Ev.y_bl, Ev.y_tup, Ev.it_tup, Ev.z_slc2, Ev.mup_same, Ev.mup_mup, Ev.isPt, Ev.z_ii, Ev.z_bi, Ev.z_ib, Ev.z_ll, Ev.z_lt, Ev.z_tt, Ev.z_tl, Ev.z_cc, Ev.isiOk, Ev.Tgs.len, Ev.wipe]
  refine w_want_letters h t ok.lo ok.l4 (w_is_count h ?_)
  have e1 : (1 : Int) ≤ R := by have := ok.ro; omega
  have e2 : (R : Int) ≤ 12 := by have := ok.r12; omega
  simp [Ev.setAll, Ev.wpSs, Ev.wpS, Ev.wpE, Ev.wpEs, Ev.wpI, Ev.wpIfs, Ev.wpTg, Ev.wpTgs, Ev.t_bl, Ev.t_int, Ev.t_tup, Ev.t_non, Ev.t_fl, Ev.r_val, Ev.r_new, Ev.o_lst, Ev.o_set, Ev.s_tup, Ev.s_fl, Ev.s_ref, Ev.l_fl, Ev.i_tup, Ev.a_0, Ev.a_1, Ev.a_2, Ev.a_3, Ev.a_4, Ev.a_nat, Ev.b_len, Ev.b_abs, Ev.b_max, Ev.b_min, Ev.b_int, Ev.b_inb, Ev.n_tup, Ev.d_add, Ev.d_sub, Ev.c_lt, Ev.c_le, Ev.c_gt, Ev.c_ge, Ev.w_lt, Ev.w_le, Ev.w_gt, Ev.w_ge, Ev.w_eqi, Ev.w_nei, Ev.w_neb, Ev.w_eqb, Ev.y_int, Ev.y_bl, Ev.y_tup, Ev.it_tup, Ev.z_slc2, Ev.mup_same, Ev.mup_mup, Ev.isPt, Ev.z_ii, Ev.z_bi, Ev.z_ib, Ev.z_ll, Ev.z_lt, Ev.z_tt, Ev.z_tl, Ev.z_cc, Ev.isiOk, Ev.Tgs.len, Ev.wipe, t.g_MOST_ROOMS, e1, e2]
  refine w_are_ways h t (lstOf_ext e0 hv) ok fun M1 e3 => ?_
  have p1 := e3 _ _ p0
  have hv1 := lstOf_ext (e0.trans e3) hv
  have s1 : bltR M1 .sorted [v] = some (.new (.lst ((sW ws).map wp))) := by rw [b_sorted hv1 (ways_sortable ws), sortP_ways]
  have n0 : pput "own_letters" (PV.int L) [] = fs1 L := rfl
  have n1 : pput "own_rooms" (PV.int R) (fs1 L) = fs2 L R := rfl
  have n2 : ∀ z, pput "own_ways" z (fs2 L R) = fs3 L R z := fun _ => rfl
  have n3 : ∀ z y, pput "own_by" y (fs3 L R z) = fs4 L R z y := fun _ _ => rfl
  have m1 : (fs1 L).length = 1 := rfl
  have m2 : (fs2 L R).length = 2 := rfl
  have m3 : ∀ z, (fs3 L R z).length = 3 := fun _ => rfl
  simp [Ev.setAll, Ev.wpSs, Ev.wpS, Ev.wpE, Ev.wpEs, Ev.wpI, Ev.wpIfs, Ev.wpTg, Ev.wpTgs, Ev.t_bl, Ev.t_int, Ev.t_tup, Ev.t_non, Ev.t_fl, Ev.r_val, Ev.r_new, Ev.o_lst, Ev.o_set, Ev.s_tup, Ev.s_fl, Ev.s_ref, Ev.l_fl, Ev.i_tup, Ev.a_0, Ev.a_1, Ev.a_2, Ev.a_3, Ev.a_4, Ev.a_nat, Ev.b_len, Ev.b_abs, Ev.b_max, Ev.b_min, Ev.b_int, Ev.b_inb, Ev.n_tup, Ev.d_add, Ev.d_sub, Ev.c_lt, Ev.c_le, Ev.c_gt, Ev.c_ge, Ev.w_lt, Ev.w_le, Ev.w_gt, Ev.w_ge, Ev.w_eqi, Ev.w_nei, Ev.w_neb, Ev.w_eqb, Ev.y_int, Ev.y_bl, Ev.y_tup, Ev.it_tup, Ev.z_slc2, Ev.mup_same, Ev.mup_mup, Ev.isPt, Ev.z_ii, Ev.z_bi, Ev.z_ib, Ev.z_ll, Ev.z_lt, Ev.z_tt, Ev.z_tl, Ev.z_cc, Ev.isiOk, Ev.Tgs.len, Ev.wipe, p1, t.fld_Reader_own_letters, t.fld_Reader_own_rooms, t.fld_Reader_own_ways, t.fld_Reader_own_by, n0, n1, n2, m1, m2]
  have e4 : Ext M (mup M1 p (.ins c_Reader (fs2 L R))) := (e0.trans e3).mup hp
  have s1 : bltR (mup M1 p (.ins c_Reader (fs2 L R))) .sorted [v] = some (.new (.lst ((sW ws).map wp))) := by rw [b_sorted (lstOf_ext e4 hv) (ways_sortable ws), sortP_ways]
  have e5 : (sW ws).length ≤ sizeLine := by rw [len_sW]; exact Nat.le_trans (Nat.le_of_lt ok.len) (by decide)
  have p2 : (mup M1 p (.ins c_Reader (fs2 L R))) p = some (.ins c_Reader (fs2 L R)) := mup_same
  generalize mup M1 p (.ins c_Reader (fs2 L R)) = M2 at *
  simp [Ev.setAll, Ev.wpSs, Ev.wpS, Ev.wpE, Ev.wpEs, Ev.wpI, Ev.wpIfs, Ev.wpTg, Ev.wpTgs, Ev.t_bl, Ev.t_int, Ev.t_tup, Ev.t_non, Ev.t_fl, Ev.r_val, Ev.r_new, Ev.o_lst, Ev.o_set, Ev.s_tup, Ev.s_fl, Ev.s_ref, Ev.l_fl, Ev.i_tup, Ev.a_0, Ev.a_1, Ev.a_2, Ev.a_3, Ev.a_4, Ev.a_nat, Ev.b_len, Ev.b_abs, Ev.b_max, Ev.b_min, Ev.b_int, Ev.b_inb, Ev.n_tup, Ev.d_add, Ev.d_sub, Ev.c_lt, Ev.c_le, Ev.c_gt, Ev.c_ge, Ev.w_lt, Ev.w_le, Ev.w_gt, Ev.w_ge, Ev.w_eqi, Ev.w_nei, Ev.w_neb, Ev.w_eqb, Ev.y_int, Ev.y_bl, Ev.y_tup, Ev.it_tup, Ev.z_slc2, Ev.mup_same, Ev.mup_mup, Ev.isPt, Ev.z_ii, Ev.z_bi, Ev.z_ib, Ev.z_ll, Ev.z_lt, Ev.z_tt, Ev.z_tl, Ev.z_cc, Ev.isiOk, Ev.Tgs.len, Ev.wipe, s1, e5]
  intro x hx
  have e6 := e4.trans (Ext.new (o := .lst ((sW ws).map wp)) hx)
  have p3 := Ext.new (o := .lst ((sW ws).map wp)) hx _ _ p2
  have b3 := b_tuple (s_ref (M := mup M2 x (.lst ((sW ws).map wp))) (a := x) ▸ l_ref mup_same)
  generalize mup M2 x (.lst ((sW ws).map wp)) = M3 at *
  rw [b3]
  simp [Ev.setAll, Ev.wpSs, Ev.wpS, Ev.wpE, Ev.wpEs, Ev.wpI, Ev.wpIfs, Ev.wpTg, Ev.wpTgs, Ev.t_bl, Ev.t_int, Ev.t_tup, Ev.t_non, Ev.t_fl, Ev.r_val, Ev.r_new, Ev.o_lst, Ev.o_set, Ev.s_tup, Ev.s_fl, Ev.s_ref, Ev.l_fl, Ev.i_tup, Ev.a_0, Ev.a_1, Ev.a_2, Ev.a_3, Ev.a_4, Ev.a_nat, Ev.b_len, Ev.b_abs, Ev.b_max, Ev.b_min, Ev.b_int, Ev.b_inb, Ev.n_tup, Ev.d_add, Ev.d_sub, Ev.c_lt, Ev.c_le, Ev.c_gt, Ev.c_ge, Ev.w_lt, Ev.w_le, Ev.w_gt, Ev.w_ge, Ev.w_eqi, Ev.w_nei, Ev.w_neb, Ev.w_eqb, Ev.y_int, Ev.y_bl, Ev.y_tup, Ev.it_tup, Ev.z_slc2, Ev.mup_same, Ev.mup_mup, Ev.isPt, Ev.z_ii, Ev.z_bi, Ev.z_ib, Ev.z_ll, Ev.z_lt, Ev.z_tt, Ev.z_tl, Ev.z_cc, Ev.isiOk, Ev.Tgs.len, Ev.wipe, p3, t.fld_Reader_own_ways, n2, m2]
  have e7 : Ext M (mup M3 p (.ins c_Reader (fs3 L R (.tup ((sW ws).map wp))))) := e6.mup hp
  have p4 : (mup M3 p (.ins c_Reader (fs3 L R (.tup ((sW ws).map wp))))) p = some (.ins c_Reader (fs3 L R (.tup ((sW ws).map wp)))) := mup_same
  generalize mup M3 p (.ins c_Reader (fs3 L R (.tup ((sW ws).map wp)))) = M4 at *
  rw [x_fld p4 rfl t.fld_Reader_own_ways]
  refine w_numbers_by h (by rw [len_sW]; exact ok.len) fun d kvs M5 e8 hd B => ?_
  simp [Ev.setAll, Ev.wpSs, Ev.wpS, Ev.wpE, Ev.wpEs, Ev.wpI, Ev.wpIfs, Ev.wpTg, Ev.wpTgs, Ev.t_bl, Ev.t_int, Ev.t_tup, Ev.t_non, Ev.t_fl, Ev.r_val, Ev.r_new, Ev.o_lst, Ev.o_set, Ev.s_tup, Ev.s_fl, Ev.s_ref, Ev.l_fl, Ev.i_tup, Ev.a_0, Ev.a_1, Ev.a_2, Ev.a_3, Ev.a_4, Ev.a_nat, Ev.b_len, Ev.b_abs, Ev.b_max, Ev.b_min, Ev.b_int, Ev.b_inb, Ev.n_tup, Ev.d_add, Ev.d_sub, Ev.c_lt, Ev.c_le, Ev.c_gt, Ev.c_ge, Ev.w_lt, Ev.w_le, Ev.w_gt, Ev.w_ge, Ev.w_eqi, Ev.w_nei, Ev.w_neb, Ev.w_eqb, Ev.y_int, Ev.y_bl, Ev.y_tup, Ev.it_tup, Ev.z_slc2, Ev.mup_same, Ev.mup_mup, Ev.isPt, Ev.z_ii, Ev.z_bi, Ev.z_ib, Ev.z_ll, Ev.z_lt, Ev.z_tt, Ev.z_tl, Ev.z_cc, Ev.isiOk, Ev.Tgs.len, Ev.wipe, e8 _ _ p4, t.fld_Reader_own_by, n3, m3]
  have ne : d ≠ p := by
    rintro rfl
    rw [e8 _ _ p4] at hd
    cases hd
  exact q _ ((e7.trans e8).mup hp) ⟨p, d, kvs, rfl, mup_same, by rw [mup_ne ne]; exact hd, B⟩
/-- Reader(letters, rooms, ways) -/
theorem w_mak (h : FOk F) (t : TOk T) {L R : Nat} {ws : List Way} {v : PV} {M : MH} {Q : PV → MH → Prop} (hv : lstOf M v = some (ws.map wp)) (ok : ROk L R ws) (q : ∀ u M', Ext M M' → Rdr M' u L R (sW ws) → Q u M') : wpMak T (Cn T F (k + 5)) c_Reader [.int L, .int R, v] M Q := by
  unfold wpMak
  rw [t.init_Reader]
  exact fun p hp => w_init h t hp hv ok fun M' e hr => ⟨rfl, q _ _ e hr⟩
theorem w_want_reader (h : FOk F) (t : TOk T) {L R : Nat} {ws : List Way} {v : PV} {M : MH} {Q : PV → MH → Prop} (hv : Rdr M v L R ws) (q : Q v M) : Cn T F (k + 1) i_want_reader [v] M Q := by
  refine cn_of h.h_want_reader rfl ?_
  simp only [f_want_reader]
  simp [Ev.setAll, Ev.wpSs, Ev.wpS, Ev.wpE, Ev.wpEs, Ev.wpI, Ev.wpIfs, Ev.wpTg, Ev.wpTgs, Ev.t_bl, Ev.t_int, Ev.t_tup, Ev.t_non, Ev.t_fl, Ev.r_val, Ev.r_new, Ev.o_lst, Ev.o_set, Ev.s_tup, Ev.s_fl, Ev.s_ref, Ev.l_fl, Ev.i_tup, Ev.a_0, Ev.a_1, Ev.a_2, Ev.a_3, Ev.a_4, Ev.a_nat, Ev.b_len, Ev.b_abs, Ev.b_max, Ev.b_min, Ev.b_int, Ev.b_inb, Ev.n_tup, Ev.d_add, Ev.d_sub, Ev.c_lt, Ev.c_le, Ev.c_gt, Ev.c_ge, Ev.w_lt, Ev.w_le, Ev.w_gt, Ev.w_ge, Ev.w_eqi, Ev.w_nei, Ev.w_neb, Ev.w_eqb, Ev.y_int, Ev.y_bl, Ev.y_tup, Ev.it_tup, Ev.z_slc2, Ev.mup_same, Ev.mup_mup, Ev.isPt, Ev.z_ii, Ev.z_bi, Ev.z_ib, Ev.z_ll, Ev.z_lt, Ev.z_tt, Ev.z_tl, Ev.z_cc, Ev.isiOk, Ev.Tgs.len, Ev.wipe, hv.ty, t.init_Reader, q]
theorem w_want_two (h : FOk F) (t : TOk T) {L R R2 : Nat} {ws vs : List Way} {v u : PV} {M : MH} {Q : PV → MH → Prop} (hv : Rdr M v L R ws) (hu : Rdr M u L R2 vs) (q : Q .non M) : Cn T F (k + 2) i_want_two [v, u] M Q := by
  refine cn_of h.h_want_two rfl ?_
  simp only [f_want_two]
  simp [Ev.setAll, Ev.wpSs, Ev.wpS, Ev.wpE, Ev.wpEs, Ev.wpI, Ev.wpIfs, Ev.wpTg, Ev.wpTgs, Ev.t_bl, Ev.t_int, Ev.t_tup, Ev.t_non, Ev.t_fl, Ev.r_val, Ev.r_new, Ev.o_lst, Ev.o_set, Ev.s_tup, Ev.s_fl, Ev.s_ref, Ev.l_fl, Ev.i_tup, Ev.a_0, Ev.a_1, Ev.a_2, Ev.a_3, Ev.a_4, Ev.a_nat, Ev.b_len, Ev.b_abs, Ev.b_max, Ev.b_min, Ev.b_int, Ev.b_inb, Ev.n_tup, Ev.d_add, Ev.d_sub, Ev.c_lt, Ev.c_le, Ev.c_gt, Ev.c_ge, Ev.w_lt, Ev.w_le, Ev.w_gt, Ev.w_ge, Ev.w_eqi, Ev.w_nei, Ev.w_neb, Ev.w_eqb, Ev.y_int, Ev.y_bl, Ev.y_tup, Ev.it_tup, Ev.z_slc2, Ev.mup_same, Ev.mup_mup, Ev.isPt, Ev.z_ii, Ev.z_bi, Ev.z_ib, Ev.z_ll, Ev.z_lt, Ev.z_tt, Ev.z_tl, Ev.z_cc, Ev.isiOk, Ev.Tgs.len, Ev.wipe]
  refine w_want_reader h t hv (w_want_reader h t hu ?_)
  simp [Ev.setAll, Ev.wpSs, Ev.wpS, Ev.wpE, Ev.wpEs, Ev.wpI, Ev.wpIfs, Ev.wpTg, Ev.wpTgs, Ev.t_bl, Ev.t_int, Ev.t_tup, Ev.t_non, Ev.t_fl, Ev.r_val, Ev.r_new, Ev.o_lst, Ev.o_set, Ev.s_tup, Ev.s_fl, Ev.s_ref, Ev.l_fl, Ev.i_tup, Ev.a_0, Ev.a_1, Ev.a_2, Ev.a_3, Ev.a_4, Ev.a_nat, Ev.b_len, Ev.b_abs, Ev.b_max, Ev.b_min, Ev.b_int, Ev.b_inb, Ev.n_tup, Ev.d_add, Ev.d_sub, Ev.c_lt, Ev.c_le, Ev.c_gt, Ev.c_ge, Ev.w_lt, Ev.w_le, Ev.w_gt, Ev.w_ge, Ev.w_eqi, Ev.w_nei, Ev.w_neb, Ev.w_eqb, Ev.y_int, Ev.y_bl, Ev.y_tup, Ev.it_tup, Ev.z_slc2, Ev.mup_same, Ev.mup_mup, Ev.isPt, Ev.z_ii, Ev.z_bi, Ev.z_ib, Ev.z_ll, Ev.z_lt, Ev.z_tt, Ev.z_tl, Ev.z_cc, Ev.isiOk, Ev.Tgs.len, Ev.wipe, hv.letters t, hu.letters t, q]
theorem w_reader_made (h : FOk F) (t : TOk T) {L R : Nat} {ws : List Way} {v : PV} {M : MH} {Q : PV → MH → Prop} (hv : lstOf M v = some (ws.map wp)) (ok : ROk L R ws) (q : ∀ u M', Ext M M' → Rdr M' u L R (sW ws) → Q u M') : Cn T F (k + 6) i_reader_made [.int L, .int R, v] M Q := by
  refine cn_of h.h_reader_made rfl ?_
  simp only [f_reader_made]
  have e5 : ws.length ≤ sizeLine := Nat.le_trans (Nat.le_of_lt ok.len) (by decide)
  simp [Ev.setAll, Ev.wpSs, Ev.wpS, Ev.wpE, Ev.wpEs, Ev.wpI, Ev.wpIfs, Ev.wpTg, Ev.wpTgs, Ev.t_bl, Ev.t_int, Ev.t_tup, Ev.t_non, Ev.t_fl, Ev.r_val, Ev.r_new, Ev.o_lst, Ev.o_set, Ev.s_tup, Ev.s_fl, Ev.s_ref, Ev.l_fl, Ev.i_tup, Ev.a_0, Ev.a_1, Ev.a_2, Ev.a_3, Ev.a_4, Ev.a_nat, Ev.b_len, Ev.b_abs, Ev.b_max, Ev.b_min, Ev.b_int, Ev.b_inb, Ev.n_tup, Ev.d_add, Ev.d_sub, Ev.c_lt, Ev.c_le, Ev.c_gt, Ev.c_ge, Ev.w_lt, Ev.w_le, Ev.w_gt, Ev.w_ge, Ev.w_eqi, Ev.w_nei, Ev.w_neb, Ev.w_eqb, Ev.y_int, Ev.y_bl, Ev.y_tup, Ev.it_tup, Ev.z_slc2, Ev.mup_same, Ev.mup_mup, Ev.isPt, Ev.z_ii, Ev.z_bi, Ev.z_ib, Ev.z_ll, Ev.z_lt, Ev.z_tt, Ev.z_tl, Ev.z_cc, Ev.isiOk, Ev.Tgs.len, Ev.wipe, b_list (it_of hv), e5]
  intro p hp
  exact w_mak h t (l_ref mup_same) ok fun u M' e hr => q _ _ ((Ext.new hp).trans e) hr
theorem w_is_single (h : FOk F) (t : TOk T) {L R : Nat} {ws : List Way} {v : PV} {M : MH} {Q : PV → MH → Prop} (hv : Rdr M v L R ws) (l4 : L ≤ 4) (q : Q (.bl (decide (ws.length = L * R))) M) : Cn T F (k + 2) i_is_single [v] M Q := by
  refine cn_of h.h_is_single rfl ?_
  simp only [f_is_single]
  simp [Ev.setAll, Ev.wpSs, Ev.wpS, Ev.wpE, Ev.wpEs, Ev.wpI, Ev.wpIfs, Ev.wpTg, Ev.wpTgs, Ev.t_bl, Ev.t_int, Ev.t_tup, Ev.t_non, Ev.t_fl, Ev.r_val, Ev.r_new, Ev.o_lst, Ev.o_set, Ev.s_tup, Ev.s_fl, Ev.s_ref, Ev.l_fl, Ev.i_tup, Ev.a_0, Ev.a_1, Ev.a_2, Ev.a_3, Ev.a_4, Ev.a_nat, Ev.b_len, Ev.b_abs, Ev.b_max, Ev.b_min, Ev.b_int, Ev.b_inb, Ev.n_tup, Ev.d_add, Ev.d_sub, Ev.c_lt, Ev.c_le, Ev.c_gt, Ev.c_ge, Ev.w_lt, Ev.w_le, Ev.w_gt, Ev.w_ge, Ev.w_eqi, Ev.w_nei, Ev.w_neb, Ev.w_eqb, Ev.y_int, Ev.y_bl, Ev.y_tup, Ev.it_tup, Ev.z_slc2, Ev.mup_same, Ev.mup_mup, Ev.isPt, Ev.z_ii, Ev.z_bi, Ev.z_ib, Ev.z_ll, Ev.z_lt, Ev.z_tt, Ev.z_tl, Ev.z_cc, Ev.isiOk, Ev.Tgs.len, Ev.wipe]
  refine w_want_reader h t hv ?_
  have e : ((ws.length : Int) = L * R) = (ws.length = L * R) := by
    rw [← Int.natCast_mul, Int.natCast_inj]
  simp [Ev.setAll, Ev.wpSs, Ev.wpS, Ev.wpE, Ev.wpEs, Ev.wpI, Ev.wpIfs, Ev.wpTg, Ev.wpTgs, Ev.t_bl, Ev.t_int, Ev.t_tup, Ev.t_non, Ev.t_fl, Ev.r_val, Ev.r_new, Ev.o_lst, Ev.o_set, Ev.s_tup, Ev.s_fl, Ev.s_ref, Ev.l_fl, Ev.i_tup, Ev.a_0, Ev.a_1, Ev.a_2, Ev.a_3, Ev.a_4, Ev.a_nat, Ev.b_len, Ev.b_abs, Ev.b_max, Ev.b_min, Ev.b_int, Ev.b_inb, Ev.n_tup, Ev.d_add, Ev.d_sub, Ev.c_lt, Ev.c_le, Ev.c_gt, Ev.c_ge, Ev.w_lt, Ev.w_le, Ev.w_gt, Ev.w_ge, Ev.w_eqi, Ev.w_nei, Ev.w_neb, Ev.w_eqb, Ev.y_int, Ev.y_bl, Ev.y_tup, Ev.it_tup, Ev.z_slc2, Ev.mup_same, Ev.mup_mup, Ev.isPt, Ev.z_ii, Ev.z_bi, Ev.z_ib, Ev.z_ll, Ev.z_lt, Ev.z_tt, Ev.z_tl, Ev.z_cc, Ev.isiOk, Ev.Tgs.len, Ev.wipe, hv.letters t, hv.rooms t, hv.ways t, d_mul (small_mul (a := L) (b := R) (by omega)), e]
  exact q
theorem w_letters (h : FOk F) (t : TOk T) {L R : Nat} {ws : List Way} {v : PV} {M : MH} {Q : PV → MH → Prop} (hv : Rdr M v L R ws) (q : Q (.int L) M) : wpFld T (Cn T F (k + 1)) v "letters" M Q := by
  have w : Cn T F (k + 1) i_Reader_letters [v] M Q := by
    refine cn_of h.h_Reader_letters rfl ?_
    simp only [f_Reader_letters]
    simp [Ev.setAll, Ev.wpSs, Ev.wpS, Ev.wpE, Ev.wpEs, Ev.wpI, Ev.wpIfs, Ev.wpTg, Ev.wpTgs, Ev.t_bl, Ev.t_int, Ev.t_tup, Ev.t_non, Ev.t_fl, Ev.r_val, Ev.r_new, Ev.o_lst, Ev.o_set, Ev.s_tup, Ev.s_fl, Ev.s_ref, Ev.l_fl, Ev.i_tup, Ev.a_0, Ev.a_1, Ev.a_2, Ev.a_3, Ev.a_4, Ev.a_nat, Ev.b_len, Ev.b_abs, Ev.b_max, Ev.b_min, Ev.b_int, Ev.b_inb, Ev.n_tup, Ev.d_add, Ev.d_sub, Ev.c_lt, Ev.c_le, Ev.c_gt, Ev.c_ge, Ev.w_lt, Ev.w_le, Ev.w_gt, Ev.w_ge, Ev.w_eqi, Ev.w_nei, Ev.w_neb, Ev.w_eqb, Ev.y_int, Ev.y_bl, Ev.y_tup, Ev.it_tup, Ev.z_slc2, Ev.mup_same, Ev.mup_mup, Ev.isPt, Ev.z_ii, Ev.z_bi, Ev.z_ib, Ev.z_ll, Ev.z_lt, Ev.z_tt, Ev.z_tl, Ev.z_cc, Ev.isiOk, Ev.Tgs.len, Ev.wipe, hv.letters t, q]
  obtain ⟨a, d, kvs, rfl, h2, -⟩ := hv
  have : List.lookup ("letters" : Str) (fs4 L R (.tup (ws.map wp)) (.ref d)) = none := rfl
  unfold wpFld
  simp only [h2]
  unfold fs4 at this
  rw [this]
  simp only [t.prop_Reader_letters]
  exact w
theorem w_rooms (h : FOk F) (t : TOk T) {L R : Nat} {ws : List Way} {v : PV} {M : MH} {Q : PV → MH → Prop} (hv : Rdr M v L R ws) (q : Q (.int R) M) : wpFld T (Cn T F (k + 1)) v "rooms" M Q := by
  have w : Cn T F (k + 1) i_Reader_rooms [v] M Q := by
    refine cn_of h.h_Reader_rooms rfl ?_
    simp only [f_Reader_rooms]
    simp [Ev.setAll, Ev.wpSs, Ev.wpS, Ev.wpE, Ev.wpEs, Ev.wpI, Ev.wpIfs, Ev.wpTg, Ev.wpTgs, Ev.t_bl, Ev.t_int, Ev.t_tup, Ev.t_non, Ev.t_fl, Ev.r_val, Ev.r_new, Ev.o_lst, Ev.o_set, Ev.s_tup, Ev.s_fl, Ev.s_ref, Ev.l_fl, Ev.i_tup, Ev.a_0, Ev.a_1, Ev.a_2, Ev.a_3, Ev.a_4, Ev.a_nat, Ev.b_len, Ev.b_abs, Ev.b_max, Ev.b_min, Ev.b_int, Ev.b_inb, Ev.n_tup, Ev.d_add, Ev.d_sub, Ev.c_lt, Ev.c_le, Ev.c_gt, Ev.c_ge, Ev.w_lt, Ev.w_le, Ev.w_gt, Ev.w_ge, Ev.w_eqi, Ev.w_nei, Ev.w_neb, Ev.w_eqb, Ev.y_int, Ev.y_bl, Ev.y_tup, Ev.it_tup, Ev.z_slc2, Ev.mup_same, Ev.mup_mup, Ev.isPt, Ev.z_ii, Ev.z_bi, Ev.z_ib, Ev.z_ll, Ev.z_lt, Ev.z_tt, Ev.z_tl, Ev.z_cc, Ev.isiOk, Ev.Tgs.len, Ev.wipe, hv.rooms t, q]
  obtain ⟨a, d, kvs, rfl, h2, -⟩ := hv
  have : List.lookup ("rooms" : Str) (fs4 L R (.tup (ws.map wp)) (.ref d)) = none := rfl
  unfold wpFld
  simp only [h2]
  unfold fs4 at this
  rw [this]
  simp only [t.prop_Reader_rooms]
  exact w
theorem met_ways (t : TOk T) {L R : Nat} {ws : List Way} {v : PV} {M : MH} (hv : Rdr M v L R ws) : metOf T M v "ways" = some i_Reader_ways := by
  obtain ⟨a, d, kvs, rfl, h2, -⟩ := hv
  have : List.lookup ("ways" : Str) (fs4 L R (.tup (ws.map wp)) (.ref d)) = none := rfl
  unfold metOf
  simp only [h2]
  unfold fs4 at this
  rw [this]
  exact t.meth_Reader_ways
theorem w_mways (h : FOk F) (t : TOk T) {L R : Nat} {ws : List Way} {v : PV} {M : MH} {Q : PV → MH → Prop} (hv : Rdr M v L R ws) (len : ws.length ≤ sizeLine) (q : ∀ p, M p = none → Q (.ref p) (mup M p (.lst (ws.map wp)))) : Cn T F (k + 1) i_Reader_ways [v] M Q := by
  refine cn_of h.h_Reader_ways rfl ?_
  simp only [f_Reader_ways]
  simp [Ev.setAll, Ev.wpSs, Ev.wpS, Ev.wpE, Ev.wpEs, Ev.wpI, Ev.wpIfs, Ev.wpTg, Ev.wpTgs, Ev.t_bl, Ev.t_int, Ev.t_tup, Ev.t_non, Ev.t_fl, Ev.r_val, Ev.r_new, Ev.o_lst, Ev.o_set, Ev.s_tup, Ev.s_fl, Ev.s_ref, Ev.l_fl, Ev.i_tup, Ev.a_0, Ev.a_1, Ev.a_2, Ev.a_3, Ev.a_4, Ev.a_nat, Ev.b_len, Ev.b_abs, Ev.b_max, Ev.b_min, Ev.b_int, Ev.b_inb, Ev.n_tup, Ev.d_add, Ev.d_sub, Ev.c_lt, Ev.c_le, Ev.c_gt, Ev.c_ge, Ev.w_lt, Ev.w_le, Ev.w_gt, Ev.w_ge, Ev.w_eqi, Ev.w_nei, Ev.w_neb, Ev.w_eqb, Ev.y_int, Ev.y_bl, Ev.y_tup, Ev.it_tup, Ev.z_slc2, Ev.mup_same, Ev.mup_mup, Ev.isPt, Ev.z_ii, Ev.z_bi, Ev.z_ib, Ev.z_ll, Ev.z_lt, Ev.z_tt, Ev.z_tl, Ev.z_cc, Ev.isiOk, Ev.Tgs.len, Ev.wipe, hv.ways t, b_list it_tup, len]
  exact q
theorem enc_tup3 {M : MH} {a b c d : Nat} {l m : List Way} : eqR M (.tup [.int a, .int b, .tup (l.map wp)]) (.tup [.int c, .int d, .tup (m.map wp)]) = some (decide (a = c ∧ b = d ∧ l = m)) := by
  unfold eqR dD
  simp only [den, mapO, enc_way.list M 6, Option.map_some, PyData.eqv, PyData.eqvAll, enc_way.alls, Option.some.injEq]
  rw [Bool.eq_iff_iff]
  simp only [Bool.and_eq_true, beq_iff_eq, Int.natCast_inj, decide_eq_true_eq, and_true]
theorem w_eq_reader (h : FOk F) (t : TOk T) {L R L2 R2 : Nat} {ws vs : List Way} {v u : PV} {M : MH} {Q : PV → MH → Prop} (hv : Rdr M v L R ws) (hu : Rdr M u L2 R2 vs) (q : Q (.bl (decide (L = L2 ∧ R = R2 ∧ ws = vs))) M) : Cn T F (k + 1) i_Reader___eq__ [v, u] M Q := by
  refine cn_of h.h_Reader___eq__ rfl ?_
  simp only [f_Reader___eq__]
  have sz : 3 ≤ sizeLine := by decide
  simp [Ev.setAll, Ev.wpSs, Ev.wpS, Ev.wpE, Ev.wpEs, Ev.wpI, Ev.wpIfs, Ev.wpTg, Ev.wpTgs, Ev.t_bl, Ev.t_int, Ev.t_tup, Ev.t_non, Ev.t_fl, Ev.r_val, Ev.r_new, Ev.o_lst, Ev.o_set, Ev.s_tup, Ev.s_fl, Ev.s_ref, Ev.l_fl, Ev.i_tup, Ev.a_0, Ev.a_1, Ev.a_2, Ev.a_3, Ev.a_4, Ev.a_nat, Ev.b_len, Ev.b_abs, Ev.b_max, Ev.b_min, Ev.b_int, Ev.b_inb, Ev.n_tup, Ev.d_add, Ev.d_sub, Ev.c_lt, Ev.c_le, Ev.c_gt, Ev.c_ge, Ev.w_lt, Ev.w_le, Ev.w_gt, Ev.w_ge, Ev.w_eqi, Ev.w_nei, Ev.w_neb, Ev.w_eqb, Ev.y_int, Ev.y_bl, Ev.y_tup, Ev.it_tup, Ev.z_slc2, Ev.mup_same, Ev.mup_mup, Ev.isPt, Ev.z_ii, Ev.z_bi, Ev.z_ib, Ev.z_ll, Ev.z_lt, Ev.z_tt, Ev.z_tl, Ev.z_cc, Ev.isiOk, Ev.Tgs.len, Ev.wipe, hu.ty, t.init_Reader, hv.letters t, hu.letters t, hv.rooms t, hu.rooms t, hv.ways t, hu.ways t, sz, Ev.w_eq rfl enc_tup3]
  simpa using q
/-- two readers compared by != -/
theorem w_ne_reader (h : FOk F) (t : TOk T) {L R L2 R2 : Nat} {ws vs : List Way} {v u : PV} {M : MH} {Q : PV → MH → Prop} (hv : Rdr M v L R ws) (hu : Rdr M u L2 R2 vs) (q : Q (.bl !(decide (L = L2 ∧ R = R2 ∧ ws = vs))) M) : wpCmp T (Cn T F (k + 1)) .ne v u M Q := by
  unfold wpCmp
  simp only [isEq, if_true, hv.ins, t.eqm_Reader]
  refine ⟨hu.ins, w_eq_reader h t hv hu ⟨_, rfl, ?_⟩⟩
  exact q
end Rv
end

section
/-! Wd: rows, rooms by letters. -/
namespace Rv
open PySem Ev
/-- sets kept as dicts: each key to True -/
def kT {α : Type} (f : α → PV) (x : α) : PV × PV := (f x, .bl true)
theorem dput_set {α : Type} [DecidableEq α] {f : α → PV} (hf : ∀ a b, f a = f b → a = b) (x : α) : ∀ l : List α, dput (l.map (kT f)) (f x) (.bl true) = (addN l x).map (kT f)
  | [] => rfl
  | y :: l => by
    rw [List.map_cons]
    show dput ((f y, .bl true) :: l.map (kT f)) (f x) (.bl true) = _
    rw [dput]
    by_cases e : y = x
    · subst e
      rw [if_pos rfl]
      have : addN (y :: l) y = y :: l := if_pos (List.mem_cons_self ..)
      rw [this]
      rfl
    · rw [if_neg fun z => e (hf _ _ z), dput_set hf x l]
      unfold addN
      by_cases k : x ∈ l
      · rw [if_pos k, if_pos (List.mem_cons_of_mem _ k)]
        rfl
      · rw [if_neg k, if_neg fun z => (List.mem_cons.mp z).elim (fun e' => e e'.symm) k]
        rfl
theorem kT_keys {α : Type} (f : α → PV) (l : List α) : (l.map (kT f)).map (·.1) = l.map f := by rw [List.map_map]; rfl
theorem fit_int {kvs : List (PV × PV)} (h : (kvs.all fun q => !isTup q.1) = true) (n : Int) : keyFit kvs (.int n) = true := by
  unfold keyFit
  rw [show keyOk (.int n) = true from rfl, Bool.true_and]
  rw [List.all_eq_true] at h ⊢
  intro x hx
  have := h x hx
  cases hq : isTup x.1 <;> simp_all [isTup]
theorem fit_kTn (l : List Nat) (n : Nat) : keyFit (l.map (kT nI)) (.int n) = true := fit_int (by
  rw [List.all_map]
  exact List.all_eq_true.mpr fun x _ => rfl) n
/-- sorted counts -/
def sN (l : List Nat) : List Nat := l.mergeSort fun a b => decide (a ≤ b)
theorem sN_perm (l : List Nat) : (sN l).Perm l := List.mergeSort_perm _ _
theorem sortP_nats (l : List Nat) : sortP (l.map nI) = (sN l).map nI := by
  have e : l.map nI = (l.map fun (n : Nat) => (n : Int)).map PV.int := by rw [List.map_map]; rfl
  rw [e, sortP_ints]
  unfold sN
  have := List.map_mergeSort (r := fun a b : Nat => decide (a ≤ b)) (s := fun a b : Int => decide (a ≤ b)) (f := fun n : Nat => (n : Int)) (l := l) fun a _ b _ => by simp
  rw [← this, List.map_map]
  rfl
theorem nats_sortable (l : List Nat) : sortable (l.map nI) = true := by
  unfold sortable
  have e : mapO toD (l.map nI) = some (l.map fun (n : Nat) => PyData.int (n : Int)) := mapO_map nI toD _ (fun w => rfl) l
  rw [e]
  simp only [Bool.and_eq_true, List.all_eq_true, Bool.or_eq_true]
  refine ⟨fun d hd f hf => ?_, .inr fun d hd => ?_⟩
  · obtain ⟨w, -, rfl⟩ := List.mem_map.mp hd
    obtain ⟨v, -, rfl⟩ := List.mem_map.mp hf
    rfl
  · obtain ⟨w, -, rfl⟩ := List.mem_map.mp hd
    rfl
theorem b_sortN {M : MH} {v : PV} {l : List Nat} (h : lstOf M v = some (l.map nI)) : bltR M .sorted [v] = some (.new (.lst ((sN l).map nI))) := by
  rw [b_sorted h (nats_sortable l), sortP_nats]
/-- few counts -/
structure Few (R : Nat) (l : List Nat) : Prop where
  nd : l.Nodup
  lt : ∀ x ∈ l, x < R
theorem Few.len {R : Nat} {l : List Nat} (h : Few R l) : l.length ≤ R := by
  have := nodup_len (u := List.range R) h.nd fun x hx => List.mem_range.mpr (h.lt x hx)
  rwa [List.length_range] at this
theorem Few.nil {R : Nat} : Few R [] := ⟨List.nodup_nil, fun _ h => by cases h⟩
theorem Few.addN {R : Nat} {l : List Nat} (h : Few R l) {x : Nat} (hx : x < R) : Few R (addN l x) := ⟨nodup_addN h.nd, fun y hy => (mem_addN.mp hy).elim (h.lt y) fun e => e ▸ hx⟩
theorem Few.sort {R : Nat} {l : List Nat} (h : Few R l) : Few R (sN l) := ⟨(sN_perm l).nodup_iff.mpr h.nd, fun x hx => h.lt x ((sN_perm l).mem_iff.mp hx)⟩
theorem mem_sN {l : List Nat} {x : Nat} : x ∈ sN l ↔ x ∈ l := (sN_perm l).mem_iff
/-! rows -/
abbrev Row := List Nat × List Nat
def uP (u : List Nat) : PV := .tup (u.map nI)
def rP (r : Row) : PV := .tup [uP r.1, uP r.2]
structure RowOk (L : Nat) (r : Row) : Prop where
  b : ∀ l ∈ r.1, l < L
  a : ∀ l ∈ r.2, l < L
  bl : r.1.length ≤ 40
  al : r.2.length ≤ 40
  ne : r.2 ≠ []
variable {T : Tab} {F : Nat → Option Fn} {k : Nat}
theorem w_are_letters (h : FOk F) (t : TOk T) {L : Nat} {u : List Nat} {M : MH} {Q : PV → MH → Prop} (hu : ∀ l ∈ u, l < L) (hl : u.length ≤ 40) (q : ∀ M', Ext M M' → Q (.bl true) M') : Cn T F (k + 3) i_are_letters [.int L, uP u] M Q := by
  refine cn_of h.h_are_letters rfl ?_
  simp only [f_are_letters, uP]
  have e1 : ¬ ((40 : Int) < u.length) := by omega
  simp [Ev.setAll, Ev.wpSs, Ev.wpS, Ev.wpE, Ev.wpEs, Ev.wpI, Ev.wpIfs, Ev.wpTg, Ev.wpTgs, Ev.t_bl, Ev.t_int, Ev.t_tup, Ev.t_non, Ev.t_fl, Ev.r_val, Ev.r_new, Ev.o_lst, Ev.o_set, Ev.s_tup, Ev.s_fl, Ev.s_ref, Ev.l_fl, Ev.i_tup, Ev.a_0, Ev.a_1, Ev.a_2, Ev.a_3, Ev.a_4, Ev.a_nat, Ev.b_len, Ev.b_abs, Ev.b_max, Ev.b_min, Ev.b_int, Ev.b_inb, Ev.n_tup, Ev.d_add, Ev.d_sub, Ev.c_lt, Ev.c_le, Ev.c_gt, Ev.c_ge, Ev.w_lt, Ev.w_le, Ev.w_gt, Ev.w_ge, Ev.w_eqi, Ev.w_nei, Ev.w_neb, Ev.w_eqb, Ev.y_int, Ev.y_bl, Ev.y_tup, Ev.it_tup, Ev.z_slc2, Ev.mup_same, Ev.mup_mup, Ev.isPt, Ev.z_ii, Ev.z_bi, Ev.z_ib, Ev.z_ll, Ev.z_lt, Ev.z_tt, Ev.z_tl, Ev.z_cc, Ev.isiOk, Ev.Tgs.len, Ev.wipe, t.g_MOST_BEGIN, e1]
  intro D hD
  refine cmpL_map u nI (fun _ => .bl true) hD (Nat.le_trans hl (by decide)) (fun _ _ => trivial) (fun x hx M1 K e yes => ?_) fun M1 e hM => ?_
  · simp [Ev.setAll, Ev.wpSs, Ev.wpS, Ev.wpE, Ev.wpEs, Ev.wpI, Ev.wpIfs, Ev.wpTg, Ev.wpTgs, Ev.t_bl, Ev.t_int, Ev.t_tup, Ev.t_non, Ev.t_fl, Ev.r_val, Ev.r_new, Ev.o_lst, Ev.o_set, Ev.s_tup, Ev.s_fl, Ev.s_ref, Ev.l_fl, Ev.i_tup, Ev.a_0, Ev.a_1, Ev.a_2, Ev.a_3, Ev.a_4, Ev.a_nat, Ev.b_len, Ev.b_abs, Ev.b_max, Ev.b_min, Ev.b_int, Ev.b_inb, Ev.n_tup, Ev.d_add, Ev.d_sub, Ev.c_lt, Ev.c_le, Ev.c_gt, Ev.c_ge, Ev.w_lt, Ev.w_le, Ev.w_gt, Ev.w_ge, Ev.w_eqi, Ev.w_nei, Ev.w_neb, Ev.w_eqb, Ev.y_int, Ev.y_bl, Ev.y_tup, Ev.it_tup, Ev.z_slc2, Ev.mup_same, Ev.mup_mup, Ev.isPt, Ev.z_ii, Ev.z_bi, Ev.z_ib, Ev.z_ll, Ev.z_lt, Ev.z_tt, Ev.z_tl, Ev.z_cc, Ev.isiOk, Ev.Tgs.len, Ev.wipe, nI]
    refine w_is_count h ?_
    have := hu x hx
    simp [Ev.setAll, Ev.wpSs, Ev.wpS, Ev.wpE, Ev.wpEs, Ev.wpI, Ev.wpIfs, Ev.wpTg, Ev.wpTgs, Ev.t_bl, Ev.t_int, Ev.t_tup, Ev.t_non, Ev.t_fl, Ev.r_val, Ev.r_new, Ev.o_lst, Ev.o_set, Ev.s_tup, Ev.s_fl, Ev.s_ref, Ev.l_fl, Ev.i_tup, Ev.a_0, Ev.a_1, Ev.a_2, Ev.a_3, Ev.a_4, Ev.a_nat, Ev.b_len, Ev.b_abs, Ev.b_max, Ev.b_min, Ev.b_int, Ev.b_inb, Ev.n_tup, Ev.d_add, Ev.d_sub, Ev.c_lt, Ev.c_le, Ev.c_gt, Ev.c_ge, Ev.w_lt, Ev.w_le, Ev.w_gt, Ev.w_ge, Ev.w_eqi, Ev.w_nei, Ev.w_neb, Ev.w_eqb, Ev.y_int, Ev.y_bl, Ev.y_tup, Ev.it_tup, Ev.z_slc2, Ev.mup_same, Ev.mup_mup, Ev.isPt, Ev.z_ii, Ev.z_bi, Ev.z_ib, Ev.z_ll, Ev.z_lt, Ev.z_tt, Ev.z_tl, Ev.z_cc, Ev.isiOk, Ev.Tgs.len, Ev.wipe, this]
    exact yes _ Ext.refl
  · have h1 := b_all (bs := u.map fun _ => true) (l_ref (M := M1) (a := D) (by rw [hM, List.map_map]; rfl))
    have e4 : ((u.map fun _ => true).all id) = true := by simp
    simp [Ev.setAll, Ev.wpSs, Ev.wpS, Ev.wpE, Ev.wpEs, Ev.wpI, Ev.wpIfs, Ev.wpTg, Ev.wpTgs, Ev.t_bl, Ev.t_int, Ev.t_tup, Ev.t_non, Ev.t_fl, Ev.r_val, Ev.r_new, Ev.o_lst, Ev.o_set, Ev.s_tup, Ev.s_fl, Ev.s_ref, Ev.l_fl, Ev.i_tup, Ev.a_0, Ev.a_1, Ev.a_2, Ev.a_3, Ev.a_4, Ev.a_nat, Ev.b_len, Ev.b_abs, Ev.b_max, Ev.b_min, Ev.b_int, Ev.b_inb, Ev.n_tup, Ev.d_add, Ev.d_sub, Ev.c_lt, Ev.c_le, Ev.c_gt, Ev.c_ge, Ev.w_lt, Ev.w_le, Ev.w_gt, Ev.w_ge, Ev.w_eqi, Ev.w_nei, Ev.w_neb, Ev.w_eqb, Ev.y_int, Ev.y_bl, Ev.y_tup, Ev.it_tup, Ev.z_slc2, Ev.mup_same, Ev.mup_mup, Ev.isPt, Ev.z_ii, Ev.z_bi, Ev.z_ib, Ev.z_ll, Ev.z_lt, Ev.z_tt, Ev.z_tl, Ev.z_cc, Ev.isiOk, Ev.Tgs.len, Ev.wipe, h1, e4, q _ e]
theorem w_is_row_of (h : FOk F) (t : TOk T) {L : Nat} {r : Row} {M : MH} {Q : PV → MH → Prop} (ok : RowOk L r) (q : ∀ M', Ext M M' → Q (.bl true) M') : Cn T F (k + 4) i_is_row_of [.int L, rP r] M Q := by
  refine cn_of h.h_is_row_of rfl ?_
  simp only [f_is_row_of, rP]
  simp [Ev.setAll, Ev.wpSs, Ev.wpS, Ev.wpE, Ev.wpEs, Ev.wpI, Ev.wpIfs, Ev.wpTg, Ev.wpTgs, Ev.t_bl, Ev.t_int, Ev.t_tup, Ev.t_non, Ev.t_fl, Ev.r_val, Ev.r_new, Ev.o_lst, Ev.o_set, Ev.s_tup, Ev.s_fl, Ev.s_ref, Ev.l_fl, Ev.i_tup, Ev.a_0, Ev.a_1, Ev.a_2, Ev.a_3, Ev.a_4, Ev.a_nat, Ev.b_len, Ev.b_abs, Ev.b_max, Ev.b_min, Ev.b_int, Ev.b_inb, Ev.n_tup, Ev.d_add, Ev.d_sub, Ev.c_lt, Ev.c_le, Ev.c_gt, Ev.c_ge, Ev.w_lt, Ev.w_le, Ev.w_gt, Ev.w_ge, Ev.w_eqi, Ev.w_nei, Ev.w_neb, Ev.w_eqb, Ev.y_int, Ev.y_bl, Ev.y_tup, Ev.it_tup, Ev.z_slc2, Ev.mup_same, Ev.mup_mup, Ev.isPt, Ev.z_ii, Ev.z_bi, Ev.z_ib, Ev.z_ll, Ev.z_lt, Ev.z_tt, Ev.z_tl, Ev.z_cc, Ev.isiOk, Ev.Tgs.len, Ev.wipe]
  refine w_are_letters h t ok.b ok.bl fun M1 e1 => ?_
  simp [Ev.setAll, Ev.wpSs, Ev.wpS, Ev.wpE, Ev.wpEs, Ev.wpI, Ev.wpIfs, Ev.wpTg, Ev.wpTgs, Ev.t_bl, Ev.t_int, Ev.t_tup, Ev.t_non, Ev.t_fl, Ev.r_val, Ev.r_new, Ev.o_lst, Ev.o_set, Ev.s_tup, Ev.s_fl, Ev.s_ref, Ev.l_fl, Ev.i_tup, Ev.a_0, Ev.a_1, Ev.a_2, Ev.a_3, Ev.a_4, Ev.a_nat, Ev.b_len, Ev.b_abs, Ev.b_max, Ev.b_min, Ev.b_int, Ev.b_inb, Ev.n_tup, Ev.d_add, Ev.d_sub, Ev.c_lt, Ev.c_le, Ev.c_gt, Ev.c_ge, Ev.w_lt, Ev.w_le, Ev.w_gt, Ev.w_ge, Ev.w_eqi, Ev.w_nei, Ev.w_neb, Ev.w_eqb, Ev.y_int, Ev.y_bl, Ev.y_tup, Ev.it_tup, Ev.z_slc2, Ev.mup_same, Ev.mup_mup, Ev.isPt, Ev.z_ii, Ev.z_bi, Ev.z_ib, Ev.z_ll, Ev.z_lt, Ev.z_tt, Ev.z_tl, Ev.z_cc, Ev.isiOk, Ev.Tgs.len, Ev.wipe]
  refine w_are_letters h t ok.a ok.al fun M2 e2 => ?_
  have := enc_nat.eqT (M := M2) (l := r.2) (m := [])
  rw [List.map_nil] at this
  have z : uP r.2 = .tup (r.2.map nI) := rfl
  have ne := ok.ne
  simp [Ev.setAll, Ev.wpSs, Ev.wpS, Ev.wpE, Ev.wpEs, Ev.wpI, Ev.wpIfs, Ev.wpTg, Ev.wpTgs, Ev.t_bl, Ev.t_int, Ev.t_tup, Ev.t_non, Ev.t_fl, Ev.r_val, Ev.r_new, Ev.o_lst, Ev.o_set, Ev.s_tup, Ev.s_fl, Ev.s_ref, Ev.l_fl, Ev.i_tup, Ev.a_0, Ev.a_1, Ev.a_2, Ev.a_3, Ev.a_4, Ev.a_nat, Ev.b_len, Ev.b_abs, Ev.b_max, Ev.b_min, Ev.b_int, Ev.b_inb, Ev.n_tup, Ev.d_add, Ev.d_sub, Ev.c_lt, Ev.c_le, Ev.c_gt, Ev.c_ge, Ev.w_lt, Ev.w_le, Ev.w_gt, Ev.w_ge, Ev.w_eqi, Ev.w_nei, Ev.w_neb, Ev.w_eqb, Ev.y_int, Ev.y_bl, Ev.y_tup, Ev.it_tup, Ev.z_slc2, Ev.mup_same, Ev.mup_mup, Ev.isPt, Ev.z_ii, Ev.z_bi, Ev.z_ib, Ev.z_ll, Ev.z_lt, Ev.z_tt, Ev.z_tl, Ev.z_cc, Ev.isiOk, Ev.Tgs.len, Ev.wipe, z, Ev.w_ne rfl this, ne]
  exact q _ (e1.trans e2)
theorem w_want_row (h : FOk F) (t : TOk T) {L : Nat} {r : Row} {M : MH} {Q : PV → MH → Prop} (ok : RowOk L r) (q : ∀ M', Ext M M' → Q (rP r) M') : Cn T F (k + 5) i_want_row [.int L, rP r] M Q := by
  refine cn_of h.h_want_row rfl ?_
  simp only [f_want_row]
  simp [Ev.setAll, Ev.wpSs, Ev.wpS, Ev.wpE, Ev.wpEs, Ev.wpI, Ev.wpIfs, Ev.wpTg, Ev.wpTgs, Ev.t_bl, Ev.t_int, Ev.t_tup, Ev.t_non, Ev.t_fl, Ev.r_val, Ev.r_new, Ev.o_lst, Ev.o_set, Ev.s_tup, Ev.s_fl, Ev.s_ref, Ev.l_fl, Ev.i_tup, Ev.a_0, Ev.a_1, Ev.a_2, Ev.a_3, Ev.a_4, Ev.a_nat, Ev.b_len, Ev.b_abs, Ev.b_max, Ev.b_min, Ev.b_int, Ev.b_inb, Ev.n_tup, Ev.d_add, Ev.d_sub, Ev.c_lt, Ev.c_le, Ev.c_gt, Ev.c_ge, Ev.w_lt, Ev.w_le, Ev.w_gt, Ev.w_ge, Ev.w_eqi, Ev.w_nei, Ev.w_neb, Ev.w_eqb, Ev.y_int, Ev.y_bl, Ev.y_tup, Ev.it_tup, Ev.z_slc2, Ev.mup_same, Ev.mup_mup, Ev.isPt, Ev.z_ii, Ev.z_bi, Ev.z_ib, Ev.z_ll, Ev.z_lt, Ev.z_tt, Ev.z_tl, Ev.z_cc, Ev.isiOk, Ev.Tgs.len, Ev.wipe]
  refine w_is_row_of h t ok fun M1 e1 => ?_
  simp [Ev.setAll, Ev.wpSs, Ev.wpS, Ev.wpE, Ev.wpEs, Ev.wpI, Ev.wpIfs, Ev.wpTg, Ev.wpTgs, Ev.t_bl, Ev.t_int, Ev.t_tup, Ev.t_non, Ev.t_fl, Ev.r_val, Ev.r_new, Ev.o_lst, Ev.o_set, Ev.s_tup, Ev.s_fl, Ev.s_ref, Ev.l_fl, Ev.i_tup, Ev.a_0, Ev.a_1, Ev.a_2, Ev.a_3, Ev.a_4, Ev.a_nat, Ev.b_len, Ev.b_abs, Ev.b_max, Ev.b_min, Ev.b_int, Ev.b_inb, Ev.n_tup, Ev.d_add, Ev.d_sub, Ev.c_lt, Ev.c_le, Ev.c_gt, Ev.c_ge, Ev.w_lt, Ev.w_le, Ev.w_gt, Ev.w_ge, Ev.w_eqi, Ev.w_nei, Ev.w_neb, Ev.w_eqb, Ev.y_int, Ev.y_bl, Ev.y_tup, Ev.it_tup, Ev.z_slc2, Ev.mup_same, Ev.mup_mup, Ev.isPt, Ev.z_ii, Ev.z_bi, Ev.z_ib, Ev.z_ll, Ev.z_lt, Ev.z_tt, Ev.z_tl, Ev.z_cc, Ev.isiOk, Ev.Tgs.len, Ev.wipe]
  exact q _ e1
/-! rooms by letters -/
theorem mem_ixs {ws : List Way} {r l i : Nat} : i ∈ ixs ws r l ↔ ∃ w, ws[i]? = some w ∧ w.1 = r ∧ w.2.1 = l := by
  unfold ixs
  rw [List.mem_filter, List.mem_range]
  unfold atP
  constructor
  · rintro ⟨h1, h2⟩
    rw [List.getElem?_eq_getElem h1] at h2
    refine ⟨_, List.getElem?_eq_getElem h1, by simpa using h2⟩
  · rintro ⟨w, h1, h2, h3⟩
    rw [h1]
    exact ⟨(List.getElem?_eq_some_iff.mp h1).1, by simp [h2, h3]⟩
def viaI {S : Type} (ws : List Way) (G : S → Way → S) (s : S) (i : Nat) : S := match ws[i]? with
  | some w => G s w
  | none => s
theorem viaI_some {S : Type} {ws : List Way} {G : S → Way → S} {s : S} {i : Nat} {w : Way} (h : ws[i]? = some w) : viaI ws G s i = G s w := by
  unfold viaI
  rw [h]
def viaO {S : Type} (G : S → Way → S) (s : S) : Option Way → S
  | some w => G s w
  | none => s
theorem fold_ixs {S : Type} {ws : List Way} {r l : Nat} (G : S → Way → S) (s : S) : (ixs ws r l).foldl (viaI ws G) s = (byW ws r l).foldl G s := by
  have h1 : ∀ (is : List Nat) (s : S), is.foldl (viaI ws G) s = (is.map fun i => ws[i]?).foldl (viaO G) s := fun is => by
    induction is with
    | nil => intro s; rfl
    | cons i is ih =>
      intro s
      rw [List.map_cons, List.foldl_cons, List.foldl_cons, ih]
      congr 1
  have h2 : ∀ (vs : List Way) (s : S), (vs.map some).foldl (viaO G) s = vs.foldl G s := fun vs => by
    induction vs with
    | nil => intro s; rfl
    | cons i is ih => intro s; rw [List.map_cons, List.foldl_cons, List.foldl_cons]; exact ih _
  rw [h1, ixs_map, h2]
/-- reader.own_by[(room, letter)] -/
theorem Rdr.idx {M : MH} {v : PV} {L R : Nat} {ws : List Way} (h : Rdr M v L R ws) (ok : ROk L R ws) (t : TOk T) : ∃ d, (∀ {C : CT} {Q : PV → MH → Prop}, wpFld T C v "own_by" M Q = Q (.ref d) M) ∧ ∀ r l : Nat, r < R → l < L → idxR M (.ref d) (.tup [.int r, .int l]) = some (.tup ((ixs ws r l).map nI)) := by
  obtain ⟨a, d, kvs, rfl, h2, h3, h4⟩ := h
  refine ⟨d, fun {C Q} => x_fld h2 rfl t.fld_Reader_own_by, fun r l hr hl => ?_⟩
  have : idxR M (.ref d) (nP (r, l)) = dget kvs (nP (r, l)) := i_dct h3 (fit_pair h4.tup (r, l))
  obtain ⟨q, s, hq⟩ := ok.ex r l hr hl
  obtain ⟨i, hi⟩ := List.mem_iff_getElem?.mp hq
  have hm : i ∈ ixs ws r l := mem_ixs.mpr ⟨_, hi, rfl, rfl⟩
  have e := h4.get r l
  rw [if_neg (List.ne_nil_of_mem hm)] at e
  rw [← e, ← this]
  rfl
/-- one step's rooms -/
def stR (ws : List Way) (l : Nat) (s : List Nat) (r : Nat) : List Nat := (byW ws r l).foldl (fun s w => addN s w.2.2.1) s
theorem mem_stR {ws : List Way} {l r q : Nat} : ∀ {s : List Nat}, q ∈ stR ws l s r ↔ q ∈ s ∨ Stp ws l r q := by
  have key : ∀ (vs : List Way) (s : List Nat), q ∈ vs.foldl (fun s w => addN s w.2.2.1) s ↔ q ∈ s ∨ ∃ w ∈ vs, w.2.2.1 = q := fun vs => by
    induction vs with
    | nil => simp
    | cons v vs ih =>
      intro s
      rw [List.foldl_cons, ih, mem_addN, or_assoc]
      simp only [List.mem_cons, exists_eq_or_imp]
      rw [eq_comm (a := q)]
  intro s
  unfold stR
  rw [key]
  unfold Stp
  constructor
  · rintro (h | ⟨⟨w1, w2, w3, w4⟩, hw, e⟩)
    · exact .inl h
    · obtain ⟨h1, h2, h3⟩ := mem_byW.mp hw
      dsimp only at h2 h3 e
      subst h2 h3 e
      exact .inr ⟨w4, h1⟩
  · rintro (h | ⟨s', h⟩)
    · exact .inl h
    · exact .inr ⟨_, mem_byW.mpr ⟨h, rfl, rfl⟩, rfl⟩
theorem mem_stRs {ws : List Way} {l q : Nat} : ∀ {rs s : List Nat}, q ∈ rs.foldl (stR ws l) s ↔ q ∈ s ∨ ∃ r ∈ rs, Stp ws l r q
  | [], s => by simp
  | r :: rs, s => by
    rw [List.foldl_cons, mem_stRs, mem_stR, or_assoc]
    simp only [List.mem_cons, exists_eq_or_imp]
theorem w_rooms_by (h : FOk F) (t : TOk T) {L R l : Nat} {ws : List Way} {rs : List Nat} {v u : PV} {M : MH} {Q : PV → MH → Prop} (hv : Rdr M v L R ws) (ok : ROk L R ws) (hu : seqOf M u = some (rs.map nI)) (fr : ∀ r ∈ rs, r < R) (hl : l < L)
    (q : ∀ p qs M', Ext M M' → M' p = some (.lst (qs.map nI)) → (∀ x, x ∈ qs ↔ ∃ r ∈ rs, Stp ws l r x) → Few R qs → Q (.ref p) M') : Cn T F (k + 1) i_rooms_by [v, u, .int l] M Q := by
  refine cn_of h.h_rooms_by rfl ?_
  simp only [f_rooms_by]
  simp [Ev.setAll, Ev.wpSs, Ev.wpS, Ev.wpE, Ev.wpEs, Ev.wpI, Ev.wpIfs, Ev.wpTg, Ev.wpTgs, Ev.t_bl, Ev.t_int, Ev.t_tup, Ev.t_non, Ev.t_fl, Ev.r_val, Ev.r_new, Ev.o_lst, Ev.o_set, Ev.s_tup, Ev.s_fl, Ev.s_ref, Ev.l_fl, Ev.i_tup, Ev.a_0, Ev.a_1, Ev.a_2, Ev.a_3, Ev.a_4, Ev.a_nat, Ev.b_len, Ev.b_abs, Ev.b_max, Ev.b_min, Ev.b_int, Ev.b_inb, Ev.n_tup, Ev.d_add, Ev.d_sub, Ev.c_lt, Ev.c_le, Ev.c_gt, Ev.c_ge, Ev.w_lt, Ev.w_le, Ev.w_gt, Ev.w_ge, Ev.w_eqi, Ev.w_nei, Ev.w_neb, Ev.w_eqb, Ev.y_int, Ev.y_bl, Ev.y_tup, Ev.it_tup, Ev.z_slc2, Ev.mup_same, Ev.mup_mup, Ev.isPt, Ev.z_ii, Ev.z_bi, Ev.z_ib, Ev.z_ll, Ev.z_lt, Ev.z_tt, Ev.z_tl, Ev.z_cc, Ev.isiOk, Ev.Tgs.len, Ev.wipe, pairUp, mergeP]
  intro d hd
  have e0 : Ext M (mup M d (.dct [])) := Ext.new hd
  rw [seqOf_ext e0 hu]
  dsimp only
  refine forL_fold nI rs (stR ws l) (s0 := []) (fun s σ M1 => (∃ x y, σ = [some v, some u, some (.int l), some (.ref d), x, y]) ∧ Ext M M1 ∧ M1 d = some (.dct (s.map (kT nI))) ∧ Few R s) (fun s σ M1 h => ?_) (fun s r σ M1 K p q' hpq hs h1 hk => ?_) (fun σ M1 h1 => ?_) ⟨⟨none, none, rfl⟩, e0, mup_same, Few.nil⟩
  · exact seq_stays e0 h.2.1 hu
  · obtain ⟨⟨x, y, rfl⟩, e, hM, fw⟩ := h1
    obtain ⟨b, hb, hix⟩ := (hv.ext e).idx ok t
    have hr : r < R := fr r (by rw [hpq]; simp)
    simp [Ev.setAll, Ev.wpSs, Ev.wpS, Ev.wpE, Ev.wpEs, Ev.wpI, Ev.wpIfs, Ev.wpTg, Ev.wpTgs, Ev.t_bl, Ev.t_int, Ev.t_tup, Ev.t_non, Ev.t_fl, Ev.r_val, Ev.r_new, Ev.o_lst, Ev.o_set, Ev.s_tup, Ev.s_fl, Ev.s_ref, Ev.l_fl, Ev.i_tup, Ev.a_0, Ev.a_1, Ev.a_2, Ev.a_3, Ev.a_4, Ev.a_nat, Ev.b_len, Ev.b_abs, Ev.b_max, Ev.b_min, Ev.b_int, Ev.b_inb, Ev.n_tup, Ev.d_add, Ev.d_sub, Ev.c_lt, Ev.c_le, Ev.c_gt, Ev.c_ge, Ev.w_lt, Ev.w_le, Ev.w_gt, Ev.w_ge, Ev.w_eqi, Ev.w_nei, Ev.w_neb, Ev.w_eqb, Ev.y_int, Ev.y_bl, Ev.y_tup, Ev.it_tup, Ev.z_slc2, Ev.mup_same, Ev.mup_mup, Ev.isPt, Ev.z_ii, Ev.z_bi, Ev.z_ib, Ev.z_ll, Ev.z_lt, Ev.z_tt, Ev.z_tl, Ev.z_cc, Ev.isiOk, Ev.Tgs.len, Ev.wipe, hb, nI, hix r l hr hl]
    refine ⟨by decide, ?_⟩
    refine forL_fold nI (ixs ws r l) (viaI ws fun s w => addN s w.2.2.1) (s0 := s) (fun s σ M1 => (∃ x y, σ = [some v, some u, some (.int l), some (.ref d), x, y]) ∧ Ext M M1 ∧ M1 d = some (.dct (s.map (kT nI))) ∧ Few R s) (fun s σ M1 h => trivial) (fun s i σ M1 K p2 q2 hpq2 hs2 h1 hk => ?_) (fun σ M1 h1 => ?_) ⟨⟨_, _, rfl⟩, e, hM, fw⟩
    · obtain ⟨⟨x, y, rfl⟩, e, hM, fw⟩ := h1
      obtain ⟨w, hw, -⟩ := mem_ixs.mp (show i ∈ ixs ws r l by rw [hpq2]; simp)
      have hw' : (ws.map wp)[i]? = some (wp w) := by rw [List.getElem?_map, hw]; rfl
      have sz : s.length < sizeLine := by
        have := fw.len
        have := ok.r12
        have : 12 < sizeLine := by decide
        omega
      have hq := (ok.bd w (List.mem_of_getElem? hw)).2.2.1
      rw [viaI_some hw] at hk
      simp [Ev.setAll, Ev.wpSs, Ev.wpS, Ev.wpE, Ev.wpEs, Ev.wpI, Ev.wpIfs, Ev.wpTg, Ev.wpTgs, Ev.t_bl, Ev.t_int, Ev.t_tup, Ev.t_non, Ev.t_fl, Ev.r_val, Ev.r_new, Ev.o_lst, Ev.o_set, Ev.s_tup, Ev.s_fl, Ev.s_ref, Ev.l_fl, Ev.i_tup, Ev.a_0, Ev.a_1, Ev.a_2, Ev.a_3, Ev.a_4, Ev.a_nat, Ev.b_len, Ev.b_abs, Ev.b_max, Ev.b_min, Ev.b_int, Ev.b_inb, Ev.n_tup, Ev.d_add, Ev.d_sub, Ev.c_lt, Ev.c_le, Ev.c_gt, Ev.c_ge, Ev.w_lt, Ev.w_le, Ev.w_gt, Ev.w_ge, Ev.w_eqi, Ev.w_nei, Ev.w_neb, Ev.w_eqb, Ev.y_int, Ev.y_bl, Ev.y_tup, Ev.it_tup, Ev.z_slc2, Ev.mup_same, Ev.mup_mup, Ev.isPt, Ev.z_ii, Ev.z_bi, Ev.z_ib, Ev.z_ll, Ev.z_lt, Ev.z_tt, Ev.z_tl, Ev.z_cc, Ev.isiOk, Ev.Tgs.len, Ev.wipe, (hv.ext e).ways t, nI, a_nat, hw', wp, p_dct hM, fit_kTn, sz]
      refine hk _ _ ⟨⟨_, _, rfl⟩, e.mup hd, ?_, fw.addN hq⟩
      rw [mup_same, ← dput_set (fun a b e => enc_nat.inj a b e)]
      rfl
    · refine hk _ _ ?_
      rw [fold_ixs] at h1
      exact h1
  · obtain ⟨⟨x, y, rfl⟩, e, hM, fw⟩ := h1
    have l1 : (rs.foldl (stR ws l) []).length ≤ sizeLine := Nat.le_trans fw.len (Nat.le_trans ok.r12 (by decide))
    have l2 : (sN (rs.foldl (stR ws l) [])).length ≤ sizeLine := by rw [(sN_perm _).length_eq]; exact l1
    have hk : itemsOf M1 (.ref d) = some ((rs.foldl (stR ws l) []).map nI) := by rw [it_dct hM, kT_keys]
    simp [Ev.setAll, Ev.wpSs, Ev.wpS, Ev.wpE, Ev.wpEs, Ev.wpI, Ev.wpIfs, Ev.wpTg, Ev.wpTgs, Ev.t_bl, Ev.t_int, Ev.t_tup, Ev.t_non, Ev.t_fl, Ev.r_val, Ev.r_new, Ev.o_lst, Ev.o_set, Ev.s_tup, Ev.s_fl, Ev.s_ref, Ev.l_fl, Ev.i_tup, Ev.a_0, Ev.a_1, Ev.a_2, Ev.a_3, Ev.a_4, Ev.a_nat, Ev.b_len, Ev.b_abs, Ev.b_max, Ev.b_min, Ev.b_int, Ev.b_inb, Ev.n_tup, Ev.d_add, Ev.d_sub, Ev.c_lt, Ev.c_le, Ev.c_gt, Ev.c_ge, Ev.w_lt, Ev.w_le, Ev.w_gt, Ev.w_ge, Ev.w_eqi, Ev.w_nei, Ev.w_neb, Ev.w_eqb, Ev.y_int, Ev.y_bl, Ev.y_tup, Ev.it_tup, Ev.z_slc2, Ev.mup_same, Ev.mup_mup, Ev.isPt, Ev.z_ii, Ev.z_bi, Ev.z_ib, Ev.z_ll, Ev.z_lt, Ev.z_tt, Ev.z_tl, Ev.z_cc, Ev.isiOk, Ev.Tgs.len, Ev.wipe, b_list hk, l1]
    intro p hp
    have e2 := Ext.new (o := .lst ((rs.foldl (stR ws l) []).map nI)) hp
    have b2 := b_sortN (l_ref (M := mup M1 p (.lst ((rs.foldl (stR ws l) []).map nI))) (a := p) mup_same)
    generalize mup M1 p (.lst ((rs.foldl (stR ws l) []).map nI)) = M2 at *
    simp [Ev.setAll, Ev.wpSs, Ev.wpS, Ev.wpE, Ev.wpEs, Ev.wpI, Ev.wpIfs, Ev.wpTg, Ev.wpTgs, Ev.t_bl, Ev.t_int, Ev.t_tup, Ev.t_non, Ev.t_fl, Ev.r_val, Ev.r_new, Ev.o_lst, Ev.o_set, Ev.s_tup, Ev.s_fl, Ev.s_ref, Ev.l_fl, Ev.i_tup, Ev.a_0, Ev.a_1, Ev.a_2, Ev.a_3, Ev.a_4, Ev.a_nat, Ev.b_len, Ev.b_abs, Ev.b_max, Ev.b_min, Ev.b_int, Ev.b_inb, Ev.n_tup, Ev.d_add, Ev.d_sub, Ev.c_lt, Ev.c_le, Ev.c_gt, Ev.c_ge, Ev.w_lt, Ev.w_le, Ev.w_gt, Ev.w_ge, Ev.w_eqi, Ev.w_nei, Ev.w_neb, Ev.w_eqb, Ev.y_int, Ev.y_bl, Ev.y_tup, Ev.it_tup, Ev.z_slc2, Ev.mup_same, Ev.mup_mup, Ev.isPt, Ev.z_ii, Ev.z_bi, Ev.z_ib, Ev.z_ll, Ev.z_lt, Ev.z_tt, Ev.z_tl, Ev.z_cc, Ev.isiOk, Ev.Tgs.len, Ev.wipe, b2, l2]
    intro p3 hp3
    exact q _ _ _ ((e.trans e2).trans (Ext.new hp3)) mup_same (fun x => by rw [mem_sN, mem_stRs]; simp) fw.sort
end Rv
end

section
/-! We: whether a row is let by. -/
namespace Rv
open PySem Ev
def stC (ws : List Way) (l : Nat) (s : List Nat) (r : Nat) : List Nat := (byW ws r l).foldl (fun s w => if w.2.2.2 = 1 then s else addN s w.2.2.1) s
theorem mem_stC {ws : List Way} (b : ∀ w ∈ ws, w.2.2.2 < 2) {l r q : Nat} : ∀ {s : List Nat}, q ∈ stC ws l s r ↔ q ∈ s ∨ Cln ws l r q := by
  have key : ∀ (vs : List Way) (s : List Nat), q ∈ vs.foldl (fun s w => if w.2.2.2 = 1 then s else addN s w.2.2.1) s ↔ q ∈ s ∨ ∃ w ∈ vs, w.2.2.1 = q ∧ w.2.2.2 ≠ 1 := fun vs => by
    induction vs with
    | nil => simp
    | cons v vs ih =>
      intro s
      rw [List.foldl_cons, ih]
      by_cases e : v.2.2.2 = 1
      · rw [if_pos e]
        simp [e]
      · rw [if_neg e, mem_addN, or_assoc]
        simp only [List.mem_cons, exists_eq_or_imp]
        rw [eq_comm (a := q)]
        simp [e]
  intro s
  unfold stC
  rw [key]
  unfold Cln
  constructor
  · rintro (h | ⟨⟨w1, w2, w3, w4⟩, hw, e, ne⟩)
    · exact .inl h
    · obtain ⟨h1, h2, h3⟩ := mem_byW.mp hw
      have := b _ h1
      dsimp only at h2 h3 e ne this
      have : w4 = 0 := by omega
      subst h2 h3 e this
      exact .inr h1
  · rintro (h | h)
    · exact .inl h
    · exact .inr ⟨_, mem_byW.mpr ⟨h, rfl, rfl⟩, rfl, by show (0 : Nat) ≠ 1; decide⟩
theorem mem_stCs {ws : List Way} (b : ∀ w ∈ ws, w.2.2.2 < 2) {l q : Nat} : ∀ {rs s : List Nat}, q ∈ rs.foldl (stC ws l) s ↔ q ∈ s ∨ ∃ r ∈ rs, Cln ws l r q
  | [], s => by simp
  | r :: rs, s => by
    rw [List.foldl_cons, mem_stCs b, mem_stC b, or_assoc]
    simp only [List.mem_cons, exists_eq_or_imp]
variable {T : Tab} {F : Nat → Option Fn} {k : Nat}
theorem w_clean_rooms_by (h : FOk F) (t : TOk T) {L R l : Nat} {ws : List Way} {rs : List Nat} {v u : PV} {M : MH} {Q : PV → MH → Prop} (hv : Rdr M v L R ws) (ok : ROk L R ws) (hu : seqOf M u = some (rs.map nI)) (fr : ∀ r ∈ rs, r < R) (hl : l < L)
    (q : ∀ p qs M', Ext M M' → M' p = some (.lst (qs.map nI)) → (∀ x, x ∈ qs ↔ ∃ r ∈ rs, Cln ws l r x) → Few R qs → Q (.ref p) M') : Cn T F (k + 1) i_clean_rooms_by [v, u, .int l] M Q := by
  refine cn_of h.h_clean_rooms_by rfl ?_
  simp only [f_clean_rooms_by]
  simp [Ev.setAll, Ev.wpSs, Ev.wpS, Ev.wpE, Ev.wpEs, Ev.wpI, Ev.wpIfs, Ev.wpTg, Ev.wpTgs, Ev.t_bl, Ev.t_int, Ev.t_tup, Ev.t_non, Ev.t_fl, Ev.r_val, Ev.r_new, Ev.o_lst, Ev.o_set, Ev.s_tup, Ev.s_fl, Ev.s_ref, Ev.l_fl, Ev.i_tup, Ev.a_0, Ev.a_1, Ev.a_2, Ev.a_3, Ev.a_4, Ev.a_nat, Ev.b_len, Ev.b_abs, Ev.b_max, Ev.b_min, Ev.b_int, Ev.b_inb, Ev.n_tup, Ev.d_add, Ev.d_sub, Ev.c_lt, Ev.c_le, Ev.c_gt, Ev.c_ge, Ev.w_lt, Ev.w_le, Ev.w_gt, Ev.w_ge, Ev.w_eqi, Ev.w_nei, Ev.w_neb, Ev.w_eqb, Ev.y_int, Ev.y_bl, Ev.y_tup, Ev.it_tup, Ev.z_slc2, Ev.mup_same, Ev.mup_mup, Ev.isPt, Ev.z_ii, Ev.z_bi, Ev.z_ib, Ev.z_ll, Ev.z_lt, Ev.z_tt, Ev.z_tl, Ev.z_cc, Ev.isiOk, Ev.Tgs.len, Ev.wipe, pairUp, mergeP]
  intro d hd
  have e0 : Ext M (mup M d (.dct [])) := Ext.new hd
  rw [seqOf_ext e0 hu]
  dsimp only
  refine forL_fold nI rs (stC ws l) (s0 := []) (fun s σ M1 => (∃ x y, σ = [some v, some u, some (.int l), some (.ref d), x, y]) ∧ Ext M M1 ∧ M1 d = some (.dct (s.map (kT nI))) ∧ Few R s) (fun s σ M1 h => ?_) (fun s r σ M1 K p q' hpq hs h1 hk => ?_) (fun σ M1 h1 => ?_) ⟨⟨none, none, rfl⟩, e0, mup_same, Few.nil⟩
  · exact seq_stays e0 h.2.1 hu
  · obtain ⟨⟨x, y, rfl⟩, e, hM, fw⟩ := h1
    obtain ⟨b, hb, hix⟩ := (hv.ext e).idx ok t
    have hr : r < R := fr r (by rw [hpq]; simp)
    simp [Ev.setAll, Ev.wpSs, Ev.wpS, Ev.wpE, Ev.wpEs, Ev.wpI, Ev.wpIfs, Ev.wpTg, Ev.wpTgs, Ev.t_bl, Ev.t_int, Ev.t_tup, Ev.t_non, Ev.t_fl, Ev.r_val, Ev.r_new, Ev.o_lst, Ev.o_set, Ev.s_tup, Ev.s_fl, Ev.s_ref, Ev.l_fl, Ev.i_tup, Ev.a_0, Ev.a_1, Ev.a_2, Ev.a_3, Ev.a_4, Ev.a_nat, Ev.b_len, Ev.b_abs, Ev.b_max, Ev.b_min, Ev.b_int, Ev.b_inb, Ev.n_tup, Ev.d_add, Ev.d_sub, Ev.c_lt, Ev.c_le, Ev.c_gt, Ev.c_ge, Ev.w_lt, Ev.w_le, Ev.w_gt, Ev.w_ge, Ev.w_eqi, Ev.w_nei, Ev.w_neb, Ev.w_eqb, Ev.y_int, Ev.y_bl, Ev.y_tup, Ev.it_tup, Ev.z_slc2, Ev.mup_same, Ev.mup_mup, Ev.isPt, Ev.z_ii, Ev.z_bi, Ev.z_ib, Ev.z_ll, Ev.z_lt, Ev.z_tt, Ev.z_tl, Ev.z_cc, Ev.isiOk, Ev.Tgs.len, Ev.wipe, hb, nI, hix r l hr hl]
    refine ⟨by decide, ?_⟩
    refine forL_fold nI (ixs ws r l) (viaI ws fun s w => if w.2.2.2 = 1 then s else addN s w.2.2.1) (s0 := s) (fun s σ M1 => (∃ x y, σ = [some v, some u, some (.int l), some (.ref d), x, y]) ∧ Ext M M1 ∧ M1 d = some (.dct (s.map (kT nI))) ∧ Few R s) (fun s σ M1 h => trivial) (fun s i σ M1 K p2 q2 hpq2 hs2 h1 hk => ?_) (fun σ M1 h1 => ?_) ⟨⟨_, _, rfl⟩, e, hM, fw⟩
    · obtain ⟨⟨x, y, rfl⟩, e, hM, fw⟩ := h1
      obtain ⟨w, hw, -⟩ := mem_ixs.mp (show i ∈ ixs ws r l by rw [hpq2]; simp)
      have hw' : (ws.map wp)[i]? = some (wp w) := by rw [List.getElem?_map, hw]; rfl
      have sz : s.length < sizeLine := by
        have := fw.len
        have := ok.r12
        have : 12 < sizeLine := by decide
        omega
      have hq := (ok.bd w (List.mem_of_getElem? hw)).2.2.1
      rw [viaI_some hw] at hk
      by_cases sl : w.2.2.2 = 1
      · have sl' : ((w.2.2.2 : Nat) : Int) = 1 := by omega
        simp [Ev.setAll, Ev.wpSs, Ev.wpS, Ev.wpE, Ev.wpEs, Ev.wpI, Ev.wpIfs, Ev.wpTg, Ev.wpTgs, Ev.t_bl, Ev.t_int, Ev.t_tup, Ev.t_non, Ev.t_fl, Ev.r_val, Ev.r_new, Ev.o_lst, Ev.o_set, Ev.s_tup, Ev.s_fl, Ev.s_ref, Ev.l_fl, Ev.i_tup, Ev.a_0, Ev.a_1, Ev.a_2, Ev.a_3, Ev.a_4, Ev.a_nat, Ev.b_len, Ev.b_abs, Ev.b_max, Ev.b_min, Ev.b_int, Ev.b_inb, Ev.n_tup, Ev.d_add, Ev.d_sub, Ev.c_lt, Ev.c_le, Ev.c_gt, Ev.c_ge, Ev.w_lt, Ev.w_le, Ev.w_gt, Ev.w_ge, Ev.w_eqi, Ev.w_nei, Ev.w_neb, Ev.w_eqb, Ev.y_int, Ev.y_bl, Ev.y_tup, Ev.it_tup, Ev.z_slc2, Ev.mup_same, Ev.mup_mup, Ev.isPt, Ev.z_ii, Ev.z_bi, Ev.z_ib, Ev.z_ll, Ev.z_lt, Ev.z_tt, Ev.z_tl, Ev.z_cc, Ev.isiOk, Ev.Tgs.len, Ev.wipe, (hv.ext e).ways t, nI, a_nat, hw', wp, t.g_SLIP, sl']
        refine hk _ _ ⟨⟨_, _, rfl⟩, e, ?_, ?_⟩
        · rw [if_pos sl]
          exact hM
        · rw [if_pos sl]
          exact fw
      · have sl' : ¬ ((w.2.2.2 : Nat) : Int) = 1 := by omega
        simp [Ev.setAll, Ev.wpSs, Ev.wpS, Ev.wpE, Ev.wpEs, Ev.wpI, Ev.wpIfs, Ev.wpTg, Ev.wpTgs, Ev.t_bl, Ev.t_int, Ev.t_tup, Ev.t_non, Ev.t_fl, Ev.r_val, Ev.r_new, Ev.o_lst, Ev.o_set, Ev.s_tup, Ev.s_fl, Ev.s_ref, Ev.l_fl, Ev.i_tup, Ev.a_0, Ev.a_1, Ev.a_2, Ev.a_3, Ev.a_4, Ev.a_nat, Ev.b_len, Ev.b_abs, Ev.b_max, Ev.b_min, Ev.b_int, Ev.b_inb, Ev.n_tup, Ev.d_add, Ev.d_sub, Ev.c_lt, Ev.c_le, Ev.c_gt, Ev.c_ge, Ev.w_lt, Ev.w_le, Ev.w_gt, Ev.w_ge, Ev.w_eqi, Ev.w_nei, Ev.w_neb, Ev.w_eqb, Ev.y_int, Ev.y_bl, Ev.y_tup, Ev.it_tup, Ev.z_slc2, Ev.mup_same, Ev.mup_mup, Ev.isPt, Ev.z_ii, Ev.z_bi, Ev.z_ib, Ev.z_ll, Ev.z_lt, Ev.z_tt, Ev.z_tl, Ev.z_cc, Ev.isiOk, Ev.Tgs.len, Ev.wipe, (hv.ext e).ways t, nI, a_nat, hw', wp, t.g_SLIP, sl', p_dct hM, fit_kTn, sz]
        refine hk _ _ ⟨⟨_, _, rfl⟩, e.mup hd, ?_, ?_⟩
        · rw [if_neg sl, mup_same, ← dput_set (fun a b e => enc_nat.inj a b e)]
          rfl
        · rw [if_neg sl]
          exact fw.addN hq
    · refine hk _ _ ?_
      rw [fold_ixs] at h1
      exact h1
  · obtain ⟨⟨x, y, rfl⟩, e, hM, fw⟩ := h1
    have l1 : (rs.foldl (stC ws l) []).length ≤ sizeLine := Nat.le_trans fw.len (Nat.le_trans ok.r12 (by decide))
    have l2 : (sN (rs.foldl (stC ws l) [])).length ≤ sizeLine := by rw [(sN_perm _).length_eq]; exact l1
    have hk : itemsOf M1 (.ref d) = some ((rs.foldl (stC ws l) []).map nI) := by rw [it_dct hM, kT_keys]
    simp [Ev.setAll, Ev.wpSs, Ev.wpS, Ev.wpE, Ev.wpEs, Ev.wpI, Ev.wpIfs, Ev.wpTg, Ev.wpTgs, Ev.t_bl, Ev.t_int, Ev.t_tup, Ev.t_non, Ev.t_fl, Ev.r_val, Ev.r_new, Ev.o_lst, Ev.o_set, Ev.s_tup, Ev.s_fl, Ev.s_ref, Ev.l_fl, Ev.i_tup, Ev.a_0, Ev.a_1, Ev.a_2, Ev.a_3, Ev.a_4, Ev.a_nat, Ev.b_len, Ev.b_abs, Ev.b_max, Ev.b_min, Ev.b_int, Ev.b_inb, Ev.n_tup, Ev.d_add, Ev.d_sub, Ev.c_lt, Ev.c_le, Ev.c_gt, Ev.c_ge, Ev.w_lt, Ev.w_le, Ev.w_gt, Ev.w_ge, Ev.w_eqi, Ev.w_nei, Ev.w_neb, Ev.w_eqb, Ev.y_int, Ev.y_bl, Ev.y_tup, Ev.it_tup, Ev.z_slc2, Ev.mup_same, Ev.mup_mup, Ev.isPt, Ev.z_ii, Ev.z_bi, Ev.z_ib, Ev.z_ll, Ev.z_lt, Ev.z_tt, Ev.z_tl, Ev.z_cc, Ev.isiOk, Ev.Tgs.len, Ev.wipe, b_list hk, l1]
    intro p hp
    have e2 := Ext.new (o := .lst ((rs.foldl (stC ws l) []).map nI)) hp
    have b2 := b_sortN (l_ref (M := mup M1 p (.lst ((rs.foldl (stC ws l) []).map nI))) (a := p) mup_same)
    generalize mup M1 p (.lst ((rs.foldl (stC ws l) []).map nI)) = M2 at *
    simp [Ev.setAll, Ev.wpSs, Ev.wpS, Ev.wpE, Ev.wpEs, Ev.wpI, Ev.wpIfs, Ev.wpTg, Ev.wpTgs, Ev.t_bl, Ev.t_int, Ev.t_tup, Ev.t_non, Ev.t_fl, Ev.r_val, Ev.r_new, Ev.o_lst, Ev.o_set, Ev.s_tup, Ev.s_fl, Ev.s_ref, Ev.l_fl, Ev.i_tup, Ev.a_0, Ev.a_1, Ev.a_2, Ev.a_3, Ev.a_4, Ev.a_nat, Ev.b_len, Ev.b_abs, Ev.b_max, Ev.b_min, Ev.b_int, Ev.b_inb, Ev.n_tup, Ev.d_add, Ev.d_sub, Ev.c_lt, Ev.c_le, Ev.c_gt, Ev.c_ge, Ev.w_lt, Ev.w_le, Ev.w_gt, Ev.w_ge, Ev.w_eqi, Ev.w_nei, Ev.w_neb, Ev.w_eqb, Ev.y_int, Ev.y_bl, Ev.y_tup, Ev.it_tup, Ev.z_slc2, Ev.mup_same, Ev.mup_mup, Ev.isPt, Ev.z_ii, Ev.z_bi, Ev.z_ib, Ev.z_ll, Ev.z_lt, Ev.z_tt, Ev.z_tl, Ev.z_cc, Ev.isiOk, Ev.Tgs.len, Ev.wipe, b2, l2]
    intro p3 hp3
    exact q _ _ _ ((e.trans e2).trans (Ext.new hp3)) mup_same (fun x => by rw [mem_sN, mem_stCs fun w hw => (ok.bd w hw).2.2.2]; simp) fw.sort
theorem wrd_snoc {E : Nat → Nat → Nat → Prop} {u : List Nat} {l r q : Nat} : Wrd E (u ++ [l]) r q ↔ ∃ m, Wrd E u r m ∧ E l m q := by
  rw [wrd_app]
  constructor
  · rintro ⟨m, h1, n, h2, h3⟩
    simp only [Wrd] at h3
    subst h3
    exact ⟨m, h1, h2⟩
  · rintro ⟨m, h1, h2⟩
    exact ⟨m, h1, q, h2, rfl⟩
theorem w_rooms_by_word (h : FOk F) (t : TOk T) {L R : Nat} {ws : List Way} {rs w : List Nat} {v u z : PV} {M : MH} {Q : PV → MH → Prop} (hv : Rdr M v L R ws) (ok : ROk L R ws) (hu : itemsOf M u = some (rs.map nI)) (fr : Few R rs) (hz : seqOf M z = some (w.map nI)) (hw : ∀ l ∈ w, l < L)
    (q : ∀ p qs M', Ext M M' → M' p = some (.lst (qs.map nI)) → (∀ x, x ∈ qs ↔ ∃ r ∈ rs, Wrd (Stp ws) w r x) → Few R qs → Q (.ref p) M') : Cn T F (k + 2) i_rooms_by_word [v, u, z] M Q := by
  refine cn_of h.h_rooms_by_word rfl ?_
  simp only [f_rooms_by_word]
  have l1 : rs.length ≤ sizeLine := Nat.le_trans fr.len (Nat.le_trans ok.r12 (by decide))
  simp [Ev.setAll, Ev.wpSs, Ev.wpS, Ev.wpE, Ev.wpEs, Ev.wpI, Ev.wpIfs, Ev.wpTg, Ev.wpTgs, Ev.t_bl, Ev.t_int, Ev.t_tup, Ev.t_non, Ev.t_fl, Ev.r_val, Ev.r_new, Ev.o_lst, Ev.o_set, Ev.s_tup, Ev.s_fl, Ev.s_ref, Ev.l_fl, Ev.i_tup, Ev.a_0, Ev.a_1, Ev.a_2, Ev.a_3, Ev.a_4, Ev.a_nat, Ev.b_len, Ev.b_abs, Ev.b_max, Ev.b_min, Ev.b_int, Ev.b_inb, Ev.n_tup, Ev.d_add, Ev.d_sub, Ev.c_lt, Ev.c_le, Ev.c_gt, Ev.c_ge, Ev.w_lt, Ev.w_le, Ev.w_gt, Ev.w_ge, Ev.w_eqi, Ev.w_nei, Ev.w_neb, Ev.w_eqb, Ev.y_int, Ev.y_bl, Ev.y_tup, Ev.it_tup, Ev.z_slc2, Ev.mup_same, Ev.mup_mup, Ev.isPt, Ev.z_ii, Ev.z_bi, Ev.z_ib, Ev.z_ll, Ev.z_lt, Ev.z_tt, Ev.z_tl, Ev.z_cc, Ev.isiOk, Ev.Tgs.len, Ev.wipe, b_list hu, l1]
  intro p hp
  have e0 := Ext.new (o := .lst (rs.map nI)) hp
  rw [seqOf_ext e0 hz]
  dsimp only
  refine forL_ind (fun i σ M1 => ∃ p qs x, σ = [some v, some u, some z, some (.ref p), x] ∧ Ext M M1 ∧ M1 p = some (.lst (qs.map nI)) ∧ (∀ x, x ∈ qs ↔ ∃ r ∈ rs, Wrd (Stp ws) (w.take i) r x) ∧ Few R qs) (fun i σ M1 _ ⟨_, _, _, _, e, _⟩ => seq_stays e0 e hz) (fun i x σ M1 K hx h1 hk => ?_) (fun σ M1 h1 => ?_) ⟨p, rs, none, rfl, e0, mup_same, fun x => by simp [Wrd], fr⟩
  · obtain ⟨p, qs, x, rfl, e, hM, hq, fq⟩ := h1
    rw [List.getElem?_map] at hx
    obtain ⟨l, hl, rfl⟩ := Option.map_eq_some_iff.mp hx
    have tk : w.take (i + 1) = w.take i ++ [l] := by rw [List.take_succ, hl]; rfl
    simp [Ev.setAll, Ev.wpSs, Ev.wpS, Ev.wpE, Ev.wpEs, Ev.wpI, Ev.wpIfs, Ev.wpTg, Ev.wpTgs, Ev.t_bl, Ev.t_int, Ev.t_tup, Ev.t_non, Ev.t_fl, Ev.r_val, Ev.r_new, Ev.o_lst, Ev.o_set, Ev.s_tup, Ev.s_fl, Ev.s_ref, Ev.l_fl, Ev.i_tup, Ev.a_0, Ev.a_1, Ev.a_2, Ev.a_3, Ev.a_4, Ev.a_nat, Ev.b_len, Ev.b_abs, Ev.b_max, Ev.b_min, Ev.b_int, Ev.b_inb, Ev.n_tup, Ev.d_add, Ev.d_sub, Ev.c_lt, Ev.c_le, Ev.c_gt, Ev.c_ge, Ev.w_lt, Ev.w_le, Ev.w_gt, Ev.w_ge, Ev.w_eqi, Ev.w_nei, Ev.w_neb, Ev.w_eqb, Ev.y_int, Ev.y_bl, Ev.y_tup, Ev.it_tup, Ev.z_slc2, Ev.mup_same, Ev.mup_mup, Ev.isPt, Ev.z_ii, Ev.z_bi, Ev.z_ib, Ev.z_ll, Ev.z_lt, Ev.z_tt, Ev.z_tl, Ev.z_cc, Ev.isiOk, Ev.Tgs.len, Ev.wipe, nI]
    refine w_rooms_by h t (hv.ext e) ok (seq_lst (l_ref hM)) fq.lt (hw l (List.mem_of_getElem? hl)) fun p2 qs2 M2 e2 hM2 hq2 fq2 => hk _ _ ⟨p2, qs2, _, rfl, e.trans e2, hM2, fun x => ?_, fq2⟩
    rw [hq2, tk]
    constructor
    · rintro ⟨m, hm, hs⟩
      obtain ⟨r, hr, hW⟩ := (hq m).mp hm
      exact ⟨r, hr, wrd_snoc.mpr ⟨m, hW, hs⟩⟩
    · rintro ⟨r, hr, hW⟩
      obtain ⟨m, h1, h2⟩ := wrd_snoc.mp hW
      exact ⟨m, (hq m).mpr ⟨r, hr, h1⟩, h2⟩
  · obtain ⟨p, qs, x, rfl, e, hM, hq, fq⟩ := h1
    rw [List.length_map, List.take_length] at hq
    simp [Ev.setAll, Ev.wpSs, Ev.wpS, Ev.wpE, Ev.wpEs, Ev.wpI, Ev.wpIfs, Ev.wpTg, Ev.wpTgs, Ev.t_bl, Ev.t_int, Ev.t_tup, Ev.t_non, Ev.t_fl, Ev.r_val, Ev.r_new, Ev.o_lst, Ev.o_set, Ev.s_tup, Ev.s_fl, Ev.s_ref, Ev.l_fl, Ev.i_tup, Ev.a_0, Ev.a_1, Ev.a_2, Ev.a_3, Ev.a_4, Ev.a_nat, Ev.b_len, Ev.b_abs, Ev.b_max, Ev.b_min, Ev.b_int, Ev.b_inb, Ev.n_tup, Ev.d_add, Ev.d_sub, Ev.c_lt, Ev.c_le, Ev.c_gt, Ev.c_ge, Ev.w_lt, Ev.w_le, Ev.w_gt, Ev.w_ge, Ev.w_eqi, Ev.w_nei, Ev.w_neb, Ev.w_eqb, Ev.y_int, Ev.y_bl, Ev.y_tup, Ev.it_tup, Ev.z_slc2, Ev.mup_same, Ev.mup_mup, Ev.isPt, Ev.z_ii, Ev.z_bi, Ev.z_ib, Ev.z_ll, Ev.z_lt, Ev.z_tt, Ev.z_tl, Ev.z_cc, Ev.isiOk, Ev.Tgs.len, Ev.wipe]
    exact q _ _ _ e hM hq fq
theorem w_clean_by_word (h : FOk F) (t : TOk T) {L R : Nat} {ws : List Way} {rs w : List Nat} {v u z : PV} {M : MH} {Q : PV → MH → Prop} (hv : Rdr M v L R ws) (ok : ROk L R ws) (hu : itemsOf M u = some (rs.map nI)) (fr : Few R rs) (hz : seqOf M z = some (w.map nI)) (hw : ∀ l ∈ w, l < L)
    (q : ∀ p qs M', Ext M M' → M' p = some (.lst (qs.map nI)) → (∀ x, x ∈ qs ↔ ∃ r ∈ rs, Wrd (Cln ws) w r x) → Few R qs → Q (.ref p) M') : Cn T F (k + 2) i_clean_by_word [v, u, z] M Q := by
  refine cn_of h.h_clean_by_word rfl ?_
  simp only [f_clean_by_word]
  have l1 : rs.length ≤ sizeLine := Nat.le_trans fr.len (Nat.le_trans ok.r12 (by decide))
  simp [Ev.setAll, Ev.wpSs, Ev.wpS, Ev.wpE, Ev.wpEs, Ev.wpI, Ev.wpIfs, Ev.wpTg, Ev.wpTgs, Ev.t_bl, Ev.t_int, Ev.t_tup, Ev.t_non, Ev.t_fl, Ev.r_val, Ev.r_new, Ev.o_lst, Ev.o_set, Ev.s_tup, Ev.s_fl, Ev.s_ref, Ev.l_fl, Ev.i_tup, Ev.a_0, Ev.a_1, Ev.a_2, Ev.a_3, Ev.a_4, Ev.a_nat, Ev.b_len, Ev.b_abs, Ev.b_max, Ev.b_min, Ev.b_int, Ev.b_inb, Ev.n_tup, Ev.d_add, Ev.d_sub, Ev.c_lt, Ev.c_le, Ev.c_gt, Ev.c_ge, Ev.w_lt, Ev.w_le, Ev.w_gt, Ev.w_ge, Ev.w_eqi, Ev.w_nei, Ev.w_neb, Ev.w_eqb, Ev.y_int, Ev.y_bl, Ev.y_tup, Ev.it_tup, Ev.z_slc2, Ev.mup_same, Ev.mup_mup, Ev.isPt, Ev.z_ii, Ev.z_bi, Ev.z_ib, Ev.z_ll, Ev.z_lt, Ev.z_tt, Ev.z_tl, Ev.z_cc, Ev.isiOk, Ev.Tgs.len, Ev.wipe, b_list hu, l1]
  intro p hp
  have e0 := Ext.new (o := .lst (rs.map nI)) hp
  rw [seqOf_ext e0 hz]
  dsimp only
  refine forL_ind (fun i σ M1 => ∃ p qs x, σ = [some v, some u, some z, some (.ref p), x] ∧ Ext M M1 ∧ M1 p = some (.lst (qs.map nI)) ∧ (∀ x, x ∈ qs ↔ ∃ r ∈ rs, Wrd (Cln ws) (w.take i) r x) ∧ Few R qs) (fun i σ M1 _ ⟨_, _, _, _, e, _⟩ => seq_stays e0 e hz) (fun i x σ M1 K hx h1 hk => ?_) (fun σ M1 h1 => ?_) ⟨p, rs, none, rfl, e0, mup_same, fun x => by simp [Wrd], fr⟩
  · obtain ⟨p, qs, x, rfl, e, hM, hq, fq⟩ := h1
    rw [List.getElem?_map] at hx
    obtain ⟨l, hl, rfl⟩ := Option.map_eq_some_iff.mp hx
    have tk : w.take (i + 1) = w.take i ++ [l] := by rw [List.take_succ, hl]; rfl
    simp [Ev.setAll, Ev.wpSs, Ev.wpS, Ev.wpE, Ev.wpEs, Ev.wpI, Ev.wpIfs, Ev.wpTg, Ev.wpTgs, Ev.t_bl, Ev.t_int, Ev.t_tup, Ev.t_non, Ev.t_fl, Ev.r_val, Ev.r_new, Ev.o_lst, Ev.o_set, Ev.s_tup, Ev.s_fl, Ev.s_ref, Ev.l_fl, Ev.i_tup, Ev.a_0, Ev.a_1, Ev.a_2, Ev.a_3, Ev.a_4, Ev.a_nat, Ev.b_len, Ev.b_abs, Ev.b_max, Ev.b_min, Ev.b_int, Ev.b_inb, Ev.n_tup, Ev.d_add, Ev.d_sub, Ev.c_lt, Ev.c_le, Ev.c_gt, Ev.c_ge, Ev.w_lt, Ev.w_le, Ev.w_gt, Ev.w_ge, Ev.w_eqi, Ev.w_nei, Ev.w_neb, Ev.w_eqb, Ev.y_int, Ev.y_bl, Ev.y_tup, Ev.it_tup, Ev.z_slc2, Ev.mup_same, Ev.mup_mup, Ev.isPt, Ev.z_ii, Ev.z_bi, Ev.z_ib, Ev.z_ll, Ev.z_lt, Ev.z_tt, Ev.z_tl, Ev.z_cc, Ev.isiOk, Ev.Tgs.len, Ev.wipe, nI]
    refine w_clean_rooms_by h t (hv.ext e) ok (seq_lst (l_ref hM)) fq.lt (hw l (List.mem_of_getElem? hl)) fun p2 qs2 M2 e2 hM2 hq2 fq2 => hk _ _ ⟨p2, qs2, _, rfl, e.trans e2, hM2, fun x => ?_, fq2⟩
    rw [hq2, tk]
    constructor
    · rintro ⟨m, hm, hs⟩
      obtain ⟨r, hr, hW⟩ := (hq m).mp hm
      exact ⟨r, hr, wrd_snoc.mpr ⟨m, hW, hs⟩⟩
    · rintro ⟨r, hr, hW⟩
      obtain ⟨m, h1, h2⟩ := wrd_snoc.mp hW
      exact ⟨m, (hq m).mpr ⟨r, hr, h1⟩, h2⟩
  · obtain ⟨p, qs, x, rfl, e, hM, hq, fq⟩ := h1
    rw [List.length_map, List.take_length] at hq
    simp [Ev.setAll, Ev.wpSs, Ev.wpS, Ev.wpE, Ev.wpEs, Ev.wpI, Ev.wpIfs, Ev.wpTg, Ev.wpTgs, Ev.t_bl, Ev.t_int, Ev.t_tup, Ev.t_non, Ev.t_fl, Ev.r_val, Ev.r_new, Ev.o_lst, Ev.o_set, Ev.s_tup, Ev.s_fl, Ev.s_ref, Ev.l_fl, Ev.i_tup, Ev.a_0, Ev.a_1, Ev.a_2, Ev.a_3, Ev.a_4, Ev.a_nat, Ev.b_len, Ev.b_abs, Ev.b_max, Ev.b_min, Ev.b_int, Ev.b_inb, Ev.n_tup, Ev.d_add, Ev.d_sub, Ev.c_lt, Ev.c_le, Ev.c_gt, Ev.c_ge, Ev.w_lt, Ev.w_le, Ev.w_gt, Ev.w_ge, Ev.w_eqi, Ev.w_nei, Ev.w_neb, Ev.w_eqb, Ev.y_int, Ev.y_bl, Ev.y_tup, Ev.it_tup, Ev.z_slc2, Ev.mup_same, Ev.mup_mup, Ev.isPt, Ev.z_ii, Ev.z_bi, Ev.z_ib, Ev.z_ll, Ev.z_lt, Ev.z_tt, Ev.z_tl, Ev.z_cc, Ev.isiOk, Ev.Tgs.len, Ev.wipe]
    exact q _ _ _ e hM hq fq
/-- x != [] -/
theorem w_ne_nil {α : Type} [DecidableEq α] {f : α → PV} {g : α → PyData} (E : Enc f g) {C : CT} {M : MH} {a : Addr} {l : List α} {Q : PV → MH → Prop} (h : M a = some (.lst (l.map f))) (q : ∀ M', Ext M M' → Q (.bl !(decide (l = []))) M') : ∀ p, M p = none → wpCmp T C .ne (.ref a) (.ref p) (mup M p (.lst [])) Q := by
  intro p hp
  have e := Ext.new (o := .lst []) hp
  have h2 : (mup M p (.lst [])) p = some (.lst []) := mup_same
  rw [w_ne (ins_lst (e _ _ h)) (E.emp (l_ref (e _ _ h)) (l_ref h2))]
  exact q _ e
theorem rnd_word {ws : List Way} {b a : List Nat} {x y : Nat} (h : Rnd ws b a x) (w : Wrd (Stp ws) a x y) : Rnd ws b a y := by
  obtain ⟨n, hn⟩ := h
  exact ⟨n + 1, rch_round.mpr ⟨x, hn, w⟩⟩
theorem rnd_closed {ws : List Way} {b a : List Nat} {s : List Nat} (h0 : ∀ x, Wrd (Stp ws) b 0 x → x ∈ s) (h1 : ∀ x ∈ s, ∀ y, Wrd (Stp ws) a x y → y ∈ s) {x : Nat} (h : Rnd ws b a x) : x ∈ s := by
  obtain ⟨n, hn⟩ := h
  induction n generalizing x with
  | zero => exact h0 x (rch_begin.mp (by simpa using hn))
  | succ n ih =>
    obtain ⟨m, hm, hw⟩ := rch_round.mp hn
    exact h1 m (ih hm) x hw
theorem w_rooms_at_rounds (h : FOk F) (t : TOk T) {L R : Nat} {ws : List Way} {r : Row} {v : PV} {M : MH} {Q : PV → MH → Prop} (hv : Rdr M v L R ws) (ok : ROk L R ws) (rk : RowOk L r)
    (q : ∀ p qs M', Ext M M' → M' p = some (.lst (qs.map nI)) → (∀ x, x ∈ qs ↔ Rnd ws r.1 r.2 x) → Few R qs → Q (.ref p) M') : Cn T F (k + 3) i_rooms_at_rounds [v, rP r] M Q := by
  refine cn_z h.h_rooms_at_rounds rfl ?_
  simp only [f_rooms_at_rounds, rP, uP]
  (rw [Ev.x_cons]; simp [Ev.x_nil, Ev.s_exp, Ev.s_asgn, Ev.s_par2, Ev.s_ret, Ev.s_retn, Ev.s_ifs, Ev.s_pas, Ev.s_brk, Ev.s_cnt, Ev.s_for, Ev.e_var, Ev.e_int, Ev.e_bl, Ev.e_non, Ev.e_str, Ev.e_gc, Ev.e_fn, Ev.e_bin, Ev.e_neg, Ev.e_not, Ev.e_and, Ev.e_or, Ev.e_ite, Ev.e_cmp, Ev.e_chain, Ev.e_tup, Ev.e_lst, Ev.e_dct0, Ev.e_dct1, Ev.e_idx, Ev.e_slc, Ev.e_rev, Ev.e_fld, Ev.e_call, Ev.e_calk, Ev.e_calv, Ev.e_blt, Ev.e_mak, Ev.e_mth, Ev.e_omt, Ev.e_isi, Ev.e_cmpr, Ev.es_nil, Ev.es_cons, Ev.y_of, Ev.y_enum, Ev.y_zip, Ev.y_rng, Ev.y_rng2, Ev.y_items, Ev.y_vals, Ev.if_nil, Ev.if_cons, Ev.tg_nm, Ev.tg_tup, Ev.tg_idx, Ev.tg_fld, Ev.tgs_nil, Ev.tgs_cons, Ev.t_bl, Ev.t_int, Ev.t_tup, Ev.t_non, Ev.t_fl, Ev.r_val, Ev.r_new, Ev.o_lst, Ev.o_set, Ev.s_tup, Ev.s_fl, Ev.s_ref, Ev.l_fl, Ev.i_tup, Ev.a_0, Ev.a_1, Ev.a_2, Ev.a_3, Ev.a_4, Ev.a_nat, Ev.b_len, Ev.b_abs, Ev.b_max, Ev.b_min, Ev.b_int, Ev.b_inb, Ev.n_tup, Ev.d_add, Ev.d_sub, Ev.c_lt, Ev.c_le, Ev.c_gt, Ev.c_ge, Ev.w_lt, Ev.w_le, Ev.w_gt, Ev.w_ge, Ev.w_eqi, Ev.w_nei, Ev.w_neb, Ev.w_eqb, Ev.y_int, Ev.y_bl, Ev.y_tup, Ev.it_tup, Ev.z_slc2, Ev.mup_same, Ev.mup_mup, Ev.isPt, Ev.z_ii, Ev.z_bi, Ev.z_ib, Ev.z_ll, Ev.z_lt, Ev.z_tt, Ev.z_tl, Ev.z_cc, Ev.isiOk, Ev.Tgs.len, Ev.wipe])
  (rw [Ev.x_cons]; simp [Ev.x_nil, Ev.s_exp, Ev.s_asgn, Ev.s_par2, Ev.s_ret, Ev.s_retn, Ev.s_ifs, Ev.s_pas, Ev.s_brk, Ev.s_cnt, Ev.s_for, Ev.e_var, Ev.e_int, Ev.e_bl, Ev.e_non, Ev.e_str, Ev.e_gc, Ev.e_fn, Ev.e_bin, Ev.e_neg, Ev.e_not, Ev.e_and, Ev.e_or, Ev.e_ite, Ev.e_cmp, Ev.e_chain, Ev.e_tup, Ev.e_lst, Ev.e_dct0, Ev.e_dct1, Ev.e_idx, Ev.e_slc, Ev.e_rev, Ev.e_fld, Ev.e_call, Ev.e_calk, Ev.e_calv, Ev.e_blt, Ev.e_mak, Ev.e_mth, Ev.e_omt, Ev.e_isi, Ev.e_cmpr, Ev.es_nil, Ev.es_cons, Ev.y_of, Ev.y_enum, Ev.y_zip, Ev.y_rng, Ev.y_rng2, Ev.y_items, Ev.y_vals, Ev.if_nil, Ev.if_cons, Ev.tg_nm, Ev.tg_tup, Ev.tg_idx, Ev.tg_fld, Ev.tgs_nil, Ev.tgs_cons, Ev.t_bl, Ev.t_int, Ev.t_tup, Ev.t_non, Ev.t_fl, Ev.r_val, Ev.r_new, Ev.o_lst, Ev.o_set, Ev.s_tup, Ev.s_fl, Ev.s_ref, Ev.l_fl, Ev.i_tup, Ev.a_0, Ev.a_1, Ev.a_2, Ev.a_3, Ev.a_4, Ev.a_nat, Ev.b_len, Ev.b_abs, Ev.b_max, Ev.b_min, Ev.b_int, Ev.b_inb, Ev.n_tup, Ev.d_add, Ev.d_sub, Ev.c_lt, Ev.c_le, Ev.c_gt, Ev.c_ge, Ev.w_lt, Ev.w_le, Ev.w_gt, Ev.w_ge, Ev.w_eqi, Ev.w_nei, Ev.w_neb, Ev.w_eqb, Ev.y_int, Ev.y_bl, Ev.y_tup, Ev.it_tup, Ev.z_slc2, Ev.mup_same, Ev.mup_mup, Ev.isPt, Ev.z_ii, Ev.z_bi, Ev.z_ib, Ev.z_ll, Ev.z_lt, Ev.z_tt, Ev.z_tl, Ev.z_cc, Ev.isiOk, Ev.Tgs.len, Ev.wipe])
  refine ⟨by decide, fun p hp => ?_⟩
  have e0 := Ext.new (o := .lst [.int 0]) hp
  refine w_rooms_by_word h t (hv.ext e0) ok (rs := [0]) (w := r.1) (it_lst (by rw [mup_same]; rfl)) ⟨by simp, fun x hx => by rw [List.mem_singleton] at hx; subst hx; exact ok.ro⟩ s_tup rk.b fun p2 qs M1 e1 hM1 hq fq => ?_
  (rw [Ev.x_cons]; simp [Ev.x_nil, Ev.s_exp, Ev.s_asgn, Ev.s_par2, Ev.s_ret, Ev.s_retn, Ev.s_ifs, Ev.s_pas, Ev.s_brk, Ev.s_cnt, Ev.s_for, Ev.e_var, Ev.e_int, Ev.e_bl, Ev.e_non, Ev.e_str, Ev.e_gc, Ev.e_fn, Ev.e_bin, Ev.e_neg, Ev.e_not, Ev.e_and, Ev.e_or, Ev.e_ite, Ev.e_cmp, Ev.e_chain, Ev.e_tup, Ev.e_lst, Ev.e_dct0, Ev.e_dct1, Ev.e_idx, Ev.e_slc, Ev.e_rev, Ev.e_fld, Ev.e_call, Ev.e_calk, Ev.e_calv, Ev.e_blt, Ev.e_mak, Ev.e_mth, Ev.e_omt, Ev.e_isi, Ev.e_cmpr, Ev.es_nil, Ev.es_cons, Ev.y_of, Ev.y_enum, Ev.y_zip, Ev.y_rng, Ev.y_rng2, Ev.y_items, Ev.y_vals, Ev.if_nil, Ev.if_cons, Ev.tg_nm, Ev.tg_tup, Ev.tg_idx, Ev.tg_fld, Ev.tgs_nil, Ev.tgs_cons, Ev.t_bl, Ev.t_int, Ev.t_tup, Ev.t_non, Ev.t_fl, Ev.r_val, Ev.r_new, Ev.o_lst, Ev.o_set, Ev.s_tup, Ev.s_fl, Ev.s_ref, Ev.l_fl, Ev.i_tup, Ev.a_0, Ev.a_1, Ev.a_2, Ev.a_3, Ev.a_4, Ev.a_nat, Ev.b_len, Ev.b_abs, Ev.b_max, Ev.b_min, Ev.b_int, Ev.b_inb, Ev.n_tup, Ev.d_add, Ev.d_sub, Ev.c_lt, Ev.c_le, Ev.c_gt, Ev.c_ge, Ev.w_lt, Ev.w_le, Ev.w_gt, Ev.w_ge, Ev.w_eqi, Ev.w_nei, Ev.w_neb, Ev.w_eqb, Ev.y_int, Ev.y_bl, Ev.y_tup, Ev.it_tup, Ev.z_slc2, Ev.mup_same, Ev.mup_mup, Ev.isPt, Ev.z_ii, Ev.z_bi, Ev.z_ib, Ev.z_ll, Ev.z_lt, Ev.z_tt, Ev.z_tl, Ev.z_cc, Ev.isiOk, Ev.Tgs.len, Ev.wipe])
  rw [Ev.x_cons]
  obtain ⟨I, hI⟩ : ∃ I : Nat → Ev.St → MH → Prop, I = fun n σ M2 => ∃ pf pl fs ls x y, σ = [some v, some (.tup [.tup (r.1.map nI), .tup (r.2.map nI)]), some (.tup (r.1.map nI)), some (.tup (r.2.map nI)), some (.ref pf), some (.ref pl), x, y] ∧ Ext M M2 ∧ M2 pf = some (.lst (fs.map nI)) ∧ M2 pl = some (.lst (ls.map nI)) ∧ Few R fs ∧ Few R ls ∧ (∀ x ∈ fs, Rnd ws r.1 r.2 x) ∧ (∀ x, Wrd (Stp ws) r.1 0 x → x ∈ fs) ∧ (∀ x ∈ ls, x ∈ fs) ∧ (∀ x ∈ fs, x ∉ ls → ∀ y, Wrd (Stp ws) r.2 x y → y ∈ fs) ∧ n = 2 * (R - fs.length) + (if ls = [] then 0 else 1) := ⟨_, rfl⟩
  refine whl_ind (Cn_mono T F _) I (2 * (R - qs.length) + (if qs = [] then 0 else 1)) (by
    rw [hI]
    refine ⟨p2, p2, qs, qs, none, none, rfl, e0.trans e1, hM1, hM1, fq, fq, fun x hx => ?_, fun x hx => ?_, fun x hx => hx, fun x h1 h2 => absurd h1 h2, rfl⟩
    · obtain ⟨m, hm, hw⟩ := (hq x).mp hx
      rw [List.mem_singleton] at hm
      subst hm
      exact ⟨0, by simpa using rch_begin.mpr hw⟩
    · exact (hq x).mpr ⟨0, by simp, hx⟩) fun n σ M2 h1 => ?_
  rw [hI] at h1
  obtain ⟨pf, pl, fs, ls, x, y, rfl, e, hf, hl, ff, fl, c1, c2, c3, c4, hn⟩ := h1
  simp [Ev.x_nil, Ev.s_exp, Ev.s_asgn, Ev.s_par2, Ev.s_ret, Ev.s_retn, Ev.s_ifs, Ev.s_pas, Ev.s_brk, Ev.s_cnt, Ev.s_for, Ev.e_var, Ev.e_int, Ev.e_bl, Ev.e_non, Ev.e_str, Ev.e_gc, Ev.e_fn, Ev.e_bin, Ev.e_neg, Ev.e_not, Ev.e_and, Ev.e_or, Ev.e_ite, Ev.e_cmp, Ev.e_chain, Ev.e_tup, Ev.e_lst, Ev.e_dct0, Ev.e_dct1, Ev.e_idx, Ev.e_slc, Ev.e_rev, Ev.e_fld, Ev.e_call, Ev.e_calk, Ev.e_calv, Ev.e_blt, Ev.e_mak, Ev.e_mth, Ev.e_omt, Ev.e_isi, Ev.e_cmpr, Ev.es_nil, Ev.es_cons, Ev.y_of, Ev.y_enum, Ev.y_zip, Ev.y_rng, Ev.y_rng2, Ev.y_items, Ev.y_vals, Ev.if_nil, Ev.if_cons, Ev.tg_nm, Ev.tg_tup, Ev.tg_idx, Ev.tg_fld, Ev.tgs_nil, Ev.tgs_cons, Ev.t_bl, Ev.t_int, Ev.t_tup, Ev.t_non, Ev.t_fl, Ev.r_val, Ev.r_new, Ev.o_lst, Ev.o_set, Ev.s_tup, Ev.s_fl, Ev.s_ref, Ev.l_fl, Ev.i_tup, Ev.a_0, Ev.a_1, Ev.a_2, Ev.a_3, Ev.a_4, Ev.a_nat, Ev.b_len, Ev.b_abs, Ev.b_max, Ev.b_min, Ev.b_int, Ev.b_inb, Ev.n_tup, Ev.d_add, Ev.d_sub, Ev.c_lt, Ev.c_le, Ev.c_gt, Ev.c_ge, Ev.w_lt, Ev.w_le, Ev.w_gt, Ev.w_ge, Ev.w_eqi, Ev.w_nei, Ev.w_neb, Ev.w_eqb, Ev.y_int, Ev.y_bl, Ev.y_tup, Ev.it_tup, Ev.z_slc2, Ev.mup_same, Ev.mup_mup, Ev.isPt, Ev.z_ii, Ev.z_bi, Ev.z_ib, Ev.z_ll, Ev.z_lt, Ev.z_tt, Ev.z_tl, Ev.z_cc, Ev.isiOk, Ev.Tgs.len, Ev.wipe]
  refine w_ne_nil enc_nat hl fun M3 e3 => ?_
  by_cases em : ls = []
  · refine .inl ⟨by simp [em, Ev.t_bl], ?_⟩
    subst em
    (rw [Ev.x_cons]; simp [Ev.x_nil, Ev.s_exp, Ev.s_asgn, Ev.s_par2, Ev.s_ret, Ev.s_retn, Ev.s_ifs, Ev.s_pas, Ev.s_brk, Ev.s_cnt, Ev.s_for, Ev.e_var, Ev.e_int, Ev.e_bl, Ev.e_non, Ev.e_str, Ev.e_gc, Ev.e_fn, Ev.e_bin, Ev.e_neg, Ev.e_not, Ev.e_and, Ev.e_or, Ev.e_ite, Ev.e_cmp, Ev.e_chain, Ev.e_tup, Ev.e_lst, Ev.e_dct0, Ev.e_dct1, Ev.e_idx, Ev.e_slc, Ev.e_rev, Ev.e_fld, Ev.e_call, Ev.e_calk, Ev.e_calv, Ev.e_blt, Ev.e_mak, Ev.e_mth, Ev.e_omt, Ev.e_isi, Ev.e_cmpr, Ev.es_nil, Ev.es_cons, Ev.y_of, Ev.y_enum, Ev.y_zip, Ev.y_rng, Ev.y_rng2, Ev.y_items, Ev.y_vals, Ev.if_nil, Ev.if_cons, Ev.tg_nm, Ev.tg_tup, Ev.tg_idx, Ev.tg_fld, Ev.tgs_nil, Ev.tgs_cons, Ev.t_bl, Ev.t_int, Ev.t_tup, Ev.t_non, Ev.t_fl, Ev.r_val, Ev.r_new, Ev.o_lst, Ev.o_set, Ev.s_tup, Ev.s_fl, Ev.s_ref, Ev.l_fl, Ev.i_tup, Ev.a_0, Ev.a_1, Ev.a_2, Ev.a_3, Ev.a_4, Ev.a_nat, Ev.b_len, Ev.b_abs, Ev.b_max, Ev.b_min, Ev.b_int, Ev.b_inb, Ev.n_tup, Ev.d_add, Ev.d_sub, Ev.c_lt, Ev.c_le, Ev.c_gt, Ev.c_ge, Ev.w_lt, Ev.w_le, Ev.w_gt, Ev.w_ge, Ev.w_eqi, Ev.w_nei, Ev.w_neb, Ev.w_eqb, Ev.y_int, Ev.y_bl, Ev.y_tup, Ev.it_tup, Ev.z_slc2, Ev.mup_same, Ev.mup_mup, Ev.isPt, Ev.z_ii, Ev.z_bi, Ev.z_ib, Ev.z_ll, Ev.z_lt, Ev.z_tt, Ev.z_tl, Ev.z_cc, Ev.isiOk, Ev.Tgs.len, Ev.wipe])
    exact q _ _ _ (e.trans e3) (e3 _ _ hf) (fun x => ⟨c1 x, fun hx => rnd_closed c2 (fun x hx y hy => c4 x hx (by simp) y hy) hx⟩) ff
  · refine .inr ⟨by simp [em, Ev.t_bl], fun K hK => ?_⟩
    (rw [Ev.x_cons]; simp [Ev.x_nil, Ev.s_exp, Ev.s_asgn, Ev.s_par2, Ev.s_ret, Ev.s_retn, Ev.s_ifs, Ev.s_pas, Ev.s_brk, Ev.s_cnt, Ev.s_for, Ev.e_var, Ev.e_int, Ev.e_bl, Ev.e_non, Ev.e_str, Ev.e_gc, Ev.e_fn, Ev.e_bin, Ev.e_neg, Ev.e_not, Ev.e_and, Ev.e_or, Ev.e_ite, Ev.e_cmp, Ev.e_chain, Ev.e_tup, Ev.e_lst, Ev.e_dct0, Ev.e_dct1, Ev.e_idx, Ev.e_slc, Ev.e_rev, Ev.e_fld, Ev.e_call, Ev.e_calk, Ev.e_calv, Ev.e_blt, Ev.e_mak, Ev.e_mth, Ev.e_omt, Ev.e_isi, Ev.e_cmpr, Ev.es_nil, Ev.es_cons, Ev.y_of, Ev.y_enum, Ev.y_zip, Ev.y_rng, Ev.y_rng2, Ev.y_items, Ev.y_vals, Ev.if_nil, Ev.if_cons, Ev.tg_nm, Ev.tg_tup, Ev.tg_idx, Ev.tg_fld, Ev.tgs_nil, Ev.tgs_cons, Ev.t_bl, Ev.t_int, Ev.t_tup, Ev.t_non, Ev.t_fl, Ev.r_val, Ev.r_new, Ev.o_lst, Ev.o_set, Ev.s_tup, Ev.s_fl, Ev.s_ref, Ev.l_fl, Ev.i_tup, Ev.a_0, Ev.a_1, Ev.a_2, Ev.a_3, Ev.a_4, Ev.a_nat, Ev.b_len, Ev.b_abs, Ev.b_max, Ev.b_min, Ev.b_int, Ev.b_inb, Ev.n_tup, Ev.d_add, Ev.d_sub, Ev.c_lt, Ev.c_le, Ev.c_gt, Ev.c_ge, Ev.w_lt, Ev.w_le, Ev.w_gt, Ev.w_ge, Ev.w_eqi, Ev.w_nei, Ev.w_neb, Ev.w_eqb, Ev.y_int, Ev.y_bl, Ev.y_tup, Ev.it_tup, Ev.z_slc2, Ev.mup_same, Ev.mup_mup, Ev.isPt, Ev.z_ii, Ev.z_bi, Ev.z_ib, Ev.z_ll, Ev.z_lt, Ev.z_tt, Ev.z_tl, Ev.z_cc, Ev.isiOk, Ev.Tgs.len, Ev.wipe])
    refine w_rooms_by_word h t (hv.ext (e.trans e3)) ok (it_lst (e3 _ _ hl)) fl s_tup rk.a fun p4 ks M4 e4 hk4 hq4 fk => ?_
    simp [Ev.x_nil, Ev.s_exp, Ev.s_asgn, Ev.s_par2, Ev.s_ret, Ev.s_retn, Ev.s_ifs, Ev.s_pas, Ev.s_brk, Ev.s_cnt, Ev.s_for, Ev.e_var, Ev.e_int, Ev.e_bl, Ev.e_non, Ev.e_str, Ev.e_gc, Ev.e_fn, Ev.e_bin, Ev.e_neg, Ev.e_not, Ev.e_and, Ev.e_or, Ev.e_ite, Ev.e_cmp, Ev.e_chain, Ev.e_tup, Ev.e_lst, Ev.e_dct0, Ev.e_dct1, Ev.e_idx, Ev.e_slc, Ev.e_rev, Ev.e_fld, Ev.e_call, Ev.e_calk, Ev.e_calv, Ev.e_blt, Ev.e_mak, Ev.e_mth, Ev.e_omt, Ev.e_isi, Ev.e_cmpr, Ev.es_nil, Ev.es_cons, Ev.y_of, Ev.y_enum, Ev.y_zip, Ev.y_rng, Ev.y_rng2, Ev.y_items, Ev.y_vals, Ev.if_nil, Ev.if_cons, Ev.tg_nm, Ev.tg_tup, Ev.tg_idx, Ev.tg_fld, Ev.tgs_nil, Ev.tgs_cons, Ev.t_bl, Ev.t_int, Ev.t_tup, Ev.t_non, Ev.t_fl, Ev.r_val, Ev.r_new, Ev.o_lst, Ev.o_set, Ev.s_tup, Ev.s_fl, Ev.s_ref, Ev.l_fl, Ev.i_tup, Ev.a_0, Ev.a_1, Ev.a_2, Ev.a_3, Ev.a_4, Ev.a_nat, Ev.b_len, Ev.b_abs, Ev.b_max, Ev.b_min, Ev.b_int, Ev.b_inb, Ev.n_tup, Ev.d_add, Ev.d_sub, Ev.c_lt, Ev.c_le, Ev.c_gt, Ev.c_ge, Ev.w_lt, Ev.w_le, Ev.w_gt, Ev.w_ge, Ev.w_eqi, Ev.w_nei, Ev.w_neb, Ev.w_eqb, Ev.y_int, Ev.y_bl, Ev.y_tup, Ev.it_tup, Ev.z_slc2, Ev.mup_same, Ev.mup_mup, Ev.isPt, Ev.z_ii, Ev.z_bi, Ev.z_ib, Ev.z_ll, Ev.z_lt, Ev.z_tt, Ev.z_tl, Ev.z_cc, Ev.isiOk, Ev.Tgs.len, Ev.wipe, l_ref hk4]
    intro D hD
    have l4 : ks.length ≤ sizeLine := Nat.le_trans fk.len (Nat.le_trans ok.r12 (by decide))
    refine cmpL_filter ks nI (fun x => decide (x ∉ fs)) nI hD l4 (fun M' e' => seqOf_stays e' (seq_lst (l_ref hk4))) (fun x hx M5 K5 e5 yes no => ?_) fun M5 e5 hM5 => ?_
    · have := enc_nat.nin (a := x) (e5 _ _ (e4 _ _ (e3 _ _ hf)))
      unfold Ev.bdK
      simp [Ev.x_nil, Ev.s_exp, Ev.s_asgn, Ev.s_par2, Ev.s_ret, Ev.s_retn, Ev.s_ifs, Ev.s_pas, Ev.s_brk, Ev.s_cnt, Ev.s_for, Ev.e_var, Ev.e_int, Ev.e_bl, Ev.e_non, Ev.e_str, Ev.e_gc, Ev.e_fn, Ev.e_bin, Ev.e_neg, Ev.e_not, Ev.e_and, Ev.e_or, Ev.e_ite, Ev.e_cmp, Ev.e_chain, Ev.e_tup, Ev.e_lst, Ev.e_dct0, Ev.e_dct1, Ev.e_idx, Ev.e_slc, Ev.e_rev, Ev.e_fld, Ev.e_call, Ev.e_calk, Ev.e_calv, Ev.e_blt, Ev.e_mak, Ev.e_mth, Ev.e_omt, Ev.e_isi, Ev.e_cmpr, Ev.es_nil, Ev.es_cons, Ev.y_of, Ev.y_enum, Ev.y_zip, Ev.y_rng, Ev.y_rng2, Ev.y_items, Ev.y_vals, Ev.if_nil, Ev.if_cons, Ev.tg_nm, Ev.tg_tup, Ev.tg_idx, Ev.tg_fld, Ev.tgs_nil, Ev.tgs_cons, Ev.t_bl, Ev.t_int, Ev.t_tup, Ev.t_non, Ev.t_fl, Ev.r_val, Ev.r_new, Ev.o_lst, Ev.o_set, Ev.s_tup, Ev.s_fl, Ev.s_ref, Ev.l_fl, Ev.i_tup, Ev.a_0, Ev.a_1, Ev.a_2, Ev.a_3, Ev.a_4, Ev.a_nat, Ev.b_len, Ev.b_abs, Ev.b_max, Ev.b_min, Ev.b_int, Ev.b_inb, Ev.n_tup, Ev.d_add, Ev.d_sub, Ev.c_lt, Ev.c_le, Ev.c_gt, Ev.c_ge, Ev.w_lt, Ev.w_le, Ev.w_gt, Ev.w_ge, Ev.w_eqi, Ev.w_nei, Ev.w_neb, Ev.w_eqb, Ev.y_int, Ev.y_bl, Ev.y_tup, Ev.it_tup, Ev.z_slc2, Ev.mup_same, Ev.mup_mup, Ev.isPt, Ev.z_ii, Ev.z_bi, Ev.z_ib, Ev.z_ll, Ev.z_lt, Ev.z_tt, Ev.z_tl, Ev.z_cc, Ev.isiOk, Ev.Tgs.len, Ev.wipe, Ev.w_nin this]
      by_cases hx : x ∈ fs
      · simp only [hx, decide_true, not_true, decide_false, Ev.t_bl]
        exact no _ (by simp [hx]) Ext.refl
      · simp only [hx, decide_true, not_false_eq_true, decide_false, Ev.t_bl]
        exact yes _ (by simp [hx]) Ext.refl
    · have f5 := e5 _ _ (e4 _ _ (e3 _ _ hf))
      have fk2 : Few R (ks.filter fun x => decide (x ∉ fs)) := ⟨fk.nd.filter _, fun x hx => fk.lt x (List.mem_filter.mp hx).1⟩
      have dj : Few R (fs ++ ks.filter fun x => decide (x ∉ fs)) := ⟨List.nodup_append.mpr ⟨ff.nd, fk2.nd, fun a ha b hb => by
        rintro rfl
        have := (List.mem_filter.mp hb).2
        simp [ha] at this⟩, fun x hx => (List.mem_append.mp hx).elim (ff.lt x) (fk2.lt x)⟩
      have l5 : (fs ++ ks.filter fun x => decide (x ∉ fs)).length ≤ sizeLine := Nat.le_trans dj.len (Nat.le_trans ok.r12 (by decide))
      have a5 := d_adl f5 hM5
      rw [← List.map_append] at a5
      (rw [Ev.x_cons]; simp [Ev.x_nil, Ev.s_exp, Ev.s_asgn, Ev.s_par2, Ev.s_ret, Ev.s_retn, Ev.s_ifs, Ev.s_pas, Ev.s_brk, Ev.s_cnt, Ev.s_for, Ev.e_var, Ev.e_int, Ev.e_bl, Ev.e_non, Ev.e_str, Ev.e_gc, Ev.e_fn, Ev.e_bin, Ev.e_neg, Ev.e_not, Ev.e_and, Ev.e_or, Ev.e_ite, Ev.e_cmp, Ev.e_chain, Ev.e_tup, Ev.e_lst, Ev.e_dct0, Ev.e_dct1, Ev.e_idx, Ev.e_slc, Ev.e_rev, Ev.e_fld, Ev.e_call, Ev.e_calk, Ev.e_calv, Ev.e_blt, Ev.e_mak, Ev.e_mth, Ev.e_omt, Ev.e_isi, Ev.e_cmpr, Ev.es_nil, Ev.es_cons, Ev.y_of, Ev.y_enum, Ev.y_zip, Ev.y_rng, Ev.y_rng2, Ev.y_items, Ev.y_vals, Ev.if_nil, Ev.if_cons, Ev.tg_nm, Ev.tg_tup, Ev.tg_idx, Ev.tg_fld, Ev.tgs_nil, Ev.tgs_cons, Ev.t_bl, Ev.t_int, Ev.t_tup, Ev.t_non, Ev.t_fl, Ev.r_val, Ev.r_new, Ev.o_lst, Ev.o_set, Ev.s_tup, Ev.s_fl, Ev.s_ref, Ev.l_fl, Ev.i_tup, Ev.a_0, Ev.a_1, Ev.a_2, Ev.a_3, Ev.a_4, Ev.a_nat, Ev.b_len, Ev.b_abs, Ev.b_max, Ev.b_min, Ev.b_int, Ev.b_inb, Ev.n_tup, Ev.d_add, Ev.d_sub, Ev.c_lt, Ev.c_le, Ev.c_gt, Ev.c_ge, Ev.w_lt, Ev.w_le, Ev.w_gt, Ev.w_ge, Ev.w_eqi, Ev.w_nei, Ev.w_neb, Ev.w_eqb, Ev.y_int, Ev.y_bl, Ev.y_tup, Ev.it_tup, Ev.z_slc2, Ev.mup_same, Ev.mup_mup, Ev.isPt, Ev.z_ii, Ev.z_bi, Ev.z_ib, Ev.z_ll, Ev.z_lt, Ev.z_tt, Ev.z_tl, Ev.z_cc, Ev.isiOk, Ev.Tgs.len, Ev.wipe])
      rw [a5, Ev.r_new, Ev.o_lst, List.length_map]
      refine ⟨l5, fun p6 hp6 => ?_⟩
      have e6 := Ext.new (o := .lst ((fs ++ ks.filter fun x => decide (x ∉ fs)).map nI)) hp6
      have b6 := b_sortN (l_ref (M := mup M5 p6 (.lst ((fs ++ ks.filter fun x => decide (x ∉ fs)).map nI))) (a := p6) mup_same)
      generalize mup M5 p6 (.lst ((fs ++ ks.filter fun x => decide (x ∉ fs)).map nI)) = M6 at *
      rw [b6, Ev.r_new, Ev.o_lst, List.length_map, (sN_perm _).length_eq]
      refine ⟨l5, fun p7 hp7 => hK (2 * (R - (sN (fs ++ ks.filter fun x => decide (x ∉ fs))).length) + (if (ks.filter fun x => decide (x ∉ fs)) = [] then 0 else 1)) _ _ ?_ (by rw [hI]; exact ⟨p7, D, _, _, _, _, rfl, (((e.trans e3).trans e4).trans e5).trans (e6.trans (Ext.new hp7)), mup_same, (e6.trans (Ext.new hp7)) _ _ hM5, dj.sort, fk2, fun x hx => by
        rcases List.mem_append.mp (mem_sN.mp hx) with hx | hx
        · exact c1 x hx
        · obtain ⟨m, hm, hw⟩ := (hq4 x).mp (List.mem_filter.mp hx).1
          exact rnd_word (c1 m (c3 m hm)) hw, fun x hx => mem_sN.mpr (List.mem_append.mpr (.inl (c2 x hx))), fun x hx => mem_sN.mpr (List.mem_append.mpr (.inr hx)), fun x hx nx y hy => by
          have hx2 : x ∈ fs := by
            rcases List.mem_append.mp (mem_sN.mp hx) with hx | hx
            · exact hx
            · exact absurd hx nx
          refine mem_sN.mpr (List.mem_append.mpr ?_)
          by_cases hy2 : y ∈ fs
          · exact .inl hy2
          · by_cases hl2 : x ∈ ls
            · exact .inr (List.mem_filter.mpr ⟨(hq4 y).mpr ⟨x, hl2, hy⟩, by simp [hy2]⟩)
            · exact absurd (c4 x hx2 hl2 y hy) hy2, rfl⟩)⟩
      rw [(sN_perm _).length_eq, List.length_append, hn, if_neg em]
      have := dj.len
      rw [List.length_append] at this
      by_cases ek : (ks.filter fun x => decide (x ∉ fs)) = []
      · rw [if_pos ek, ek]
        simp
      · rw [if_neg ek]
        have := List.length_pos_iff.mpr ek
        omega
/-! coming home -/
/-- a dict of lists by room -/
def Nxs (M : MH) (d : Addr) (R : Nat) (E : Nat → Nat → Prop) : Prop := ∃ kvs, M d = some (.dct kvs) ∧ (kvs.all fun q => !isTup q.1) = true ∧ ∀ r, r < R → ∃ p qs, dget kvs (.int r) = some (.ref p) ∧ M p = some (.lst (qs.map nI)) ∧ (∀ x, x ∈ qs ↔ E r x) ∧ Few R qs
theorem Nxs.ext {M M' : MH} (e : Ext M M') {d : Addr} {R : Nat} {E : Nat → Nat → Prop} (h : Nxs M d R E) : Nxs M' d R E := by
  obtain ⟨kvs, h1, h2, h3⟩ := h
  exact ⟨kvs, e _ _ h1, h2, fun r hr => by
    obtain ⟨p, qs, h4, h5, h6⟩ := h3 r hr
    exact ⟨p, qs, h4, e _ _ h5, h6⟩⟩
theorem Nxs.get {M : MH} {d : Addr} {R : Nat} {E : Nat → Nat → Prop} (h : Nxs M d R E) {r : Nat} (hr : r < R) : ∃ p qs, idxR M (.ref d) (.int r) = some (.ref p) ∧ M p = some (.lst (qs.map nI)) ∧ (∀ x, x ∈ qs ↔ E r x) ∧ Few R qs := by
  obtain ⟨kvs, h1, h2, h3⟩ := h
  obtain ⟨p, qs, h4, h5, h6⟩ := h3 r hr
  exact ⟨p, qs, by rw [i_dct h1 (fit_int h2 r), h4], h5, h6⟩
theorem Nxs.fn {M : MH} {d : Addr} {R : Nat} {E : Nat → Nat → Prop} (h : Nxs M d R E) : ∃ (PL : Nat → Addr) (EL : Nat → List Nat), ∀ r, r < R → idxR M (.ref d) (.int r) = some (.ref (PL r)) ∧ M (PL r) = some (.lst ((EL r).map nI)) ∧ (∀ x, x ∈ EL r ↔ E r x) ∧ Few R (EL r) := by
  refine ⟨fun r => if hr : r < R then (h.get hr).choose else 0, fun r => if hr : r < R then (h.get hr).choose_spec.choose else [], fun r hr => ?_⟩
  simp only [dif_pos hr]
  exact (h.get hr).choose_spec.choose_spec
/-- one step and more -/
inductive Pls (E : Nat → Nat → Prop) (r : Nat) : Nat → Prop
  | one {q : Nat} : E r q → Pls E r q
  | nx {m q : Nat} : Pls E r m → E m q → Pls E r q
theorem rds_pls {ws : List Way} {a : List Nat} {r q : Nat} : Rds ws a r q ↔ Pls (fun r q => Wrd (Cln ws) a r q) r q := by
  constructor
  · have key : ∀ {m q : Nat}, Rds ws a m q → ∀ {r : Nat}, Pls (fun r q => Wrd (Cln ws) a r q) r m → Pls (fun r q => Wrd (Cln ws) a r q) r q := fun h => by
      induction h with
      | one h => exact fun k => .nx k h
      | cons h _ ih => exact fun k => ih (.nx k h)
    intro h
    cases h with
    | one h => exact .one h
    | cons h k => exact key k (.one h)
  · have key : ∀ {r m q : Nat}, Rds ws a r m → Wrd (Cln ws) a m q → Rds ws a r q := fun h k => by
      induction h with
      | one h => exact .cons h (.one k)
      | cons h _ ih => exact .cons h (ih k)
    intro h
    induction h with
    | one h => exact .one h
    | nx _ h ih => exact key ih h
/-- the rooms not yet found to which one leads -/
def stH (E : Nat → List Nat) (fs s : List Nat) (r : Nat) : List Nat := (E r).foldl (fun s q => if q ∈ fs then s else addN s q) s
theorem mem_stH {E : Nat → List Nat} {fs : List Nat} {q : Nat} : ∀ {rs s : List Nat}, q ∈ rs.foldl (stH E fs) s ↔ q ∈ s ∨ q ∉ fs ∧ ∃ r ∈ rs, q ∈ E r := by
  have key : ∀ (vs : List Nat) (s : List Nat), q ∈ vs.foldl (fun s q => if q ∈ fs then s else addN s q) s ↔ q ∈ s ∨ q ∉ fs ∧ q ∈ vs := fun vs => by
    induction vs with
    | nil => simp
    | cons v vs ih =>
      intro s
      rw [List.foldl_cons, ih]
      by_cases e : v ∈ fs
      · rw [if_pos e]
        simp only [List.mem_cons]
        constructor
        · rintro (h | ⟨h, k⟩)
          · exact .inl h
          · exact .inr ⟨h, .inr k⟩
        · rintro (h | ⟨h, rfl | k⟩)
          · exact .inl h
          · exact absurd e h
          · exact .inr ⟨h, k⟩
      · rw [if_neg e, mem_addN]
        simp only [List.mem_cons]
        constructor
        · rintro ((h | rfl) | ⟨h, k⟩)
          · exact .inl h
          · exact .inr ⟨e, .inl rfl⟩
          · exact .inr ⟨h, .inr k⟩
        · rintro (h | ⟨h, rfl | k⟩)
          · exact .inl (.inl h)
          · exact .inl (.inr rfl)
          · exact .inr ⟨h, k⟩
  intro rs
  induction rs with
  | nil => simp
  | cons r rs ih =>
    intro s
    rw [List.foldl_cons, ih]
    unfold stH
    rw [key]
    simp only [List.mem_cons, exists_eq_or_imp]
    constructor
    · rintro ((h | ⟨h, k⟩) | ⟨h, k⟩)
      · exact .inl h
      · exact .inr ⟨h, .inl k⟩
      · exact .inr ⟨h, .inr k⟩
    · rintro (h | ⟨h, k | k⟩)
      · exact .inl (.inl h)
      · exact .inl (.inr ⟨h, k⟩)
      · exact .inr ⟨h, k⟩
theorem w_comes_home (h : FOk F) {R r : Nat} {E : Nat → Nat → Prop} {d : Addr} {M : MH} {Q : PV → MH → Prop} (hn : Nxs M d R E) (hr : r < R) (r12 : R ≤ 12)
    (q : ∀ b M', Ext M M' → (b = true ↔ Pls E r r) → Q (.bl b) M') : Cn T F (k + 1) i_comes_home [.ref d, .int r] M Q := by
  refine cn_z h.h_comes_home rfl ?_
  simp only [f_comes_home]
  obtain ⟨p0, qs, hi, hp0, hq, fq⟩ := hn.get hr
  have l1 : qs.length ≤ sizeLine := Nat.le_trans fq.len (Nat.le_trans r12 (by decide))
  (rw [Ev.x_cons]; simp [Ev.x_nil, Ev.s_exp, Ev.s_asgn, Ev.s_par2, Ev.s_ret, Ev.s_retn, Ev.s_ifs, Ev.s_pas, Ev.s_brk, Ev.s_cnt, Ev.s_for, Ev.e_var, Ev.e_int, Ev.e_bl, Ev.e_non, Ev.e_str, Ev.e_gc, Ev.e_fn, Ev.e_bin, Ev.e_neg, Ev.e_not, Ev.e_and, Ev.e_or, Ev.e_ite, Ev.e_cmp, Ev.e_chain, Ev.e_tup, Ev.e_lst, Ev.e_dct0, Ev.e_dct1, Ev.e_idx, Ev.e_slc, Ev.e_rev, Ev.e_fld, Ev.e_call, Ev.e_calk, Ev.e_calv, Ev.e_blt, Ev.e_mak, Ev.e_mth, Ev.e_omt, Ev.e_isi, Ev.e_cmpr, Ev.es_nil, Ev.es_cons, Ev.y_of, Ev.y_enum, Ev.y_zip, Ev.y_rng, Ev.y_rng2, Ev.y_items, Ev.y_vals, Ev.if_nil, Ev.if_cons, Ev.tg_nm, Ev.tg_tup, Ev.tg_idx, Ev.tg_fld, Ev.tgs_nil, Ev.tgs_cons, Ev.t_bl, Ev.t_int, Ev.t_tup, Ev.t_non, Ev.t_fl, Ev.r_val, Ev.r_new, Ev.o_lst, Ev.o_set, Ev.s_tup, Ev.s_fl, Ev.s_ref, Ev.l_fl, Ev.i_tup, Ev.a_0, Ev.a_1, Ev.a_2, Ev.a_3, Ev.a_4, Ev.a_nat, Ev.b_len, Ev.b_abs, Ev.b_max, Ev.b_min, Ev.b_int, Ev.b_inb, Ev.n_tup, Ev.d_add, Ev.d_sub, Ev.c_lt, Ev.c_le, Ev.c_gt, Ev.c_ge, Ev.w_lt, Ev.w_le, Ev.w_gt, Ev.w_ge, Ev.w_eqi, Ev.w_nei, Ev.w_neb, Ev.w_eqb, Ev.y_int, Ev.y_bl, Ev.y_tup, Ev.it_tup, Ev.z_slc2, Ev.mup_same, Ev.mup_mup, Ev.isPt, Ev.z_ii, Ev.z_bi, Ev.z_ib, Ev.z_ll, Ev.z_lt, Ev.z_tt, Ev.z_tl, Ev.z_cc, Ev.isiOk, Ev.Tgs.len, Ev.wipe, hi, b_list (it_lst hp0), l1])
  intro p hp
  have e0 := Ext.new (o := .lst (qs.map nI)) hp
  (rw [Ev.x_cons]; simp [Ev.x_nil, Ev.s_exp, Ev.s_asgn, Ev.s_par2, Ev.s_ret, Ev.s_retn, Ev.s_ifs, Ev.s_pas, Ev.s_brk, Ev.s_cnt, Ev.s_for, Ev.e_var, Ev.e_int, Ev.e_bl, Ev.e_non, Ev.e_str, Ev.e_gc, Ev.e_fn, Ev.e_bin, Ev.e_neg, Ev.e_not, Ev.e_and, Ev.e_or, Ev.e_ite, Ev.e_cmp, Ev.e_chain, Ev.e_tup, Ev.e_lst, Ev.e_dct0, Ev.e_dct1, Ev.e_idx, Ev.e_slc, Ev.e_rev, Ev.e_fld, Ev.e_call, Ev.e_calk, Ev.e_calv, Ev.e_blt, Ev.e_mak, Ev.e_mth, Ev.e_omt, Ev.e_isi, Ev.e_cmpr, Ev.es_nil, Ev.es_cons, Ev.y_of, Ev.y_enum, Ev.y_zip, Ev.y_rng, Ev.y_rng2, Ev.y_items, Ev.y_vals, Ev.if_nil, Ev.if_cons, Ev.tg_nm, Ev.tg_tup, Ev.tg_idx, Ev.tg_fld, Ev.tgs_nil, Ev.tgs_cons, Ev.t_bl, Ev.t_int, Ev.t_tup, Ev.t_non, Ev.t_fl, Ev.r_val, Ev.r_new, Ev.o_lst, Ev.o_set, Ev.s_tup, Ev.s_fl, Ev.s_ref, Ev.l_fl, Ev.i_tup, Ev.a_0, Ev.a_1, Ev.a_2, Ev.a_3, Ev.a_4, Ev.a_nat, Ev.b_len, Ev.b_abs, Ev.b_max, Ev.b_min, Ev.b_int, Ev.b_inb, Ev.n_tup, Ev.d_add, Ev.d_sub, Ev.c_lt, Ev.c_le, Ev.c_gt, Ev.c_ge, Ev.w_lt, Ev.w_le, Ev.w_gt, Ev.w_ge, Ev.w_eqi, Ev.w_nei, Ev.w_neb, Ev.w_eqb, Ev.y_int, Ev.y_bl, Ev.y_tup, Ev.it_tup, Ev.z_slc2, Ev.mup_same, Ev.mup_mup, Ev.isPt, Ev.z_ii, Ev.z_bi, Ev.z_ib, Ev.z_ll, Ev.z_lt, Ev.z_tt, Ev.z_tl, Ev.z_cc, Ev.isiOk, Ev.Tgs.len, Ev.wipe])
  rw [Ev.x_cons]
  obtain ⟨I, hI⟩ : ∃ I : Nat → Ev.St → MH → Prop, I = fun n σ M2 => ∃ pf pl fs ls x y z, σ = [some (.ref d), some (.int r), some (.ref pf), some (.ref pl), x, y, z] ∧ Ext M M2 ∧ M2 pf = some (.lst (fs.map nI)) ∧ M2 pl = some (.lst (ls.map nI)) ∧ Few R fs ∧ Few R ls ∧ (∀ x ∈ fs, Pls E r x) ∧ (∀ x, E r x → x ∈ fs) ∧ (∀ x ∈ ls, x ∈ fs) ∧ (∀ x ∈ fs, x ∉ ls → ∀ y, E x y → y ∈ fs) ∧ n = 2 * (R - fs.length) + (if ls = [] then 0 else 1) := ⟨_, rfl⟩
  refine whl_ind (Cn_mono T F _) I (2 * (R - qs.length) + (if qs = [] then 0 else 1)) (by
    rw [hI]
    exact ⟨p, p, qs, qs, none, none, none, rfl, e0, mup_same, mup_same, fq, fq, fun x hx => .one ((hq x).mp hx), fun x hx => (hq x).mpr hx, fun x hx => hx, fun x h1 h2 => absurd h1 h2, rfl⟩) fun n σ M2 h1 => ?_
  rw [hI] at h1
  obtain ⟨pf, pl, fs, ls, x, y, z, rfl, e, hf, hl, ff, fl, c1, c2, c3, c4, hn'⟩ := h1
  simp [Ev.x_nil, Ev.s_exp, Ev.s_asgn, Ev.s_par2, Ev.s_ret, Ev.s_retn, Ev.s_ifs, Ev.s_pas, Ev.s_brk, Ev.s_cnt, Ev.s_for, Ev.e_var, Ev.e_int, Ev.e_bl, Ev.e_non, Ev.e_str, Ev.e_gc, Ev.e_fn, Ev.e_bin, Ev.e_neg, Ev.e_not, Ev.e_and, Ev.e_or, Ev.e_ite, Ev.e_cmp, Ev.e_chain, Ev.e_tup, Ev.e_lst, Ev.e_dct0, Ev.e_dct1, Ev.e_idx, Ev.e_slc, Ev.e_rev, Ev.e_fld, Ev.e_call, Ev.e_calk, Ev.e_calv, Ev.e_blt, Ev.e_mak, Ev.e_mth, Ev.e_omt, Ev.e_isi, Ev.e_cmpr, Ev.es_nil, Ev.es_cons, Ev.y_of, Ev.y_enum, Ev.y_zip, Ev.y_rng, Ev.y_rng2, Ev.y_items, Ev.y_vals, Ev.if_nil, Ev.if_cons, Ev.tg_nm, Ev.tg_tup, Ev.tg_idx, Ev.tg_fld, Ev.tgs_nil, Ev.tgs_cons, Ev.t_bl, Ev.t_int, Ev.t_tup, Ev.t_non, Ev.t_fl, Ev.r_val, Ev.r_new, Ev.o_lst, Ev.o_set, Ev.s_tup, Ev.s_fl, Ev.s_ref, Ev.l_fl, Ev.i_tup, Ev.a_0, Ev.a_1, Ev.a_2, Ev.a_3, Ev.a_4, Ev.a_nat, Ev.b_len, Ev.b_abs, Ev.b_max, Ev.b_min, Ev.b_int, Ev.b_inb, Ev.n_tup, Ev.d_add, Ev.d_sub, Ev.c_lt, Ev.c_le, Ev.c_gt, Ev.c_ge, Ev.w_lt, Ev.w_le, Ev.w_gt, Ev.w_ge, Ev.w_eqi, Ev.w_nei, Ev.w_neb, Ev.w_eqb, Ev.y_int, Ev.y_bl, Ev.y_tup, Ev.it_tup, Ev.z_slc2, Ev.mup_same, Ev.mup_mup, Ev.isPt, Ev.z_ii, Ev.z_bi, Ev.z_ib, Ev.z_ll, Ev.z_lt, Ev.z_tt, Ev.z_tl, Ev.z_cc, Ev.isiOk, Ev.Tgs.len, Ev.wipe]
  refine w_ne_nil enc_nat hl fun M3 e3 => ?_
  by_cases em : ls = []
  · simp only [em, decide_true, Bool.not_true, Ev.t_bl]
    refine .inl ⟨trivial, ?_⟩
    subst em
    have := enc_nat.in_ (a := r) (e3 _ _ hf)
    (rw [Ev.x_cons]; simp [Ev.x_nil, Ev.s_exp, Ev.s_asgn, Ev.s_par2, Ev.s_ret, Ev.s_retn, Ev.s_ifs, Ev.s_pas, Ev.s_brk, Ev.s_cnt, Ev.s_for, Ev.e_var, Ev.e_int, Ev.e_bl, Ev.e_non, Ev.e_str, Ev.e_gc, Ev.e_fn, Ev.e_bin, Ev.e_neg, Ev.e_not, Ev.e_and, Ev.e_or, Ev.e_ite, Ev.e_cmp, Ev.e_chain, Ev.e_tup, Ev.e_lst, Ev.e_dct0, Ev.e_dct1, Ev.e_idx, Ev.e_slc, Ev.e_rev, Ev.e_fld, Ev.e_call, Ev.e_calk, Ev.e_calv, Ev.e_blt, Ev.e_mak, Ev.e_mth, Ev.e_omt, Ev.e_isi, Ev.e_cmpr, Ev.es_nil, Ev.es_cons, Ev.y_of, Ev.y_enum, Ev.y_zip, Ev.y_rng, Ev.y_rng2, Ev.y_items, Ev.y_vals, Ev.if_nil, Ev.if_cons, Ev.tg_nm, Ev.tg_tup, Ev.tg_idx, Ev.tg_fld, Ev.tgs_nil, Ev.tgs_cons, Ev.t_bl, Ev.t_int, Ev.t_tup, Ev.t_non, Ev.t_fl, Ev.r_val, Ev.r_new, Ev.o_lst, Ev.o_set, Ev.s_tup, Ev.s_fl, Ev.s_ref, Ev.l_fl, Ev.i_tup, Ev.a_0, Ev.a_1, Ev.a_2, Ev.a_3, Ev.a_4, Ev.a_nat, Ev.b_len, Ev.b_abs, Ev.b_max, Ev.b_min, Ev.b_int, Ev.b_inb, Ev.n_tup, Ev.d_add, Ev.d_sub, Ev.c_lt, Ev.c_le, Ev.c_gt, Ev.c_ge, Ev.w_lt, Ev.w_le, Ev.w_gt, Ev.w_ge, Ev.w_eqi, Ev.w_nei, Ev.w_neb, Ev.w_eqb, Ev.y_int, Ev.y_bl, Ev.y_tup, Ev.it_tup, Ev.z_slc2, Ev.mup_same, Ev.mup_mup, Ev.isPt, Ev.z_ii, Ev.z_bi, Ev.z_ib, Ev.z_ll, Ev.z_lt, Ev.z_tt, Ev.z_tl, Ev.z_cc, Ev.isiOk, Ev.Tgs.len, Ev.wipe])
    refine (Ev.w_in this).mpr (q _ _ (e.trans e3) ?_)
    rw [decide_eq_true_eq]
    refine ⟨c1 r, fun hx => ?_⟩
    have cl : ∀ {x}, Pls E r x → x ∈ fs := fun hx => by
      induction hx with
      | one h => exact c2 _ h
      | nx _ h ih => exact c4 _ ih (by simp) _ h
    exact cl hx
  simp only [em, decide_false, Bool.not_false, Ev.t_bl]
  have hin := enc_nat.nin (a := r) (e3 _ _ hf)
  refine (Ev.w_nin hin).mpr ?_
  by_cases rf : r ∈ fs
  · refine .inl ⟨by simp [rf, Ev.t_bl], ?_⟩
    have := enc_nat.in_ (a := r) (e3 _ _ hf)
    (rw [Ev.x_cons]; simp [Ev.x_nil, Ev.s_exp, Ev.s_asgn, Ev.s_par2, Ev.s_ret, Ev.s_retn, Ev.s_ifs, Ev.s_pas, Ev.s_brk, Ev.s_cnt, Ev.s_for, Ev.e_var, Ev.e_int, Ev.e_bl, Ev.e_non, Ev.e_str, Ev.e_gc, Ev.e_fn, Ev.e_bin, Ev.e_neg, Ev.e_not, Ev.e_and, Ev.e_or, Ev.e_ite, Ev.e_cmp, Ev.e_chain, Ev.e_tup, Ev.e_lst, Ev.e_dct0, Ev.e_dct1, Ev.e_idx, Ev.e_slc, Ev.e_rev, Ev.e_fld, Ev.e_call, Ev.e_calk, Ev.e_calv, Ev.e_blt, Ev.e_mak, Ev.e_mth, Ev.e_omt, Ev.e_isi, Ev.e_cmpr, Ev.es_nil, Ev.es_cons, Ev.y_of, Ev.y_enum, Ev.y_zip, Ev.y_rng, Ev.y_rng2, Ev.y_items, Ev.y_vals, Ev.if_nil, Ev.if_cons, Ev.tg_nm, Ev.tg_tup, Ev.tg_idx, Ev.tg_fld, Ev.tgs_nil, Ev.tgs_cons, Ev.t_bl, Ev.t_int, Ev.t_tup, Ev.t_non, Ev.t_fl, Ev.r_val, Ev.r_new, Ev.o_lst, Ev.o_set, Ev.s_tup, Ev.s_fl, Ev.s_ref, Ev.l_fl, Ev.i_tup, Ev.a_0, Ev.a_1, Ev.a_2, Ev.a_3, Ev.a_4, Ev.a_nat, Ev.b_len, Ev.b_abs, Ev.b_max, Ev.b_min, Ev.b_int, Ev.b_inb, Ev.n_tup, Ev.d_add, Ev.d_sub, Ev.c_lt, Ev.c_le, Ev.c_gt, Ev.c_ge, Ev.w_lt, Ev.w_le, Ev.w_gt, Ev.w_ge, Ev.w_eqi, Ev.w_nei, Ev.w_neb, Ev.w_eqb, Ev.y_int, Ev.y_bl, Ev.y_tup, Ev.it_tup, Ev.z_slc2, Ev.mup_same, Ev.mup_mup, Ev.isPt, Ev.z_ii, Ev.z_bi, Ev.z_ib, Ev.z_ll, Ev.z_lt, Ev.z_tt, Ev.z_tl, Ev.z_cc, Ev.isiOk, Ev.Tgs.len, Ev.wipe])
    refine (Ev.w_in this).mpr (q _ _ (e.trans e3) ?_)
    rw [decide_eq_true_eq]
    exact ⟨c1 r, fun _ => rf⟩
  refine .inr ⟨by simp [rf, Ev.t_bl], fun K hK => ?_⟩
  (rw [Ev.x_cons]; simp [Ev.x_nil, Ev.s_exp, Ev.s_asgn, Ev.s_par2, Ev.s_ret, Ev.s_retn, Ev.s_ifs, Ev.s_pas, Ev.s_brk, Ev.s_cnt, Ev.s_for, Ev.e_var, Ev.e_int, Ev.e_bl, Ev.e_non, Ev.e_str, Ev.e_gc, Ev.e_fn, Ev.e_bin, Ev.e_neg, Ev.e_not, Ev.e_and, Ev.e_or, Ev.e_ite, Ev.e_cmp, Ev.e_chain, Ev.e_tup, Ev.e_lst, Ev.e_dct0, Ev.e_dct1, Ev.e_idx, Ev.e_slc, Ev.e_rev, Ev.e_fld, Ev.e_call, Ev.e_calk, Ev.e_calv, Ev.e_blt, Ev.e_mak, Ev.e_mth, Ev.e_omt, Ev.e_isi, Ev.e_cmpr, Ev.es_nil, Ev.es_cons, Ev.y_of, Ev.y_enum, Ev.y_zip, Ev.y_rng, Ev.y_rng2, Ev.y_items, Ev.y_vals, Ev.if_nil, Ev.if_cons, Ev.tg_nm, Ev.tg_tup, Ev.tg_idx, Ev.tg_fld, Ev.tgs_nil, Ev.tgs_cons, Ev.t_bl, Ev.t_int, Ev.t_tup, Ev.t_non, Ev.t_fl, Ev.r_val, Ev.r_new, Ev.o_lst, Ev.o_set, Ev.s_tup, Ev.s_fl, Ev.s_ref, Ev.l_fl, Ev.i_tup, Ev.a_0, Ev.a_1, Ev.a_2, Ev.a_3, Ev.a_4, Ev.a_nat, Ev.b_len, Ev.b_abs, Ev.b_max, Ev.b_min, Ev.b_int, Ev.b_inb, Ev.n_tup, Ev.d_add, Ev.d_sub, Ev.c_lt, Ev.c_le, Ev.c_gt, Ev.c_ge, Ev.w_lt, Ev.w_le, Ev.w_gt, Ev.w_ge, Ev.w_eqi, Ev.w_nei, Ev.w_neb, Ev.w_eqb, Ev.y_int, Ev.y_bl, Ev.y_tup, Ev.it_tup, Ev.z_slc2, Ev.mup_same, Ev.mup_mup, Ev.isPt, Ev.z_ii, Ev.z_bi, Ev.z_ib, Ev.z_ll, Ev.z_lt, Ev.z_tt, Ev.z_tl, Ev.z_cc, Ev.isiOk, Ev.Tgs.len, Ev.wipe])
  intro pd hpd
  have e4 := Ext.new (o := .dct []) hpd
  have hn3 := hn.ext (e.trans e3)
  obtain ⟨PL, EL, EL1⟩ := hn3.fn
  (rw [Ev.x_cons]; simp [Ev.x_nil, Ev.s_exp, Ev.s_asgn, Ev.s_par2, Ev.s_ret, Ev.s_retn, Ev.s_ifs, Ev.s_pas, Ev.s_brk, Ev.s_cnt, Ev.s_for, Ev.e_var, Ev.e_int, Ev.e_bl, Ev.e_non, Ev.e_str, Ev.e_gc, Ev.e_fn, Ev.e_bin, Ev.e_neg, Ev.e_not, Ev.e_and, Ev.e_or, Ev.e_ite, Ev.e_cmp, Ev.e_chain, Ev.e_tup, Ev.e_lst, Ev.e_dct0, Ev.e_dct1, Ev.e_idx, Ev.e_slc, Ev.e_rev, Ev.e_fld, Ev.e_call, Ev.e_calk, Ev.e_calv, Ev.e_blt, Ev.e_mak, Ev.e_mth, Ev.e_omt, Ev.e_isi, Ev.e_cmpr, Ev.es_nil, Ev.es_cons, Ev.y_of, Ev.y_enum, Ev.y_zip, Ev.y_rng, Ev.y_rng2, Ev.y_items, Ev.y_vals, Ev.if_nil, Ev.if_cons, Ev.tg_nm, Ev.tg_tup, Ev.tg_idx, Ev.tg_fld, Ev.tgs_nil, Ev.tgs_cons, Ev.t_bl, Ev.t_int, Ev.t_tup, Ev.t_non, Ev.t_fl, Ev.r_val, Ev.r_new, Ev.o_lst, Ev.o_set, Ev.s_tup, Ev.s_fl, Ev.s_ref, Ev.l_fl, Ev.i_tup, Ev.a_0, Ev.a_1, Ev.a_2, Ev.a_3, Ev.a_4, Ev.a_nat, Ev.b_len, Ev.b_abs, Ev.b_max, Ev.b_min, Ev.b_int, Ev.b_inb, Ev.n_tup, Ev.d_add, Ev.d_sub, Ev.c_lt, Ev.c_le, Ev.c_gt, Ev.c_ge, Ev.w_lt, Ev.w_le, Ev.w_gt, Ev.w_ge, Ev.w_eqi, Ev.w_nei, Ev.w_neb, Ev.w_eqb, Ev.y_int, Ev.y_bl, Ev.y_tup, Ev.it_tup, Ev.z_slc2, Ev.mup_same, Ev.mup_mup, Ev.isPt, Ev.z_ii, Ev.z_bi, Ev.z_ib, Ev.z_ll, Ev.z_lt, Ev.z_tt, Ev.z_tl, Ev.z_cc, Ev.isiOk, Ev.Tgs.len, Ev.wipe, l_ref (e4 _ _ (e3 _ _ hl))])
  have e34 := e.trans e3
  refine forL_fold nI ls (stH EL fs) (s0 := []) (fun s σ M' => (∃ a b, σ = [some (.ref d), some (.int r), some (.ref pf), some (.ref pl), some (.ref pd), a, b]) ∧ Ext M3 M' ∧ M' pd = some (.dct (s.map (kT nI))) ∧ Few R s) (fun s σ M1 h => seq_stays e4 h.2.1 (seq_lst (l_ref (e3 _ _ hl)))) (fun s o σ M1 K p q' hpq hs h1 hk => ?_) (fun σ M1 h1 => ?_) ⟨⟨_, _, rfl⟩, e4, mup_same, Few.nil⟩
  · obtain ⟨⟨a, b, rfl⟩, e5, hM, fw⟩ := h1
    have ho : o < R := fl.lt o (by rw [hpq]; simp)
    obtain ⟨g1, g2, g3, g4⟩ := EL1 o ho
    have g1' : idxR M1 (.ref d) (.int o) = some (.ref (PL o)) := by
      obtain ⟨kvs, k1, k2, k3⟩ := hn3
      rw [i_dct (e5 _ _ k1) (fit_int k2 o), ← g1, i_dct k1 (fit_int k2 o)]
    unfold bdF
    simp [Ev.x_nil, Ev.s_exp, Ev.s_asgn, Ev.s_par2, Ev.s_ret, Ev.s_retn, Ev.s_ifs, Ev.s_pas, Ev.s_brk, Ev.s_cnt, Ev.s_for, Ev.e_var, Ev.e_int, Ev.e_bl, Ev.e_non, Ev.e_str, Ev.e_gc, Ev.e_fn, Ev.e_bin, Ev.e_neg, Ev.e_not, Ev.e_and, Ev.e_or, Ev.e_ite, Ev.e_cmp, Ev.e_chain, Ev.e_tup, Ev.e_lst, Ev.e_dct0, Ev.e_dct1, Ev.e_idx, Ev.e_slc, Ev.e_rev, Ev.e_fld, Ev.e_call, Ev.e_calk, Ev.e_calv, Ev.e_blt, Ev.e_mak, Ev.e_mth, Ev.e_omt, Ev.e_isi, Ev.e_cmpr, Ev.es_nil, Ev.es_cons, Ev.y_of, Ev.y_enum, Ev.y_zip, Ev.y_rng, Ev.y_rng2, Ev.y_items, Ev.y_vals, Ev.if_nil, Ev.if_cons, Ev.tg_nm, Ev.tg_tup, Ev.tg_idx, Ev.tg_fld, Ev.tgs_nil, Ev.tgs_cons, Ev.t_bl, Ev.t_int, Ev.t_tup, Ev.t_non, Ev.t_fl, Ev.r_val, Ev.r_new, Ev.o_lst, Ev.o_set, Ev.s_tup, Ev.s_fl, Ev.s_ref, Ev.l_fl, Ev.i_tup, Ev.a_0, Ev.a_1, Ev.a_2, Ev.a_3, Ev.a_4, Ev.a_nat, Ev.b_len, Ev.b_abs, Ev.b_max, Ev.b_min, Ev.b_int, Ev.b_inb, Ev.n_tup, Ev.d_add, Ev.d_sub, Ev.c_lt, Ev.c_le, Ev.c_gt, Ev.c_ge, Ev.w_lt, Ev.w_le, Ev.w_gt, Ev.w_ge, Ev.w_eqi, Ev.w_nei, Ev.w_neb, Ev.w_eqb, Ev.y_int, Ev.y_bl, Ev.y_tup, Ev.it_tup, Ev.z_slc2, Ev.mup_same, Ev.mup_mup, Ev.isPt, Ev.z_ii, Ev.z_bi, Ev.z_ib, Ev.z_ll, Ev.z_lt, Ev.z_tt, Ev.z_tl, Ev.z_cc, Ev.isiOk, Ev.Tgs.len, Ev.wipe, nI]
    (rw [Ev.x_cons]; simp [Ev.x_nil, Ev.s_exp, Ev.s_asgn, Ev.s_par2, Ev.s_ret, Ev.s_retn, Ev.s_ifs, Ev.s_pas, Ev.s_brk, Ev.s_cnt, Ev.s_for, Ev.e_var, Ev.e_int, Ev.e_bl, Ev.e_non, Ev.e_str, Ev.e_gc, Ev.e_fn, Ev.e_bin, Ev.e_neg, Ev.e_not, Ev.e_and, Ev.e_or, Ev.e_ite, Ev.e_cmp, Ev.e_chain, Ev.e_tup, Ev.e_lst, Ev.e_dct0, Ev.e_dct1, Ev.e_idx, Ev.e_slc, Ev.e_rev, Ev.e_fld, Ev.e_call, Ev.e_calk, Ev.e_calv, Ev.e_blt, Ev.e_mak, Ev.e_mth, Ev.e_omt, Ev.e_isi, Ev.e_cmpr, Ev.es_nil, Ev.es_cons, Ev.y_of, Ev.y_enum, Ev.y_zip, Ev.y_rng, Ev.y_rng2, Ev.y_items, Ev.y_vals, Ev.if_nil, Ev.if_cons, Ev.tg_nm, Ev.tg_tup, Ev.tg_idx, Ev.tg_fld, Ev.tgs_nil, Ev.tgs_cons, Ev.t_bl, Ev.t_int, Ev.t_tup, Ev.t_non, Ev.t_fl, Ev.r_val, Ev.r_new, Ev.o_lst, Ev.o_set, Ev.s_tup, Ev.s_fl, Ev.s_ref, Ev.l_fl, Ev.i_tup, Ev.a_0, Ev.a_1, Ev.a_2, Ev.a_3, Ev.a_4, Ev.a_nat, Ev.b_len, Ev.b_abs, Ev.b_max, Ev.b_min, Ev.b_int, Ev.b_inb, Ev.n_tup, Ev.d_add, Ev.d_sub, Ev.c_lt, Ev.c_le, Ev.c_gt, Ev.c_ge, Ev.w_lt, Ev.w_le, Ev.w_gt, Ev.w_ge, Ev.w_eqi, Ev.w_nei, Ev.w_neb, Ev.w_eqb, Ev.y_int, Ev.y_bl, Ev.y_tup, Ev.it_tup, Ev.z_slc2, Ev.mup_same, Ev.mup_mup, Ev.isPt, Ev.z_ii, Ev.z_bi, Ev.z_ib, Ev.z_ll, Ev.z_lt, Ev.z_tt, Ev.z_tl, Ev.z_cc, Ev.isiOk, Ev.Tgs.len, Ev.wipe, nI, g1', l_ref (e5 _ _ g2)])
    refine forL_fold nI (EL o) (fun s q => if q ∈ fs then s else addN s q) (s0 := s) (fun s σ M' => (∃ a b, σ = [some (.ref d), some (.int r), some (.ref pf), some (.ref pl), some (.ref pd), a, b]) ∧ Ext M3 M' ∧ M' pd = some (.dct (s.map (kT nI))) ∧ Few R s) (fun s σ M1' h => seq_stays (M := M3) e5 h.2.1 (seq_lst (l_ref g2))) (fun s o2 σ M1 K p q2 hpq2 hs2 h1 hk => ?_) (fun σ M1 h1 => ?_) ⟨⟨_, _, rfl⟩, e5, hM, fw⟩
    · obtain ⟨⟨a, b, rfl⟩, e5, hM, fw⟩ := h1
      have ho2 : o2 < R := g4.lt o2 (by rw [hpq2]; simp)
      have hin := enc_nat.nin (a := o2) (e5 _ _ (e3 _ _ hf))
      have sz : s.length < sizeLine := by
        have := fw.len
        have : 12 < sizeLine := by decide
        omega
      unfold bdF
      simp [Ev.x_nil, Ev.s_exp, Ev.s_asgn, Ev.s_par2, Ev.s_ret, Ev.s_retn, Ev.s_ifs, Ev.s_pas, Ev.s_brk, Ev.s_cnt, Ev.s_for, Ev.e_var, Ev.e_int, Ev.e_bl, Ev.e_non, Ev.e_str, Ev.e_gc, Ev.e_fn, Ev.e_bin, Ev.e_neg, Ev.e_not, Ev.e_and, Ev.e_or, Ev.e_ite, Ev.e_cmp, Ev.e_chain, Ev.e_tup, Ev.e_lst, Ev.e_dct0, Ev.e_dct1, Ev.e_idx, Ev.e_slc, Ev.e_rev, Ev.e_fld, Ev.e_call, Ev.e_calk, Ev.e_calv, Ev.e_blt, Ev.e_mak, Ev.e_mth, Ev.e_omt, Ev.e_isi, Ev.e_cmpr, Ev.es_nil, Ev.es_cons, Ev.y_of, Ev.y_enum, Ev.y_zip, Ev.y_rng, Ev.y_rng2, Ev.y_items, Ev.y_vals, Ev.if_nil, Ev.if_cons, Ev.tg_nm, Ev.tg_tup, Ev.tg_idx, Ev.tg_fld, Ev.tgs_nil, Ev.tgs_cons, Ev.t_bl, Ev.t_int, Ev.t_tup, Ev.t_non, Ev.t_fl, Ev.r_val, Ev.r_new, Ev.o_lst, Ev.o_set, Ev.s_tup, Ev.s_fl, Ev.s_ref, Ev.l_fl, Ev.i_tup, Ev.a_0, Ev.a_1, Ev.a_2, Ev.a_3, Ev.a_4, Ev.a_nat, Ev.b_len, Ev.b_abs, Ev.b_max, Ev.b_min, Ev.b_int, Ev.b_inb, Ev.n_tup, Ev.d_add, Ev.d_sub, Ev.c_lt, Ev.c_le, Ev.c_gt, Ev.c_ge, Ev.w_lt, Ev.w_le, Ev.w_gt, Ev.w_ge, Ev.w_eqi, Ev.w_nei, Ev.w_neb, Ev.w_eqb, Ev.y_int, Ev.y_bl, Ev.y_tup, Ev.it_tup, Ev.z_slc2, Ev.mup_same, Ev.mup_mup, Ev.isPt, Ev.z_ii, Ev.z_bi, Ev.z_ib, Ev.z_ll, Ev.z_lt, Ev.z_tt, Ev.z_tl, Ev.z_cc, Ev.isiOk, Ev.Tgs.len, Ev.wipe]
      (rw [Ev.x_cons]; simp [Ev.x_nil, Ev.s_exp, Ev.s_asgn, Ev.s_par2, Ev.s_ret, Ev.s_retn, Ev.s_ifs, Ev.s_pas, Ev.s_brk, Ev.s_cnt, Ev.s_for, Ev.e_var, Ev.e_int, Ev.e_bl, Ev.e_non, Ev.e_str, Ev.e_gc, Ev.e_fn, Ev.e_bin, Ev.e_neg, Ev.e_not, Ev.e_and, Ev.e_or, Ev.e_ite, Ev.e_cmp, Ev.e_chain, Ev.e_tup, Ev.e_lst, Ev.e_dct0, Ev.e_dct1, Ev.e_idx, Ev.e_slc, Ev.e_rev, Ev.e_fld, Ev.e_call, Ev.e_calk, Ev.e_calv, Ev.e_blt, Ev.e_mak, Ev.e_mth, Ev.e_omt, Ev.e_isi, Ev.e_cmpr, Ev.es_nil, Ev.es_cons, Ev.y_of, Ev.y_enum, Ev.y_zip, Ev.y_rng, Ev.y_rng2, Ev.y_items, Ev.y_vals, Ev.if_nil, Ev.if_cons, Ev.tg_nm, Ev.tg_tup, Ev.tg_idx, Ev.tg_fld, Ev.tgs_nil, Ev.tgs_cons, Ev.t_bl, Ev.t_int, Ev.t_tup, Ev.t_non, Ev.t_fl, Ev.r_val, Ev.r_new, Ev.o_lst, Ev.o_set, Ev.s_tup, Ev.s_fl, Ev.s_ref, Ev.l_fl, Ev.i_tup, Ev.a_0, Ev.a_1, Ev.a_2, Ev.a_3, Ev.a_4, Ev.a_nat, Ev.b_len, Ev.b_abs, Ev.b_max, Ev.b_min, Ev.b_int, Ev.b_inb, Ev.n_tup, Ev.d_add, Ev.d_sub, Ev.c_lt, Ev.c_le, Ev.c_gt, Ev.c_ge, Ev.w_lt, Ev.w_le, Ev.w_gt, Ev.w_ge, Ev.w_eqi, Ev.w_nei, Ev.w_neb, Ev.w_eqb, Ev.y_int, Ev.y_bl, Ev.y_tup, Ev.it_tup, Ev.z_slc2, Ev.mup_same, Ev.mup_mup, Ev.isPt, Ev.z_ii, Ev.z_bi, Ev.z_ib, Ev.z_ll, Ev.z_lt, Ev.z_tt, Ev.z_tl, Ev.z_cc, Ev.isiOk, Ev.Tgs.len, Ev.wipe])
      refine (Ev.w_nin hin).mpr ?_
      by_cases in2 : o2 ∈ fs
      · simp only [in2, not_true, decide_false, Ev.t_bl, Ev.x_nil]
        refine hk _ _ ⟨⟨_, _, rfl⟩, e5, ?_, ?_⟩
        · rw [if_pos in2]
          exact hM
        · rw [if_pos in2]
          exact fw
      · simp only [in2, not_false_eq_true, decide_true, Ev.t_bl]
        (rw [Ev.x_cons]; simp [Ev.x_nil, Ev.s_exp, Ev.s_asgn, Ev.s_par2, Ev.s_ret, Ev.s_retn, Ev.s_ifs, Ev.s_pas, Ev.s_brk, Ev.s_cnt, Ev.s_for, Ev.e_var, Ev.e_int, Ev.e_bl, Ev.e_non, Ev.e_str, Ev.e_gc, Ev.e_fn, Ev.e_bin, Ev.e_neg, Ev.e_not, Ev.e_and, Ev.e_or, Ev.e_ite, Ev.e_cmp, Ev.e_chain, Ev.e_tup, Ev.e_lst, Ev.e_dct0, Ev.e_dct1, Ev.e_idx, Ev.e_slc, Ev.e_rev, Ev.e_fld, Ev.e_call, Ev.e_calk, Ev.e_calv, Ev.e_blt, Ev.e_mak, Ev.e_mth, Ev.e_omt, Ev.e_isi, Ev.e_cmpr, Ev.es_nil, Ev.es_cons, Ev.y_of, Ev.y_enum, Ev.y_zip, Ev.y_rng, Ev.y_rng2, Ev.y_items, Ev.y_vals, Ev.if_nil, Ev.if_cons, Ev.tg_nm, Ev.tg_tup, Ev.tg_idx, Ev.tg_fld, Ev.tgs_nil, Ev.tgs_cons, Ev.t_bl, Ev.t_int, Ev.t_tup, Ev.t_non, Ev.t_fl, Ev.r_val, Ev.r_new, Ev.o_lst, Ev.o_set, Ev.s_tup, Ev.s_fl, Ev.s_ref, Ev.l_fl, Ev.i_tup, Ev.a_0, Ev.a_1, Ev.a_2, Ev.a_3, Ev.a_4, Ev.a_nat, Ev.b_len, Ev.b_abs, Ev.b_max, Ev.b_min, Ev.b_int, Ev.b_inb, Ev.n_tup, Ev.d_add, Ev.d_sub, Ev.c_lt, Ev.c_le, Ev.c_gt, Ev.c_ge, Ev.w_lt, Ev.w_le, Ev.w_gt, Ev.w_ge, Ev.w_eqi, Ev.w_nei, Ev.w_neb, Ev.w_eqb, Ev.y_int, Ev.y_bl, Ev.y_tup, Ev.it_tup, Ev.z_slc2, Ev.mup_same, Ev.mup_mup, Ev.isPt, Ev.z_ii, Ev.z_bi, Ev.z_ib, Ev.z_ll, Ev.z_lt, Ev.z_tt, Ev.z_tl, Ev.z_cc, Ev.isiOk, Ev.Tgs.len, Ev.wipe, nI, p_dct hM, fit_kTn, sz])
        refine hk _ _ ⟨⟨_, _, rfl⟩, e5.mup hpd, ?_, ?_⟩
        · rw [if_neg in2, mup_same, ← dput_set (fun a b e => enc_nat.inj a b e)]
          rfl
        · rw [if_neg in2]
          exact fw.addN ho2
    · simp [Ev.x_nil, Ev.s_exp, Ev.s_asgn, Ev.s_par2, Ev.s_ret, Ev.s_retn, Ev.s_ifs, Ev.s_pas, Ev.s_brk, Ev.s_cnt, Ev.s_for, Ev.e_var, Ev.e_int, Ev.e_bl, Ev.e_non, Ev.e_str, Ev.e_gc, Ev.e_fn, Ev.e_bin, Ev.e_neg, Ev.e_not, Ev.e_and, Ev.e_or, Ev.e_ite, Ev.e_cmp, Ev.e_chain, Ev.e_tup, Ev.e_lst, Ev.e_dct0, Ev.e_dct1, Ev.e_idx, Ev.e_slc, Ev.e_rev, Ev.e_fld, Ev.e_call, Ev.e_calk, Ev.e_calv, Ev.e_blt, Ev.e_mak, Ev.e_mth, Ev.e_omt, Ev.e_isi, Ev.e_cmpr, Ev.es_nil, Ev.es_cons, Ev.y_of, Ev.y_enum, Ev.y_zip, Ev.y_rng, Ev.y_rng2, Ev.y_items, Ev.y_vals, Ev.if_nil, Ev.if_cons, Ev.tg_nm, Ev.tg_tup, Ev.tg_idx, Ev.tg_fld, Ev.tgs_nil, Ev.tgs_cons, Ev.t_bl, Ev.t_int, Ev.t_tup, Ev.t_non, Ev.t_fl, Ev.r_val, Ev.r_new, Ev.o_lst, Ev.o_set, Ev.s_tup, Ev.s_fl, Ev.s_ref, Ev.l_fl, Ev.i_tup, Ev.a_0, Ev.a_1, Ev.a_2, Ev.a_3, Ev.a_4, Ev.a_nat, Ev.b_len, Ev.b_abs, Ev.b_max, Ev.b_min, Ev.b_int, Ev.b_inb, Ev.n_tup, Ev.d_add, Ev.d_sub, Ev.c_lt, Ev.c_le, Ev.c_gt, Ev.c_ge, Ev.w_lt, Ev.w_le, Ev.w_gt, Ev.w_ge, Ev.w_eqi, Ev.w_nei, Ev.w_neb, Ev.w_eqb, Ev.y_int, Ev.y_bl, Ev.y_tup, Ev.it_tup, Ev.z_slc2, Ev.mup_same, Ev.mup_mup, Ev.isPt, Ev.z_ii, Ev.z_bi, Ev.z_ib, Ev.z_ll, Ev.z_lt, Ev.z_tt, Ev.z_tl, Ev.z_cc, Ev.isiOk, Ev.Tgs.len, Ev.wipe]
      exact hk _ _ h1
  · obtain ⟨⟨a, b, rfl⟩, e5, hM, fw⟩ := h1
    have l1 : (ls.foldl (stH EL fs) []).length ≤ sizeLine := Nat.le_trans fw.len (Nat.le_trans r12 (by decide))
    have hk : itemsOf M1 (.ref pd) = some ((ls.foldl (stH EL fs) []).map nI) := by rw [it_dct hM, kT_keys]
    have ml : ∀ x, x ∈ ls.foldl (stH EL fs) [] ↔ x ∉ fs ∧ ∃ o ∈ ls, E o x := fun x => by
      rw [mem_stH]
      constructor
      · rintro (h | ⟨h, o, ho, k⟩)
        · cases h
        · exact ⟨h, o, ho, ((EL1 o (fl.lt o ho)).2.2.1 x).mp k⟩
      · rintro ⟨h, o, ho, k⟩
        exact .inr ⟨h, o, ho, ((EL1 o (fl.lt o ho)).2.2.1 x).mpr k⟩
    generalize ls.foldl (stH EL fs) [] = ks at *
    (rw [Ev.x_cons]; simp [Ev.x_nil, Ev.s_exp, Ev.s_asgn, Ev.s_par2, Ev.s_ret, Ev.s_retn, Ev.s_ifs, Ev.s_pas, Ev.s_brk, Ev.s_cnt, Ev.s_for, Ev.e_var, Ev.e_int, Ev.e_bl, Ev.e_non, Ev.e_str, Ev.e_gc, Ev.e_fn, Ev.e_bin, Ev.e_neg, Ev.e_not, Ev.e_and, Ev.e_or, Ev.e_ite, Ev.e_cmp, Ev.e_chain, Ev.e_tup, Ev.e_lst, Ev.e_dct0, Ev.e_dct1, Ev.e_idx, Ev.e_slc, Ev.e_rev, Ev.e_fld, Ev.e_call, Ev.e_calk, Ev.e_calv, Ev.e_blt, Ev.e_mak, Ev.e_mth, Ev.e_omt, Ev.e_isi, Ev.e_cmpr, Ev.es_nil, Ev.es_cons, Ev.y_of, Ev.y_enum, Ev.y_zip, Ev.y_rng, Ev.y_rng2, Ev.y_items, Ev.y_vals, Ev.if_nil, Ev.if_cons, Ev.tg_nm, Ev.tg_tup, Ev.tg_idx, Ev.tg_fld, Ev.tgs_nil, Ev.tgs_cons, Ev.t_bl, Ev.t_int, Ev.t_tup, Ev.t_non, Ev.t_fl, Ev.r_val, Ev.r_new, Ev.o_lst, Ev.o_set, Ev.s_tup, Ev.s_fl, Ev.s_ref, Ev.l_fl, Ev.i_tup, Ev.a_0, Ev.a_1, Ev.a_2, Ev.a_3, Ev.a_4, Ev.a_nat, Ev.b_len, Ev.b_abs, Ev.b_max, Ev.b_min, Ev.b_int, Ev.b_inb, Ev.n_tup, Ev.d_add, Ev.d_sub, Ev.c_lt, Ev.c_le, Ev.c_gt, Ev.c_ge, Ev.w_lt, Ev.w_le, Ev.w_gt, Ev.w_ge, Ev.w_eqi, Ev.w_nei, Ev.w_neb, Ev.w_eqb, Ev.y_int, Ev.y_bl, Ev.y_tup, Ev.it_tup, Ev.z_slc2, Ev.mup_same, Ev.mup_mup, Ev.isPt, Ev.z_ii, Ev.z_bi, Ev.z_ib, Ev.z_ll, Ev.z_lt, Ev.z_tt, Ev.z_tl, Ev.z_cc, Ev.isiOk, Ev.Tgs.len, Ev.wipe, b_list hk, l1])
    intro p6 hp6
    have e6 := Ext.new (o := .lst (ks.map nI)) hp6
    have b6 := b_sortN (l_ref (M := mup M1 p6 (.lst (ks.map nI))) (a := p6) mup_same)
    generalize mup M1 p6 (.lst (ks.map nI)) = M6 at *
    rw [b6, Ev.r_new, Ev.o_lst, List.length_map, (sN_perm _).length_eq]
    refine ⟨l1, fun p7 hp7 => ?_⟩
    have e7 := Ext.new (o := .lst ((sN ks).map nI)) hp7
    have h7 : (mup M6 p7 (.lst ((sN ks).map nI))) p7 = some (.lst ((sN ks).map nI)) := mup_same
    generalize mup M6 p7 (.lst ((sN ks).map nI)) = M7 at *
    have f7 := e7 _ _ (e6 _ _ (e5 _ _ (e3 _ _ hf)))
    have dj : Few R (fs ++ sN ks) := ⟨List.nodup_append.mpr ⟨ff.nd, fw.sort.nd, fun a ha b hb => by
      rintro rfl
      exact ((ml a).mp (mem_sN.mp hb)).1 ha⟩, fun x hx => (List.mem_append.mp hx).elim (ff.lt x) (fw.sort.lt x)⟩
    have l5 : (fs ++ sN ks).length ≤ sizeLine := Nat.le_trans dj.len (Nat.le_trans r12 (by decide))
    have a7 := d_adl f7 h7
    rw [← List.map_append] at a7
    (rw [Ev.x_cons]; simp [Ev.x_nil, Ev.s_exp, Ev.s_asgn, Ev.s_par2, Ev.s_ret, Ev.s_retn, Ev.s_ifs, Ev.s_pas, Ev.s_brk, Ev.s_cnt, Ev.s_for, Ev.e_var, Ev.e_int, Ev.e_bl, Ev.e_non, Ev.e_str, Ev.e_gc, Ev.e_fn, Ev.e_bin, Ev.e_neg, Ev.e_not, Ev.e_and, Ev.e_or, Ev.e_ite, Ev.e_cmp, Ev.e_chain, Ev.e_tup, Ev.e_lst, Ev.e_dct0, Ev.e_dct1, Ev.e_idx, Ev.e_slc, Ev.e_rev, Ev.e_fld, Ev.e_call, Ev.e_calk, Ev.e_calv, Ev.e_blt, Ev.e_mak, Ev.e_mth, Ev.e_omt, Ev.e_isi, Ev.e_cmpr, Ev.es_nil, Ev.es_cons, Ev.y_of, Ev.y_enum, Ev.y_zip, Ev.y_rng, Ev.y_rng2, Ev.y_items, Ev.y_vals, Ev.if_nil, Ev.if_cons, Ev.tg_nm, Ev.tg_tup, Ev.tg_idx, Ev.tg_fld, Ev.tgs_nil, Ev.tgs_cons, Ev.t_bl, Ev.t_int, Ev.t_tup, Ev.t_non, Ev.t_fl, Ev.r_val, Ev.r_new, Ev.o_lst, Ev.o_set, Ev.s_tup, Ev.s_fl, Ev.s_ref, Ev.l_fl, Ev.i_tup, Ev.a_0, Ev.a_1, Ev.a_2, Ev.a_3, Ev.a_4, Ev.a_nat, Ev.b_len, Ev.b_abs, Ev.b_max, Ev.b_min, Ev.b_int, Ev.b_inb, Ev.n_tup, Ev.d_add, Ev.d_sub, Ev.c_lt, Ev.c_le, Ev.c_gt, Ev.c_ge, Ev.w_lt, Ev.w_le, Ev.w_gt, Ev.w_ge, Ev.w_eqi, Ev.w_nei, Ev.w_neb, Ev.w_eqb, Ev.y_int, Ev.y_bl, Ev.y_tup, Ev.it_tup, Ev.z_slc2, Ev.mup_same, Ev.mup_mup, Ev.isPt, Ev.z_ii, Ev.z_bi, Ev.z_ib, Ev.z_ll, Ev.z_lt, Ev.z_tt, Ev.z_tl, Ev.z_cc, Ev.isiOk, Ev.Tgs.len, Ev.wipe])
    rw [a7, Ev.r_new, Ev.o_lst, List.length_map]
    refine ⟨l5, fun p8 hp8 => hK (2 * (R - (fs ++ sN ks).length) + (if sN ks = [] then 0 else 1)) _ _ ?_ (by
      rw [hI]
      exact ⟨p8, p7, _, _, _, _, _, rfl, (((e34.trans e5).trans e6).trans e7).trans (Ext.new hp8), mup_same, Ext.new hp8 _ _ h7, dj, fw.sort, fun x hx => by
        rcases List.mem_append.mp hx with hx | hx
        · exact c1 x hx
        · obtain ⟨_, o, ho, hE⟩ := (ml x).mp (mem_sN.mp hx)
          exact .nx (c1 o (c3 o ho)) hE, fun x hx => List.mem_append.mpr (.inl (c2 x hx)), fun x hx => List.mem_append.mpr (.inr hx), fun x hx nx y hy => by
        have hx2 : x ∈ fs := by
          rcases List.mem_append.mp hx with hx | hx
          · exact hx
          · exact absurd hx nx
        refine List.mem_append.mpr ?_
        by_cases hy2 : y ∈ fs
        · exact .inl hy2
        · by_cases hl2 : x ∈ ls
          · exact .inr (mem_sN.mpr ((ml y).mpr ⟨hy2, x, hl2, hy⟩))
          · exact absurd (c4 x hx2 hl2 y hy) hy2, rfl⟩)⟩
    rw [hn', if_neg em]
    have := dj.len
    rw [List.length_append] at this ⊢
    by_cases ek : sN ks = []
    · rw [if_pos ek, ek]
      simp
    · rw [if_neg ek]
      have := List.length_pos_iff.mpr ek
      omega
theorem w_homes_of (h : FOk F) (t : TOk T) {L R : Nat} {ws : List Way} {r : Row} {v : PV} {M : MH} {Q : PV → MH → Prop} (hv : Rdr M v L R ws) (ok : ROk L R ws) (rk : RowOk L r)
    (q : ∀ p (qs : List Nat) M', Ext M M' → M' p = some (.lst (qs.map nI)) → (∀ x, x ∈ qs ↔ Rnd ws r.1 r.2 x ∧ Rds ws r.2 x x) → Q (.ref p) M') : Cn T F (k + 4) i_homes_of [v, rP r] M Q := by
  refine cn_z h.h_homes_of rfl ?_
  simp only [f_homes_of, rP, uP]
  (rw [Ev.x_cons]; simp [Ev.x_nil, Ev.s_exp, Ev.s_asgn, Ev.s_par2, Ev.s_ret, Ev.s_retn, Ev.s_ifs, Ev.s_pas, Ev.s_brk, Ev.s_cnt, Ev.s_for, Ev.e_var, Ev.e_int, Ev.e_bl, Ev.e_non, Ev.e_str, Ev.e_gc, Ev.e_fn, Ev.e_bin, Ev.e_neg, Ev.e_not, Ev.e_and, Ev.e_or, Ev.e_ite, Ev.e_cmp, Ev.e_chain, Ev.e_tup, Ev.e_lst, Ev.e_dct0, Ev.e_dct1, Ev.e_idx, Ev.e_slc, Ev.e_rev, Ev.e_fld, Ev.e_call, Ev.e_calk, Ev.e_calv, Ev.e_blt, Ev.e_mak, Ev.e_mth, Ev.e_omt, Ev.e_isi, Ev.e_cmpr, Ev.es_nil, Ev.es_cons, Ev.y_of, Ev.y_enum, Ev.y_zip, Ev.y_rng, Ev.y_rng2, Ev.y_items, Ev.y_vals, Ev.if_nil, Ev.if_cons, Ev.tg_nm, Ev.tg_tup, Ev.tg_idx, Ev.tg_fld, Ev.tgs_nil, Ev.tgs_cons, Ev.t_bl, Ev.t_int, Ev.t_tup, Ev.t_non, Ev.t_fl, Ev.r_val, Ev.r_new, Ev.o_lst, Ev.o_set, Ev.s_tup, Ev.s_fl, Ev.s_ref, Ev.l_fl, Ev.i_tup, Ev.a_0, Ev.a_1, Ev.a_2, Ev.a_3, Ev.a_4, Ev.a_nat, Ev.b_len, Ev.b_abs, Ev.b_max, Ev.b_min, Ev.b_int, Ev.b_inb, Ev.n_tup, Ev.d_add, Ev.d_sub, Ev.c_lt, Ev.c_le, Ev.c_gt, Ev.c_ge, Ev.w_lt, Ev.w_le, Ev.w_gt, Ev.w_ge, Ev.w_eqi, Ev.w_nei, Ev.w_neb, Ev.w_eqb, Ev.y_int, Ev.y_bl, Ev.y_tup, Ev.it_tup, Ev.z_slc2, Ev.mup_same, Ev.mup_mup, Ev.isPt, Ev.z_ii, Ev.z_bi, Ev.z_ib, Ev.z_ll, Ev.z_lt, Ev.z_tt, Ev.z_tl, Ev.z_cc, Ev.isiOk, Ev.Tgs.len, Ev.wipe])
  intro d hd
  have e0 := Ext.new (o := .dct []) hd
  have r6 : R < 1000000 := by have := ok.r12; omega
  (rw [Ev.x_cons]; simp [Ev.x_nil, Ev.s_exp, Ev.s_asgn, Ev.s_par2, Ev.s_ret, Ev.s_retn, Ev.s_ifs, Ev.s_pas, Ev.s_brk, Ev.s_cnt, Ev.s_for, Ev.e_var, Ev.e_int, Ev.e_bl, Ev.e_non, Ev.e_str, Ev.e_gc, Ev.e_fn, Ev.e_bin, Ev.e_neg, Ev.e_not, Ev.e_and, Ev.e_or, Ev.e_ite, Ev.e_cmp, Ev.e_chain, Ev.e_tup, Ev.e_lst, Ev.e_dct0, Ev.e_dct1, Ev.e_idx, Ev.e_slc, Ev.e_rev, Ev.e_fld, Ev.e_call, Ev.e_calk, Ev.e_calv, Ev.e_blt, Ev.e_mak, Ev.e_mth, Ev.e_omt, Ev.e_isi, Ev.e_cmpr, Ev.es_nil, Ev.es_cons, Ev.y_of, Ev.y_enum, Ev.y_zip, Ev.y_rng, Ev.y_rng2, Ev.y_items, Ev.y_vals, Ev.if_nil, Ev.if_cons, Ev.tg_nm, Ev.tg_tup, Ev.tg_idx, Ev.tg_fld, Ev.tgs_nil, Ev.tgs_cons, Ev.t_bl, Ev.t_int, Ev.t_tup, Ev.t_non, Ev.t_fl, Ev.r_val, Ev.r_new, Ev.o_lst, Ev.o_set, Ev.s_tup, Ev.s_fl, Ev.s_ref, Ev.l_fl, Ev.i_tup, Ev.a_0, Ev.a_1, Ev.a_2, Ev.a_3, Ev.a_4, Ev.a_nat, Ev.b_len, Ev.b_abs, Ev.b_max, Ev.b_min, Ev.b_int, Ev.b_inb, Ev.n_tup, Ev.d_add, Ev.d_sub, Ev.c_lt, Ev.c_le, Ev.c_gt, Ev.c_ge, Ev.w_lt, Ev.w_le, Ev.w_gt, Ev.w_ge, Ev.w_eqi, Ev.w_nei, Ev.w_neb, Ev.w_eqb, Ev.y_int, Ev.y_bl, Ev.y_tup, Ev.it_tup, Ev.z_slc2, Ev.mup_same, Ev.mup_mup, Ev.isPt, Ev.z_ii, Ev.z_bi, Ev.z_ib, Ev.z_ll, Ev.z_lt, Ev.z_tt, Ev.z_tl, Ev.z_cc, Ev.isiOk, Ev.Tgs.len, Ev.wipe, (hv.ext e0).rooms t, rngN r6])
  refine forL_ind (fun i σ M' => (∃ a, σ = [some v, some (.tup [.tup (r.1.map nI), .tup (r.2.map nI)]), some (.ref d), a, none]) ∧ Ext M M' ∧ ∃ kvs, M' d = some (.dct kvs) ∧ kvs.length ≤ i ∧ (kvs.all fun q => !isTup q.1) = true ∧ ∀ r', r' < i → ∃ p qs, dget kvs (.int r') = some (.ref p) ∧ M' p = some (.lst (qs.map nI)) ∧ (∀ x, x ∈ qs ↔ Wrd (Cln ws) r.2 r' x) ∧ Few R qs) (fun i σ M1 _ h => trivial) (fun i x σ M1 K hx h1 hk => ?_) (fun σ M1 h1 => ?_) ⟨⟨_, rfl⟩, e0, [], mup_same, by simp, rfl, fun r hr => by omega⟩
  · obtain ⟨⟨a, rfl⟩, e, kvs, hM, hl, ht, hg⟩ := h1
    rw [List.getElem?_map] at hx
    obtain ⟨n, hn, rfl⟩ := Option.map_eq_some_iff.mp hx
    obtain ⟨hi, en⟩ := List.getElem?_eq_some_iff.mp hn
    rw [List.length_range] at hi
    rw [List.getElem_range] at en
    subst en
    unfold bdF
    simp [Ev.x_nil, Ev.s_exp, Ev.s_asgn, Ev.s_par2, Ev.s_ret, Ev.s_retn, Ev.s_ifs, Ev.s_pas, Ev.s_brk, Ev.s_cnt, Ev.s_for, Ev.e_var, Ev.e_int, Ev.e_bl, Ev.e_non, Ev.e_str, Ev.e_gc, Ev.e_fn, Ev.e_bin, Ev.e_neg, Ev.e_not, Ev.e_and, Ev.e_or, Ev.e_ite, Ev.e_cmp, Ev.e_chain, Ev.e_tup, Ev.e_lst, Ev.e_dct0, Ev.e_dct1, Ev.e_idx, Ev.e_slc, Ev.e_rev, Ev.e_fld, Ev.e_call, Ev.e_calk, Ev.e_calv, Ev.e_blt, Ev.e_mak, Ev.e_mth, Ev.e_omt, Ev.e_isi, Ev.e_cmpr, Ev.es_nil, Ev.es_cons, Ev.y_of, Ev.y_enum, Ev.y_zip, Ev.y_rng, Ev.y_rng2, Ev.y_items, Ev.y_vals, Ev.if_nil, Ev.if_cons, Ev.tg_nm, Ev.tg_tup, Ev.tg_idx, Ev.tg_fld, Ev.tgs_nil, Ev.tgs_cons, Ev.t_bl, Ev.t_int, Ev.t_tup, Ev.t_non, Ev.t_fl, Ev.r_val, Ev.r_new, Ev.o_lst, Ev.o_set, Ev.s_tup, Ev.s_fl, Ev.s_ref, Ev.l_fl, Ev.i_tup, Ev.a_0, Ev.a_1, Ev.a_2, Ev.a_3, Ev.a_4, Ev.a_nat, Ev.b_len, Ev.b_abs, Ev.b_max, Ev.b_min, Ev.b_int, Ev.b_inb, Ev.n_tup, Ev.d_add, Ev.d_sub, Ev.c_lt, Ev.c_le, Ev.c_gt, Ev.c_ge, Ev.w_lt, Ev.w_le, Ev.w_gt, Ev.w_ge, Ev.w_eqi, Ev.w_nei, Ev.w_neb, Ev.w_eqb, Ev.y_int, Ev.y_bl, Ev.y_tup, Ev.it_tup, Ev.z_slc2, Ev.mup_same, Ev.mup_mup, Ev.isPt, Ev.z_ii, Ev.z_bi, Ev.z_ib, Ev.z_ll, Ev.z_lt, Ev.z_tt, Ev.z_tl, Ev.z_cc, Ev.isiOk, Ev.Tgs.len, Ev.wipe]
    (rw [Ev.x_cons]; simp [Ev.x_nil, Ev.s_exp, Ev.s_asgn, Ev.s_par2, Ev.s_ret, Ev.s_retn, Ev.s_ifs, Ev.s_pas, Ev.s_brk, Ev.s_cnt, Ev.s_for, Ev.e_var, Ev.e_int, Ev.e_bl, Ev.e_non, Ev.e_str, Ev.e_gc, Ev.e_fn, Ev.e_bin, Ev.e_neg, Ev.e_not, Ev.e_and, Ev.e_or, Ev.e_ite, Ev.e_cmp, Ev.e_chain, Ev.e_tup, Ev.e_lst, Ev.e_dct0, Ev.e_dct1, Ev.e_idx, Ev.e_slc, Ev.e_rev, Ev.e_fld, Ev.e_call, Ev.e_calk, Ev.e_calv, Ev.e_blt, Ev.e_mak, Ev.e_mth, Ev.e_omt, Ev.e_isi, Ev.e_cmpr, Ev.es_nil, Ev.es_cons, Ev.y_of, Ev.y_enum, Ev.y_zip, Ev.y_rng, Ev.y_rng2, Ev.y_items, Ev.y_vals, Ev.if_nil, Ev.if_cons, Ev.tg_nm, Ev.tg_tup, Ev.tg_idx, Ev.tg_fld, Ev.tgs_nil, Ev.tgs_cons, Ev.t_bl, Ev.t_int, Ev.t_tup, Ev.t_non, Ev.t_fl, Ev.r_val, Ev.r_new, Ev.o_lst, Ev.o_set, Ev.s_tup, Ev.s_fl, Ev.s_ref, Ev.l_fl, Ev.i_tup, Ev.a_0, Ev.a_1, Ev.a_2, Ev.a_3, Ev.a_4, Ev.a_nat, Ev.b_len, Ev.b_abs, Ev.b_max, Ev.b_min, Ev.b_int, Ev.b_inb, Ev.n_tup, Ev.d_add, Ev.d_sub, Ev.c_lt, Ev.c_le, Ev.c_gt, Ev.c_ge, Ev.w_lt, Ev.w_le, Ev.w_gt, Ev.w_ge, Ev.w_eqi, Ev.w_nei, Ev.w_neb, Ev.w_eqb, Ev.y_int, Ev.y_bl, Ev.y_tup, Ev.it_tup, Ev.z_slc2, Ev.mup_same, Ev.mup_mup, Ev.isPt, Ev.z_ii, Ev.z_bi, Ev.z_ib, Ev.z_ll, Ev.z_lt, Ev.z_tt, Ev.z_tl, Ev.z_cc, Ev.isiOk, Ev.Tgs.len, Ev.wipe])
    refine ⟨by decide, fun p hp => ?_⟩
    have e1 := Ext.new (o := .lst [.int (i : Int)]) hp
    refine w_clean_by_word h t (hv.ext (e.trans e1)) ok (rs := [i]) (it_lst (by rw [mup_same]; rfl)) ⟨by simp, fun x hx => by rw [List.mem_singleton] at hx; subst hx; exact hi⟩ s_tup rk.a fun p2 qs M2 e2 hM2 hq fq => ?_
    have e12 := e1.trans e2
    have hd2 := e12 _ _ hM
    have lk : kvs.length < sizeLine := by have : 1000000 ≤ sizeLine := by decide
                                          omega
    simp [Ev.x_nil, Ev.s_exp, Ev.s_asgn, Ev.s_par2, Ev.s_ret, Ev.s_retn, Ev.s_ifs, Ev.s_pas, Ev.s_brk, Ev.s_cnt, Ev.s_for, Ev.e_var, Ev.e_int, Ev.e_bl, Ev.e_non, Ev.e_str, Ev.e_gc, Ev.e_fn, Ev.e_bin, Ev.e_neg, Ev.e_not, Ev.e_and, Ev.e_or, Ev.e_ite, Ev.e_cmp, Ev.e_chain, Ev.e_tup, Ev.e_lst, Ev.e_dct0, Ev.e_dct1, Ev.e_idx, Ev.e_slc, Ev.e_rev, Ev.e_fld, Ev.e_call, Ev.e_calk, Ev.e_calv, Ev.e_blt, Ev.e_mak, Ev.e_mth, Ev.e_omt, Ev.e_isi, Ev.e_cmpr, Ev.es_nil, Ev.es_cons, Ev.y_of, Ev.y_enum, Ev.y_zip, Ev.y_rng, Ev.y_rng2, Ev.y_items, Ev.y_vals, Ev.if_nil, Ev.if_cons, Ev.tg_nm, Ev.tg_tup, Ev.tg_idx, Ev.tg_fld, Ev.tgs_nil, Ev.tgs_cons, Ev.t_bl, Ev.t_int, Ev.t_tup, Ev.t_non, Ev.t_fl, Ev.r_val, Ev.r_new, Ev.o_lst, Ev.o_set, Ev.s_tup, Ev.s_fl, Ev.s_ref, Ev.l_fl, Ev.i_tup, Ev.a_0, Ev.a_1, Ev.a_2, Ev.a_3, Ev.a_4, Ev.a_nat, Ev.b_len, Ev.b_abs, Ev.b_max, Ev.b_min, Ev.b_int, Ev.b_inb, Ev.n_tup, Ev.d_add, Ev.d_sub, Ev.c_lt, Ev.c_le, Ev.c_gt, Ev.c_ge, Ev.w_lt, Ev.w_le, Ev.w_gt, Ev.w_ge, Ev.w_eqi, Ev.w_nei, Ev.w_neb, Ev.w_eqb, Ev.y_int, Ev.y_bl, Ev.y_tup, Ev.it_tup, Ev.z_slc2, Ev.mup_same, Ev.mup_mup, Ev.isPt, Ev.z_ii, Ev.z_bi, Ev.z_ib, Ev.z_ll, Ev.z_lt, Ev.z_tt, Ev.z_tl, Ev.z_cc, Ev.isiOk, Ev.Tgs.len, Ev.wipe, p_dct hd2, fit_int ht, lk]
    refine hk _ _ ⟨⟨_, rfl⟩, (e.trans e12).mup hd, _, mup_same, ?_, all_dput (p := fun x => !isTup x) _ _ rfl ht, fun r' hr' => ?_⟩
    · have := len_dput (.ref p2) (.int (i : Int)) kvs
      omega
    · rw [dget_dput]
      by_cases c : i = r'
      · subst c
        refine ⟨p2, qs, if_pos rfl, ?_, fun x => ?_, fq⟩
        · rw [mup_ne]
          · exact hM2
          · rintro rfl
            rw [hd2] at hM2
            cases hM2
        · rw [hq]
          simp
      · obtain ⟨p3, qs3, g1, g2, g3, g4⟩ := hg r' (by omega)
        have : ¬ (PV.int (i : Int) = PV.int (r' : Int)) := fun z => by
          simp only [PV.int.injEq, Int.natCast_inj] at z
          exact c z
        refine ⟨p3, qs3, by rw [if_neg this]; exact g1, ?_, g3, g4⟩
        have g2' := e12 _ _ g2
        rw [mup_ne]
        · exact g2'
        · rintro rfl
          rw [hd2] at g2'
          cases g2'
  · obtain ⟨⟨a, rfl⟩, e, kvs, hM, hl, ht, hg⟩ := h1
    rw [List.length_map, List.length_range] at hg hl
    have nx : Nxs M1 d R (fun r' q => Wrd (Cln ws) r.2 r' q) := ⟨kvs, hM, ht, hg⟩
    (rw [Ev.x_cons]; simp [Ev.x_nil, Ev.s_exp, Ev.s_asgn, Ev.s_par2, Ev.s_ret, Ev.s_retn, Ev.s_ifs, Ev.s_pas, Ev.s_brk, Ev.s_cnt, Ev.s_for, Ev.e_var, Ev.e_int, Ev.e_bl, Ev.e_non, Ev.e_str, Ev.e_gc, Ev.e_fn, Ev.e_bin, Ev.e_neg, Ev.e_not, Ev.e_and, Ev.e_or, Ev.e_ite, Ev.e_cmp, Ev.e_chain, Ev.e_tup, Ev.e_lst, Ev.e_dct0, Ev.e_dct1, Ev.e_idx, Ev.e_slc, Ev.e_rev, Ev.e_fld, Ev.e_call, Ev.e_calk, Ev.e_calv, Ev.e_blt, Ev.e_mak, Ev.e_mth, Ev.e_omt, Ev.e_isi, Ev.e_cmpr, Ev.es_nil, Ev.es_cons, Ev.y_of, Ev.y_enum, Ev.y_zip, Ev.y_rng, Ev.y_rng2, Ev.y_items, Ev.y_vals, Ev.if_nil, Ev.if_cons, Ev.tg_nm, Ev.tg_tup, Ev.tg_idx, Ev.tg_fld, Ev.tgs_nil, Ev.tgs_cons, Ev.t_bl, Ev.t_int, Ev.t_tup, Ev.t_non, Ev.t_fl, Ev.r_val, Ev.r_new, Ev.o_lst, Ev.o_set, Ev.s_tup, Ev.s_fl, Ev.s_ref, Ev.l_fl, Ev.i_tup, Ev.a_0, Ev.a_1, Ev.a_2, Ev.a_3, Ev.a_4, Ev.a_nat, Ev.b_len, Ev.b_abs, Ev.b_max, Ev.b_min, Ev.b_int, Ev.b_inb, Ev.n_tup, Ev.d_add, Ev.d_sub, Ev.c_lt, Ev.c_le, Ev.c_gt, Ev.c_ge, Ev.w_lt, Ev.w_le, Ev.w_gt, Ev.w_ge, Ev.w_eqi, Ev.w_nei, Ev.w_neb, Ev.w_eqb, Ev.y_int, Ev.y_bl, Ev.y_tup, Ev.it_tup, Ev.z_slc2, Ev.mup_same, Ev.mup_mup, Ev.isPt, Ev.z_ii, Ev.z_bi, Ev.z_ib, Ev.z_ll, Ev.z_lt, Ev.z_tt, Ev.z_tl, Ev.z_cc, Ev.isiOk, Ev.Tgs.len, Ev.wipe])
    refine w_rooms_at_rounds h t (hv.ext e) ok rk fun p qs M2 e2 hM2 hq fq => ?_
    simp [Ev.x_nil, Ev.s_exp, Ev.s_asgn, Ev.s_par2, Ev.s_ret, Ev.s_retn, Ev.s_ifs, Ev.s_pas, Ev.s_brk, Ev.s_cnt, Ev.s_for, Ev.e_var, Ev.e_int, Ev.e_bl, Ev.e_non, Ev.e_str, Ev.e_gc, Ev.e_fn, Ev.e_bin, Ev.e_neg, Ev.e_not, Ev.e_and, Ev.e_or, Ev.e_ite, Ev.e_cmp, Ev.e_chain, Ev.e_tup, Ev.e_lst, Ev.e_dct0, Ev.e_dct1, Ev.e_idx, Ev.e_slc, Ev.e_rev, Ev.e_fld, Ev.e_call, Ev.e_calk, Ev.e_calv, Ev.e_blt, Ev.e_mak, Ev.e_mth, Ev.e_omt, Ev.e_isi, Ev.e_cmpr, Ev.es_nil, Ev.es_cons, Ev.y_of, Ev.y_enum, Ev.y_zip, Ev.y_rng, Ev.y_rng2, Ev.y_items, Ev.y_vals, Ev.if_nil, Ev.if_cons, Ev.tg_nm, Ev.tg_tup, Ev.tg_idx, Ev.tg_fld, Ev.tgs_nil, Ev.tgs_cons, Ev.t_bl, Ev.t_int, Ev.t_tup, Ev.t_non, Ev.t_fl, Ev.r_val, Ev.r_new, Ev.o_lst, Ev.o_set, Ev.s_tup, Ev.s_fl, Ev.s_ref, Ev.l_fl, Ev.i_tup, Ev.a_0, Ev.a_1, Ev.a_2, Ev.a_3, Ev.a_4, Ev.a_nat, Ev.b_len, Ev.b_abs, Ev.b_max, Ev.b_min, Ev.b_int, Ev.b_inb, Ev.n_tup, Ev.d_add, Ev.d_sub, Ev.c_lt, Ev.c_le, Ev.c_gt, Ev.c_ge, Ev.w_lt, Ev.w_le, Ev.w_gt, Ev.w_ge, Ev.w_eqi, Ev.w_nei, Ev.w_neb, Ev.w_eqb, Ev.y_int, Ev.y_bl, Ev.y_tup, Ev.it_tup, Ev.z_slc2, Ev.mup_same, Ev.mup_mup, Ev.isPt, Ev.z_ii, Ev.z_bi, Ev.z_ib, Ev.z_ll, Ev.z_lt, Ev.z_tt, Ev.z_tl, Ev.z_cc, Ev.isiOk, Ev.Tgs.len, Ev.wipe, l_ref hM2]
    intro D hD
    have l4 : qs.length ≤ sizeLine := Nat.le_trans fq.len (Nat.le_trans ok.r12 (by decide))
    classical
    refine cmpL_fm qs nI (fun x => if Pls (fun r' q => Wrd (Cln ws) r.2 r' q) x x then some (nI x) else none) hD l4 (fun M' e' => seqOf_stays e' (seq_lst (l_ref hM2))) (fun x hx M5 K5 e5 yes no => ?_) fun M5 e5 hM5 => ?_
    · unfold Ev.bdK
      simp [Ev.x_nil, Ev.s_exp, Ev.s_asgn, Ev.s_par2, Ev.s_ret, Ev.s_retn, Ev.s_ifs, Ev.s_pas, Ev.s_brk, Ev.s_cnt, Ev.s_for, Ev.e_var, Ev.e_int, Ev.e_bl, Ev.e_non, Ev.e_str, Ev.e_gc, Ev.e_fn, Ev.e_bin, Ev.e_neg, Ev.e_not, Ev.e_and, Ev.e_or, Ev.e_ite, Ev.e_cmp, Ev.e_chain, Ev.e_tup, Ev.e_lst, Ev.e_dct0, Ev.e_dct1, Ev.e_idx, Ev.e_slc, Ev.e_rev, Ev.e_fld, Ev.e_call, Ev.e_calk, Ev.e_calv, Ev.e_blt, Ev.e_mak, Ev.e_mth, Ev.e_omt, Ev.e_isi, Ev.e_cmpr, Ev.es_nil, Ev.es_cons, Ev.y_of, Ev.y_enum, Ev.y_zip, Ev.y_rng, Ev.y_rng2, Ev.y_items, Ev.y_vals, Ev.if_nil, Ev.if_cons, Ev.tg_nm, Ev.tg_tup, Ev.tg_idx, Ev.tg_fld, Ev.tgs_nil, Ev.tgs_cons, Ev.t_bl, Ev.t_int, Ev.t_tup, Ev.t_non, Ev.t_fl, Ev.r_val, Ev.r_new, Ev.o_lst, Ev.o_set, Ev.s_tup, Ev.s_fl, Ev.s_ref, Ev.l_fl, Ev.i_tup, Ev.a_0, Ev.a_1, Ev.a_2, Ev.a_3, Ev.a_4, Ev.a_nat, Ev.b_len, Ev.b_abs, Ev.b_max, Ev.b_min, Ev.b_int, Ev.b_inb, Ev.n_tup, Ev.d_add, Ev.d_sub, Ev.c_lt, Ev.c_le, Ev.c_gt, Ev.c_ge, Ev.w_lt, Ev.w_le, Ev.w_gt, Ev.w_ge, Ev.w_eqi, Ev.w_nei, Ev.w_neb, Ev.w_eqb, Ev.y_int, Ev.y_bl, Ev.y_tup, Ev.it_tup, Ev.z_slc2, Ev.mup_same, Ev.mup_mup, Ev.isPt, Ev.z_ii, Ev.z_bi, Ev.z_ib, Ev.z_ll, Ev.z_lt, Ev.z_tt, Ev.z_tl, Ev.z_cc, Ev.isiOk, Ev.Tgs.len, Ev.wipe, nI]
      refine w_comes_home h (nx.ext (e2.trans e5)) (fq.lt x hx) ok.r12 fun b M6 e6 hb => ?_
      cases b with
      | true => 
        simp only [Ev.t_bl]
        exact yes _ _ (if_pos (hb.mp rfl)) e6
      | false =>
        simp only [Ev.t_bl]
        refine no _ (if_neg fun z => ?_) e6
        exact Bool.noConfusion (hb.mpr z)
    · refine q D (qs.filter fun x => decide (Pls (fun r' q => Wrd (Cln ws) r.2 r' q) x x)) M5 ((e.trans e2).trans e5) ?_ fun x => ?_
      · rw [hM5]
        congr 2
        clear hM5 hM2 hq fq l4
        induction qs with
        | nil => rfl
        | cons y ys ih =>
          rw [List.filterMap_cons, List.filter_cons, ih]
          by_cases c : Pls (fun r' q => Wrd (Cln ws) r.2 r' q) y y
          · simp [c]
          · simp [c]
      · rw [List.mem_filter, hq, decide_eq_true_eq, rds_pls]
theorem w_is_let_by (h : FOk F) (t : TOk T) {L R : Nat} {ws : List Way} {r : Row} {v : PV} {M : MH} {Q : PV → MH → Prop} (hv : Rdr M v L R ws) (ok : ROk L R ws) (rk : RowOk L r)
    (q : ∀ b M', Ext M M' → (b = true ↔ Lets ws r.1 r.2) → Q (.bl b) M') : Cn T F (k + 5) i_is_let_by [v, rP r] M Q := by
  refine cn_z h.h_is_let_by rfl ?_
  simp only [f_is_let_by]
  (rw [Ev.x_cons]; simp [Ev.x_nil, Ev.s_exp, Ev.s_asgn, Ev.s_par2, Ev.s_ret, Ev.s_retn, Ev.s_ifs, Ev.s_pas, Ev.s_brk, Ev.s_cnt, Ev.s_for, Ev.e_var, Ev.e_int, Ev.e_bl, Ev.e_non, Ev.e_str, Ev.e_gc, Ev.e_fn, Ev.e_bin, Ev.e_neg, Ev.e_not, Ev.e_and, Ev.e_or, Ev.e_ite, Ev.e_cmp, Ev.e_chain, Ev.e_tup, Ev.e_lst, Ev.e_dct0, Ev.e_dct1, Ev.e_idx, Ev.e_slc, Ev.e_rev, Ev.e_fld, Ev.e_call, Ev.e_calk, Ev.e_calv, Ev.e_blt, Ev.e_mak, Ev.e_mth, Ev.e_omt, Ev.e_isi, Ev.e_cmpr, Ev.es_nil, Ev.es_cons, Ev.y_of, Ev.y_enum, Ev.y_zip, Ev.y_rng, Ev.y_rng2, Ev.y_items, Ev.y_vals, Ev.if_nil, Ev.if_cons, Ev.tg_nm, Ev.tg_tup, Ev.tg_idx, Ev.tg_fld, Ev.tgs_nil, Ev.tgs_cons, Ev.t_bl, Ev.t_int, Ev.t_tup, Ev.t_non, Ev.t_fl, Ev.r_val, Ev.r_new, Ev.o_lst, Ev.o_set, Ev.s_tup, Ev.s_fl, Ev.s_ref, Ev.l_fl, Ev.i_tup, Ev.a_0, Ev.a_1, Ev.a_2, Ev.a_3, Ev.a_4, Ev.a_nat, Ev.b_len, Ev.b_abs, Ev.b_max, Ev.b_min, Ev.b_int, Ev.b_inb, Ev.n_tup, Ev.d_add, Ev.d_sub, Ev.c_lt, Ev.c_le, Ev.c_gt, Ev.c_ge, Ev.w_lt, Ev.w_le, Ev.w_gt, Ev.w_ge, Ev.w_eqi, Ev.w_nei, Ev.w_neb, Ev.w_eqb, Ev.y_int, Ev.y_bl, Ev.y_tup, Ev.it_tup, Ev.z_slc2, Ev.mup_same, Ev.mup_mup, Ev.isPt, Ev.z_ii, Ev.z_bi, Ev.z_ib, Ev.z_ll, Ev.z_lt, Ev.z_tt, Ev.z_tl, Ev.z_cc, Ev.isiOk, Ev.Tgs.len, Ev.wipe])
  refine w_homes_of h t hv ok rk fun p qs M1 e1 hM1 hq => ?_
  refine w_ne_nil enc_nat hM1 fun M2 e2 => q _ _ (e1.trans e2) ?_
  rw [lets_home rk.ne (R := R) fun r l q s hw => (ok.bd _ hw).2.2.1]
  simp only [Bool.not_eq_true', decide_eq_false_iff_not]
  constructor
  · intro h
    obtain ⟨x, hx⟩ := List.exists_mem_of_ne_nil _ h
    exact ⟨x, (hq x).mp hx⟩
  · rintro ⟨x, hx⟩
    exact List.ne_nil_of_mem ((hq x).mpr hx)
theorem w_lets_by (h : FOk F) (t : TOk T) {L R : Nat} {ws : List Way} {r : Row} {v : PV} {M : MH} {Q : PV → MH → Prop} (hv : Rdr M v L R ws) (ok : ROk L R ws) (rk : RowOk L r)
    (q : ∀ b M', Ext M M' → (b = true ↔ Lets ws r.1 r.2) → Q (.bl b) M') : Cn T F (k + 6) i_lets_by [v, rP r] M Q := by
  refine cn_z h.h_lets_by rfl ?_
  simp only [f_lets_by]
  (rw [Ev.x_cons]; simp [Ev.x_nil, Ev.s_exp, Ev.s_asgn, Ev.s_par2, Ev.s_ret, Ev.s_retn, Ev.s_ifs, Ev.s_pas, Ev.s_brk, Ev.s_cnt, Ev.s_for, Ev.e_var, Ev.e_int, Ev.e_bl, Ev.e_non, Ev.e_str, Ev.e_gc, Ev.e_fn, Ev.e_bin, Ev.e_neg, Ev.e_not, Ev.e_and, Ev.e_or, Ev.e_ite, Ev.e_cmp, Ev.e_chain, Ev.e_tup, Ev.e_lst, Ev.e_dct0, Ev.e_dct1, Ev.e_idx, Ev.e_slc, Ev.e_rev, Ev.e_fld, Ev.e_call, Ev.e_calk, Ev.e_calv, Ev.e_blt, Ev.e_mak, Ev.e_mth, Ev.e_omt, Ev.e_isi, Ev.e_cmpr, Ev.es_nil, Ev.es_cons, Ev.y_of, Ev.y_enum, Ev.y_zip, Ev.y_rng, Ev.y_rng2, Ev.y_items, Ev.y_vals, Ev.if_nil, Ev.if_cons, Ev.tg_nm, Ev.tg_tup, Ev.tg_idx, Ev.tg_fld, Ev.tgs_nil, Ev.tgs_cons, Ev.t_bl, Ev.t_int, Ev.t_tup, Ev.t_non, Ev.t_fl, Ev.r_val, Ev.r_new, Ev.o_lst, Ev.o_set, Ev.s_tup, Ev.s_fl, Ev.s_ref, Ev.l_fl, Ev.i_tup, Ev.a_0, Ev.a_1, Ev.a_2, Ev.a_3, Ev.a_4, Ev.a_nat, Ev.b_len, Ev.b_abs, Ev.b_max, Ev.b_min, Ev.b_int, Ev.b_inb, Ev.n_tup, Ev.d_add, Ev.d_sub, Ev.c_lt, Ev.c_le, Ev.c_gt, Ev.c_ge, Ev.w_lt, Ev.w_le, Ev.w_gt, Ev.w_ge, Ev.w_eqi, Ev.w_nei, Ev.w_neb, Ev.w_eqb, Ev.y_int, Ev.y_bl, Ev.y_tup, Ev.it_tup, Ev.z_slc2, Ev.mup_same, Ev.mup_mup, Ev.isPt, Ev.z_ii, Ev.z_bi, Ev.z_ib, Ev.z_ll, Ev.z_lt, Ev.z_tt, Ev.z_tl, Ev.z_cc, Ev.isiOk, Ev.Tgs.len, Ev.wipe])
  refine w_want_reader h t hv ?_
  (rw [Ev.x_cons]; simp [Ev.x_nil, Ev.s_exp, Ev.s_asgn, Ev.s_par2, Ev.s_ret, Ev.s_retn, Ev.s_ifs, Ev.s_pas, Ev.s_brk, Ev.s_cnt, Ev.s_for, Ev.e_var, Ev.e_int, Ev.e_bl, Ev.e_non, Ev.e_str, Ev.e_gc, Ev.e_fn, Ev.e_bin, Ev.e_neg, Ev.e_not, Ev.e_and, Ev.e_or, Ev.e_ite, Ev.e_cmp, Ev.e_chain, Ev.e_tup, Ev.e_lst, Ev.e_dct0, Ev.e_dct1, Ev.e_idx, Ev.e_slc, Ev.e_rev, Ev.e_fld, Ev.e_call, Ev.e_calk, Ev.e_calv, Ev.e_blt, Ev.e_mak, Ev.e_mth, Ev.e_omt, Ev.e_isi, Ev.e_cmpr, Ev.es_nil, Ev.es_cons, Ev.y_of, Ev.y_enum, Ev.y_zip, Ev.y_rng, Ev.y_rng2, Ev.y_items, Ev.y_vals, Ev.if_nil, Ev.if_cons, Ev.tg_nm, Ev.tg_tup, Ev.tg_idx, Ev.tg_fld, Ev.tgs_nil, Ev.tgs_cons, Ev.t_bl, Ev.t_int, Ev.t_tup, Ev.t_non, Ev.t_fl, Ev.r_val, Ev.r_new, Ev.o_lst, Ev.o_set, Ev.s_tup, Ev.s_fl, Ev.s_ref, Ev.l_fl, Ev.i_tup, Ev.a_0, Ev.a_1, Ev.a_2, Ev.a_3, Ev.a_4, Ev.a_nat, Ev.b_len, Ev.b_abs, Ev.b_max, Ev.b_min, Ev.b_int, Ev.b_inb, Ev.n_tup, Ev.d_add, Ev.d_sub, Ev.c_lt, Ev.c_le, Ev.c_gt, Ev.c_ge, Ev.w_lt, Ev.w_le, Ev.w_gt, Ev.w_ge, Ev.w_eqi, Ev.w_nei, Ev.w_neb, Ev.w_eqb, Ev.y_int, Ev.y_bl, Ev.y_tup, Ev.it_tup, Ev.z_slc2, Ev.mup_same, Ev.mup_mup, Ev.isPt, Ev.z_ii, Ev.z_bi, Ev.z_ib, Ev.z_ll, Ev.z_lt, Ev.z_tt, Ev.z_tl, Ev.z_cc, Ev.isiOk, Ev.Tgs.len, Ev.wipe, hv.letters t])
  refine w_want_row h t rk fun M1 e1 => ?_
  exact w_is_let_by h t (hv.ext e1) ok rk fun b M2 e2 hb => q b M2 (e1.trans e2) hb
end Rv
end

section
/-! Wf: readers joined, walked. -/
namespace Rv
open PySem Ev
theorem foldl_len {α β : Type} {f : List β → α → List β} {B : Nat} (h : ∀ s a, (f s a).length ≤ s.length + B) : ∀ (as : List α) (s : List β), (as.foldl f s).length ≤ s.length + as.length * B
  | [], s => by simp
  | a :: as, s => by
    have h1 := foldl_len h as (f s a)
    have h2 := h s a
    have h3 : (a :: as).length * B = as.length * B + B := by rw [List.length_cons, Nat.succ_mul]
    rw [List.foldl_cons]
    omega
theorem fit_tup {kvs : List (PV × PV)} (h : (kvs.all fun q => isTup q.1) = true) {x : PV} (hx : isTup x = true) (hk : keyOk x = true) : keyFit kvs x = true := by
  unfold keyFit
  rw [hk, Bool.true_and]
  rw [List.all_eq_true] at h ⊢
  intro y hy
  rw [h y hy, hx]
  rfl
/-- places by name -/
def plI {N : Type} (nP : N → PV) : Nat → List N → List (PV × PV)
  | _, [] => []
  | i, x :: l => (nP x, .int (i : Int)) :: plI nP (i + 1) l
def plc {N : Type} (nP : N → PV) (l : List N) : List (PV × PV) := plI nP 0 l
section
variable {N : Type} [DecidableEq N] {nP : N → PV} (inj : ∀ a b, nP a = nP b → a = b)
include inj
omit inj in
theorem plI_len : ∀ (l : List N) (i : Nat), (plI nP i l).length = l.length
  | [], _ => rfl
  | x :: l, i => by rw [plI, List.length_cons, plI_len, List.length_cons]
omit inj in
theorem plI_all {p : PV → Bool} (h : ∀ x, p (nP x) = true) : ∀ (l : List N) (i : Nat), ((plI nP i l).all fun q => p q.1) = true
  | [], _ => rfl
  | x :: l, i => by rw [plI, List.all_cons, plI_all h l, h]; rfl
theorem plI_get (x : N) : ∀ (l : List N) (i : Nat), dget (plI nP i l) (nP x) = if x ∈ l then some (.int ((i + l.idxOf x : Nat) : Int)) else none
  | [], _ => by simp [plI, dget]
  | y :: l, i => by
    rw [plI, dget]
    by_cases e : y = x
    · subst e
      simp
    · rw [if_neg fun z => e (inj _ _ z), plI_get x l]
      have e2 : ¬ x = y := fun z => e z.symm
      simp only [List.mem_cons, e2, false_or]
      by_cases k : x ∈ l
      · rw [if_pos k, if_pos k, List.idxOf_cons]
        have : (y == x) = false := by simpa using e
        rw [this]
        congr 3
        simp
        omega
      · rw [if_neg k, if_neg k]
theorem plI_put (x : N) : ∀ (l : List N) (i : Nat), x ∉ l → dput (plI nP i l) (nP x) (.int ((i + l.length : Nat) : Int)) = plI nP i (l ++ [x])
  | [], _, _ => by simp [plI, dput]
  | y :: l, i, h => by
    simp only [List.mem_cons, not_or] at h
    rw [List.cons_append, plI, plI, dput, if_neg fun z => h.1 (inj _ _ z).symm]
    have := plI_put x l (i + 1) h.2
    rw [show i + 1 + l.length = i + (y :: l).length by simp; omega] at this
    rw [this]
theorem plc_get (x : N) (l : List N) : dget (plc nP l) (nP x) = if x ∈ l then some (.int (l.idxOf x : Int)) else none := by
  have := plI_get inj x l 0
  rwa [Nat.zero_add] at this
theorem plc_put (x : N) (l : List N) (h : x ∉ l) : dput (plc nP l) (nP x) (.int (l.length : Int)) = plc nP (l ++ [x]) := by
  have := plI_put inj x l 0 h
  rwa [Nat.zero_add] at this
end
theorem way_fit {l : List Way} (w : Way) : keyFit (l.map (kT wp)) (wp w) = true := fit_tup (by
  rw [List.all_map]
  exact List.all_eq_true.mpr fun x _ => rfl) rfl rfl
/-- a step: the name behind, and whether it slips -/
def stP {N : Type} (nP : N → PV) (y : N × Nat) : PV := .tup [nP y.1, .int y.2]
/-- names as values -/
structure Nam {N : Type} (J : Jn N) (nP : N → PV) : Prop where
  inj : ∀ a b, nP a = nP b → a = b
  tup : ∀ a, isTup (nP a) = true
  key : ∀ a, keyOk (nP a) = true
  i0 : ∀ M a, idxR M (nP a) (.int 0) = some (.int (J.p1 a : Int))
  i1 : ∀ M a, idxR M (nP a) (.int 1) = some (.int (J.p2 a : Int))
variable {T : Tab} {F : Nat → Option Fn} {k : Nat}
/-- a step's def -/
def StepOk (T : Tab) (F : Nat → Option Fn) {N : Type} (J : Jn N) (nP : N → PV) (f : Nat) : Prop := ∀ k x w v M (Q : PV → MH → Prop), w ∈ J.near → v ∈ J.far → Q (stP nP (J.st x w v)) M → Cn T F (k + 1) f [wp w, wp v, nP x] M Q
theorem w_steps_from (h : FOk F) (t : TOk T) {N : Type} [DecidableEq N] {J : Jn N} {nP : N → PV} (nm : Nam J nP) {f : Nat} (hf : StepOk T F J nP f) {R1 R2 : Nat} {v u : PV} {x : N} {l : Nat} {M : MH} {Q : PV → MH → Prop} (hv : Rdr M v J.L R1 J.near) (hu : Rdr M u J.L R2 J.far) (ok1 : ROk J.L R1 J.near) (ok2 : ROk J.L R2 J.far)
    (hx1 : J.p1 x < R1) (hx2 : J.p2 x < R2) (hl : l < J.L) (q : ∀ p M', M p = none → Ext M M' → M' p = some (.lst ((J.jps x l).map (stP nP))) → Q (.ref p) M') : Cn T F (k + 2) i_steps_from [v, u, nP x, .int l, .fn f] M Q := by
  refine cn_z h.h_steps_from rfl ?_
  simp only [f_steps_from]
  (rw [Ev.x_cons]; simp [Ev.x_nil, Ev.s_exp, Ev.s_asgn, Ev.s_par2, Ev.s_ret, Ev.s_retn, Ev.s_ifs, Ev.s_pas, Ev.s_brk, Ev.s_cnt, Ev.s_for, Ev.e_var, Ev.e_int, Ev.e_bl, Ev.e_non, Ev.e_str, Ev.e_gc, Ev.e_fn, Ev.e_bin, Ev.e_neg, Ev.e_not, Ev.e_and, Ev.e_or, Ev.e_ite, Ev.e_cmp, Ev.e_chain, Ev.e_tup, Ev.e_lst, Ev.e_dct0, Ev.e_dct1, Ev.e_idx, Ev.e_slc, Ev.e_rev, Ev.e_fld, Ev.e_call, Ev.e_calk, Ev.e_calv, Ev.e_blt, Ev.e_mak, Ev.e_mth, Ev.e_omt, Ev.e_isi, Ev.e_cmpr, Ev.es_nil, Ev.es_cons, Ev.y_of, Ev.y_enum, Ev.y_zip, Ev.y_rng, Ev.y_rng2, Ev.y_items, Ev.y_vals, Ev.if_nil, Ev.if_cons, Ev.tg_nm, Ev.tg_tup, Ev.tg_idx, Ev.tg_fld, Ev.tgs_nil, Ev.tgs_cons, Ev.t_bl, Ev.t_int, Ev.t_tup, Ev.t_non, Ev.t_fl, Ev.r_val, Ev.r_new, Ev.o_lst, Ev.o_set, Ev.s_tup, Ev.s_fl, Ev.s_ref, Ev.l_fl, Ev.i_tup, Ev.a_0, Ev.a_1, Ev.a_2, Ev.a_3, Ev.a_4, Ev.a_nat, Ev.b_len, Ev.b_abs, Ev.b_max, Ev.b_min, Ev.b_int, Ev.b_inb, Ev.n_tup, Ev.d_add, Ev.d_sub, Ev.c_lt, Ev.c_le, Ev.c_gt, Ev.c_ge, Ev.w_lt, Ev.w_le, Ev.w_gt, Ev.w_ge, Ev.w_eqi, Ev.w_nei, Ev.w_neb, Ev.w_eqb, Ev.y_int, Ev.y_bl, Ev.y_tup, Ev.it_tup, Ev.z_slc2, Ev.mup_same, Ev.mup_mup, Ev.isPt, Ev.z_ii, Ev.z_bi, Ev.z_ib, Ev.z_ll, Ev.z_lt, Ev.z_tt, Ev.z_tl, Ev.z_cc, Ev.isiOk, Ev.Tgs.len, Ev.wipe])
  intro p hp
  have e0 := Ext.new (o := .lst []) hp
  obtain ⟨b, hb, hix⟩ := (hv.ext e0).idx ok1 t
  have sz : 1000000 ≤ sizeLine := by decide
  have two : 2 ≤ sizeLine := by decide
  (rw [Ev.x_cons]; simp [Ev.x_nil, Ev.s_exp, Ev.s_asgn, Ev.s_par2, Ev.s_ret, Ev.s_retn, Ev.s_ifs, Ev.s_pas, Ev.s_brk, Ev.s_cnt, Ev.s_for, Ev.e_var, Ev.e_int, Ev.e_bl, Ev.e_non, Ev.e_str, Ev.e_gc, Ev.e_fn, Ev.e_bin, Ev.e_neg, Ev.e_not, Ev.e_and, Ev.e_or, Ev.e_ite, Ev.e_cmp, Ev.e_chain, Ev.e_tup, Ev.e_lst, Ev.e_dct0, Ev.e_dct1, Ev.e_idx, Ev.e_slc, Ev.e_rev, Ev.e_fld, Ev.e_call, Ev.e_calk, Ev.e_calv, Ev.e_blt, Ev.e_mak, Ev.e_mth, Ev.e_omt, Ev.e_isi, Ev.e_cmpr, Ev.es_nil, Ev.es_cons, Ev.y_of, Ev.y_enum, Ev.y_zip, Ev.y_rng, Ev.y_rng2, Ev.y_items, Ev.y_vals, Ev.if_nil, Ev.if_cons, Ev.tg_nm, Ev.tg_tup, Ev.tg_idx, Ev.tg_fld, Ev.tgs_nil, Ev.tgs_cons, Ev.t_bl, Ev.t_int, Ev.t_tup, Ev.t_non, Ev.t_fl, Ev.r_val, Ev.r_new, Ev.o_lst, Ev.o_set, Ev.s_tup, Ev.s_fl, Ev.s_ref, Ev.l_fl, Ev.i_tup, Ev.a_0, Ev.a_1, Ev.a_2, Ev.a_3, Ev.a_4, Ev.a_nat, Ev.b_len, Ev.b_abs, Ev.b_max, Ev.b_min, Ev.b_int, Ev.b_inb, Ev.n_tup, Ev.d_add, Ev.d_sub, Ev.c_lt, Ev.c_le, Ev.c_gt, Ev.c_ge, Ev.w_lt, Ev.w_le, Ev.w_gt, Ev.w_ge, Ev.w_eqi, Ev.w_nei, Ev.w_neb, Ev.w_eqb, Ev.y_int, Ev.y_bl, Ev.y_tup, Ev.it_tup, Ev.z_slc2, Ev.mup_same, Ev.mup_mup, Ev.isPt, Ev.z_ii, Ev.z_bi, Ev.z_ib, Ev.z_ll, Ev.z_lt, Ev.z_tt, Ev.z_tl, Ev.z_cc, Ev.isiOk, Ev.Tgs.len, Ev.wipe, hb, nm.i0, hix _ l hx1 hl, two])
  let G1 : List (N × Nat) → Way → List (N × Nat) := fun s w => (byW J.far (J.p2 x) l).foldl (fun s v => s ++ [J.st x w v]) s
  have b1 : ∀ s w, (G1 s w).length ≤ s.length + 64 := fun s w => by
    have h1 := foldl_len (f := fun s v => s ++ [J.st x w v]) (B := 1) (fun s a => by simp) (byW J.far (J.p2 x) l) s
    have h2 : (byW J.far (J.p2 x) l).length ≤ J.far.length := List.length_filter_le ..
    have := ok2.len
    show ((byW J.far (J.p2 x) l).foldl (fun s v => s ++ [J.st x w v]) s).length ≤ _
    omega
  have b2 : ∀ s i, (viaI J.near G1 s i).length ≤ s.length + 64 := fun s i => by
    unfold viaI
    split
    · exact b1 _ _
    · omega
  refine forL_fold nI (ixs J.near (J.p1 x) l) (viaI J.near G1) (s0 := []) (fun s σ M' => (∃ a b c, σ = [some v, some u, some (nP x), some (.int l), some (.fn f), some (.ref p), a, b, c]) ∧ Ext M M' ∧ M' p = some (.lst (s.map (stP nP)))) (fun s σ M1 h => trivial) (fun s i σ M1 K p1 q1 hpq hs h1 hk => ?_) (fun σ M1 h1 => ?_) ⟨⟨_, _, _, rfl⟩, e0, mup_same⟩
  · obtain ⟨⟨a, b, c, rfl⟩, e, hM⟩ := h1
    obtain ⟨w, hw, -⟩ := mem_ixs.mp (show i ∈ ixs J.near (J.p1 x) l by rw [hpq]; simp)
    have hw' : (J.near.map wp)[i]? = some (wp w) := by rw [List.getElem?_map, hw]; rfl
    rw [viaI_some hw] at hk
    have ls : s.length ≤ 64 * 64 := by
      rw [hs]
      have h1 := foldl_len b2 p1 []
      have h2 : (ixs J.near (J.p1 x) l).length = p1.length + (i :: q1).length := by rw [hpq, List.length_append]
      have h3 := ixs_len J.near (J.p1 x) l
      have := ok1.len
      have h4 : p1.length ≤ 63 := by omega
      have h5 : p1.length * 64 ≤ 63 * 64 := Nat.mul_le_mul_right 64 h4
      simp only [List.length_nil, Nat.zero_add] at h1
      omega
    unfold bdF
    simp [Ev.x_nil, Ev.s_exp, Ev.s_asgn, Ev.s_par2, Ev.s_ret, Ev.s_retn, Ev.s_ifs, Ev.s_pas, Ev.s_brk, Ev.s_cnt, Ev.s_for, Ev.e_var, Ev.e_int, Ev.e_bl, Ev.e_non, Ev.e_str, Ev.e_gc, Ev.e_fn, Ev.e_bin, Ev.e_neg, Ev.e_not, Ev.e_and, Ev.e_or, Ev.e_ite, Ev.e_cmp, Ev.e_chain, Ev.e_tup, Ev.e_lst, Ev.e_dct0, Ev.e_dct1, Ev.e_idx, Ev.e_slc, Ev.e_rev, Ev.e_fld, Ev.e_call, Ev.e_calk, Ev.e_calv, Ev.e_blt, Ev.e_mak, Ev.e_mth, Ev.e_omt, Ev.e_isi, Ev.e_cmpr, Ev.es_nil, Ev.es_cons, Ev.y_of, Ev.y_enum, Ev.y_zip, Ev.y_rng, Ev.y_rng2, Ev.y_items, Ev.y_vals, Ev.if_nil, Ev.if_cons, Ev.tg_nm, Ev.tg_tup, Ev.tg_idx, Ev.tg_fld, Ev.tgs_nil, Ev.tgs_cons, Ev.t_bl, Ev.t_int, Ev.t_tup, Ev.t_non, Ev.t_fl, Ev.r_val, Ev.r_new, Ev.o_lst, Ev.o_set, Ev.s_tup, Ev.s_fl, Ev.s_ref, Ev.l_fl, Ev.i_tup, Ev.a_0, Ev.a_1, Ev.a_2, Ev.a_3, Ev.a_4, Ev.a_nat, Ev.b_len, Ev.b_abs, Ev.b_max, Ev.b_min, Ev.b_int, Ev.b_inb, Ev.n_tup, Ev.d_add, Ev.d_sub, Ev.c_lt, Ev.c_le, Ev.c_gt, Ev.c_ge, Ev.w_lt, Ev.w_le, Ev.w_gt, Ev.w_ge, Ev.w_eqi, Ev.w_nei, Ev.w_neb, Ev.w_eqb, Ev.y_int, Ev.y_bl, Ev.y_tup, Ev.it_tup, Ev.z_slc2, Ev.mup_same, Ev.mup_mup, Ev.isPt, Ev.z_ii, Ev.z_bi, Ev.z_ib, Ev.z_ll, Ev.z_lt, Ev.z_tt, Ev.z_tl, Ev.z_cc, Ev.isiOk, Ev.Tgs.len, Ev.wipe]
    (rw [Ev.x_cons]; simp [Ev.x_nil, Ev.s_exp, Ev.s_asgn, Ev.s_par2, Ev.s_ret, Ev.s_retn, Ev.s_ifs, Ev.s_pas, Ev.s_brk, Ev.s_cnt, Ev.s_for, Ev.e_var, Ev.e_int, Ev.e_bl, Ev.e_non, Ev.e_str, Ev.e_gc, Ev.e_fn, Ev.e_bin, Ev.e_neg, Ev.e_not, Ev.e_and, Ev.e_or, Ev.e_ite, Ev.e_cmp, Ev.e_chain, Ev.e_tup, Ev.e_lst, Ev.e_dct0, Ev.e_dct1, Ev.e_idx, Ev.e_slc, Ev.e_rev, Ev.e_fld, Ev.e_call, Ev.e_calk, Ev.e_calv, Ev.e_blt, Ev.e_mak, Ev.e_mth, Ev.e_omt, Ev.e_isi, Ev.e_cmpr, Ev.es_nil, Ev.es_cons, Ev.y_of, Ev.y_enum, Ev.y_zip, Ev.y_rng, Ev.y_rng2, Ev.y_items, Ev.y_vals, Ev.if_nil, Ev.if_cons, Ev.tg_nm, Ev.tg_tup, Ev.tg_idx, Ev.tg_fld, Ev.tgs_nil, Ev.tgs_cons, Ev.t_bl, Ev.t_int, Ev.t_tup, Ev.t_non, Ev.t_fl, Ev.r_val, Ev.r_new, Ev.o_lst, Ev.o_set, Ev.s_tup, Ev.s_fl, Ev.s_ref, Ev.l_fl, Ev.i_tup, Ev.a_0, Ev.a_1, Ev.a_2, Ev.a_3, Ev.a_4, Ev.a_nat, Ev.b_len, Ev.b_abs, Ev.b_max, Ev.b_min, Ev.b_int, Ev.b_inb, Ev.n_tup, Ev.d_add, Ev.d_sub, Ev.c_lt, Ev.c_le, Ev.c_gt, Ev.c_ge, Ev.w_lt, Ev.w_le, Ev.w_gt, Ev.w_ge, Ev.w_eqi, Ev.w_nei, Ev.w_neb, Ev.w_eqb, Ev.y_int, Ev.y_bl, Ev.y_tup, Ev.it_tup, Ev.z_slc2, Ev.mup_same, Ev.mup_mup, Ev.isPt, Ev.z_ii, Ev.z_bi, Ev.z_ib, Ev.z_ll, Ev.z_lt, Ev.z_tt, Ev.z_tl, Ev.z_cc, Ev.isiOk, Ev.Tgs.len, Ev.wipe, (hv.ext e).ways t, nI, a_nat, hw'])
    obtain ⟨b, hb, hix⟩ := (hu.ext e).idx ok2 t
    (rw [Ev.x_cons]; simp [Ev.x_nil, Ev.s_exp, Ev.s_asgn, Ev.s_par2, Ev.s_ret, Ev.s_retn, Ev.s_ifs, Ev.s_pas, Ev.s_brk, Ev.s_cnt, Ev.s_for, Ev.e_var, Ev.e_int, Ev.e_bl, Ev.e_non, Ev.e_str, Ev.e_gc, Ev.e_fn, Ev.e_bin, Ev.e_neg, Ev.e_not, Ev.e_and, Ev.e_or, Ev.e_ite, Ev.e_cmp, Ev.e_chain, Ev.e_tup, Ev.e_lst, Ev.e_dct0, Ev.e_dct1, Ev.e_idx, Ev.e_slc, Ev.e_rev, Ev.e_fld, Ev.e_call, Ev.e_calk, Ev.e_calv, Ev.e_blt, Ev.e_mak, Ev.e_mth, Ev.e_omt, Ev.e_isi, Ev.e_cmpr, Ev.es_nil, Ev.es_cons, Ev.y_of, Ev.y_enum, Ev.y_zip, Ev.y_rng, Ev.y_rng2, Ev.y_items, Ev.y_vals, Ev.if_nil, Ev.if_cons, Ev.tg_nm, Ev.tg_tup, Ev.tg_idx, Ev.tg_fld, Ev.tgs_nil, Ev.tgs_cons, Ev.t_bl, Ev.t_int, Ev.t_tup, Ev.t_non, Ev.t_fl, Ev.r_val, Ev.r_new, Ev.o_lst, Ev.o_set, Ev.s_tup, Ev.s_fl, Ev.s_ref, Ev.l_fl, Ev.i_tup, Ev.a_0, Ev.a_1, Ev.a_2, Ev.a_3, Ev.a_4, Ev.a_nat, Ev.b_len, Ev.b_abs, Ev.b_max, Ev.b_min, Ev.b_int, Ev.b_inb, Ev.n_tup, Ev.d_add, Ev.d_sub, Ev.c_lt, Ev.c_le, Ev.c_gt, Ev.c_ge, Ev.w_lt, Ev.w_le, Ev.w_gt, Ev.w_ge, Ev.w_eqi, Ev.w_nei, Ev.w_neb, Ev.w_eqb, Ev.y_int, Ev.y_bl, Ev.y_tup, Ev.it_tup, Ev.z_slc2, Ev.mup_same, Ev.mup_mup, Ev.isPt, Ev.z_ii, Ev.z_bi, Ev.z_ib, Ev.z_ll, Ev.z_lt, Ev.z_tt, Ev.z_tl, Ev.z_cc, Ev.isiOk, Ev.Tgs.len, Ev.wipe, hb, nm.i1, hix _ l hx2 hl, two])
    refine forL_fold nI (ixs J.far (J.p2 x) l) (viaI J.far fun s v => s ++ [J.st x w v]) (s0 := s) (fun s σ M' => (∃ b c, σ = [some v, some u, some (nP x), some (.int l), some (.fn f), some (.ref p), b, some (wp w), c]) ∧ Ext M M' ∧ M' p = some (.lst (s.map (stP nP)))) (fun s σ M1 h => trivial) (fun s2 j σ M1 K p2 q2 hpq2 hs2 h1 hk => ?_) (fun σ M1 h1 => ?_) ⟨⟨_, _, rfl⟩, e, hM⟩
    · obtain ⟨⟨b, c, rfl⟩, e, hM⟩ := h1
      obtain ⟨y, hy, -⟩ := mem_ixs.mp (show j ∈ ixs J.far (J.p2 x) l by rw [hpq2]; simp)
      have hy' : (J.far.map wp)[j]? = some (wp y) := by rw [List.getElem?_map, hy]; rfl
      rw [viaI_some hy] at hk
      have ls2 : s2.length < sizeLine := by
        rw [hs2]
        have h1 := foldl_len (f := viaI J.far fun s v => s ++ [J.st x w v]) (B := 1) (fun s i => by
          unfold viaI
          split <;> simp) p2 s
        have h2 : (ixs J.far (J.p2 x) l).length = p2.length + (j :: q2).length := by rw [hpq2, List.length_append]
        have h3 := ixs_len J.far (J.p2 x) l
        have := ok2.len
        omega
      unfold bdF
      simp [Ev.x_nil, Ev.s_exp, Ev.s_asgn, Ev.s_par2, Ev.s_ret, Ev.s_retn, Ev.s_ifs, Ev.s_pas, Ev.s_brk, Ev.s_cnt, Ev.s_for, Ev.e_var, Ev.e_int, Ev.e_bl, Ev.e_non, Ev.e_str, Ev.e_gc, Ev.e_fn, Ev.e_bin, Ev.e_neg, Ev.e_not, Ev.e_and, Ev.e_or, Ev.e_ite, Ev.e_cmp, Ev.e_chain, Ev.e_tup, Ev.e_lst, Ev.e_dct0, Ev.e_dct1, Ev.e_idx, Ev.e_slc, Ev.e_rev, Ev.e_fld, Ev.e_call, Ev.e_calk, Ev.e_calv, Ev.e_blt, Ev.e_mak, Ev.e_mth, Ev.e_omt, Ev.e_isi, Ev.e_cmpr, Ev.es_nil, Ev.es_cons, Ev.y_of, Ev.y_enum, Ev.y_zip, Ev.y_rng, Ev.y_rng2, Ev.y_items, Ev.y_vals, Ev.if_nil, Ev.if_cons, Ev.tg_nm, Ev.tg_tup, Ev.tg_idx, Ev.tg_fld, Ev.tgs_nil, Ev.tgs_cons, Ev.t_bl, Ev.t_int, Ev.t_tup, Ev.t_non, Ev.t_fl, Ev.r_val, Ev.r_new, Ev.o_lst, Ev.o_set, Ev.s_tup, Ev.s_fl, Ev.s_ref, Ev.l_fl, Ev.i_tup, Ev.a_0, Ev.a_1, Ev.a_2, Ev.a_3, Ev.a_4, Ev.a_nat, Ev.b_len, Ev.b_abs, Ev.b_max, Ev.b_min, Ev.b_int, Ev.b_inb, Ev.n_tup, Ev.d_add, Ev.d_sub, Ev.c_lt, Ev.c_le, Ev.c_gt, Ev.c_ge, Ev.w_lt, Ev.w_le, Ev.w_gt, Ev.w_ge, Ev.w_eqi, Ev.w_nei, Ev.w_neb, Ev.w_eqb, Ev.y_int, Ev.y_bl, Ev.y_tup, Ev.it_tup, Ev.z_slc2, Ev.mup_same, Ev.mup_mup, Ev.isPt, Ev.z_ii, Ev.z_bi, Ev.z_ib, Ev.z_ll, Ev.z_lt, Ev.z_tt, Ev.z_tl, Ev.z_cc, Ev.isiOk, Ev.Tgs.len, Ev.wipe]
      (rw [Ev.x_cons]; simp [Ev.x_nil, Ev.s_exp, Ev.s_asgn, Ev.s_par2, Ev.s_ret, Ev.s_retn, Ev.s_ifs, Ev.s_pas, Ev.s_brk, Ev.s_cnt, Ev.s_for, Ev.e_var, Ev.e_int, Ev.e_bl, Ev.e_non, Ev.e_str, Ev.e_gc, Ev.e_fn, Ev.e_bin, Ev.e_neg, Ev.e_not, Ev.e_and, Ev.e_or, Ev.e_ite, Ev.e_cmp, Ev.e_chain, Ev.e_tup, Ev.e_lst, Ev.e_dct0, Ev.e_dct1, Ev.e_idx, Ev.e_slc, Ev.e_rev, Ev.e_fld, Ev.e_call, Ev.e_calk, Ev.e_calv, Ev.e_blt, Ev.e_mak, Ev.e_mth, Ev.e_omt, Ev.e_isi, Ev.e_cmpr, Ev.es_nil, Ev.es_cons, Ev.y_of, Ev.y_enum, Ev.y_zip, Ev.y_rng, Ev.y_rng2, Ev.y_items, Ev.y_vals, Ev.if_nil, Ev.if_cons, Ev.tg_nm, Ev.tg_tup, Ev.tg_idx, Ev.tg_fld, Ev.tgs_nil, Ev.tgs_cons, Ev.t_bl, Ev.t_int, Ev.t_tup, Ev.t_non, Ev.t_fl, Ev.r_val, Ev.r_new, Ev.o_lst, Ev.o_set, Ev.s_tup, Ev.s_fl, Ev.s_ref, Ev.l_fl, Ev.i_tup, Ev.a_0, Ev.a_1, Ev.a_2, Ev.a_3, Ev.a_4, Ev.a_nat, Ev.b_len, Ev.b_abs, Ev.b_max, Ev.b_min, Ev.b_int, Ev.b_inb, Ev.n_tup, Ev.d_add, Ev.d_sub, Ev.c_lt, Ev.c_le, Ev.c_gt, Ev.c_ge, Ev.w_lt, Ev.w_le, Ev.w_gt, Ev.w_ge, Ev.w_eqi, Ev.w_nei, Ev.w_neb, Ev.w_eqb, Ev.y_int, Ev.y_bl, Ev.y_tup, Ev.it_tup, Ev.z_slc2, Ev.mup_same, Ev.mup_mup, Ev.isPt, Ev.z_ii, Ev.z_bi, Ev.z_ib, Ev.z_ll, Ev.z_lt, Ev.z_tt, Ev.z_tl, Ev.z_cc, Ev.isiOk, Ev.Tgs.len, Ev.wipe, o_app hM, (hu.ext e).ways t, nI, a_nat, hy'])
      refine hf _ x w y _ _ (List.mem_of_getElem? hw) (List.mem_of_getElem? hy) ?_
      simp [Ev.x_nil, Ev.s_exp, Ev.s_asgn, Ev.s_par2, Ev.s_ret, Ev.s_retn, Ev.s_ifs, Ev.s_pas, Ev.s_brk, Ev.s_cnt, Ev.s_for, Ev.e_var, Ev.e_int, Ev.e_bl, Ev.e_non, Ev.e_str, Ev.e_gc, Ev.e_fn, Ev.e_bin, Ev.e_neg, Ev.e_not, Ev.e_and, Ev.e_or, Ev.e_ite, Ev.e_cmp, Ev.e_chain, Ev.e_tup, Ev.e_lst, Ev.e_dct0, Ev.e_dct1, Ev.e_idx, Ev.e_slc, Ev.e_rev, Ev.e_fld, Ev.e_call, Ev.e_calk, Ev.e_calv, Ev.e_blt, Ev.e_mak, Ev.e_mth, Ev.e_omt, Ev.e_isi, Ev.e_cmpr, Ev.es_nil, Ev.es_cons, Ev.y_of, Ev.y_enum, Ev.y_zip, Ev.y_rng, Ev.y_rng2, Ev.y_items, Ev.y_vals, Ev.if_nil, Ev.if_cons, Ev.tg_nm, Ev.tg_tup, Ev.tg_idx, Ev.tg_fld, Ev.tgs_nil, Ev.tgs_cons, Ev.t_bl, Ev.t_int, Ev.t_tup, Ev.t_non, Ev.t_fl, Ev.r_val, Ev.r_new, Ev.o_lst, Ev.o_set, Ev.s_tup, Ev.s_fl, Ev.s_ref, Ev.l_fl, Ev.i_tup, Ev.a_0, Ev.a_1, Ev.a_2, Ev.a_3, Ev.a_4, Ev.a_nat, Ev.b_len, Ev.b_abs, Ev.b_max, Ev.b_min, Ev.b_int, Ev.b_inb, Ev.n_tup, Ev.d_add, Ev.d_sub, Ev.c_lt, Ev.c_le, Ev.c_gt, Ev.c_ge, Ev.w_lt, Ev.w_le, Ev.w_gt, Ev.w_ge, Ev.w_eqi, Ev.w_nei, Ev.w_neb, Ev.w_eqb, Ev.y_int, Ev.y_bl, Ev.y_tup, Ev.it_tup, Ev.z_slc2, Ev.mup_same, Ev.mup_mup, Ev.isPt, Ev.z_ii, Ev.z_bi, Ev.z_ib, Ev.z_ll, Ev.z_lt, Ev.z_tt, Ev.z_tl, Ev.z_cc, Ev.isiOk, Ev.Tgs.len, Ev.wipe, u_app hM, ls2]
      exact hk _ _ ⟨⟨_, _, rfl⟩, e.mup hp, by rw [mup_same, List.map_append]; rfl⟩
    · rw [fold_ixs] at h1
      obtain ⟨⟨b, c, rfl⟩, e, hM⟩ := h1
      simp [Ev.x_nil, Ev.s_exp, Ev.s_asgn, Ev.s_par2, Ev.s_ret, Ev.s_retn, Ev.s_ifs, Ev.s_pas, Ev.s_brk, Ev.s_cnt, Ev.s_for, Ev.e_var, Ev.e_int, Ev.e_bl, Ev.e_non, Ev.e_str, Ev.e_gc, Ev.e_fn, Ev.e_bin, Ev.e_neg, Ev.e_not, Ev.e_and, Ev.e_or, Ev.e_ite, Ev.e_cmp, Ev.e_chain, Ev.e_tup, Ev.e_lst, Ev.e_dct0, Ev.e_dct1, Ev.e_idx, Ev.e_slc, Ev.e_rev, Ev.e_fld, Ev.e_call, Ev.e_calk, Ev.e_calv, Ev.e_blt, Ev.e_mak, Ev.e_mth, Ev.e_omt, Ev.e_isi, Ev.e_cmpr, Ev.es_nil, Ev.es_cons, Ev.y_of, Ev.y_enum, Ev.y_zip, Ev.y_rng, Ev.y_rng2, Ev.y_items, Ev.y_vals, Ev.if_nil, Ev.if_cons, Ev.tg_nm, Ev.tg_tup, Ev.tg_idx, Ev.tg_fld, Ev.tgs_nil, Ev.tgs_cons, Ev.t_bl, Ev.t_int, Ev.t_tup, Ev.t_non, Ev.t_fl, Ev.r_val, Ev.r_new, Ev.o_lst, Ev.o_set, Ev.s_tup, Ev.s_fl, Ev.s_ref, Ev.l_fl, Ev.i_tup, Ev.a_0, Ev.a_1, Ev.a_2, Ev.a_3, Ev.a_4, Ev.a_nat, Ev.b_len, Ev.b_abs, Ev.b_max, Ev.b_min, Ev.b_int, Ev.b_inb, Ev.n_tup, Ev.d_add, Ev.d_sub, Ev.c_lt, Ev.c_le, Ev.c_gt, Ev.c_ge, Ev.w_lt, Ev.w_le, Ev.w_gt, Ev.w_ge, Ev.w_eqi, Ev.w_nei, Ev.w_neb, Ev.w_eqb, Ev.y_int, Ev.y_bl, Ev.y_tup, Ev.it_tup, Ev.z_slc2, Ev.mup_same, Ev.mup_mup, Ev.isPt, Ev.z_ii, Ev.z_bi, Ev.z_ib, Ev.z_ll, Ev.z_lt, Ev.z_tt, Ev.z_tl, Ev.z_cc, Ev.isiOk, Ev.Tgs.len, Ev.wipe]
      exact hk _ _ ⟨⟨_, _, _, rfl⟩, e, hM⟩
  · rw [fold_ixs] at h1
    obtain ⟨⟨a, b, c, rfl⟩, e, hM⟩ := h1
    (rw [Ev.x_cons]; simp [Ev.x_nil, Ev.s_exp, Ev.s_asgn, Ev.s_par2, Ev.s_ret, Ev.s_retn, Ev.s_ifs, Ev.s_pas, Ev.s_brk, Ev.s_cnt, Ev.s_for, Ev.e_var, Ev.e_int, Ev.e_bl, Ev.e_non, Ev.e_str, Ev.e_gc, Ev.e_fn, Ev.e_bin, Ev.e_neg, Ev.e_not, Ev.e_and, Ev.e_or, Ev.e_ite, Ev.e_cmp, Ev.e_chain, Ev.e_tup, Ev.e_lst, Ev.e_dct0, Ev.e_dct1, Ev.e_idx, Ev.e_slc, Ev.e_rev, Ev.e_fld, Ev.e_call, Ev.e_calk, Ev.e_calv, Ev.e_blt, Ev.e_mak, Ev.e_mth, Ev.e_omt, Ev.e_isi, Ev.e_cmpr, Ev.es_nil, Ev.es_cons, Ev.y_of, Ev.y_enum, Ev.y_zip, Ev.y_rng, Ev.y_rng2, Ev.y_items, Ev.y_vals, Ev.if_nil, Ev.if_cons, Ev.tg_nm, Ev.tg_tup, Ev.tg_idx, Ev.tg_fld, Ev.tgs_nil, Ev.tgs_cons, Ev.t_bl, Ev.t_int, Ev.t_tup, Ev.t_non, Ev.t_fl, Ev.r_val, Ev.r_new, Ev.o_lst, Ev.o_set, Ev.s_tup, Ev.s_fl, Ev.s_ref, Ev.l_fl, Ev.i_tup, Ev.a_0, Ev.a_1, Ev.a_2, Ev.a_3, Ev.a_4, Ev.a_nat, Ev.b_len, Ev.b_abs, Ev.b_max, Ev.b_min, Ev.b_int, Ev.b_inb, Ev.n_tup, Ev.d_add, Ev.d_sub, Ev.c_lt, Ev.c_le, Ev.c_gt, Ev.c_ge, Ev.w_lt, Ev.w_le, Ev.w_gt, Ev.w_ge, Ev.w_eqi, Ev.w_nei, Ev.w_neb, Ev.w_eqb, Ev.y_int, Ev.y_bl, Ev.y_tup, Ev.it_tup, Ev.z_slc2, Ev.mup_same, Ev.mup_mup, Ev.isPt, Ev.z_ii, Ev.z_bi, Ev.z_ib, Ev.z_ll, Ev.z_lt, Ev.z_tt, Ev.z_tl, Ev.z_cc, Ev.isiOk, Ev.Tgs.len, Ev.wipe])
    refine q _ _ hp e ?_
    rw [hM]
    congr 3
    have key : ∀ (ws : List Way) (s : List (N × Nat)), ws.foldl G1 s = s ++ ws.flatMap fun w => (byW J.far (J.p2 x) l).map fun v => J.st x w v := fun ws => by
      have inner : ∀ (w : Way) (vs : List Way) (s : List (N × Nat)), vs.foldl (fun s v => s ++ [J.st x w v]) s = s ++ vs.map fun v => J.st x w v := fun w vs => by
        induction vs with
        | nil => intro s; simp
        | cons y ys ih => intro s; rw [List.foldl_cons, ih]; simp
      induction ws with
      | nil => intro s; simp
      | cons y ys ih =>
        intro s
        rw [List.foldl_cons, ih, List.flatMap_cons]
        show ((byW J.far (J.p2 x) l).foldl (fun s v => s ++ [J.st x y v]) s) ++ _ = _
        rw [inner, List.append_assoc]
    rw [key]
    rfl
theorem addN_pre2 {l : List Way} {s : List Way} : addL [] s <+: addL [] (s ++ l) := by
  rw [Jn.addL_app]
  exact pre_addL
theorem j1s_pre {N : Type} [DecidableEq N] {at_ l : Nat} : ∀ {ys : List (N × Nat)} {s : List N × List Way}, s.1 <+: (ys.foldl (Jn.j1 at_ l) s).1 ∧ s.2 <+: (ys.foldl (Jn.j1 at_ l) s).2
  | [], s => ⟨List.prefix_rfl, List.prefix_rfl⟩
  | y :: ys, s => by
    have h := j1s_pre (at_ := at_) (l := l) (ys := ys) (s := Jn.j1 at_ l s y)
    exact ⟨(pre_addN (x := y.1)).trans h.1, (List.prefix_append s.2 _).trans h.2⟩
theorem jls_pre {N : Type} [DecidableEq N] {J : Jn N} {at_ : Nat} {x : N} : ∀ {ls : List Nat} {s : List N × List Way}, s.1 <+: (ls.foldl (J.jl at_ x) s).1 ∧ s.2 <+: (ls.foldl (J.jl at_ x) s).2
  | [], s => ⟨List.prefix_rfl, List.prefix_rfl⟩
  | y :: ys, s => by
    have h := jls_pre (J := J) (at_ := at_) (x := x) (ls := ys) (s := J.jl at_ x s y)
    have h2 := j1s_pre (at_ := at_) (l := y) (ys := J.jps x y) (s := s)
    exact ⟨h2.1.trans h.1, h2.2.trans h.2⟩
theorem addL_nil_len {l : List Way} : (addL [] l).length ≤ l.length := nodup_len (nodup_addL List.nodup_nil) fun x hx => (mem_addL.mp hx).resolve_left fun z => by cases z
/-- all that a join asks -/
structure JOk {N : Type} [DecidableEq N] (J : Jn N) (nP : N → PV) (R1 R2 : Nat) : Prop extends Nam J nP where
  ok1 : ROk J.L R1 J.near
  ok2 : ROk J.L R2 J.far
  bd : ∀ n, ∀ x ∈ (J.jn n).1, J.p1 x < R1 ∧ J.p2 x < R2
  few : ∀ n, (J.jn n).1.length ≤ 12
  ways : ∀ n, (J.jn n).2.length < 64
  due : ∀ n, J.Full n → ∀ ws : List Way, (∀ w, w ∈ ws ↔ w ∈ (J.jn n).2) → ws.Nodup → ws.length < 64 → ROk J.L (J.jn n).1.length ws
  dec : (∀ x, x ∈ [J.first] → J.p1 x < R1 ∧ J.p2 x < R2)
theorem w_joined_by (h : FOk F) (t : TOk T) {N : Type} [DecidableEq N] {J : Jn N} {nP : N → PV} {R1 R2 : Nat} (jk : JOk J nP R1 R2) {f : Nat} (hf : StepOk T F J nP f) {v u : PV} {M : MH} {Q : PV → MH → Prop} (hv : Rdr M v J.L R1 J.near) (hu : Rdr M u J.L R2 J.far)
    (q : ∀ z n M', Ext M M' → J.Full n → Rdr M' z J.L (J.jn n).1.length (sW (addL [] (J.jn n).2)) → Q z M') : Cn T F (k + 7) i_joined_by [v, u, nP J.first, .fn f] M Q := by
  refine cn_z h.h_joined_by rfl ?_
  simp only [f_joined_by]
  have sz : 1000000 ≤ sizeLine := by decide
  have one : 1 ≤ sizeLine := by decide
  have four : 4 ≤ sizeLine := by decide
  (rw [Ev.x_cons]; simp [Ev.x_nil, Ev.s_exp, Ev.s_asgn, Ev.s_par2, Ev.s_ret, Ev.s_retn, Ev.s_ifs, Ev.s_pas, Ev.s_brk, Ev.s_cnt, Ev.s_for, Ev.e_var, Ev.e_int, Ev.e_bl, Ev.e_non, Ev.e_str, Ev.e_gc, Ev.e_fn, Ev.e_bin, Ev.e_neg, Ev.e_not, Ev.e_and, Ev.e_or, Ev.e_ite, Ev.e_cmp, Ev.e_chain, Ev.e_tup, Ev.e_lst, Ev.e_dct0, Ev.e_dct1, Ev.e_idx, Ev.e_slc, Ev.e_rev, Ev.e_fld, Ev.e_call, Ev.e_calk, Ev.e_calv, Ev.e_blt, Ev.e_mak, Ev.e_mth, Ev.e_omt, Ev.e_isi, Ev.e_cmpr, Ev.es_nil, Ev.es_cons, Ev.y_of, Ev.y_enum, Ev.y_zip, Ev.y_rng, Ev.y_rng2, Ev.y_items, Ev.y_vals, Ev.if_nil, Ev.if_cons, Ev.tg_nm, Ev.tg_tup, Ev.tg_idx, Ev.tg_fld, Ev.tgs_nil, Ev.tgs_cons, Ev.t_bl, Ev.t_int, Ev.t_tup, Ev.t_non, Ev.t_fl, Ev.r_val, Ev.r_new, Ev.o_lst, Ev.o_set, Ev.s_tup, Ev.s_fl, Ev.s_ref, Ev.l_fl, Ev.i_tup, Ev.a_0, Ev.a_1, Ev.a_2, Ev.a_3, Ev.a_4, Ev.a_nat, Ev.b_len, Ev.b_abs, Ev.b_max, Ev.b_min, Ev.b_int, Ev.b_inb, Ev.n_tup, Ev.d_add, Ev.d_sub, Ev.c_lt, Ev.c_le, Ev.c_gt, Ev.c_ge, Ev.w_lt, Ev.w_le, Ev.w_gt, Ev.w_ge, Ev.w_eqi, Ev.w_nei, Ev.w_neb, Ev.w_eqb, Ev.y_int, Ev.y_bl, Ev.y_tup, Ev.it_tup, Ev.z_slc2, Ev.mup_same, Ev.mup_mup, Ev.isPt, Ev.z_ii, Ev.z_bi, Ev.z_ib, Ev.z_ll, Ev.z_lt, Ev.z_tt, Ev.z_tl, Ev.z_cc, Ev.isiOk, Ev.Tgs.len, Ev.wipe, one])
  intro nd hnd pd hpd
  have e1 := Ext.new (o := .lst [nP J.first]) hnd
  have n1 : (mup M nd (.lst [nP J.first])) nd = some (.lst [nP J.first]) := mup_same
  generalize mup M nd (.lst [nP J.first]) = M1 at *
  refine ⟨⟨jk.tup _, jk.key _⟩, ?_⟩
  have e2 := Ext.new (o := .dct [(nP J.first, .int 0)]) hpd
  have n2 := e2 _ _ n1
  have k2 : (mup M1 pd (.dct [(nP J.first, .int 0)])) pd = some (.dct [(nP J.first, .int 0)]) := mup_same
  have hp0 : M pd = none := e1.non hpd
  have ne1 : nd ≠ pd := by
    rintro rfl
    rw [hpd] at n1
    cases n1
  generalize mup M1 pd (.dct [(nP J.first, .int 0)]) = M2 at *
  intro wd hwd
  have hw0 : M wd = none := (e1.trans e2).non hwd
  have ne2 : nd ≠ wd := by
    rintro rfl
    rw [hwd] at n2
    cases n2
  have ne3 : pd ≠ wd := by
    rintro rfl
    rw [hwd] at k2
    cases k2
  have e3 := Ext.new (o := .dct []) hwd
  refine ⟨four, ?_⟩
  rw [Ev.x_cons]
  obtain ⟨I, hI⟩ : ∃ I : Nat → Ev.St → MH → Prop, I = fun n σ M2 => ∃ i a b c, σ = [some v, some u, some (nP J.first), some (.fn f), some (.ref nd), some (.ref pd), some (.ref wd), some (.int (i : Nat)), a, b, c] ∧ Ext M M2 ∧ M2 nd = some (.lst ((J.jn i).1.map nP)) ∧ M2 pd = some (.dct (plc nP (J.jn i).1)) ∧ M2 wd = some (.dct ((addL [] (J.jn i).2).map (kT wp))) ∧ n + i = 13 := ⟨_, rfl⟩
  refine whl_ind (Cn_mono T F _) I 13 (by
    rw [hI]
    exact ⟨0, none, none, none, rfl, (e1.trans e2).trans e3, e3 _ _ n2, e3 _ _ k2, mup_same, rfl⟩) fun n σ M3 h1 => ?_
  rw [hI] at h1
  obtain ⟨i, a, b, c, rfl, e, hN, hP, hW, hn⟩ := h1
  simp [Ev.x_nil, Ev.s_exp, Ev.s_asgn, Ev.s_par2, Ev.s_ret, Ev.s_retn, Ev.s_ifs, Ev.s_pas, Ev.s_brk, Ev.s_cnt, Ev.s_for, Ev.e_var, Ev.e_int, Ev.e_bl, Ev.e_non, Ev.e_str, Ev.e_gc, Ev.e_fn, Ev.e_bin, Ev.e_neg, Ev.e_not, Ev.e_and, Ev.e_or, Ev.e_ite, Ev.e_cmp, Ev.e_chain, Ev.e_tup, Ev.e_lst, Ev.e_dct0, Ev.e_dct1, Ev.e_idx, Ev.e_slc, Ev.e_rev, Ev.e_fld, Ev.e_call, Ev.e_calk, Ev.e_calv, Ev.e_blt, Ev.e_mak, Ev.e_mth, Ev.e_omt, Ev.e_isi, Ev.e_cmpr, Ev.es_nil, Ev.es_cons, Ev.y_of, Ev.y_enum, Ev.y_zip, Ev.y_rng, Ev.y_rng2, Ev.y_items, Ev.y_vals, Ev.if_nil, Ev.if_cons, Ev.tg_nm, Ev.tg_tup, Ev.tg_idx, Ev.tg_fld, Ev.tgs_nil, Ev.tgs_cons, Ev.t_bl, Ev.t_int, Ev.t_tup, Ev.t_non, Ev.t_fl, Ev.r_val, Ev.r_new, Ev.o_lst, Ev.o_set, Ev.s_tup, Ev.s_fl, Ev.s_ref, Ev.l_fl, Ev.i_tup, Ev.a_0, Ev.a_1, Ev.a_2, Ev.a_3, Ev.a_4, Ev.a_nat, Ev.b_len, Ev.b_abs, Ev.b_max, Ev.b_min, Ev.b_int, Ev.b_inb, Ev.n_tup, Ev.d_add, Ev.d_sub, Ev.c_lt, Ev.c_le, Ev.c_gt, Ev.c_ge, Ev.w_lt, Ev.w_le, Ev.w_gt, Ev.w_ge, Ev.w_eqi, Ev.w_nei, Ev.w_neb, Ev.w_eqb, Ev.y_int, Ev.y_bl, Ev.y_tup, Ev.it_tup, Ev.z_slc2, Ev.mup_same, Ev.mup_mup, Ev.isPt, Ev.z_ii, Ev.z_bi, Ev.z_ib, Ev.z_ll, Ev.z_lt, Ev.z_tt, Ev.z_tl, Ev.z_cc, Ev.isiOk, Ev.Tgs.len, Ev.wipe, n_lst hN]
  by_cases full : (J.jn i).1.length ≤ i
  · refine .inl ⟨full, ?_⟩
    have fu : J.Full i := ⟨full⟩
    (rw [Ev.x_cons]; simp [Ev.x_nil, Ev.s_exp, Ev.s_asgn, Ev.s_par2, Ev.s_ret, Ev.s_retn, Ev.s_ifs, Ev.s_pas, Ev.s_brk, Ev.s_cnt, Ev.s_for, Ev.e_var, Ev.e_int, Ev.e_bl, Ev.e_non, Ev.e_str, Ev.e_gc, Ev.e_fn, Ev.e_bin, Ev.e_neg, Ev.e_not, Ev.e_and, Ev.e_or, Ev.e_ite, Ev.e_cmp, Ev.e_chain, Ev.e_tup, Ev.e_lst, Ev.e_dct0, Ev.e_dct1, Ev.e_idx, Ev.e_slc, Ev.e_rev, Ev.e_fld, Ev.e_call, Ev.e_calk, Ev.e_calv, Ev.e_blt, Ev.e_mak, Ev.e_mth, Ev.e_omt, Ev.e_isi, Ev.e_cmpr, Ev.es_nil, Ev.es_cons, Ev.y_of, Ev.y_enum, Ev.y_zip, Ev.y_rng, Ev.y_rng2, Ev.y_items, Ev.y_vals, Ev.if_nil, Ev.if_cons, Ev.tg_nm, Ev.tg_tup, Ev.tg_idx, Ev.tg_fld, Ev.tgs_nil, Ev.tgs_cons, Ev.t_bl, Ev.t_int, Ev.t_tup, Ev.t_non, Ev.t_fl, Ev.r_val, Ev.r_new, Ev.o_lst, Ev.o_set, Ev.s_tup, Ev.s_fl, Ev.s_ref, Ev.l_fl, Ev.i_tup, Ev.a_0, Ev.a_1, Ev.a_2, Ev.a_3, Ev.a_4, Ev.a_nat, Ev.b_len, Ev.b_abs, Ev.b_max, Ev.b_min, Ev.b_int, Ev.b_inb, Ev.n_tup, Ev.d_add, Ev.d_sub, Ev.c_lt, Ev.c_le, Ev.c_gt, Ev.c_ge, Ev.w_lt, Ev.w_le, Ev.w_gt, Ev.w_ge, Ev.w_eqi, Ev.w_nei, Ev.w_neb, Ev.w_eqb, Ev.y_int, Ev.y_bl, Ev.y_tup, Ev.it_tup, Ev.z_slc2, Ev.mup_same, Ev.mup_mup, Ev.isPt, Ev.z_ii, Ev.z_bi, Ev.z_ib, Ev.z_ll, Ev.z_lt, Ev.z_tt, Ev.z_tl, Ev.z_cc, Ev.isiOk, Ev.Tgs.len, Ev.wipe, n_lst hN, t.g_MOST_ROOMS])
    refine w_want_at_most h (by have := jk.few i; omega) ?_
    have lw : (addL [] (J.jn i).2).length ≤ (J.jn i).2.length := nodup_len (nodup_addL List.nodup_nil) fun x hx => (mem_addL.mp hx).resolve_left fun z => by cases z
    have lw2 := jk.ways i
    (rw [Ev.x_cons]; simp [Ev.x_nil, Ev.s_exp, Ev.s_asgn, Ev.s_par2, Ev.s_ret, Ev.s_retn, Ev.s_ifs, Ev.s_pas, Ev.s_brk, Ev.s_cnt, Ev.s_for, Ev.e_var, Ev.e_int, Ev.e_bl, Ev.e_non, Ev.e_str, Ev.e_gc, Ev.e_fn, Ev.e_bin, Ev.e_neg, Ev.e_not, Ev.e_and, Ev.e_or, Ev.e_ite, Ev.e_cmp, Ev.e_chain, Ev.e_tup, Ev.e_lst, Ev.e_dct0, Ev.e_dct1, Ev.e_idx, Ev.e_slc, Ev.e_rev, Ev.e_fld, Ev.e_call, Ev.e_calk, Ev.e_calv, Ev.e_blt, Ev.e_mak, Ev.e_mth, Ev.e_omt, Ev.e_isi, Ev.e_cmpr, Ev.es_nil, Ev.es_cons, Ev.y_of, Ev.y_enum, Ev.y_zip, Ev.y_rng, Ev.y_rng2, Ev.y_items, Ev.y_vals, Ev.if_nil, Ev.if_cons, Ev.tg_nm, Ev.tg_tup, Ev.tg_idx, Ev.tg_fld, Ev.tgs_nil, Ev.tgs_cons, Ev.t_bl, Ev.t_int, Ev.t_tup, Ev.t_non, Ev.t_fl, Ev.r_val, Ev.r_new, Ev.o_lst, Ev.o_set, Ev.s_tup, Ev.s_fl, Ev.s_ref, Ev.l_fl, Ev.i_tup, Ev.a_0, Ev.a_1, Ev.a_2, Ev.a_3, Ev.a_4, Ev.a_nat, Ev.b_len, Ev.b_abs, Ev.b_max, Ev.b_min, Ev.b_int, Ev.b_inb, Ev.n_tup, Ev.d_add, Ev.d_sub, Ev.c_lt, Ev.c_le, Ev.c_gt, Ev.c_ge, Ev.w_lt, Ev.w_le, Ev.w_gt, Ev.w_ge, Ev.w_eqi, Ev.w_nei, Ev.w_neb, Ev.w_eqb, Ev.y_int, Ev.y_bl, Ev.y_tup, Ev.it_tup, Ev.z_slc2, Ev.mup_same, Ev.mup_mup, Ev.isPt, Ev.z_ii, Ev.z_bi, Ev.z_ib, Ev.z_ll, Ev.z_lt, Ev.z_tt, Ev.z_tl, Ev.z_cc, Ev.isiOk, Ev.Tgs.len, Ev.wipe, n_dct hW, t.g_MOST_WAYS])
    refine w_want_at_most h (by omega) ?_
    have hk : itemsOf M3 (.ref wd) = some ((addL [] (J.jn i).2).map wp) := by rw [it_dct hW, kT_keys]
    have l1 : (addL [] (J.jn i).2).length ≤ sizeLine := by omega
    (rw [Ev.x_cons]; simp [Ev.x_nil, Ev.s_exp, Ev.s_asgn, Ev.s_par2, Ev.s_ret, Ev.s_retn, Ev.s_ifs, Ev.s_pas, Ev.s_brk, Ev.s_cnt, Ev.s_for, Ev.e_var, Ev.e_int, Ev.e_bl, Ev.e_non, Ev.e_str, Ev.e_gc, Ev.e_fn, Ev.e_bin, Ev.e_neg, Ev.e_not, Ev.e_and, Ev.e_or, Ev.e_ite, Ev.e_cmp, Ev.e_chain, Ev.e_tup, Ev.e_lst, Ev.e_dct0, Ev.e_dct1, Ev.e_idx, Ev.e_slc, Ev.e_rev, Ev.e_fld, Ev.e_call, Ev.e_calk, Ev.e_calv, Ev.e_blt, Ev.e_mak, Ev.e_mth, Ev.e_omt, Ev.e_isi, Ev.e_cmpr, Ev.es_nil, Ev.es_cons, Ev.y_of, Ev.y_enum, Ev.y_zip, Ev.y_rng, Ev.y_rng2, Ev.y_items, Ev.y_vals, Ev.if_nil, Ev.if_cons, Ev.tg_nm, Ev.tg_tup, Ev.tg_idx, Ev.tg_fld, Ev.tgs_nil, Ev.tgs_cons, Ev.t_bl, Ev.t_int, Ev.t_tup, Ev.t_non, Ev.t_fl, Ev.r_val, Ev.r_new, Ev.o_lst, Ev.o_set, Ev.s_tup, Ev.s_fl, Ev.s_ref, Ev.l_fl, Ev.i_tup, Ev.a_0, Ev.a_1, Ev.a_2, Ev.a_3, Ev.a_4, Ev.a_nat, Ev.b_len, Ev.b_abs, Ev.b_max, Ev.b_min, Ev.b_int, Ev.b_inb, Ev.n_tup, Ev.d_add, Ev.d_sub, Ev.c_lt, Ev.c_le, Ev.c_gt, Ev.c_ge, Ev.w_lt, Ev.w_le, Ev.w_gt, Ev.w_ge, Ev.w_eqi, Ev.w_nei, Ev.w_neb, Ev.w_eqb, Ev.y_int, Ev.y_bl, Ev.y_tup, Ev.it_tup, Ev.z_slc2, Ev.mup_same, Ev.mup_mup, Ev.isPt, Ev.z_ii, Ev.z_bi, Ev.z_ib, Ev.z_ll, Ev.z_lt, Ev.z_tt, Ev.z_tl, Ev.z_cc, Ev.isiOk, Ev.Tgs.len, Ev.wipe, (hv.ext e).letters t, n_lst hN, b_list hk, l1])
    intro p hp
    have e4 := Ext.new (o := .lst ((addL [] (J.jn i).2).map wp)) hp
    refine w_reader_made h t (l_ref mup_same) (jk.due i fu _ (fun w => by rw [mem_addL]; simp) (nodup_addL List.nodup_nil) (by omega)) fun z M5 e5 hz => q z i M5 ((e.trans e4).trans e5) fu hz
  · refine .inr ⟨by omega, fun K hK => ?_⟩
    have lt : i < (J.jn i).1.length := by omega
    have hx : (J.jn i).1[i]? = some ((J.jn i).1[i]) := List.getElem?_eq_getElem lt
    have nx : J.jn (i + 1) = J.jx i ((J.jn i).1[i]) (J.jn i) := by
      show (match (J.jn i).1[i]? with
        | some x => J.jx i x (J.jn i)
        | none => J.jn i) = _
      rw [hx]
    have xb := jk.bd i _ (List.getElem_mem lt)
    have L4 : J.L < 1000000 := by have := jk.ok1.l4; omega
    have fin1 : (J.jx i ((J.jn i).1[i]) (J.jn i)).1.length ≤ 12 := by rw [← nx]; exact jk.few _
    have fin2 : (J.jx i ((J.jn i).1[i]) (J.jn i)).2.length < 64 := by rw [← nx]; exact jk.ways _
    unfold Jn.jx at fin1 fin2 nx
    generalize hxx : (J.jn i).1[i] = x at *
    (rw [Ev.x_cons]; simp [Ev.x_nil, Ev.s_exp, Ev.s_asgn, Ev.s_par2, Ev.s_ret, Ev.s_retn, Ev.s_ifs, Ev.s_pas, Ev.s_brk, Ev.s_cnt, Ev.s_for, Ev.e_var, Ev.e_int, Ev.e_bl, Ev.e_non, Ev.e_str, Ev.e_gc, Ev.e_fn, Ev.e_bin, Ev.e_neg, Ev.e_not, Ev.e_and, Ev.e_or, Ev.e_ite, Ev.e_cmp, Ev.e_chain, Ev.e_tup, Ev.e_lst, Ev.e_dct0, Ev.e_dct1, Ev.e_idx, Ev.e_slc, Ev.e_rev, Ev.e_fld, Ev.e_call, Ev.e_calk, Ev.e_calv, Ev.e_blt, Ev.e_mak, Ev.e_mth, Ev.e_omt, Ev.e_isi, Ev.e_cmpr, Ev.es_nil, Ev.es_cons, Ev.y_of, Ev.y_enum, Ev.y_zip, Ev.y_rng, Ev.y_rng2, Ev.y_items, Ev.y_vals, Ev.if_nil, Ev.if_cons, Ev.tg_nm, Ev.tg_tup, Ev.tg_idx, Ev.tg_fld, Ev.tgs_nil, Ev.tgs_cons, Ev.t_bl, Ev.t_int, Ev.t_tup, Ev.t_non, Ev.t_fl, Ev.r_val, Ev.r_new, Ev.o_lst, Ev.o_set, Ev.s_tup, Ev.s_fl, Ev.s_ref, Ev.l_fl, Ev.i_tup, Ev.a_0, Ev.a_1, Ev.a_2, Ev.a_3, Ev.a_4, Ev.a_nat, Ev.b_len, Ev.b_abs, Ev.b_max, Ev.b_min, Ev.b_int, Ev.b_inb, Ev.n_tup, Ev.d_add, Ev.d_sub, Ev.c_lt, Ev.c_le, Ev.c_gt, Ev.c_ge, Ev.w_lt, Ev.w_le, Ev.w_gt, Ev.w_ge, Ev.w_eqi, Ev.w_nei, Ev.w_neb, Ev.w_eqb, Ev.y_int, Ev.y_bl, Ev.y_tup, Ev.it_tup, Ev.z_slc2, Ev.mup_same, Ev.mup_mup, Ev.isPt, Ev.z_ii, Ev.z_bi, Ev.z_ib, Ev.z_ll, Ev.z_lt, Ev.z_tt, Ev.z_tl, Ev.z_cc, Ev.isiOk, Ev.Tgs.len, Ev.wipe, (hv.ext e).letters t, rngN L4])
    refine forL_fold (fun n : Nat => PV.int (n : Int)) (List.range J.L) (J.jl i x) (s0 := J.jn i) (fun s σ M' => (∃ a b c, σ = [some v, some u, some (nP J.first), some (.fn f), some (.ref nd), some (.ref pd), some (.ref wd), some (.int (i : Nat)), a, b, c]) ∧ Ext M M' ∧ M' nd = some (.lst (s.1.map nP)) ∧ M' pd = some (.dct (plc nP s.1)) ∧ M' wd = some (.dct ((addL [] s.2).map (kT wp)))) (fun s σ M1 h => trivial) (fun s l σ M4 K p q' hpq hs h1 hk => ?_) (fun σ M4 h1 => ?_) ⟨⟨_, _, _, rfl⟩, e, hN, hP, hW⟩
    · obtain ⟨⟨a, b, c, rfl⟩, e, hN, hP, hW⟩ := h1
      have hl : l < J.L := by
        have : l ∈ List.range J.L := by rw [hpq]; simp
        exact List.mem_range.mp this
      have hsx : s.1[i]? = some x := by
        rw [hs, pre_get jls_pre.1 lt, hx]
      have hsx' : (s.1.map nP)[i]? = some (nP x) := by rw [List.getElem?_map, hsx]; rfl
      have fi1 : (J.jl i x s l).1.length ≤ 12 := by
        have : (J.jl i x s l).1 <+: ((List.range J.L).foldl (J.jl i x) (J.jn i)).1 := by
          rw [hpq, List.foldl_append, List.foldl_cons, ← hs]
          exact jls_pre.1
        exact Nat.le_trans this.length_le fin1
      have fi2 : (J.jl i x s l).2.length < 64 := by
        have : (J.jl i x s l).2 <+: ((List.range J.L).foldl (J.jl i x) (J.jn i)).2 := by
          rw [hpq, List.foldl_append, List.foldl_cons, ← hs]
          exact jls_pre.2
        exact Nat.lt_of_le_of_lt this.length_le fin2
      unfold bdF
      simp [Ev.x_nil, Ev.s_exp, Ev.s_asgn, Ev.s_par2, Ev.s_ret, Ev.s_retn, Ev.s_ifs, Ev.s_pas, Ev.s_brk, Ev.s_cnt, Ev.s_for, Ev.e_var, Ev.e_int, Ev.e_bl, Ev.e_non, Ev.e_str, Ev.e_gc, Ev.e_fn, Ev.e_bin, Ev.e_neg, Ev.e_not, Ev.e_and, Ev.e_or, Ev.e_ite, Ev.e_cmp, Ev.e_chain, Ev.e_tup, Ev.e_lst, Ev.e_dct0, Ev.e_dct1, Ev.e_idx, Ev.e_slc, Ev.e_rev, Ev.e_fld, Ev.e_call, Ev.e_calk, Ev.e_calv, Ev.e_blt, Ev.e_mak, Ev.e_mth, Ev.e_omt, Ev.e_isi, Ev.e_cmpr, Ev.es_nil, Ev.es_cons, Ev.y_of, Ev.y_enum, Ev.y_zip, Ev.y_rng, Ev.y_rng2, Ev.y_items, Ev.y_vals, Ev.if_nil, Ev.if_cons, Ev.tg_nm, Ev.tg_tup, Ev.tg_idx, Ev.tg_fld, Ev.tgs_nil, Ev.tgs_cons, Ev.t_bl, Ev.t_int, Ev.t_tup, Ev.t_non, Ev.t_fl, Ev.r_val, Ev.r_new, Ev.o_lst, Ev.o_set, Ev.s_tup, Ev.s_fl, Ev.s_ref, Ev.l_fl, Ev.i_tup, Ev.a_0, Ev.a_1, Ev.a_2, Ev.a_3, Ev.a_4, Ev.a_nat, Ev.b_len, Ev.b_abs, Ev.b_max, Ev.b_min, Ev.b_int, Ev.b_inb, Ev.n_tup, Ev.d_add, Ev.d_sub, Ev.c_lt, Ev.c_le, Ev.c_gt, Ev.c_ge, Ev.w_lt, Ev.w_le, Ev.w_gt, Ev.w_ge, Ev.w_eqi, Ev.w_nei, Ev.w_neb, Ev.w_eqb, Ev.y_int, Ev.y_bl, Ev.y_tup, Ev.it_tup, Ev.z_slc2, Ev.mup_same, Ev.mup_mup, Ev.isPt, Ev.z_ii, Ev.z_bi, Ev.z_ib, Ev.z_ll, Ev.z_lt, Ev.z_tt, Ev.z_tl, Ev.z_cc, Ev.isiOk, Ev.Tgs.len, Ev.wipe]
      (rw [Ev.x_cons]; simp [Ev.x_nil, Ev.s_exp, Ev.s_asgn, Ev.s_par2, Ev.s_ret, Ev.s_retn, Ev.s_ifs, Ev.s_pas, Ev.s_brk, Ev.s_cnt, Ev.s_for, Ev.e_var, Ev.e_int, Ev.e_bl, Ev.e_non, Ev.e_str, Ev.e_gc, Ev.e_fn, Ev.e_bin, Ev.e_neg, Ev.e_not, Ev.e_and, Ev.e_or, Ev.e_ite, Ev.e_cmp, Ev.e_chain, Ev.e_tup, Ev.e_lst, Ev.e_dct0, Ev.e_dct1, Ev.e_idx, Ev.e_slc, Ev.e_rev, Ev.e_fld, Ev.e_call, Ev.e_calk, Ev.e_calv, Ev.e_blt, Ev.e_mak, Ev.e_mth, Ev.e_omt, Ev.e_isi, Ev.e_cmpr, Ev.es_nil, Ev.es_cons, Ev.y_of, Ev.y_enum, Ev.y_zip, Ev.y_rng, Ev.y_rng2, Ev.y_items, Ev.y_vals, Ev.if_nil, Ev.if_cons, Ev.tg_nm, Ev.tg_tup, Ev.tg_idx, Ev.tg_fld, Ev.tgs_nil, Ev.tgs_cons, Ev.t_bl, Ev.t_int, Ev.t_tup, Ev.t_non, Ev.t_fl, Ev.r_val, Ev.r_new, Ev.o_lst, Ev.o_set, Ev.s_tup, Ev.s_fl, Ev.s_ref, Ev.l_fl, Ev.i_tup, Ev.a_0, Ev.a_1, Ev.a_2, Ev.a_3, Ev.a_4, Ev.a_nat, Ev.b_len, Ev.b_abs, Ev.b_max, Ev.b_min, Ev.b_int, Ev.b_inb, Ev.n_tup, Ev.d_add, Ev.d_sub, Ev.c_lt, Ev.c_le, Ev.c_gt, Ev.c_ge, Ev.w_lt, Ev.w_le, Ev.w_gt, Ev.w_ge, Ev.w_eqi, Ev.w_nei, Ev.w_neb, Ev.w_eqb, Ev.y_int, Ev.y_bl, Ev.y_tup, Ev.it_tup, Ev.z_slc2, Ev.mup_same, Ev.mup_mup, Ev.isPt, Ev.z_ii, Ev.z_bi, Ev.z_ib, Ev.z_ll, Ev.z_lt, Ev.z_tt, Ev.z_tl, Ev.z_cc, Ev.isiOk, Ev.Tgs.len, Ev.wipe, i_lst hN, hsx'])
      refine w_steps_from h t jk.toNam hf (hv.ext e) (hu.ext e) jk.ok1 jk.ok2 xb.1 xb.2 hl fun sd M5 hsd e5 hS => ?_
      simp [Ev.x_nil, Ev.s_exp, Ev.s_asgn, Ev.s_par2, Ev.s_ret, Ev.s_retn, Ev.s_ifs, Ev.s_pas, Ev.s_brk, Ev.s_cnt, Ev.s_for, Ev.e_var, Ev.e_int, Ev.e_bl, Ev.e_non, Ev.e_str, Ev.e_gc, Ev.e_fn, Ev.e_bin, Ev.e_neg, Ev.e_not, Ev.e_and, Ev.e_or, Ev.e_ite, Ev.e_cmp, Ev.e_chain, Ev.e_tup, Ev.e_lst, Ev.e_dct0, Ev.e_dct1, Ev.e_idx, Ev.e_slc, Ev.e_rev, Ev.e_fld, Ev.e_call, Ev.e_calk, Ev.e_calv, Ev.e_blt, Ev.e_mak, Ev.e_mth, Ev.e_omt, Ev.e_isi, Ev.e_cmpr, Ev.es_nil, Ev.es_cons, Ev.y_of, Ev.y_enum, Ev.y_zip, Ev.y_rng, Ev.y_rng2, Ev.y_items, Ev.y_vals, Ev.if_nil, Ev.if_cons, Ev.tg_nm, Ev.tg_tup, Ev.tg_idx, Ev.tg_fld, Ev.tgs_nil, Ev.tgs_cons, Ev.t_bl, Ev.t_int, Ev.t_tup, Ev.t_non, Ev.t_fl, Ev.r_val, Ev.r_new, Ev.o_lst, Ev.o_set, Ev.s_tup, Ev.s_fl, Ev.s_ref, Ev.l_fl, Ev.i_tup, Ev.a_0, Ev.a_1, Ev.a_2, Ev.a_3, Ev.a_4, Ev.a_nat, Ev.b_len, Ev.b_abs, Ev.b_max, Ev.b_min, Ev.b_int, Ev.b_inb, Ev.n_tup, Ev.d_add, Ev.d_sub, Ev.c_lt, Ev.c_le, Ev.c_gt, Ev.c_ge, Ev.w_lt, Ev.w_le, Ev.w_gt, Ev.w_ge, Ev.w_eqi, Ev.w_nei, Ev.w_neb, Ev.w_eqb, Ev.y_int, Ev.y_bl, Ev.y_tup, Ev.it_tup, Ev.z_slc2, Ev.mup_same, Ev.mup_mup, Ev.isPt, Ev.z_ii, Ev.z_bi, Ev.z_ib, Ev.z_ll, Ev.z_lt, Ev.z_tt, Ev.z_tl, Ev.z_cc, Ev.isiOk, Ev.Tgs.len, Ev.wipe, l_ref hS]
      have e05 := e.trans e5
      have ns : ∀ {p o}, M4 p = some o → p ≠ sd := by
        rintro p o h rfl
        rw [hsd] at h
        cases h
      have nsN : nd ≠ sd := ns hN
      have nsP : pd ≠ sd := ns hP
      have nsW : wd ≠ sd := ns hW
      unfold Jn.jl at fi1 fi2
      refine forL_fold (stP nP) (J.jps x l) (Jn.j1 i l) (s0 := s) (fun s σ M' => (∃ b c, σ = [some v, some u, some (nP J.first), some (.fn f), some (.ref nd), some (.ref pd), some (.ref wd), some (.int (i : Nat)), some (.int (l : Nat)), b, c]) ∧ Ext M M' ∧ M' nd = some (.lst (s.1.map nP)) ∧ M' pd = some (.dct (plc nP s.1)) ∧ M' wd = some (.dct ((addL [] s.2).map (kT wp))) ∧ M' sd = some (.lst ((J.jps x l).map (stP nP)))) (fun s σ M1 h => ?_) (fun s2 y σ M6 K p2 q2 hpq2 hs2 h1 hk => ?_) (fun σ M6 h1 => ?_) ⟨⟨_, _, rfl⟩, e05, e5 _ _ hN, e5 _ _ hP, e5 _ _ hW, hS⟩
      · show M1 sd = M5 sd
        rw [h.2.2.2.2.2, hS]
      · obtain ⟨⟨b, c, rfl⟩, e, hN, hP, hW, hS⟩ := h1
        have gi1 : (Jn.j1 i l s2 y).1.length ≤ 12 := by
          have : (Jn.j1 i l s2 y).1 <+: ((J.jps x l).foldl (Jn.j1 i l) s).1 := by
            rw [hpq2, List.foldl_append, List.foldl_cons, ← hs2]
            exact j1s_pre.1
          exact Nat.le_trans this.length_le fi1
        have gi2 : (Jn.j1 i l s2 y).2.length < 64 := by
          have : (Jn.j1 i l s2 y).2 <+: ((J.jps x l).foldl (Jn.j1 i l) s).2 := by
            rw [hpq2, List.foldl_append, List.foldl_cons, ← hs2]
            exact j1s_pre.2
          exact Nat.lt_of_le_of_lt this.length_le fi2
        have gi0 : s2.1.length ≤ 12 := Nat.le_trans (pre_addN (l := s2.1) (x := y.1)).length_le gi1
        have gi3 : (addL [] s2.2).length < 64 := by
          have := addL_nil_len (l := s2.2)
          have h3 : s2.2.length < (Jn.j1 i l s2 y).2.length := by simp [Jn.j1]
          omega
        have fitP : ∀ l, keyFit (plc nP l) (nP y.1) = true := fun l => fit_tup (plI_all jk.tup l 0) (jk.tup _) (jk.key _)
        unfold bdF stP
        simp [Ev.x_nil, Ev.s_exp, Ev.s_asgn, Ev.s_par2, Ev.s_ret, Ev.s_retn, Ev.s_ifs, Ev.s_pas, Ev.s_brk, Ev.s_cnt, Ev.s_for, Ev.e_var, Ev.e_int, Ev.e_bl, Ev.e_non, Ev.e_str, Ev.e_gc, Ev.e_fn, Ev.e_bin, Ev.e_neg, Ev.e_not, Ev.e_and, Ev.e_or, Ev.e_ite, Ev.e_cmp, Ev.e_chain, Ev.e_tup, Ev.e_lst, Ev.e_dct0, Ev.e_dct1, Ev.e_idx, Ev.e_slc, Ev.e_rev, Ev.e_fld, Ev.e_call, Ev.e_calk, Ev.e_calv, Ev.e_blt, Ev.e_mak, Ev.e_mth, Ev.e_omt, Ev.e_isi, Ev.e_cmpr, Ev.es_nil, Ev.es_cons, Ev.y_of, Ev.y_enum, Ev.y_zip, Ev.y_rng, Ev.y_rng2, Ev.y_items, Ev.y_vals, Ev.if_nil, Ev.if_cons, Ev.tg_nm, Ev.tg_tup, Ev.tg_idx, Ev.tg_fld, Ev.tgs_nil, Ev.tgs_cons, Ev.t_bl, Ev.t_int, Ev.t_tup, Ev.t_non, Ev.t_fl, Ev.r_val, Ev.r_new, Ev.o_lst, Ev.o_set, Ev.s_tup, Ev.s_fl, Ev.s_ref, Ev.l_fl, Ev.i_tup, Ev.a_0, Ev.a_1, Ev.a_2, Ev.a_3, Ev.a_4, Ev.a_nat, Ev.b_len, Ev.b_abs, Ev.b_max, Ev.b_min, Ev.b_int, Ev.b_inb, Ev.n_tup, Ev.d_add, Ev.d_sub, Ev.c_lt, Ev.c_le, Ev.c_gt, Ev.c_ge, Ev.w_lt, Ev.w_le, Ev.w_gt, Ev.w_ge, Ev.w_eqi, Ev.w_nei, Ev.w_neb, Ev.w_eqb, Ev.y_int, Ev.y_bl, Ev.y_tup, Ev.it_tup, Ev.z_slc2, Ev.mup_same, Ev.mup_mup, Ev.isPt, Ev.z_ii, Ev.z_bi, Ev.z_ib, Ev.z_ll, Ev.z_lt, Ev.z_tt, Ev.z_tl, Ev.z_cc, Ev.isiOk, Ev.Tgs.len, Ev.wipe]
        (rw [Ev.x_cons]; simp [Ev.x_nil, Ev.s_exp, Ev.s_asgn, Ev.s_par2, Ev.s_ret, Ev.s_retn, Ev.s_ifs, Ev.s_pas, Ev.s_brk, Ev.s_cnt, Ev.s_for, Ev.e_var, Ev.e_int, Ev.e_bl, Ev.e_non, Ev.e_str, Ev.e_gc, Ev.e_fn, Ev.e_bin, Ev.e_neg, Ev.e_not, Ev.e_and, Ev.e_or, Ev.e_ite, Ev.e_cmp, Ev.e_chain, Ev.e_tup, Ev.e_lst, Ev.e_dct0, Ev.e_dct1, Ev.e_idx, Ev.e_slc, Ev.e_rev, Ev.e_fld, Ev.e_call, Ev.e_calk, Ev.e_calv, Ev.e_blt, Ev.e_mak, Ev.e_mth, Ev.e_omt, Ev.e_isi, Ev.e_cmpr, Ev.es_nil, Ev.es_cons, Ev.y_of, Ev.y_enum, Ev.y_zip, Ev.y_rng, Ev.y_rng2, Ev.y_items, Ev.y_vals, Ev.if_nil, Ev.if_cons, Ev.tg_nm, Ev.tg_tup, Ev.tg_idx, Ev.tg_fld, Ev.tgs_nil, Ev.tgs_cons, Ev.t_bl, Ev.t_int, Ev.t_tup, Ev.t_non, Ev.t_fl, Ev.r_val, Ev.r_new, Ev.o_lst, Ev.o_set, Ev.s_tup, Ev.s_fl, Ev.s_ref, Ev.l_fl, Ev.i_tup, Ev.a_0, Ev.a_1, Ev.a_2, Ev.a_3, Ev.a_4, Ev.a_nat, Ev.b_len, Ev.b_abs, Ev.b_max, Ev.b_min, Ev.b_int, Ev.b_inb, Ev.n_tup, Ev.d_add, Ev.d_sub, Ev.c_lt, Ev.c_le, Ev.c_gt, Ev.c_ge, Ev.w_lt, Ev.w_le, Ev.w_gt, Ev.w_ge, Ev.w_eqi, Ev.w_nei, Ev.w_neb, Ev.w_eqb, Ev.y_int, Ev.y_bl, Ev.y_tup, Ev.it_tup, Ev.z_slc2, Ev.mup_same, Ev.mup_mup, Ev.isPt, Ev.z_ii, Ev.z_bi, Ev.z_ib, Ev.z_ll, Ev.z_lt, Ev.z_tt, Ev.z_tl, Ev.z_cc, Ev.isiOk, Ev.Tgs.len, Ev.wipe])
        refine (Ev.w_nin (k_nin hP (fitP s2.1))).mpr ?_
        rw [plc_get jk.inj]
        have wayE : ∀ z : Nat, (PV.tup [.int i, .int l, .int z, .int y.2]) = wp (i, l, z, y.2) := fun z => rfl
        have lnW : ((addL [] s2.2).map (kT wp)).length < sizeLine := by rw [List.length_map]; omega
        have put : ∀ w, dput ((addL [] s2.2).map (kT wp)) (wp w) (.bl true) = (addL [] (s2.2 ++ [w])).map (kT wp) := fun w => by
          rw [dput_set (fun a b e => wp_inj e), Jn.addL_app]
          rfl
        by_cases mem : y.1 ∈ s2.1
        · have g2 : dget (plc nP s2.1) (nP y.1) = some (.int (s2.1.idxOf y.1 : Nat)) := by rw [plc_get jk.inj, if_pos mem]
          have aN : addN s2.1 y.1 = s2.1 := if_pos mem
          simp only [mem, if_true, Option.isSome_some, Bool.not_true, Ev.t_bl, Ev.x_nil]
          (rw [Ev.x_cons]; simp [Ev.x_nil, Ev.s_exp, Ev.s_asgn, Ev.s_par2, Ev.s_ret, Ev.s_retn, Ev.s_ifs, Ev.s_pas, Ev.s_brk, Ev.s_cnt, Ev.s_for, Ev.e_var, Ev.e_int, Ev.e_bl, Ev.e_non, Ev.e_str, Ev.e_gc, Ev.e_fn, Ev.e_bin, Ev.e_neg, Ev.e_not, Ev.e_and, Ev.e_or, Ev.e_ite, Ev.e_cmp, Ev.e_chain, Ev.e_tup, Ev.e_lst, Ev.e_dct0, Ev.e_dct1, Ev.e_idx, Ev.e_slc, Ev.e_rev, Ev.e_fld, Ev.e_call, Ev.e_calk, Ev.e_calv, Ev.e_blt, Ev.e_mak, Ev.e_mth, Ev.e_omt, Ev.e_isi, Ev.e_cmpr, Ev.es_nil, Ev.es_cons, Ev.y_of, Ev.y_enum, Ev.y_zip, Ev.y_rng, Ev.y_rng2, Ev.y_items, Ev.y_vals, Ev.if_nil, Ev.if_cons, Ev.tg_nm, Ev.tg_tup, Ev.tg_idx, Ev.tg_fld, Ev.tgs_nil, Ev.tgs_cons, Ev.t_bl, Ev.t_int, Ev.t_tup, Ev.t_non, Ev.t_fl, Ev.r_val, Ev.r_new, Ev.o_lst, Ev.o_set, Ev.s_tup, Ev.s_fl, Ev.s_ref, Ev.l_fl, Ev.i_tup, Ev.a_0, Ev.a_1, Ev.a_2, Ev.a_3, Ev.a_4, Ev.a_nat, Ev.b_len, Ev.b_abs, Ev.b_max, Ev.b_min, Ev.b_int, Ev.b_inb, Ev.n_tup, Ev.d_add, Ev.d_sub, Ev.c_lt, Ev.c_le, Ev.c_gt, Ev.c_ge, Ev.w_lt, Ev.w_le, Ev.w_gt, Ev.w_ge, Ev.w_eqi, Ev.w_nei, Ev.w_neb, Ev.w_eqb, Ev.y_int, Ev.y_bl, Ev.y_tup, Ev.it_tup, Ev.z_slc2, Ev.mup_same, Ev.mup_mup, Ev.isPt, Ev.z_ii, Ev.z_bi, Ev.z_ib, Ev.z_ll, Ev.z_lt, Ev.z_tt, Ev.z_tl, Ev.z_cc, Ev.isiOk, Ev.Tgs.len, Ev.wipe, i_dct hP (fitP s2.1), g2, four])
          rw [wayE]
          simp only [p_dct hW, way_fit, lnW, true_and]
          refine hk _ _ ⟨⟨_, _, rfl⟩, e.mup hw0, ?_, ?_, ?_, ?_⟩
          · rw [mup_ne ne2]
            show _ = some (MO.lst ((addN s2.1 y.1).map nP))
            rw [aN]
            exact hN
          · rw [mup_ne ne3]
            show _ = some (MO.dct (plc nP (addN s2.1 y.1)))
            rw [aN]
            exact hP
          · rw [mup_same, put]
            show _ = some (MO.dct ((addL [] (s2.2 ++ [(i, l, (addN s2.1 y.1).idxOf y.1, y.2)])).map (kT wp)))
            rw [aN]
          · rw [mup_ne (fun z => nsW z.symm)]
            exact hS
        · have aN : addN s2.1 y.1 = s2.1 ++ [y.1] := if_neg mem
          have lnP : (plc nP s2.1).length < sizeLine := by unfold plc; rw [plI_len]; omega
          simp only [mem, if_false, Option.isSome_none, Bool.not_false, Ev.t_bl]
          (rw [Ev.x_cons]; simp [Ev.x_nil, Ev.s_exp, Ev.s_asgn, Ev.s_par2, Ev.s_ret, Ev.s_retn, Ev.s_ifs, Ev.s_pas, Ev.s_brk, Ev.s_cnt, Ev.s_for, Ev.e_var, Ev.e_int, Ev.e_bl, Ev.e_non, Ev.e_str, Ev.e_gc, Ev.e_fn, Ev.e_bin, Ev.e_neg, Ev.e_not, Ev.e_and, Ev.e_or, Ev.e_ite, Ev.e_cmp, Ev.e_chain, Ev.e_tup, Ev.e_lst, Ev.e_dct0, Ev.e_dct1, Ev.e_idx, Ev.e_slc, Ev.e_rev, Ev.e_fld, Ev.e_call, Ev.e_calk, Ev.e_calv, Ev.e_blt, Ev.e_mak, Ev.e_mth, Ev.e_omt, Ev.e_isi, Ev.e_cmpr, Ev.es_nil, Ev.es_cons, Ev.y_of, Ev.y_enum, Ev.y_zip, Ev.y_rng, Ev.y_rng2, Ev.y_items, Ev.y_vals, Ev.if_nil, Ev.if_cons, Ev.tg_nm, Ev.tg_tup, Ev.tg_idx, Ev.tg_fld, Ev.tgs_nil, Ev.tgs_cons, Ev.t_bl, Ev.t_int, Ev.t_tup, Ev.t_non, Ev.t_fl, Ev.r_val, Ev.r_new, Ev.o_lst, Ev.o_set, Ev.s_tup, Ev.s_fl, Ev.s_ref, Ev.l_fl, Ev.i_tup, Ev.a_0, Ev.a_1, Ev.a_2, Ev.a_3, Ev.a_4, Ev.a_nat, Ev.b_len, Ev.b_abs, Ev.b_max, Ev.b_min, Ev.b_int, Ev.b_inb, Ev.n_tup, Ev.d_add, Ev.d_sub, Ev.c_lt, Ev.c_le, Ev.c_gt, Ev.c_ge, Ev.w_lt, Ev.w_le, Ev.w_gt, Ev.w_ge, Ev.w_eqi, Ev.w_nei, Ev.w_neb, Ev.w_eqb, Ev.y_int, Ev.y_bl, Ev.y_tup, Ev.it_tup, Ev.z_slc2, Ev.mup_same, Ev.mup_mup, Ev.isPt, Ev.z_ii, Ev.z_bi, Ev.z_ib, Ev.z_ll, Ev.z_lt, Ev.z_tt, Ev.z_tl, Ev.z_cc, Ev.isiOk, Ev.Tgs.len, Ev.wipe, n_lst hN, p_dct hP, fitP s2.1, lnP])
          rw [plc_put jk.inj _ _ mem]
          have hN' : (mup M6 pd (.dct (plc nP (s2.1 ++ [y.1])))) nd = some (.lst (s2.1.map nP)) := by rw [mup_ne ne1]; exact hN
          have lnN : s2.1.length < sizeLine := by omega
          (rw [Ev.x_cons]; simp [Ev.x_nil, Ev.s_exp, Ev.s_asgn, Ev.s_par2, Ev.s_ret, Ev.s_retn, Ev.s_ifs, Ev.s_pas, Ev.s_brk, Ev.s_cnt, Ev.s_for, Ev.e_var, Ev.e_int, Ev.e_bl, Ev.e_non, Ev.e_str, Ev.e_gc, Ev.e_fn, Ev.e_bin, Ev.e_neg, Ev.e_not, Ev.e_and, Ev.e_or, Ev.e_ite, Ev.e_cmp, Ev.e_chain, Ev.e_tup, Ev.e_lst, Ev.e_dct0, Ev.e_dct1, Ev.e_idx, Ev.e_slc, Ev.e_rev, Ev.e_fld, Ev.e_call, Ev.e_calk, Ev.e_calv, Ev.e_blt, Ev.e_mak, Ev.e_mth, Ev.e_omt, Ev.e_isi, Ev.e_cmpr, Ev.es_nil, Ev.es_cons, Ev.y_of, Ev.y_enum, Ev.y_zip, Ev.y_rng, Ev.y_rng2, Ev.y_items, Ev.y_vals, Ev.if_nil, Ev.if_cons, Ev.tg_nm, Ev.tg_tup, Ev.tg_idx, Ev.tg_fld, Ev.tgs_nil, Ev.tgs_cons, Ev.t_bl, Ev.t_int, Ev.t_tup, Ev.t_non, Ev.t_fl, Ev.r_val, Ev.r_new, Ev.o_lst, Ev.o_set, Ev.s_tup, Ev.s_fl, Ev.s_ref, Ev.l_fl, Ev.i_tup, Ev.a_0, Ev.a_1, Ev.a_2, Ev.a_3, Ev.a_4, Ev.a_nat, Ev.b_len, Ev.b_abs, Ev.b_max, Ev.b_min, Ev.b_int, Ev.b_inb, Ev.n_tup, Ev.d_add, Ev.d_sub, Ev.c_lt, Ev.c_le, Ev.c_gt, Ev.c_ge, Ev.w_lt, Ev.w_le, Ev.w_gt, Ev.w_ge, Ev.w_eqi, Ev.w_nei, Ev.w_neb, Ev.w_eqb, Ev.y_int, Ev.y_bl, Ev.y_tup, Ev.it_tup, Ev.z_slc2, Ev.mup_same, Ev.mup_mup, Ev.isPt, Ev.z_ii, Ev.z_bi, Ev.z_ib, Ev.z_ll, Ev.z_lt, Ev.z_tt, Ev.z_tl, Ev.z_cc, Ev.isiOk, Ev.Tgs.len, Ev.wipe, o_app hN', u_app hN', lnN])
          have hP' : (mup (mup M6 pd (.dct (plc nP (s2.1 ++ [y.1])))) nd (.lst (s2.1.map nP ++ [nP y.1]))) pd = some (.dct (plc nP (s2.1 ++ [y.1]))) := by rw [mup_ne (fun z => ne1 z.symm), mup_same]
          have hW' : (mup (mup M6 pd (.dct (plc nP (s2.1 ++ [y.1])))) nd (.lst (s2.1.map nP ++ [nP y.1]))) wd = some (.dct ((addL [] s2.2).map (kT wp))) := by rw [mup_ne (fun z => ne2 z.symm), mup_ne (fun z => ne3 z.symm), hW]
          have hS' : (mup (mup M6 pd (.dct (plc nP (s2.1 ++ [y.1])))) nd (.lst (s2.1.map nP ++ [nP y.1]))) sd = some (.lst ((J.jps x l).map (stP nP))) := by rw [mup_ne (fun z => nsN z.symm), mup_ne (fun z => nsP z.symm), hS]
          have hN2 : (mup (mup M6 pd (.dct (plc nP (s2.1 ++ [y.1])))) nd (.lst (s2.1.map nP ++ [nP y.1]))) nd = some (.lst ((s2.1 ++ [y.1]).map nP)) := by rw [mup_same, List.map_append]; rfl
          have e' : Ext M (mup (mup M6 pd (.dct (plc nP (s2.1 ++ [y.1])))) nd (.lst (s2.1.map nP ++ [nP y.1]))) := (e.mup hp0).mup hnd
          generalize mup (mup M6 pd (.dct (plc nP (s2.1 ++ [y.1])))) nd (.lst (s2.1.map nP ++ [nP y.1])) = M7 at *
          have g2 : dget (plc nP (s2.1 ++ [y.1])) (nP y.1) = some (.int ((s2.1 ++ [y.1]).idxOf y.1 : Nat)) := by rw [plc_get jk.inj, if_pos (by simp)]
          (rw [Ev.x_cons]; simp [Ev.x_nil, Ev.s_exp, Ev.s_asgn, Ev.s_par2, Ev.s_ret, Ev.s_retn, Ev.s_ifs, Ev.s_pas, Ev.s_brk, Ev.s_cnt, Ev.s_for, Ev.e_var, Ev.e_int, Ev.e_bl, Ev.e_non, Ev.e_str, Ev.e_gc, Ev.e_fn, Ev.e_bin, Ev.e_neg, Ev.e_not, Ev.e_and, Ev.e_or, Ev.e_ite, Ev.e_cmp, Ev.e_chain, Ev.e_tup, Ev.e_lst, Ev.e_dct0, Ev.e_dct1, Ev.e_idx, Ev.e_slc, Ev.e_rev, Ev.e_fld, Ev.e_call, Ev.e_calk, Ev.e_calv, Ev.e_blt, Ev.e_mak, Ev.e_mth, Ev.e_omt, Ev.e_isi, Ev.e_cmpr, Ev.es_nil, Ev.es_cons, Ev.y_of, Ev.y_enum, Ev.y_zip, Ev.y_rng, Ev.y_rng2, Ev.y_items, Ev.y_vals, Ev.if_nil, Ev.if_cons, Ev.tg_nm, Ev.tg_tup, Ev.tg_idx, Ev.tg_fld, Ev.tgs_nil, Ev.tgs_cons, Ev.t_bl, Ev.t_int, Ev.t_tup, Ev.t_non, Ev.t_fl, Ev.r_val, Ev.r_new, Ev.o_lst, Ev.o_set, Ev.s_tup, Ev.s_fl, Ev.s_ref, Ev.l_fl, Ev.i_tup, Ev.a_0, Ev.a_1, Ev.a_2, Ev.a_3, Ev.a_4, Ev.a_nat, Ev.b_len, Ev.b_abs, Ev.b_max, Ev.b_min, Ev.b_int, Ev.b_inb, Ev.n_tup, Ev.d_add, Ev.d_sub, Ev.c_lt, Ev.c_le, Ev.c_gt, Ev.c_ge, Ev.w_lt, Ev.w_le, Ev.w_gt, Ev.w_ge, Ev.w_eqi, Ev.w_nei, Ev.w_neb, Ev.w_eqb, Ev.y_int, Ev.y_bl, Ev.y_tup, Ev.it_tup, Ev.z_slc2, Ev.mup_same, Ev.mup_mup, Ev.isPt, Ev.z_ii, Ev.z_bi, Ev.z_ib, Ev.z_ll, Ev.z_lt, Ev.z_tt, Ev.z_tl, Ev.z_cc, Ev.isiOk, Ev.Tgs.len, Ev.wipe, i_dct hP' (fitP _), g2, four])
          rw [wayE]
          simp only [p_dct hW', way_fit, lnW, true_and]
          refine hk _ _ ⟨⟨_, _, rfl⟩, e'.mup hw0, ?_, ?_, ?_, ?_⟩
          · rw [mup_ne ne2]
            show _ = some (MO.lst ((addN s2.1 y.1).map nP))
            rw [aN]
            exact hN2
          · rw [mup_ne ne3]
            show _ = some (MO.dct (plc nP (addN s2.1 y.1)))
            rw [aN]
            exact hP'
          · rw [mup_same, put]
            show _ = some (MO.dct ((addL [] (s2.2 ++ [(i, l, (addN s2.1 y.1).idxOf y.1, y.2)])).map (kT wp)))
            rw [aN]
          · rw [mup_ne (fun z => nsW z.symm)]
            exact hS'
      · obtain ⟨⟨b, c, rfl⟩, e, hN, hP, hW, hS⟩ := h1
        simp [Ev.x_nil, Ev.s_exp, Ev.s_asgn, Ev.s_par2, Ev.s_ret, Ev.s_retn, Ev.s_ifs, Ev.s_pas, Ev.s_brk, Ev.s_cnt, Ev.s_for, Ev.e_var, Ev.e_int, Ev.e_bl, Ev.e_non, Ev.e_str, Ev.e_gc, Ev.e_fn, Ev.e_bin, Ev.e_neg, Ev.e_not, Ev.e_and, Ev.e_or, Ev.e_ite, Ev.e_cmp, Ev.e_chain, Ev.e_tup, Ev.e_lst, Ev.e_dct0, Ev.e_dct1, Ev.e_idx, Ev.e_slc, Ev.e_rev, Ev.e_fld, Ev.e_call, Ev.e_calk, Ev.e_calv, Ev.e_blt, Ev.e_mak, Ev.e_mth, Ev.e_omt, Ev.e_isi, Ev.e_cmpr, Ev.es_nil, Ev.es_cons, Ev.y_of, Ev.y_enum, Ev.y_zip, Ev.y_rng, Ev.y_rng2, Ev.y_items, Ev.y_vals, Ev.if_nil, Ev.if_cons, Ev.tg_nm, Ev.tg_tup, Ev.tg_idx, Ev.tg_fld, Ev.tgs_nil, Ev.tgs_cons, Ev.t_bl, Ev.t_int, Ev.t_tup, Ev.t_non, Ev.t_fl, Ev.r_val, Ev.r_new, Ev.o_lst, Ev.o_set, Ev.s_tup, Ev.s_fl, Ev.s_ref, Ev.l_fl, Ev.i_tup, Ev.a_0, Ev.a_1, Ev.a_2, Ev.a_3, Ev.a_4, Ev.a_nat, Ev.b_len, Ev.b_abs, Ev.b_max, Ev.b_min, Ev.b_int, Ev.b_inb, Ev.n_tup, Ev.d_add, Ev.d_sub, Ev.c_lt, Ev.c_le, Ev.c_gt, Ev.c_ge, Ev.w_lt, Ev.w_le, Ev.w_gt, Ev.w_ge, Ev.w_eqi, Ev.w_nei, Ev.w_neb, Ev.w_eqb, Ev.y_int, Ev.y_bl, Ev.y_tup, Ev.it_tup, Ev.z_slc2, Ev.mup_same, Ev.mup_mup, Ev.isPt, Ev.z_ii, Ev.z_bi, Ev.z_ib, Ev.z_ll, Ev.z_lt, Ev.z_tt, Ev.z_tl, Ev.z_cc, Ev.isiOk, Ev.Tgs.len, Ev.wipe]
        exact hk _ _ ⟨⟨_, _, _, rfl⟩, e, hN, hP, hW⟩
    · obtain ⟨⟨a, b, c, rfl⟩, e, hN, hP, hW⟩ := h1
      (rw [Ev.x_cons]; simp [Ev.x_nil, Ev.s_exp, Ev.s_asgn, Ev.s_par2, Ev.s_ret, Ev.s_retn, Ev.s_ifs, Ev.s_pas, Ev.s_brk, Ev.s_cnt, Ev.s_for, Ev.e_var, Ev.e_int, Ev.e_bl, Ev.e_non, Ev.e_str, Ev.e_gc, Ev.e_fn, Ev.e_bin, Ev.e_neg, Ev.e_not, Ev.e_and, Ev.e_or, Ev.e_ite, Ev.e_cmp, Ev.e_chain, Ev.e_tup, Ev.e_lst, Ev.e_dct0, Ev.e_dct1, Ev.e_idx, Ev.e_slc, Ev.e_rev, Ev.e_fld, Ev.e_call, Ev.e_calk, Ev.e_calv, Ev.e_blt, Ev.e_mak, Ev.e_mth, Ev.e_omt, Ev.e_isi, Ev.e_cmpr, Ev.es_nil, Ev.es_cons, Ev.y_of, Ev.y_enum, Ev.y_zip, Ev.y_rng, Ev.y_rng2, Ev.y_items, Ev.y_vals, Ev.if_nil, Ev.if_cons, Ev.tg_nm, Ev.tg_tup, Ev.tg_idx, Ev.tg_fld, Ev.tgs_nil, Ev.tgs_cons, Ev.t_bl, Ev.t_int, Ev.t_tup, Ev.t_non, Ev.t_fl, Ev.r_val, Ev.r_new, Ev.o_lst, Ev.o_set, Ev.s_tup, Ev.s_fl, Ev.s_ref, Ev.l_fl, Ev.i_tup, Ev.a_0, Ev.a_1, Ev.a_2, Ev.a_3, Ev.a_4, Ev.a_nat, Ev.b_len, Ev.b_abs, Ev.b_max, Ev.b_min, Ev.b_int, Ev.b_inb, Ev.n_tup, Ev.d_add, Ev.d_sub, Ev.c_lt, Ev.c_le, Ev.c_gt, Ev.c_ge, Ev.w_lt, Ev.w_le, Ev.w_gt, Ev.w_ge, Ev.w_eqi, Ev.w_nei, Ev.w_neb, Ev.w_eqb, Ev.y_int, Ev.y_bl, Ev.y_tup, Ev.it_tup, Ev.z_slc2, Ev.mup_same, Ev.mup_mup, Ev.isPt, Ev.z_ii, Ev.z_bi, Ev.z_ib, Ev.z_ll, Ev.z_lt, Ev.z_tt, Ev.z_tl, Ev.z_cc, Ev.isiOk, Ev.Tgs.len, Ev.wipe])
      have few := jk.few i
      refine hK (n - 1) _ _ (by omega) (by
        rw [hI]
        have ie : (i : Int) + 1 = ((i + 1 : Nat) : Int) := by omega
        exact ⟨i + 1, _, _, _, by rw [ie], e, by rw [nx]; exact hN, by rw [nx]; exact hP, by rw [nx]; exact hW, by omega⟩)
end Rv
end

section
/-! Wg: what the law draws. -/
namespace Rv
open PySem Ev
/-- the pot: two counts -/
def Pot (M : MH) (p : Addr) : Prop := ∃ a b : Int, M p = some (.lst [.int a, .int b]) ∧ 0 ≤ a ∧ 0 ≤ b
/-- all but one address stays -/
def ExtP (p : Addr) (M M' : MH) : Prop := ∀ a o, a ≠ p → M a = some o → M' a = some o
theorem ExtP.refl {p : Addr} {M : MH} : ExtP p M M := fun _ _ _ h => h
theorem ExtP.trans {p : Addr} {M M1 M2 : MH} (h : ExtP p M M1) (k : ExtP p M1 M2) : ExtP p M M2 := fun a o n e => k a o n (h a o n e)
theorem ExtP.of {p : Addr} {M M' : MH} (e : Ext M M') : ExtP p M M' := fun a o _ h => e a o h
theorem ExtP.mup {p a : Addr} {M0 M : MH} {o : MO} (e : ExtP p M0 M) (h : M0 a = none) : ExtP p M0 (Ev.mup M a o) := fun b u n hb => by
  unfold Ev.mup
  split
  · rename_i hab
    subst hab
    rw [h] at hb
    cases hb
  · exact e b u n hb
theorem Pot.ext {M M' : MH} {p : Addr} (h : Pot M p) (e : Ext M M') : Pot M' p := by
  obtain ⟨a, b, h1, h2⟩ := h
  exact ⟨a, b, e _ _ h1, h2⟩
theorem Pot.mup {M : MH} {p a : Addr} {o : MO} (h : Pot M p) (n : a ≠ p) : Pot (Ev.mup M a o) p := by
  obtain ⟨x, b, h1, h2⟩ := h
  exact ⟨x, b, by rw [mup_ne (fun z => n z.symm)]; exact h1, h2⟩
theorem Pot.ne {M : MH} {p a : Addr} (h : Pot M p) (n : M a = none) : a ≠ p := by
  rintro rfl
  obtain ⟨x, b, h1, -⟩ := h
  rw [n] at h1
  cases h1
def notP : MO → Bool
  | .lst [.int _, .int _] => false
  | _ => true
theorem ExtP.keep {p a : Addr} {M M' : MH} {o : MO} (e : ExtP p M M') (hp : Pot M p) (h : M a = some o) (n : notP o = true) : M' a = some o := by
  refine e a o ?_ h
  rintro rfl
  obtain ⟨x, y, h1, -⟩ := hp
  rw [h] at h1
  cases h1
  cases n
theorem notP_ways (ws : List Way) : notP (.lst (ws.map wp)) = true := by
  cases ws with
  | nil => rfl
  | cons w ws => rfl
theorem lstOf_keep {p : Addr} {M M' : MH} {v : PV} {ws : List Way} (e : ExtP p M M') (hp : Pot M p) (h : lstOf M v = some (ws.map wp)) : lstOf M' v = some (ws.map wp) := by
  unfold lstOf at h ⊢
  split at h
  · split at h
    · rename_i hq
      have e1 : some _ = some _ := h
      cases h
      rw [e.keep hp hq (notP_ways ws)]
    · cases h
  · exact h
  · cases h
theorem Rdr.keep {p : Addr} {M M' : MH} {v : PV} {L R : Nat} {ws : List Way} (h : Rdr M v L R ws) (e : ExtP p M M') (hp : Pot M p) : Rdr M' v L R ws := by
  obtain ⟨a, d, kvs, h1, h2, h3, h4⟩ := h
  exact ⟨a, d, kvs, h1, e.keep hp h2 rfl, e.keep hp h3 rfl, h4⟩
variable {T : Tab} {F : Nat → Option Fn} {k : Nat}
theorem mod_ok {x y : Int} (h : 0 < y) : 0 ≤ x % y ∧ x % y < y := ⟨Int.emod_nonneg _ (by omega), Int.emod_lt_of_pos _ h⟩
theorem w_draw (h : FOk F) {pot : Addr} {sz : Nat} {M : MH} {Q : PV → MH → Prop} (hp : Pot M pot) (hs : 0 < sz) (hs2 : sz < 1000)
    (q : ∀ (r : Nat) M', r < sz → Pot M' pot → ExtP pot M M' → Q (.int r) M') : Cn T F (k + 1) i_law_draw [.ref pot, .int sz] M Q := by
  obtain ⟨a, b, hp, ha, hb⟩ := hp
  have q' : ∀ r a' b' : Int, 0 ≤ r → r < sz → 0 ≤ a' → 0 ≤ b' → Q (.int r) (mup M pot (.lst [.int a', .int b'])) := fun r a' b' h1 h2 h3 h4 => by
    have := q r.toNat (mup M pot (.lst [.int a', .int b'])) (by omega) ⟨a', b', mup_same, h3, h4⟩ fun x o n e => by rw [mup_ne n]; exact e
    rwa [Int.toNat_of_nonneg h1] at this
  clear q
  refine cn_of h.h_law_draw rfl ?_
  have hs' : (0 : Int) < sz := by omega
  have hcd : cDiv (sz : Int) = true := by simp [cDiv]; omega
  have hcm : cMul b 41077 = true := by simp [cMul]
  have hb2 := mod_ok (x := b * 41077 + 31547) (y := 2147483543) (by decide)
  have hcm2 : cMul ((b * 41077 + 31547) % 2147483543) ((b * 41077 + 31547) % 2147483543) = true := by simp [cMul]; omega
  have h23 : cDiv 23 = true := by decide
  by_cases h0 : 0 < a
  · simp only [f_law_draw, wpSs, wpS, wpE, wpEs, wpTg, wpTgs]
    simp [idxR, seqOf, lstOf, hp, atI, wpCmp, isEq, cmpR, Ev.truthy, binR, bltR, res, setR, hcd, hcm, hcm2, Ev.mup, Tgs.len, h0]
    have := mod_ok (x := a) hs'
    have := q' (a % sz) (a / sz) b this.1 this.2 (Int.ediv_nonneg ha (by omega)) hb
    simpa [Ev.mup] using this
  · simp only [f_law_draw, wpSs, wpS, wpE, wpEs, wpTg, wpTgs]
    simp [idxR, seqOf, lstOf, hp, atI, wpCmp, isEq, cmpR, Ev.truthy, binR, bltR, res, setR, hcd, hcm, hcm2, Ev.mup, Tgs.len, h0, hs, h23]
    have := mod_ok (x := (b * 41077 + 31547) % 2147483543 * ((b * 41077 + 31547) % 2147483543) % 2147483489 / 23) hs'
    have := q' _ a _ this.1 this.2 ha hb2.1
    simpa [Ev.mup] using this
theorem w_pot (h : FOk F) {v : PV} {ns : List Int} {M : MH} {Q : PV → MH → Prop} (hv : lstOf M v = some (ns.map PV.int)) (hn : ns.length ≤ 63)
    (q : ∀ p M', M p = none → Ext M M' → Pot M' p → Q (.ref p) M') : Cn T F (k + 1) i_law_pot [v, .int 0] M Q := by
  have q : ∀ p a b, M p = none → 0 ≤ a → 0 ≤ b → Q (.ref p) (Ev.mup M p (.lst [.int a, .int b])) := fun p a b hp ha hb => q p _ hp (Ext.new hp) ⟨a, b, mup_same, ha, hb⟩
  refine cn_of h.h_law_pot rfl ?_
  have hl : lenOf M v = some ns.length := by rw [len_lst hv, List.length_map]
  have hi : seqOf M v = some (ns.map PV.int) := seq_lst hv
  cases ns with
  | nil =>
    simp only [f_law_pot, wpSs, wpS, wpE, wpEs, wpTg, wpTgs]
    simp [idxR, hi, hl, atI, wpCmp, isEq, cmpR, Ev.truthy, binR, bltR, res, cMul, okO, sizeLine]
    exact fun p hp => q p 0 40510097 hp (by decide) (by decide)
  | cons n r =>
    simp only [f_law_pot, wpSs, wpS, wpE, wpEs, wpTg, wpTgs]
    simp [idxR, hi, hl, atI, wpCmp, isEq, cmpR, Ev.truthy, binR, bltR, res, cMul, okO, sizeLine]
    refine fun p hp => q p _ _ hp ?_ ?_
    · split <;> omega
    · have := (mod_ok (x := (if n < 0 then -n else n) % 2147483489 * 41719 + 947) (y := 2147483543) (by decide)).1
      omega
theorem w_pick3 (h : FOk F) {pot a : Addr} {M : MH} {Q : PV → MH → Prop} (hp : Pot M pot) (ha : M a = some (.lst [.int 0, .int 1, .int 2])) (q : ∀ (r : Nat) M', r < 3 → Pot M' pot → ExtP pot M M' → Q (.int r) M') : Cn T F (k + 2) i_law_pick [.ref pot, .ref a] M Q := by
  refine cn_z h.h_law_pick rfl ?_
  simp only [f_law_pick]
  (rw [Ev.x_cons]; simp [Ev.x_nil, Ev.s_exp, Ev.s_asgn, Ev.s_par2, Ev.s_ret, Ev.s_retn, Ev.s_ifs, Ev.s_pas, Ev.s_brk, Ev.s_cnt, Ev.s_for, Ev.e_var, Ev.e_int, Ev.e_bl, Ev.e_non, Ev.e_str, Ev.e_gc, Ev.e_fn, Ev.e_bin, Ev.e_neg, Ev.e_not, Ev.e_and, Ev.e_or, Ev.e_ite, Ev.e_cmp, Ev.e_chain, Ev.e_tup, Ev.e_lst, Ev.e_dct0, Ev.e_dct1, Ev.e_idx, Ev.e_slc, Ev.e_rev, Ev.e_fld, Ev.e_call, Ev.e_calk, Ev.e_calv, Ev.e_blt, Ev.e_mak, Ev.e_mth, Ev.e_omt, Ev.e_isi, Ev.e_cmpr, Ev.es_nil, Ev.es_cons, Ev.y_of, Ev.y_enum, Ev.y_zip, Ev.y_rng, Ev.y_rng2, Ev.y_items, Ev.y_vals, Ev.if_nil, Ev.if_cons, Ev.tg_nm, Ev.tg_tup, Ev.tg_idx, Ev.tg_fld, Ev.tgs_nil, Ev.tgs_cons, Ev.t_bl, Ev.t_int, Ev.t_tup, Ev.t_non, Ev.t_fl, Ev.r_val, Ev.r_new, Ev.o_lst, Ev.o_set, Ev.s_tup, Ev.s_fl, Ev.s_ref, Ev.l_fl, Ev.i_tup, Ev.a_0, Ev.a_1, Ev.a_2, Ev.a_3, Ev.a_4, Ev.a_nat, Ev.b_len, Ev.b_abs, Ev.b_max, Ev.b_min, Ev.b_int, Ev.b_inb, Ev.n_tup, Ev.d_add, Ev.d_sub, Ev.c_lt, Ev.c_le, Ev.c_gt, Ev.c_ge, Ev.w_lt, Ev.w_le, Ev.w_gt, Ev.w_ge, Ev.w_eqi, Ev.w_nei, Ev.w_neb, Ev.w_eqb, Ev.y_int, Ev.y_bl, Ev.y_tup, Ev.it_tup, Ev.z_slc2, Ev.mup_same, Ev.mup_mup, Ev.isPt, Ev.z_ii, Ev.z_bi, Ev.z_ib, Ev.z_ll, Ev.z_lt, Ev.z_tt, Ev.z_tl, Ev.z_cc, Ev.isiOk, Ev.Tgs.len, Ev.wipe, n_lst ha])
  refine w_draw h (sz := 3) hp (by decide) (by decide) fun r M1 hr p1 e1 => ?_
  have ha1 := e1.keep hp ha rfl
  have : r = 0 ∨ r = 1 ∨ r = 2 := by omega
  have q1 := q r M1 hr p1 e1
  rcases this with rfl | rfl | rfl <;> simp [Ev.x_nil, Ev.s_exp, Ev.s_asgn, Ev.s_par2, Ev.s_ret, Ev.s_retn, Ev.s_ifs, Ev.s_pas, Ev.s_brk, Ev.s_cnt, Ev.s_for, Ev.e_var, Ev.e_int, Ev.e_bl, Ev.e_non, Ev.e_str, Ev.e_gc, Ev.e_fn, Ev.e_bin, Ev.e_neg, Ev.e_not, Ev.e_and, Ev.e_or, Ev.e_ite, Ev.e_cmp, Ev.e_chain, Ev.e_tup, Ev.e_lst, Ev.e_dct0, Ev.e_dct1, Ev.e_idx, Ev.e_slc, Ev.e_rev, Ev.e_fld, Ev.e_call, Ev.e_calk, Ev.e_calv, Ev.e_blt, Ev.e_mak, Ev.e_mth, Ev.e_omt, Ev.e_isi, Ev.e_cmpr, Ev.es_nil, Ev.es_cons, Ev.y_of, Ev.y_enum, Ev.y_zip, Ev.y_rng, Ev.y_rng2, Ev.y_items, Ev.y_vals, Ev.if_nil, Ev.if_cons, Ev.tg_nm, Ev.tg_tup, Ev.tg_idx, Ev.tg_fld, Ev.tgs_nil, Ev.tgs_cons, Ev.t_bl, Ev.t_int, Ev.t_tup, Ev.t_non, Ev.t_fl, Ev.r_val, Ev.r_new, Ev.o_lst, Ev.o_set, Ev.s_tup, Ev.s_fl, Ev.s_ref, Ev.l_fl, Ev.i_tup, Ev.a_0, Ev.a_1, Ev.a_2, Ev.a_3, Ev.a_4, Ev.a_nat, Ev.b_len, Ev.b_abs, Ev.b_max, Ev.b_min, Ev.b_int, Ev.b_inb, Ev.n_tup, Ev.d_add, Ev.d_sub, Ev.c_lt, Ev.c_le, Ev.c_gt, Ev.c_ge, Ev.w_lt, Ev.w_le, Ev.w_gt, Ev.w_ge, Ev.w_eqi, Ev.w_nei, Ev.w_neb, Ev.w_eqb, Ev.y_int, Ev.y_bl, Ev.y_tup, Ev.it_tup, Ev.z_slc2, Ev.mup_same, Ev.mup_mup, Ev.isPt, Ev.z_ii, Ev.z_bi, Ev.z_ib, Ev.z_ll, Ev.z_lt, Ev.z_tt, Ev.z_tl, Ev.z_cc, Ev.isiOk, Ev.Tgs.len, Ev.wipe, i_lst ha1] <;> exact q1
/-- drawn ways -/
structure Drn (L R : Nat) (ws : List Way) : Prop extends ROk L R ws where
  srt : sW ws = ws
  two : ∀ r l, (byW ws r l).length ≤ 2
theorem w_by (h : FOk F) {ws : List Way} {r l : Nat} {v : PV} {M : MH} {Q : PV → MH → Prop} (hv : lstOf M v = some (ws.map wp)) (len : ws.length ≤ 1000) (q : ∀ p M', M p = none → Ext M M' → M' p = some (.lst ((byW ws r l).map wp)) → Q (.ref p) M') : Cn T F (k + 1) i_law_by [v, .int r, .int l] M Q := by
  refine cn_z h.h_law_by rfl ?_
  simp only [f_law_by]
  (rw [Ev.x_cons]; simp [Ev.x_nil, Ev.s_exp, Ev.s_asgn, Ev.s_par2, Ev.s_ret, Ev.s_retn, Ev.s_ifs, Ev.s_pas, Ev.s_brk, Ev.s_cnt, Ev.s_for, Ev.e_var, Ev.e_int, Ev.e_bl, Ev.e_non, Ev.e_str, Ev.e_gc, Ev.e_fn, Ev.e_bin, Ev.e_neg, Ev.e_not, Ev.e_and, Ev.e_or, Ev.e_ite, Ev.e_cmp, Ev.e_chain, Ev.e_tup, Ev.e_lst, Ev.e_dct0, Ev.e_dct1, Ev.e_idx, Ev.e_slc, Ev.e_rev, Ev.e_fld, Ev.e_call, Ev.e_calk, Ev.e_calv, Ev.e_blt, Ev.e_mak, Ev.e_mth, Ev.e_omt, Ev.e_isi, Ev.e_cmpr, Ev.es_nil, Ev.es_cons, Ev.y_of, Ev.y_enum, Ev.y_zip, Ev.y_rng, Ev.y_rng2, Ev.y_items, Ev.y_vals, Ev.if_nil, Ev.if_cons, Ev.tg_nm, Ev.tg_tup, Ev.tg_idx, Ev.tg_fld, Ev.tgs_nil, Ev.tgs_cons, Ev.t_bl, Ev.t_int, Ev.t_tup, Ev.t_non, Ev.t_fl, Ev.r_val, Ev.r_new, Ev.o_lst, Ev.o_set, Ev.s_tup, Ev.s_fl, Ev.s_ref, Ev.l_fl, Ev.i_tup, Ev.a_0, Ev.a_1, Ev.a_2, Ev.a_3, Ev.a_4, Ev.a_nat, Ev.b_len, Ev.b_abs, Ev.b_max, Ev.b_min, Ev.b_int, Ev.b_inb, Ev.n_tup, Ev.d_add, Ev.d_sub, Ev.c_lt, Ev.c_le, Ev.c_gt, Ev.c_ge, Ev.w_lt, Ev.w_le, Ev.w_gt, Ev.w_ge, Ev.w_eqi, Ev.w_nei, Ev.w_neb, Ev.w_eqb, Ev.y_int, Ev.y_bl, Ev.y_tup, Ev.it_tup, Ev.z_slc2, Ev.mup_same, Ev.mup_mup, Ev.isPt, Ev.z_ii, Ev.z_bi, Ev.z_ib, Ev.z_ll, Ev.z_lt, Ev.z_tt, Ev.z_tl, Ev.z_cc, Ev.isiOk, Ev.Tgs.len, Ev.wipe, seq_lst hv])
  intro D hD
  refine cmpL_filter ws wp (fun w => decide (w.1 = r) && decide (w.2.1 = l)) wp hD (Nat.le_trans len (by decide)) (fun M' e => seqOf_stays e (seq_lst hv)) (fun w hw M1 K e yes no => ?_) fun M1 e hM => q D M1 hD e hM
  unfold Ev.bdK wp
  simp [Ev.x_nil, Ev.s_exp, Ev.s_asgn, Ev.s_par2, Ev.s_ret, Ev.s_retn, Ev.s_ifs, Ev.s_pas, Ev.s_brk, Ev.s_cnt, Ev.s_for, Ev.e_var, Ev.e_int, Ev.e_bl, Ev.e_non, Ev.e_str, Ev.e_gc, Ev.e_fn, Ev.e_bin, Ev.e_neg, Ev.e_not, Ev.e_and, Ev.e_or, Ev.e_ite, Ev.e_cmp, Ev.e_chain, Ev.e_tup, Ev.e_lst, Ev.e_dct0, Ev.e_dct1, Ev.e_idx, Ev.e_slc, Ev.e_rev, Ev.e_fld, Ev.e_call, Ev.e_calk, Ev.e_calv, Ev.e_blt, Ev.e_mak, Ev.e_mth, Ev.e_omt, Ev.e_isi, Ev.e_cmpr, Ev.es_nil, Ev.es_cons, Ev.y_of, Ev.y_enum, Ev.y_zip, Ev.y_rng, Ev.y_rng2, Ev.y_items, Ev.y_vals, Ev.if_nil, Ev.if_cons, Ev.tg_nm, Ev.tg_tup, Ev.tg_idx, Ev.tg_fld, Ev.tgs_nil, Ev.tgs_cons, Ev.t_bl, Ev.t_int, Ev.t_tup, Ev.t_non, Ev.t_fl, Ev.r_val, Ev.r_new, Ev.o_lst, Ev.o_set, Ev.s_tup, Ev.s_fl, Ev.s_ref, Ev.l_fl, Ev.i_tup, Ev.a_0, Ev.a_1, Ev.a_2, Ev.a_3, Ev.a_4, Ev.a_nat, Ev.b_len, Ev.b_abs, Ev.b_max, Ev.b_min, Ev.b_int, Ev.b_inb, Ev.n_tup, Ev.d_add, Ev.d_sub, Ev.c_lt, Ev.c_le, Ev.c_gt, Ev.c_ge, Ev.w_lt, Ev.w_le, Ev.w_gt, Ev.w_ge, Ev.w_eqi, Ev.w_nei, Ev.w_neb, Ev.w_eqb, Ev.y_int, Ev.y_bl, Ev.y_tup, Ev.it_tup, Ev.z_slc2, Ev.mup_same, Ev.mup_mup, Ev.isPt, Ev.z_ii, Ev.z_bi, Ev.z_ib, Ev.z_ll, Ev.z_lt, Ev.z_tt, Ev.z_tl, Ev.z_cc, Ev.isiOk, Ev.Tgs.len, Ev.wipe]
  by_cases c1 : w.1 = r
  · have c1' : ((w.1 : Nat) : Int) = r := by omega
    by_cases c2 : w.2.1 = l
    · have c2' : ((w.2.1 : Nat) : Int) = l := by omega
      have := yes M1 (by simp [c1, c2]) Ext.refl
      simp only [wp] at this
      simp only [c1', c2', decide_true] at this ⊢
      exact this
    · have c2' : ¬ ((w.2.1 : Nat) : Int) = l := by omega
      simp only [c1', c2', decide_true, decide_false]
      exact no M1 (by simp [c1, c2]) Ext.refl
  · have c1' : ¬ ((w.1 : Nat) : Int) = r := by omega
    simp only [c1', decide_false]
    exact no M1 (by simp [c1]) Ext.refl
theorem byW_app {a b : List Way} {r l : Nat} : byW (a ++ b) r l = byW a r l ++ byW b r l := by
  unfold byW
  rw [List.filter_append]
theorem byW_one {w : Way} {r l : Nat} : byW [w] r l = if w.1 = r ∧ w.2.1 = l then [w] else [] := by
  unfold byW
  rw [List.filter_cons]
  by_cases c : w.1 = r ∧ w.2.1 = l
  · simp [c]
  · have : (decide (w.1 = r) && decide (w.2.1 = l)) = false := by
      rw [Bool.eq_false_iff]
      simpa using c
    rw [if_neg c, this]
    rfl
/-- ways drawn so far: rooms below i, and of room i letters below j -/
structure Sof (L R i j : Nat) (fs : List Way) : Prop where
  bd : ∀ w ∈ fs, w.1 < R ∧ w.2.1 < L ∧ w.2.2.1 < R ∧ w.2.2.2 < 2
  at_ : ∀ w ∈ fs, w.1 < i ∨ w.1 = i ∧ w.2.1 < j
  ge : ∀ r l, r < R → l < L → (r < i ∨ r = i ∧ l < j) → 1 ≤ (byW fs r l).length
  le : ∀ r l, (byW fs r l).length ≤ 2
  len : fs.length ≤ 2 * (i * L + j)
theorem Sof.zero {L R i j : Nat} {fs : List Way} (s : Sof L R i j fs) : byW fs i j = [] := by
  unfold byW
  rw [List.filter_eq_nil_iff]
  intro w hw
  have := s.at_ w hw
  simp
  omega
theorem Sof.add1 {L R i j : Nat} {fs : List Way} (s : Sof L R i j fs) {q x : Nat} (hi : i < R) (hj : j < L) (hq : q < R) (hx : x < 2) : Sof L R i (j + 1) (fs ++ [(i, j, q, x)]) where
  bd w hw := by
    rcases List.mem_append.mp hw with hw | hw
    · exact s.bd w hw
    · rw [List.mem_singleton] at hw
      subst hw
      exact ⟨hi, hj, hq, hx⟩
  at_ w hw := by
    rcases List.mem_append.mp hw with hw | hw
    · have := s.at_ w hw
      omega
    · rw [List.mem_singleton] at hw
      subst hw
      exact .inr ⟨rfl, Nat.lt_succ_self _⟩
  ge r l hr hl h := by
    rw [byW_app, List.length_append, byW_one]
    by_cases c : i = r ∧ j = l
    · rw [if_pos c]
      simp
    · rw [if_neg c]
      have := s.ge r l hr hl (by omega)
      omega
  le r l := by
    rw [byW_app, List.length_append, byW_one]
    by_cases c : i = r ∧ j = l
    · rw [if_pos c, ← c.1, ← c.2, s.zero]
      simp
    · rw [if_neg c]
      have := s.le r l
      simpa using this
  len := by
    have := s.len
    simp only [List.length_append, List.length_singleton]
    omega
theorem Sof.add2 {L R i j : Nat} {fs : List Way} (s : Sof L R i j fs) {q x q2 x2 : Nat} (hi : i < R) (hj : j < L) (hq : q < R) (hx : x < 2) (hq2 : q2 < R) (hx2 : x2 < 2) : Sof L R i (j + 1) (fs ++ [(i, j, q, x)] ++ [(i, j, q2, x2)]) where
  bd w hw := by
    rcases List.mem_append.mp hw with hw | hw
    · exact (s.add1 hi hj hq hx).bd w hw
    · rw [List.mem_singleton] at hw
      subst hw
      exact ⟨hi, hj, hq2, hx2⟩
  at_ w hw := by
    rcases List.mem_append.mp hw with hw | hw
    · exact (s.add1 hi hj hq hx).at_ w hw
    · rw [List.mem_singleton] at hw
      subst hw
      exact .inr ⟨rfl, Nat.lt_succ_self _⟩
  ge r l hr hl h := by
    have := (s.add1 hi hj hq hx).ge r l hr hl h
    rw [byW_app, List.length_append]
    omega
  le r l := by
    rw [byW_app, byW_app, List.length_append, List.length_append, byW_one, byW_one]
    by_cases c : i = r ∧ j = l
    · rw [if_pos c, if_pos c, ← c.1, ← c.2, s.zero]
      simp
    · rw [if_neg c, if_neg c]
      have := s.le r l
      simpa using this
  len := by
    have := s.len
    simp only [List.length_append, List.length_singleton]
    omega
theorem Sof.room {L R i : Nat} {fs : List Way} (s : Sof L R i L fs) : Sof L R (i + 1) 0 fs where
  bd := s.bd
  at_ w hw := by
    have := s.at_ w hw
    omega
  ge r l hr hl h := s.ge r l hr hl (by omega)
  le := s.le
  len := by
    have := s.len
    have e : (i + 1) * L = i * L + L := Nat.succ_mul i L
    omega
theorem byW_ddp_le (fs : List Way) (r l : Nat) : (byW (sW (ddp fs)) r l).length ≤ (byW fs r l).length :=
  nodup_len (((sW_perm _).nodup_iff.mpr (nodup_ddp _)).filter _) fun x hx => by
    obtain ⟨h1, h2⟩ := mem_byW.mp hx
    exact mem_byW.mpr ⟨mem_ddp.mp (mem_sW.mp h1), h2⟩
theorem Sof.drn {L R : Nat} {fs : List Way} (s : Sof L R R 0 fs) (hL : 0 < L) (hL2 : L ≤ 2) (hR : 0 < R) (hR2 : R ≤ 2) : Drn L R (sW (ddp fs)) where
  lo := hL
  l4 := by omega
  ro := hR
  r12 := by omega
  bd w hw := s.bd w (mem_ddp.mp (mem_sW.mp hw))
  ex r l hr hl := by
    have h := s.ge r l hr hl (.inl hr)
    obtain ⟨w, hw⟩ := List.exists_mem_of_length_pos (by omega : 0 < (byW fs r l).length)
    obtain ⟨h1, h2, h3⟩ := mem_byW.mp hw
    obtain ⟨w1, w2, w3, w4⟩ := w
    dsimp only at h2 h3
    subst h2 h3
    exact ⟨w3, w4, mem_sW.mpr (mem_ddp.mpr h1)⟩
  nd := (sW_perm _).nodup_iff.mpr (nodup_ddp _)
  len := by
    have h1 := ddp_len fs
    have h2 := s.len
    have h3 : R * L ≤ 2 * 2 := Nat.mul_le_mul hR2 hL2
    rw [len_sW]
    omega
  srt := sW_sW _
  two r l := Nat.le_trans (byW_ddp_le fs r l) (s.le r l)
theorem w_ways (h : FOk F) {pot : Addr} {L R ch : Nat} {M : MH} {Q : PV → MH → Prop} (hp : Pot M pot) (hL : 0 < L) (hL2 : L ≤ 2) (hR : 0 < R) (hR2 : R ≤ 2) (q : ∀ p ws M', M p = none → Pot M' pot → ExtP pot M M' → M' p = some (.lst (ws.map wp)) → Drn L R ws → Q (.ref p) M') : Cn T F (k + 2) i_law_ways [.ref pot, .int L, .int R, .int ch] M Q := by
  refine cn_z h.h_law_ways rfl ?_
  simp only [f_law_ways]
  have four : 4 ≤ sizeLine := by decide
  have sz : 1000000 ≤ sizeLine := by decide
  (rw [Ev.x_cons]; simp [Ev.x_nil, Ev.s_exp, Ev.s_asgn, Ev.s_par2, Ev.s_ret, Ev.s_retn, Ev.s_ifs, Ev.s_pas, Ev.s_brk, Ev.s_cnt, Ev.s_for, Ev.e_var, Ev.e_int, Ev.e_bl, Ev.e_non, Ev.e_str, Ev.e_gc, Ev.e_fn, Ev.e_bin, Ev.e_neg, Ev.e_not, Ev.e_and, Ev.e_or, Ev.e_ite, Ev.e_cmp, Ev.e_chain, Ev.e_tup, Ev.e_lst, Ev.e_dct0, Ev.e_dct1, Ev.e_idx, Ev.e_slc, Ev.e_rev, Ev.e_fld, Ev.e_call, Ev.e_calk, Ev.e_calv, Ev.e_blt, Ev.e_mak, Ev.e_mth, Ev.e_omt, Ev.e_isi, Ev.e_cmpr, Ev.es_nil, Ev.es_cons, Ev.y_of, Ev.y_enum, Ev.y_zip, Ev.y_rng, Ev.y_rng2, Ev.y_items, Ev.y_vals, Ev.if_nil, Ev.if_cons, Ev.tg_nm, Ev.tg_tup, Ev.tg_idx, Ev.tg_fld, Ev.tgs_nil, Ev.tgs_cons, Ev.t_bl, Ev.t_int, Ev.t_tup, Ev.t_non, Ev.t_fl, Ev.r_val, Ev.r_new, Ev.o_lst, Ev.o_set, Ev.s_tup, Ev.s_fl, Ev.s_ref, Ev.l_fl, Ev.i_tup, Ev.a_0, Ev.a_1, Ev.a_2, Ev.a_3, Ev.a_4, Ev.a_nat, Ev.b_len, Ev.b_abs, Ev.b_max, Ev.b_min, Ev.b_int, Ev.b_inb, Ev.n_tup, Ev.d_add, Ev.d_sub, Ev.c_lt, Ev.c_le, Ev.c_gt, Ev.c_ge, Ev.w_lt, Ev.w_le, Ev.w_gt, Ev.w_ge, Ev.w_eqi, Ev.w_nei, Ev.w_neb, Ev.w_eqb, Ev.y_int, Ev.y_bl, Ev.y_tup, Ev.it_tup, Ev.z_slc2, Ev.mup_same, Ev.mup_mup, Ev.isPt, Ev.z_ii, Ev.z_bi, Ev.z_ib, Ev.z_ll, Ev.z_lt, Ev.z_tt, Ev.z_tl, Ev.z_cc, Ev.isiOk, Ev.Tgs.len, Ev.wipe])
  intro d hd
  have np : d ≠ pot := hp.ne hd
  have p0 := hp.mup (o := .lst []) np
  have e0 : ExtP pot M (mup M d (.lst [])) := .of (Ext.new hd)
  (rw [Ev.x_cons]; simp [Ev.x_nil, Ev.s_exp, Ev.s_asgn, Ev.s_par2, Ev.s_ret, Ev.s_retn, Ev.s_ifs, Ev.s_pas, Ev.s_brk, Ev.s_cnt, Ev.s_for, Ev.e_var, Ev.e_int, Ev.e_bl, Ev.e_non, Ev.e_str, Ev.e_gc, Ev.e_fn, Ev.e_bin, Ev.e_neg, Ev.e_not, Ev.e_and, Ev.e_or, Ev.e_ite, Ev.e_cmp, Ev.e_chain, Ev.e_tup, Ev.e_lst, Ev.e_dct0, Ev.e_dct1, Ev.e_idx, Ev.e_slc, Ev.e_rev, Ev.e_fld, Ev.e_call, Ev.e_calk, Ev.e_calv, Ev.e_blt, Ev.e_mak, Ev.e_mth, Ev.e_omt, Ev.e_isi, Ev.e_cmpr, Ev.es_nil, Ev.es_cons, Ev.y_of, Ev.y_enum, Ev.y_zip, Ev.y_rng, Ev.y_rng2, Ev.y_items, Ev.y_vals, Ev.if_nil, Ev.if_cons, Ev.tg_nm, Ev.tg_tup, Ev.tg_idx, Ev.tg_fld, Ev.tgs_nil, Ev.tgs_cons, Ev.t_bl, Ev.t_int, Ev.t_tup, Ev.t_non, Ev.t_fl, Ev.r_val, Ev.r_new, Ev.o_lst, Ev.o_set, Ev.s_tup, Ev.s_fl, Ev.s_ref, Ev.l_fl, Ev.i_tup, Ev.a_0, Ev.a_1, Ev.a_2, Ev.a_3, Ev.a_4, Ev.a_nat, Ev.b_len, Ev.b_abs, Ev.b_max, Ev.b_min, Ev.b_int, Ev.b_inb, Ev.n_tup, Ev.d_add, Ev.d_sub, Ev.c_lt, Ev.c_le, Ev.c_gt, Ev.c_ge, Ev.w_lt, Ev.w_le, Ev.w_gt, Ev.w_ge, Ev.w_eqi, Ev.w_nei, Ev.w_neb, Ev.w_eqb, Ev.y_int, Ev.y_bl, Ev.y_tup, Ev.it_tup, Ev.z_slc2, Ev.mup_same, Ev.mup_mup, Ev.isPt, Ev.z_ii, Ev.z_bi, Ev.z_ib, Ev.z_ll, Ev.z_lt, Ev.z_tt, Ev.z_tl, Ev.z_cc, Ev.isiOk, Ev.Tgs.len, Ev.wipe, rngN (n := R) (by omega)])
  refine forL_ind (fun i σ M1 => (∃ left : Int, ∃ a b, σ = [some (.ref pot), some (.int L), some (.int R), some (.int ch), some (.ref d), some (.int left), a, b]) ∧ Pot M1 pot ∧ ExtP pot M M1 ∧ ∃ fs : List Way, M1 d = some (.lst (fs.map wp)) ∧ Sof L R i 0 fs) (fun i σ M1 _ h => trivial) (fun i x σ M1 K hx h1 hk => ?_) (fun σ M1 h1 => ?_) ⟨⟨_, _, _, rfl⟩, p0, e0, [], mup_same, ⟨by simp, by simp, fun r l hr hl hh => by omega, by simp [byW], by simp⟩⟩
  · obtain ⟨⟨left, a, b, rfl⟩, p1, e1, fs, hM, hs⟩ := h1
    rw [List.getElem?_map] at hx
    obtain ⟨n, hn, rfl⟩ := Option.map_eq_some_iff.mp hx
    obtain ⟨hi, en⟩ := List.getElem?_eq_some_iff.mp hn
    rw [List.length_range] at hi
    rw [List.getElem_range] at en
    subst en
    unfold bdF
    simp [Ev.x_nil, Ev.s_exp, Ev.s_asgn, Ev.s_par2, Ev.s_ret, Ev.s_retn, Ev.s_ifs, Ev.s_pas, Ev.s_brk, Ev.s_cnt, Ev.s_for, Ev.e_var, Ev.e_int, Ev.e_bl, Ev.e_non, Ev.e_str, Ev.e_gc, Ev.e_fn, Ev.e_bin, Ev.e_neg, Ev.e_not, Ev.e_and, Ev.e_or, Ev.e_ite, Ev.e_cmp, Ev.e_chain, Ev.e_tup, Ev.e_lst, Ev.e_dct0, Ev.e_dct1, Ev.e_idx, Ev.e_slc, Ev.e_rev, Ev.e_fld, Ev.e_call, Ev.e_calk, Ev.e_calv, Ev.e_blt, Ev.e_mak, Ev.e_mth, Ev.e_omt, Ev.e_isi, Ev.e_cmpr, Ev.es_nil, Ev.es_cons, Ev.y_of, Ev.y_enum, Ev.y_zip, Ev.y_rng, Ev.y_rng2, Ev.y_items, Ev.y_vals, Ev.if_nil, Ev.if_cons, Ev.tg_nm, Ev.tg_tup, Ev.tg_idx, Ev.tg_fld, Ev.tgs_nil, Ev.tgs_cons, Ev.t_bl, Ev.t_int, Ev.t_tup, Ev.t_non, Ev.t_fl, Ev.r_val, Ev.r_new, Ev.o_lst, Ev.o_set, Ev.s_tup, Ev.s_fl, Ev.s_ref, Ev.l_fl, Ev.i_tup, Ev.a_0, Ev.a_1, Ev.a_2, Ev.a_3, Ev.a_4, Ev.a_nat, Ev.b_len, Ev.b_abs, Ev.b_max, Ev.b_min, Ev.b_int, Ev.b_inb, Ev.n_tup, Ev.d_add, Ev.d_sub, Ev.c_lt, Ev.c_le, Ev.c_gt, Ev.c_ge, Ev.w_lt, Ev.w_le, Ev.w_gt, Ev.w_ge, Ev.w_eqi, Ev.w_nei, Ev.w_neb, Ev.w_eqb, Ev.y_int, Ev.y_bl, Ev.y_tup, Ev.it_tup, Ev.z_slc2, Ev.mup_same, Ev.mup_mup, Ev.isPt, Ev.z_ii, Ev.z_bi, Ev.z_ib, Ev.z_ll, Ev.z_lt, Ev.z_tt, Ev.z_tl, Ev.z_cc, Ev.isiOk, Ev.Tgs.len, Ev.wipe]
    (rw [Ev.x_cons]; simp [Ev.x_nil, Ev.s_exp, Ev.s_asgn, Ev.s_par2, Ev.s_ret, Ev.s_retn, Ev.s_ifs, Ev.s_pas, Ev.s_brk, Ev.s_cnt, Ev.s_for, Ev.e_var, Ev.e_int, Ev.e_bl, Ev.e_non, Ev.e_str, Ev.e_gc, Ev.e_fn, Ev.e_bin, Ev.e_neg, Ev.e_not, Ev.e_and, Ev.e_or, Ev.e_ite, Ev.e_cmp, Ev.e_chain, Ev.e_tup, Ev.e_lst, Ev.e_dct0, Ev.e_dct1, Ev.e_idx, Ev.e_slc, Ev.e_rev, Ev.e_fld, Ev.e_call, Ev.e_calk, Ev.e_calv, Ev.e_blt, Ev.e_mak, Ev.e_mth, Ev.e_omt, Ev.e_isi, Ev.e_cmpr, Ev.es_nil, Ev.es_cons, Ev.y_of, Ev.y_enum, Ev.y_zip, Ev.y_rng, Ev.y_rng2, Ev.y_items, Ev.y_vals, Ev.if_nil, Ev.if_cons, Ev.tg_nm, Ev.tg_tup, Ev.tg_idx, Ev.tg_fld, Ev.tgs_nil, Ev.tgs_cons, Ev.t_bl, Ev.t_int, Ev.t_tup, Ev.t_non, Ev.t_fl, Ev.r_val, Ev.r_new, Ev.o_lst, Ev.o_set, Ev.s_tup, Ev.s_fl, Ev.s_ref, Ev.l_fl, Ev.i_tup, Ev.a_0, Ev.a_1, Ev.a_2, Ev.a_3, Ev.a_4, Ev.a_nat, Ev.b_len, Ev.b_abs, Ev.b_max, Ev.b_min, Ev.b_int, Ev.b_inb, Ev.n_tup, Ev.d_add, Ev.d_sub, Ev.c_lt, Ev.c_le, Ev.c_gt, Ev.c_ge, Ev.w_lt, Ev.w_le, Ev.w_gt, Ev.w_ge, Ev.w_eqi, Ev.w_nei, Ev.w_neb, Ev.w_eqb, Ev.y_int, Ev.y_bl, Ev.y_tup, Ev.it_tup, Ev.z_slc2, Ev.mup_same, Ev.mup_mup, Ev.isPt, Ev.z_ii, Ev.z_bi, Ev.z_ib, Ev.z_ll, Ev.z_lt, Ev.z_tt, Ev.z_tl, Ev.z_cc, Ev.isiOk, Ev.Tgs.len, Ev.wipe, rngN (n := L) (by omega)])
    refine forL_ind (fun j σ M1 => (∃ left : Int, ∃ b, σ = [some (.ref pot), some (.int L), some (.int R), some (.int ch), some (.ref d), some (.int left), some (.int i), b]) ∧ Pot M1 pot ∧ ExtP pot M M1 ∧ ∃ fs : List Way, M1 d = some (.lst (fs.map wp)) ∧ Sof L R i j fs) (fun i σ M1 _ h => trivial) (fun j x σ M1 K hx h1 hk => ?_) (fun σ M1 h1 => ?_) ⟨⟨_, _, rfl⟩, p1, e1, fs, hM, hs⟩
    · obtain ⟨⟨left, b, rfl⟩, p1, e1, fs, hM, hs⟩ := h1
      rw [List.getElem?_map] at hx
      obtain ⟨n, hn, rfl⟩ := Option.map_eq_some_iff.mp hx
      obtain ⟨hj, en⟩ := List.getElem?_eq_some_iff.mp hn
      rw [List.length_range] at hj
      rw [List.getElem_range] at en
      subst en
      have lf : fs.length ≤ 8 := by
        have h2 := hs.len
        have h3 : i * L ≤ 1 * 2 := Nat.mul_le_mul (by omega) hL2
        omega
      unfold bdF
      simp [Ev.x_nil, Ev.s_exp, Ev.s_asgn, Ev.s_par2, Ev.s_ret, Ev.s_retn, Ev.s_ifs, Ev.s_pas, Ev.s_brk, Ev.s_cnt, Ev.s_for, Ev.e_var, Ev.e_int, Ev.e_bl, Ev.e_non, Ev.e_str, Ev.e_gc, Ev.e_fn, Ev.e_bin, Ev.e_neg, Ev.e_not, Ev.e_and, Ev.e_or, Ev.e_ite, Ev.e_cmp, Ev.e_chain, Ev.e_tup, Ev.e_lst, Ev.e_dct0, Ev.e_dct1, Ev.e_idx, Ev.e_slc, Ev.e_rev, Ev.e_fld, Ev.e_call, Ev.e_calk, Ev.e_calv, Ev.e_blt, Ev.e_mak, Ev.e_mth, Ev.e_omt, Ev.e_isi, Ev.e_cmpr, Ev.es_nil, Ev.es_cons, Ev.y_of, Ev.y_enum, Ev.y_zip, Ev.y_rng, Ev.y_rng2, Ev.y_items, Ev.y_vals, Ev.if_nil, Ev.if_cons, Ev.tg_nm, Ev.tg_tup, Ev.tg_idx, Ev.tg_fld, Ev.tgs_nil, Ev.tgs_cons, Ev.t_bl, Ev.t_int, Ev.t_tup, Ev.t_non, Ev.t_fl, Ev.r_val, Ev.r_new, Ev.o_lst, Ev.o_set, Ev.s_tup, Ev.s_fl, Ev.s_ref, Ev.l_fl, Ev.i_tup, Ev.a_0, Ev.a_1, Ev.a_2, Ev.a_3, Ev.a_4, Ev.a_nat, Ev.b_len, Ev.b_abs, Ev.b_max, Ev.b_min, Ev.b_int, Ev.b_inb, Ev.n_tup, Ev.d_add, Ev.d_sub, Ev.c_lt, Ev.c_le, Ev.c_gt, Ev.c_ge, Ev.w_lt, Ev.w_le, Ev.w_gt, Ev.w_ge, Ev.w_eqi, Ev.w_nei, Ev.w_neb, Ev.w_eqb, Ev.y_int, Ev.y_bl, Ev.y_tup, Ev.it_tup, Ev.z_slc2, Ev.mup_same, Ev.mup_mup, Ev.isPt, Ev.z_ii, Ev.z_bi, Ev.z_ib, Ev.z_ll, Ev.z_lt, Ev.z_tt, Ev.z_tl, Ev.z_cc, Ev.isiOk, Ev.Tgs.len, Ev.wipe]
      (rw [Ev.x_cons]; simp [Ev.x_nil, Ev.s_exp, Ev.s_asgn, Ev.s_par2, Ev.s_ret, Ev.s_retn, Ev.s_ifs, Ev.s_pas, Ev.s_brk, Ev.s_cnt, Ev.s_for, Ev.e_var, Ev.e_int, Ev.e_bl, Ev.e_non, Ev.e_str, Ev.e_gc, Ev.e_fn, Ev.e_bin, Ev.e_neg, Ev.e_not, Ev.e_and, Ev.e_or, Ev.e_ite, Ev.e_cmp, Ev.e_chain, Ev.e_tup, Ev.e_lst, Ev.e_dct0, Ev.e_dct1, Ev.e_idx, Ev.e_slc, Ev.e_rev, Ev.e_fld, Ev.e_call, Ev.e_calk, Ev.e_calv, Ev.e_blt, Ev.e_mak, Ev.e_mth, Ev.e_omt, Ev.e_isi, Ev.e_cmpr, Ev.es_nil, Ev.es_cons, Ev.y_of, Ev.y_enum, Ev.y_zip, Ev.y_rng, Ev.y_rng2, Ev.y_items, Ev.y_vals, Ev.if_nil, Ev.if_cons, Ev.tg_nm, Ev.tg_tup, Ev.tg_idx, Ev.tg_fld, Ev.tgs_nil, Ev.tgs_cons, Ev.t_bl, Ev.t_int, Ev.t_tup, Ev.t_non, Ev.t_fl, Ev.r_val, Ev.r_new, Ev.o_lst, Ev.o_set, Ev.s_tup, Ev.s_fl, Ev.s_ref, Ev.l_fl, Ev.i_tup, Ev.a_0, Ev.a_1, Ev.a_2, Ev.a_3, Ev.a_4, Ev.a_nat, Ev.b_len, Ev.b_abs, Ev.b_max, Ev.b_min, Ev.b_int, Ev.b_inb, Ev.n_tup, Ev.d_add, Ev.d_sub, Ev.c_lt, Ev.c_le, Ev.c_gt, Ev.c_ge, Ev.w_lt, Ev.w_le, Ev.w_gt, Ev.w_ge, Ev.w_eqi, Ev.w_nei, Ev.w_neb, Ev.w_eqb, Ev.y_int, Ev.y_bl, Ev.y_tup, Ev.it_tup, Ev.z_slc2, Ev.mup_same, Ev.mup_mup, Ev.isPt, Ev.z_ii, Ev.z_bi, Ev.z_ib, Ev.z_ll, Ev.z_lt, Ev.z_tt, Ev.z_tl, Ev.z_cc, Ev.isiOk, Ev.Tgs.len, Ev.wipe, o_app hM])
      refine w_draw h (sz := R) p1 hR (by omega) fun r1 M2 hr1 p2 e2 => ?_
      refine w_draw h (sz := 2) p2 (by decide) (by decide) fun r2 M3 hr2 p3 e3 => ?_
      have e13 := e2.trans e3
      have hM3 := e13 _ _ np hM
      have lf1 : fs.length < sizeLine := by omega
      simp [Ev.x_nil, Ev.s_exp, Ev.s_asgn, Ev.s_par2, Ev.s_ret, Ev.s_retn, Ev.s_ifs, Ev.s_pas, Ev.s_brk, Ev.s_cnt, Ev.s_for, Ev.e_var, Ev.e_int, Ev.e_bl, Ev.e_non, Ev.e_str, Ev.e_gc, Ev.e_fn, Ev.e_bin, Ev.e_neg, Ev.e_not, Ev.e_and, Ev.e_or, Ev.e_ite, Ev.e_cmp, Ev.e_chain, Ev.e_tup, Ev.e_lst, Ev.e_dct0, Ev.e_dct1, Ev.e_idx, Ev.e_slc, Ev.e_rev, Ev.e_fld, Ev.e_call, Ev.e_calk, Ev.e_calv, Ev.e_blt, Ev.e_mak, Ev.e_mth, Ev.e_omt, Ev.e_isi, Ev.e_cmpr, Ev.es_nil, Ev.es_cons, Ev.y_of, Ev.y_enum, Ev.y_zip, Ev.y_rng, Ev.y_rng2, Ev.y_items, Ev.y_vals, Ev.if_nil, Ev.if_cons, Ev.tg_nm, Ev.tg_tup, Ev.tg_idx, Ev.tg_fld, Ev.tgs_nil, Ev.tgs_cons, Ev.t_bl, Ev.t_int, Ev.t_tup, Ev.t_non, Ev.t_fl, Ev.r_val, Ev.r_new, Ev.o_lst, Ev.o_set, Ev.s_tup, Ev.s_fl, Ev.s_ref, Ev.l_fl, Ev.i_tup, Ev.a_0, Ev.a_1, Ev.a_2, Ev.a_3, Ev.a_4, Ev.a_nat, Ev.b_len, Ev.b_abs, Ev.b_max, Ev.b_min, Ev.b_int, Ev.b_inb, Ev.n_tup, Ev.d_add, Ev.d_sub, Ev.c_lt, Ev.c_le, Ev.c_gt, Ev.c_ge, Ev.w_lt, Ev.w_le, Ev.w_gt, Ev.w_ge, Ev.w_eqi, Ev.w_nei, Ev.w_neb, Ev.w_eqb, Ev.y_int, Ev.y_bl, Ev.y_tup, Ev.it_tup, Ev.z_slc2, Ev.mup_same, Ev.mup_mup, Ev.isPt, Ev.z_ii, Ev.z_bi, Ev.z_ib, Ev.z_ll, Ev.z_lt, Ev.z_tt, Ev.z_tl, Ev.z_cc, Ev.isiOk, Ev.Tgs.len, Ev.wipe, u_app hM3, lf1, four]
      have wE : PV.tup [.int i, .int j, .int r1, .int r2] = wp (i, j, r1, r2) := rfl
      rw [wE]
      have p4 := p3.mup (o := .lst (fs.map wp ++ [wp (i, j, r1, r2)])) np
      have e4 : ExtP pot M (mup M3 d (.lst (fs.map wp ++ [wp (i, j, r1, r2)]))) := (e1.trans e13).mup hd
      have hM4 : (mup M3 d (.lst (fs.map wp ++ [wp (i, j, r1, r2)]))) d = some (.lst ((fs ++ [(i, j, r1, r2)]).map wp)) := by rw [mup_same, List.map_append]; rfl
      generalize mup M3 d (.lst (fs.map wp ++ [wp (i, j, r1, r2)])) = M4 at *
      have s1 := hs.add1 hi hj hr1 hr2
      (rw [Ev.x_cons]; simp [Ev.x_nil, Ev.s_exp, Ev.s_asgn, Ev.s_par2, Ev.s_ret, Ev.s_retn, Ev.s_ifs, Ev.s_pas, Ev.s_brk, Ev.s_cnt, Ev.s_for, Ev.e_var, Ev.e_int, Ev.e_bl, Ev.e_non, Ev.e_str, Ev.e_gc, Ev.e_fn, Ev.e_bin, Ev.e_neg, Ev.e_not, Ev.e_and, Ev.e_or, Ev.e_ite, Ev.e_cmp, Ev.e_chain, Ev.e_tup, Ev.e_lst, Ev.e_dct0, Ev.e_dct1, Ev.e_idx, Ev.e_slc, Ev.e_rev, Ev.e_fld, Ev.e_call, Ev.e_calk, Ev.e_calv, Ev.e_blt, Ev.e_mak, Ev.e_mth, Ev.e_omt, Ev.e_isi, Ev.e_cmpr, Ev.es_nil, Ev.es_cons, Ev.y_of, Ev.y_enum, Ev.y_zip, Ev.y_rng, Ev.y_rng2, Ev.y_items, Ev.y_vals, Ev.if_nil, Ev.if_cons, Ev.tg_nm, Ev.tg_tup, Ev.tg_idx, Ev.tg_fld, Ev.tgs_nil, Ev.tgs_cons, Ev.t_bl, Ev.t_int, Ev.t_tup, Ev.t_non, Ev.t_fl, Ev.r_val, Ev.r_new, Ev.o_lst, Ev.o_set, Ev.s_tup, Ev.s_fl, Ev.s_ref, Ev.l_fl, Ev.i_tup, Ev.a_0, Ev.a_1, Ev.a_2, Ev.a_3, Ev.a_4, Ev.a_nat, Ev.b_len, Ev.b_abs, Ev.b_max, Ev.b_min, Ev.b_int, Ev.b_inb, Ev.n_tup, Ev.d_add, Ev.d_sub, Ev.c_lt, Ev.c_le, Ev.c_gt, Ev.c_ge, Ev.w_lt, Ev.w_le, Ev.w_gt, Ev.w_ge, Ev.w_eqi, Ev.w_nei, Ev.w_neb, Ev.w_eqb, Ev.y_int, Ev.y_bl, Ev.y_tup, Ev.it_tup, Ev.z_slc2, Ev.mup_same, Ev.mup_mup, Ev.isPt, Ev.z_ii, Ev.z_bi, Ev.z_ib, Ev.z_ll, Ev.z_lt, Ev.z_tt, Ev.z_tl, Ev.z_cc, Ev.isiOk, Ev.Tgs.len, Ev.wipe])
      refine w_draw h (sz := 2) p4 (by decide) (by decide) fun r3 M5 hr3 p5 e5 => ?_
      have hM5 := e5 _ _ np hM4
      have no : K [some (.ref pot), some (.int L), some (.int R), some (.int ch), some (.ref d), some (.int left), some (.int i), some (.int j)] M5 := hk _ _ ⟨⟨_, _, rfl⟩, p5, e4.trans e5, _, hM5, s1⟩
      have r3c : r3 = 0 ∨ r3 = 1 := by omega
      rcases r3c with rfl | rfl
      · by_cases pl : 0 < left
        · simp [Ev.x_nil, Ev.s_exp, Ev.s_asgn, Ev.s_par2, Ev.s_ret, Ev.s_retn, Ev.s_ifs, Ev.s_pas, Ev.s_brk, Ev.s_cnt, Ev.s_for, Ev.e_var, Ev.e_int, Ev.e_bl, Ev.e_non, Ev.e_str, Ev.e_gc, Ev.e_fn, Ev.e_bin, Ev.e_neg, Ev.e_not, Ev.e_and, Ev.e_or, Ev.e_ite, Ev.e_cmp, Ev.e_chain, Ev.e_tup, Ev.e_lst, Ev.e_dct0, Ev.e_dct1, Ev.e_idx, Ev.e_slc, Ev.e_rev, Ev.e_fld, Ev.e_call, Ev.e_calk, Ev.e_calv, Ev.e_blt, Ev.e_mak, Ev.e_mth, Ev.e_omt, Ev.e_isi, Ev.e_cmpr, Ev.es_nil, Ev.es_cons, Ev.y_of, Ev.y_enum, Ev.y_zip, Ev.y_rng, Ev.y_rng2, Ev.y_items, Ev.y_vals, Ev.if_nil, Ev.if_cons, Ev.tg_nm, Ev.tg_tup, Ev.tg_idx, Ev.tg_fld, Ev.tgs_nil, Ev.tgs_cons, Ev.t_bl, Ev.t_int, Ev.t_tup, Ev.t_non, Ev.t_fl, Ev.r_val, Ev.r_new, Ev.o_lst, Ev.o_set, Ev.s_tup, Ev.s_fl, Ev.s_ref, Ev.l_fl, Ev.i_tup, Ev.a_0, Ev.a_1, Ev.a_2, Ev.a_3, Ev.a_4, Ev.a_nat, Ev.b_len, Ev.b_abs, Ev.b_max, Ev.b_min, Ev.b_int, Ev.b_inb, Ev.n_tup, Ev.d_add, Ev.d_sub, Ev.c_lt, Ev.c_le, Ev.c_gt, Ev.c_ge, Ev.w_lt, Ev.w_le, Ev.w_gt, Ev.w_ge, Ev.w_eqi, Ev.w_nei, Ev.w_neb, Ev.w_eqb, Ev.y_int, Ev.y_bl, Ev.y_tup, Ev.it_tup, Ev.z_slc2, Ev.mup_same, Ev.mup_mup, Ev.isPt, Ev.z_ii, Ev.z_bi, Ev.z_ib, Ev.z_ll, Ev.z_lt, Ev.z_tt, Ev.z_tl, Ev.z_cc, Ev.isiOk, Ev.Tgs.len, Ev.wipe, pl]
          (rw [Ev.x_cons]; simp [Ev.x_nil, Ev.s_exp, Ev.s_asgn, Ev.s_par2, Ev.s_ret, Ev.s_retn, Ev.s_ifs, Ev.s_pas, Ev.s_brk, Ev.s_cnt, Ev.s_for, Ev.e_var, Ev.e_int, Ev.e_bl, Ev.e_non, Ev.e_str, Ev.e_gc, Ev.e_fn, Ev.e_bin, Ev.e_neg, Ev.e_not, Ev.e_and, Ev.e_or, Ev.e_ite, Ev.e_cmp, Ev.e_chain, Ev.e_tup, Ev.e_lst, Ev.e_dct0, Ev.e_dct1, Ev.e_idx, Ev.e_slc, Ev.e_rev, Ev.e_fld, Ev.e_call, Ev.e_calk, Ev.e_calv, Ev.e_blt, Ev.e_mak, Ev.e_mth, Ev.e_omt, Ev.e_isi, Ev.e_cmpr, Ev.es_nil, Ev.es_cons, Ev.y_of, Ev.y_enum, Ev.y_zip, Ev.y_rng, Ev.y_rng2, Ev.y_items, Ev.y_vals, Ev.if_nil, Ev.if_cons, Ev.tg_nm, Ev.tg_tup, Ev.tg_idx, Ev.tg_fld, Ev.tgs_nil, Ev.tgs_cons, Ev.t_bl, Ev.t_int, Ev.t_tup, Ev.t_non, Ev.t_fl, Ev.r_val, Ev.r_new, Ev.o_lst, Ev.o_set, Ev.s_tup, Ev.s_fl, Ev.s_ref, Ev.l_fl, Ev.i_tup, Ev.a_0, Ev.a_1, Ev.a_2, Ev.a_3, Ev.a_4, Ev.a_nat, Ev.b_len, Ev.b_abs, Ev.b_max, Ev.b_min, Ev.b_int, Ev.b_inb, Ev.n_tup, Ev.d_add, Ev.d_sub, Ev.c_lt, Ev.c_le, Ev.c_gt, Ev.c_ge, Ev.w_lt, Ev.w_le, Ev.w_gt, Ev.w_ge, Ev.w_eqi, Ev.w_nei, Ev.w_neb, Ev.w_eqb, Ev.y_int, Ev.y_bl, Ev.y_tup, Ev.it_tup, Ev.z_slc2, Ev.mup_same, Ev.mup_mup, Ev.isPt, Ev.z_ii, Ev.z_bi, Ev.z_ib, Ev.z_ll, Ev.z_lt, Ev.z_tt, Ev.z_tl, Ev.z_cc, Ev.isiOk, Ev.Tgs.len, Ev.wipe])
          (rw [Ev.x_cons]; simp [Ev.x_nil, Ev.s_exp, Ev.s_asgn, Ev.s_par2, Ev.s_ret, Ev.s_retn, Ev.s_ifs, Ev.s_pas, Ev.s_brk, Ev.s_cnt, Ev.s_for, Ev.e_var, Ev.e_int, Ev.e_bl, Ev.e_non, Ev.e_str, Ev.e_gc, Ev.e_fn, Ev.e_bin, Ev.e_neg, Ev.e_not, Ev.e_and, Ev.e_or, Ev.e_ite, Ev.e_cmp, Ev.e_chain, Ev.e_tup, Ev.e_lst, Ev.e_dct0, Ev.e_dct1, Ev.e_idx, Ev.e_slc, Ev.e_rev, Ev.e_fld, Ev.e_call, Ev.e_calk, Ev.e_calv, Ev.e_blt, Ev.e_mak, Ev.e_mth, Ev.e_omt, Ev.e_isi, Ev.e_cmpr, Ev.es_nil, Ev.es_cons, Ev.y_of, Ev.y_enum, Ev.y_zip, Ev.y_rng, Ev.y_rng2, Ev.y_items, Ev.y_vals, Ev.if_nil, Ev.if_cons, Ev.tg_nm, Ev.tg_tup, Ev.tg_idx, Ev.tg_fld, Ev.tgs_nil, Ev.tgs_cons, Ev.t_bl, Ev.t_int, Ev.t_tup, Ev.t_non, Ev.t_fl, Ev.r_val, Ev.r_new, Ev.o_lst, Ev.o_set, Ev.s_tup, Ev.s_fl, Ev.s_ref, Ev.l_fl, Ev.i_tup, Ev.a_0, Ev.a_1, Ev.a_2, Ev.a_3, Ev.a_4, Ev.a_nat, Ev.b_len, Ev.b_abs, Ev.b_max, Ev.b_min, Ev.b_int, Ev.b_inb, Ev.n_tup, Ev.d_add, Ev.d_sub, Ev.c_lt, Ev.c_le, Ev.c_gt, Ev.c_ge, Ev.w_lt, Ev.w_le, Ev.w_gt, Ev.w_ge, Ev.w_eqi, Ev.w_nei, Ev.w_neb, Ev.w_eqb, Ev.y_int, Ev.y_bl, Ev.y_tup, Ev.it_tup, Ev.z_slc2, Ev.mup_same, Ev.mup_mup, Ev.isPt, Ev.z_ii, Ev.z_bi, Ev.z_ib, Ev.z_ll, Ev.z_lt, Ev.z_tt, Ev.z_tl, Ev.z_cc, Ev.isiOk, Ev.Tgs.len, Ev.wipe, o_app hM5])
          refine w_draw h (sz := R) p5 hR (by omega) fun r6 M6 hr6 p6 e6 => ?_
          refine w_draw h (sz := 2) p6 (by decide) (by decide) fun r7 M7 hr7 p7 e7 => ?_
          have hM7 := (e6.trans e7) _ _ np hM5
          simp [Ev.x_nil, Ev.s_exp, Ev.s_asgn, Ev.s_par2, Ev.s_ret, Ev.s_retn, Ev.s_ifs, Ev.s_pas, Ev.s_brk, Ev.s_cnt, Ev.s_for, Ev.e_var, Ev.e_int, Ev.e_bl, Ev.e_non, Ev.e_str, Ev.e_gc, Ev.e_fn, Ev.e_bin, Ev.e_neg, Ev.e_not, Ev.e_and, Ev.e_or, Ev.e_ite, Ev.e_cmp, Ev.e_chain, Ev.e_tup, Ev.e_lst, Ev.e_dct0, Ev.e_dct1, Ev.e_idx, Ev.e_slc, Ev.e_rev, Ev.e_fld, Ev.e_call, Ev.e_calk, Ev.e_calv, Ev.e_blt, Ev.e_mak, Ev.e_mth, Ev.e_omt, Ev.e_isi, Ev.e_cmpr, Ev.es_nil, Ev.es_cons, Ev.y_of, Ev.y_enum, Ev.y_zip, Ev.y_rng, Ev.y_rng2, Ev.y_items, Ev.y_vals, Ev.if_nil, Ev.if_cons, Ev.tg_nm, Ev.tg_tup, Ev.tg_idx, Ev.tg_fld, Ev.tgs_nil, Ev.tgs_cons, Ev.t_bl, Ev.t_int, Ev.t_tup, Ev.t_non, Ev.t_fl, Ev.r_val, Ev.r_new, Ev.o_lst, Ev.o_set, Ev.s_tup, Ev.s_fl, Ev.s_ref, Ev.l_fl, Ev.i_tup, Ev.a_0, Ev.a_1, Ev.a_2, Ev.a_3, Ev.a_4, Ev.a_nat, Ev.b_len, Ev.b_abs, Ev.b_max, Ev.b_min, Ev.b_int, Ev.b_inb, Ev.n_tup, Ev.d_add, Ev.d_sub, Ev.c_lt, Ev.c_le, Ev.c_gt, Ev.c_ge, Ev.w_lt, Ev.w_le, Ev.w_gt, Ev.w_ge, Ev.w_eqi, Ev.w_nei, Ev.w_neb, Ev.w_eqb, Ev.y_int, Ev.y_bl, Ev.y_tup, Ev.it_tup, Ev.z_slc2, Ev.mup_same, Ev.mup_mup, Ev.isPt, Ev.z_ii, Ev.z_bi, Ev.z_ib, Ev.z_ll, Ev.z_lt, Ev.z_tt, Ev.z_tl, Ev.z_cc, Ev.isiOk, Ev.Tgs.len, Ev.wipe, u_app hM7, four]
          exact ⟨by omega, hk _ _ ⟨⟨_, _, rfl⟩, (p7.mup np), ((e4.trans e5).trans (e6.trans e7)).mup hd, fs ++ [(i, j, r1, r2)] ++ [(i, j, r6, r7)], by rw [mup_same]; simp [wp], hs.add2 hi hj hr1 hr2 hr6 hr7⟩⟩
        · simp [Ev.x_nil, Ev.s_exp, Ev.s_asgn, Ev.s_par2, Ev.s_ret, Ev.s_retn, Ev.s_ifs, Ev.s_pas, Ev.s_brk, Ev.s_cnt, Ev.s_for, Ev.e_var, Ev.e_int, Ev.e_bl, Ev.e_non, Ev.e_str, Ev.e_gc, Ev.e_fn, Ev.e_bin, Ev.e_neg, Ev.e_not, Ev.e_and, Ev.e_or, Ev.e_ite, Ev.e_cmp, Ev.e_chain, Ev.e_tup, Ev.e_lst, Ev.e_dct0, Ev.e_dct1, Ev.e_idx, Ev.e_slc, Ev.e_rev, Ev.e_fld, Ev.e_call, Ev.e_calk, Ev.e_calv, Ev.e_blt, Ev.e_mak, Ev.e_mth, Ev.e_omt, Ev.e_isi, Ev.e_cmpr, Ev.es_nil, Ev.es_cons, Ev.y_of, Ev.y_enum, Ev.y_zip, Ev.y_rng, Ev.y_rng2, Ev.y_items, Ev.y_vals, Ev.if_nil, Ev.if_cons, Ev.tg_nm, Ev.tg_tup, Ev.tg_idx, Ev.tg_fld, Ev.tgs_nil, Ev.tgs_cons, Ev.t_bl, Ev.t_int, Ev.t_tup, Ev.t_non, Ev.t_fl, Ev.r_val, Ev.r_new, Ev.o_lst, Ev.o_set, Ev.s_tup, Ev.s_fl, Ev.s_ref, Ev.l_fl, Ev.i_tup, Ev.a_0, Ev.a_1, Ev.a_2, Ev.a_3, Ev.a_4, Ev.a_nat, Ev.b_len, Ev.b_abs, Ev.b_max, Ev.b_min, Ev.b_int, Ev.b_inb, Ev.n_tup, Ev.d_add, Ev.d_sub, Ev.c_lt, Ev.c_le, Ev.c_gt, Ev.c_ge, Ev.w_lt, Ev.w_le, Ev.w_gt, Ev.w_ge, Ev.w_eqi, Ev.w_nei, Ev.w_neb, Ev.w_eqb, Ev.y_int, Ev.y_bl, Ev.y_tup, Ev.it_tup, Ev.z_slc2, Ev.mup_same, Ev.mup_mup, Ev.isPt, Ev.z_ii, Ev.z_bi, Ev.z_ib, Ev.z_ll, Ev.z_lt, Ev.z_tt, Ev.z_tl, Ev.z_cc, Ev.isiOk, Ev.Tgs.len, Ev.wipe, pl]
          exact no
      · simp [Ev.x_nil, Ev.s_exp, Ev.s_asgn, Ev.s_par2, Ev.s_ret, Ev.s_retn, Ev.s_ifs, Ev.s_pas, Ev.s_brk, Ev.s_cnt, Ev.s_for, Ev.e_var, Ev.e_int, Ev.e_bl, Ev.e_non, Ev.e_str, Ev.e_gc, Ev.e_fn, Ev.e_bin, Ev.e_neg, Ev.e_not, Ev.e_and, Ev.e_or, Ev.e_ite, Ev.e_cmp, Ev.e_chain, Ev.e_tup, Ev.e_lst, Ev.e_dct0, Ev.e_dct1, Ev.e_idx, Ev.e_slc, Ev.e_rev, Ev.e_fld, Ev.e_call, Ev.e_calk, Ev.e_calv, Ev.e_blt, Ev.e_mak, Ev.e_mth, Ev.e_omt, Ev.e_isi, Ev.e_cmpr, Ev.es_nil, Ev.es_cons, Ev.y_of, Ev.y_enum, Ev.y_zip, Ev.y_rng, Ev.y_rng2, Ev.y_items, Ev.y_vals, Ev.if_nil, Ev.if_cons, Ev.tg_nm, Ev.tg_tup, Ev.tg_idx, Ev.tg_fld, Ev.tgs_nil, Ev.tgs_cons, Ev.t_bl, Ev.t_int, Ev.t_tup, Ev.t_non, Ev.t_fl, Ev.r_val, Ev.r_new, Ev.o_lst, Ev.o_set, Ev.s_tup, Ev.s_fl, Ev.s_ref, Ev.l_fl, Ev.i_tup, Ev.a_0, Ev.a_1, Ev.a_2, Ev.a_3, Ev.a_4, Ev.a_nat, Ev.b_len, Ev.b_abs, Ev.b_max, Ev.b_min, Ev.b_int, Ev.b_inb, Ev.n_tup, Ev.d_add, Ev.d_sub, Ev.c_lt, Ev.c_le, Ev.c_gt, Ev.c_ge, Ev.w_lt, Ev.w_le, Ev.w_gt, Ev.w_ge, Ev.w_eqi, Ev.w_nei, Ev.w_neb, Ev.w_eqb, Ev.y_int, Ev.y_bl, Ev.y_tup, Ev.it_tup, Ev.z_slc2, Ev.mup_same, Ev.mup_mup, Ev.isPt, Ev.z_ii, Ev.z_bi, Ev.z_ib, Ev.z_ll, Ev.z_lt, Ev.z_tt, Ev.z_tl, Ev.z_cc, Ev.isiOk, Ev.Tgs.len, Ev.wipe]
        exact no
    · obtain ⟨⟨left, b, rfl⟩, p1, e1, fs, hM, hs⟩ := h1
      rw [List.length_map, List.length_range] at hs
      simp [Ev.x_nil, Ev.s_exp, Ev.s_asgn, Ev.s_par2, Ev.s_ret, Ev.s_retn, Ev.s_ifs, Ev.s_pas, Ev.s_brk, Ev.s_cnt, Ev.s_for, Ev.e_var, Ev.e_int, Ev.e_bl, Ev.e_non, Ev.e_str, Ev.e_gc, Ev.e_fn, Ev.e_bin, Ev.e_neg, Ev.e_not, Ev.e_and, Ev.e_or, Ev.e_ite, Ev.e_cmp, Ev.e_chain, Ev.e_tup, Ev.e_lst, Ev.e_dct0, Ev.e_dct1, Ev.e_idx, Ev.e_slc, Ev.e_rev, Ev.e_fld, Ev.e_call, Ev.e_calk, Ev.e_calv, Ev.e_blt, Ev.e_mak, Ev.e_mth, Ev.e_omt, Ev.e_isi, Ev.e_cmpr, Ev.es_nil, Ev.es_cons, Ev.y_of, Ev.y_enum, Ev.y_zip, Ev.y_rng, Ev.y_rng2, Ev.y_items, Ev.y_vals, Ev.if_nil, Ev.if_cons, Ev.tg_nm, Ev.tg_tup, Ev.tg_idx, Ev.tg_fld, Ev.tgs_nil, Ev.tgs_cons, Ev.t_bl, Ev.t_int, Ev.t_tup, Ev.t_non, Ev.t_fl, Ev.r_val, Ev.r_new, Ev.o_lst, Ev.o_set, Ev.s_tup, Ev.s_fl, Ev.s_ref, Ev.l_fl, Ev.i_tup, Ev.a_0, Ev.a_1, Ev.a_2, Ev.a_3, Ev.a_4, Ev.a_nat, Ev.b_len, Ev.b_abs, Ev.b_max, Ev.b_min, Ev.b_int, Ev.b_inb, Ev.n_tup, Ev.d_add, Ev.d_sub, Ev.c_lt, Ev.c_le, Ev.c_gt, Ev.c_ge, Ev.w_lt, Ev.w_le, Ev.w_gt, Ev.w_ge, Ev.w_eqi, Ev.w_nei, Ev.w_neb, Ev.w_eqb, Ev.y_int, Ev.y_bl, Ev.y_tup, Ev.it_tup, Ev.z_slc2, Ev.mup_same, Ev.mup_mup, Ev.isPt, Ev.z_ii, Ev.z_bi, Ev.z_ib, Ev.z_ll, Ev.z_lt, Ev.z_tt, Ev.z_tl, Ev.z_cc, Ev.isiOk, Ev.Tgs.len, Ev.wipe]
      exact hk _ _ ⟨⟨_, _, _, rfl⟩, p1, e1, fs, hM, hs.room⟩
  · obtain ⟨⟨left, a, b, rfl⟩, p1, e1, fs, hM, hs⟩ := h1
    rw [List.length_map, List.length_range] at hs
    have lf : fs.length ≤ 8 := by
      have h2 := hs.len
      have h3 : R * L ≤ 2 * 2 := Nat.mul_le_mul hR2 hL2
      omega
    have h2 := b_set (l_ref hM) (by rw [List.length_map]; omega) (by rw [ways_tup]; simp)
    rw [dedup_map wp (fun _ _ => wp_inj)] at h2
    have l2 := ddp_len fs
    have l3 : (ddp fs).length ≤ sizeLine := by omega
    (rw [Ev.x_cons]; simp [Ev.x_nil, Ev.s_exp, Ev.s_asgn, Ev.s_par2, Ev.s_ret, Ev.s_retn, Ev.s_ifs, Ev.s_pas, Ev.s_brk, Ev.s_cnt, Ev.s_for, Ev.e_var, Ev.e_int, Ev.e_bl, Ev.e_non, Ev.e_str, Ev.e_gc, Ev.e_fn, Ev.e_bin, Ev.e_neg, Ev.e_not, Ev.e_and, Ev.e_or, Ev.e_ite, Ev.e_cmp, Ev.e_chain, Ev.e_tup, Ev.e_lst, Ev.e_dct0, Ev.e_dct1, Ev.e_idx, Ev.e_slc, Ev.e_rev, Ev.e_fld, Ev.e_call, Ev.e_calk, Ev.e_calv, Ev.e_blt, Ev.e_mak, Ev.e_mth, Ev.e_omt, Ev.e_isi, Ev.e_cmpr, Ev.es_nil, Ev.es_cons, Ev.y_of, Ev.y_enum, Ev.y_zip, Ev.y_rng, Ev.y_rng2, Ev.y_items, Ev.y_vals, Ev.if_nil, Ev.if_cons, Ev.tg_nm, Ev.tg_tup, Ev.tg_idx, Ev.tg_fld, Ev.tgs_nil, Ev.tgs_cons, Ev.t_bl, Ev.t_int, Ev.t_tup, Ev.t_non, Ev.t_fl, Ev.r_val, Ev.r_new, Ev.o_lst, Ev.o_set, Ev.s_tup, Ev.s_fl, Ev.s_ref, Ev.l_fl, Ev.i_tup, Ev.a_0, Ev.a_1, Ev.a_2, Ev.a_3, Ev.a_4, Ev.a_nat, Ev.b_len, Ev.b_abs, Ev.b_max, Ev.b_min, Ev.b_int, Ev.b_inb, Ev.n_tup, Ev.d_add, Ev.d_sub, Ev.c_lt, Ev.c_le, Ev.c_gt, Ev.c_ge, Ev.w_lt, Ev.w_le, Ev.w_gt, Ev.w_ge, Ev.w_eqi, Ev.w_nei, Ev.w_neb, Ev.w_eqb, Ev.y_int, Ev.y_bl, Ev.y_tup, Ev.it_tup, Ev.z_slc2, Ev.mup_same, Ev.mup_mup, Ev.isPt, Ev.z_ii, Ev.z_bi, Ev.z_ib, Ev.z_ll, Ev.z_lt, Ev.z_tt, Ev.z_tl, Ev.z_cc, Ev.isiOk, Ev.Tgs.len, Ev.wipe, h2, l3])
    intro s hs0
    have ms : (mup M1 s (.set ((ddp fs).map wp))) s = some (.set ((ddp fs).map wp)) := mup_same
    have h3 := b_sorted_set ms (by rw [List.length_map]; omega) (by rw [ways_fit]; simp)
    rw [sortP_ways] at h3
    have e2 := Ext.new (o := .set ((ddp fs).map wp)) hs0
    generalize mup M1 s (.set ((ddp fs).map wp)) = M2 at *
    rw [h3, Ev.r_new, Ev.o_lst, List.length_map, len_sW]
    refine ⟨l3, fun p hp2 => ?_⟩
    have e3 := Ext.new (o := .lst ((sW (ddp fs)).map wp)) hp2
    have hp0 : M p = none := by
      have h1 : M1 p = none := e2.non hp2
      cases hq : M p with
      | none => rfl
      | some o =>
        by_cases c : p = pot
        · subst c
          obtain ⟨a', b', hh, -⟩ := p1
          rw [h1] at hh
          cases hh
        · have := e1 p o c hq
          rw [h1] at this
          cases this
    exact q p _ _ hp0 ((p1.ext e2).ext e3) (e1.trans (.of (e2.trans e3))) mup_same (hs.drn hL hL2 hR hR2)
theorem w_row (h : FOk F) {pot : Addr} {L : Nat} {M : MH} {Q : PV → MH → Prop} (hp : Pot M pot) (hL : 0 < L) (hL2 : L ≤ 4) (q : ∀ r M', Pot M' pot → ExtP pot M M' → RowOk L r → Q (rP r) M') : Cn T F (k + 2) i_law_row [.ref pot, .int L] M Q := by
  refine cn_z h.h_law_row rfl ?_
  simp only [f_law_row]
  have two : 2 ≤ sizeLine := by decide
  have sz : 1000000 ≤ sizeLine := by decide
  (rw [Ev.x_cons]; simp [Ev.x_nil, Ev.s_exp, Ev.s_asgn, Ev.s_par2, Ev.s_ret, Ev.s_retn, Ev.s_ifs, Ev.s_pas, Ev.s_brk, Ev.s_cnt, Ev.s_for, Ev.e_var, Ev.e_int, Ev.e_bl, Ev.e_non, Ev.e_str, Ev.e_gc, Ev.e_fn, Ev.e_bin, Ev.e_neg, Ev.e_not, Ev.e_and, Ev.e_or, Ev.e_ite, Ev.e_cmp, Ev.e_chain, Ev.e_tup, Ev.e_lst, Ev.e_dct0, Ev.e_dct1, Ev.e_idx, Ev.e_slc, Ev.e_rev, Ev.e_fld, Ev.e_call, Ev.e_calk, Ev.e_calv, Ev.e_blt, Ev.e_mak, Ev.e_mth, Ev.e_omt, Ev.e_isi, Ev.e_cmpr, Ev.es_nil, Ev.es_cons, Ev.y_of, Ev.y_enum, Ev.y_zip, Ev.y_rng, Ev.y_rng2, Ev.y_items, Ev.y_vals, Ev.if_nil, Ev.if_cons, Ev.tg_nm, Ev.tg_tup, Ev.tg_idx, Ev.tg_fld, Ev.tgs_nil, Ev.tgs_cons, Ev.t_bl, Ev.t_int, Ev.t_tup, Ev.t_non, Ev.t_fl, Ev.r_val, Ev.r_new, Ev.o_lst, Ev.o_set, Ev.s_tup, Ev.s_fl, Ev.s_ref, Ev.l_fl, Ev.i_tup, Ev.a_0, Ev.a_1, Ev.a_2, Ev.a_3, Ev.a_4, Ev.a_nat, Ev.b_len, Ev.b_abs, Ev.b_max, Ev.b_min, Ev.b_int, Ev.b_inb, Ev.n_tup, Ev.d_add, Ev.d_sub, Ev.c_lt, Ev.c_le, Ev.c_gt, Ev.c_ge, Ev.w_lt, Ev.w_le, Ev.w_gt, Ev.w_ge, Ev.w_eqi, Ev.w_nei, Ev.w_neb, Ev.w_eqb, Ev.y_int, Ev.y_bl, Ev.y_tup, Ev.it_tup, Ev.z_slc2, Ev.mup_same, Ev.mup_mup, Ev.isPt, Ev.z_ii, Ev.z_bi, Ev.z_ib, Ev.z_ll, Ev.z_lt, Ev.z_tt, Ev.z_tl, Ev.z_cc, Ev.isiOk, Ev.Tgs.len, Ev.wipe])
  intro d hd
  have np : d ≠ pot := hp.ne hd
  have p0 := hp.mup (o := .lst []) np
  have e0 : ExtP pot M (mup M d (.lst [])) := .of (Ext.new hd)
  have md : (mup M d (.lst [])) d = some (.lst []) := mup_same
  generalize mup M d (.lst []) = M0 at *
  refine w_draw h (sz := L) p0 hL (by omega) fun r1 M1 hr1 p1 e1 => ?_
  refine ⟨by decide, fun c hc => ?_⟩
  have nc : c ≠ pot := p1.ne hc
  have md1 := e1 _ _ np md
  have ndc : d ≠ c := by
    rintro rfl
    rw [hc] at md1
    cases md1
  have p2 := p1.mup (o := .lst [.int r1]) nc
  have e2 : ExtP pot M (mup M1 c (.lst [.int r1])) := e0.trans (e1.trans (.of (Ext.new hc)))
  have md2 : (mup M1 c (.lst [.int r1])) d = some (.lst ([].map nI)) := by rw [mup_ne ndc]; exact md1
  have mc2 : (mup M1 c (.lst [.int r1])) c = some (.lst ([r1].map nI)) := mup_same
  generalize mup M1 c (.lst [.int r1]) = M2 at *
  (rw [Ev.x_cons]; simp [Ev.x_nil, Ev.s_exp, Ev.s_asgn, Ev.s_par2, Ev.s_ret, Ev.s_retn, Ev.s_ifs, Ev.s_pas, Ev.s_brk, Ev.s_cnt, Ev.s_for, Ev.e_var, Ev.e_int, Ev.e_bl, Ev.e_non, Ev.e_str, Ev.e_gc, Ev.e_fn, Ev.e_bin, Ev.e_neg, Ev.e_not, Ev.e_and, Ev.e_or, Ev.e_ite, Ev.e_cmp, Ev.e_chain, Ev.e_tup, Ev.e_lst, Ev.e_dct0, Ev.e_dct1, Ev.e_idx, Ev.e_slc, Ev.e_rev, Ev.e_fld, Ev.e_call, Ev.e_calk, Ev.e_calv, Ev.e_blt, Ev.e_mak, Ev.e_mth, Ev.e_omt, Ev.e_isi, Ev.e_cmpr, Ev.es_nil, Ev.es_cons, Ev.y_of, Ev.y_enum, Ev.y_zip, Ev.y_rng, Ev.y_rng2, Ev.y_items, Ev.y_vals, Ev.if_nil, Ev.if_cons, Ev.tg_nm, Ev.tg_tup, Ev.tg_idx, Ev.tg_fld, Ev.tgs_nil, Ev.tgs_cons, Ev.t_bl, Ev.t_int, Ev.t_tup, Ev.t_non, Ev.t_fl, Ev.r_val, Ev.r_new, Ev.o_lst, Ev.o_set, Ev.s_tup, Ev.s_fl, Ev.s_ref, Ev.l_fl, Ev.i_tup, Ev.a_0, Ev.a_1, Ev.a_2, Ev.a_3, Ev.a_4, Ev.a_nat, Ev.b_len, Ev.b_abs, Ev.b_max, Ev.b_min, Ev.b_int, Ev.b_inb, Ev.n_tup, Ev.d_add, Ev.d_sub, Ev.c_lt, Ev.c_le, Ev.c_gt, Ev.c_ge, Ev.w_lt, Ev.w_le, Ev.w_gt, Ev.w_ge, Ev.w_eqi, Ev.w_nei, Ev.w_neb, Ev.w_eqb, Ev.y_int, Ev.y_bl, Ev.y_tup, Ev.it_tup, Ev.z_slc2, Ev.mup_same, Ev.mup_mup, Ev.isPt, Ev.z_ii, Ev.z_bi, Ev.z_ib, Ev.z_ll, Ev.z_lt, Ev.z_tt, Ev.z_tl, Ev.z_cc, Ev.isiOk, Ev.Tgs.len, Ev.wipe])
  refine w_draw h (sz := 3) p2 (by decide) (by decide) fun t1 M3 ht1 p3 e3 => ?_
  rw [rngN (by omega)]
  have md3 := e3 _ _ np md2
  have mc3 := e3 _ _ nc mc2
  have e03 := e2.trans e3
  have hc0 : M c = none := by
    cases hq : M c with
    | none => rfl
    | some o =>
      have := (e0.trans e1) c o nc hq
      rw [hc] at this
      cases this
  refine forL_ind (fun i σ M1 => (∃ a, σ = [some (.ref pot), some (.int L), some (.ref d), some (.ref c), a]) ∧ Pot M1 pot ∧ ExtP pot M M1 ∧ M1 c = some (.lst ([r1].map nI)) ∧ ∃ us : List Nat, M1 d = some (.lst (us.map nI)) ∧ us.length = i ∧ ∀ l ∈ us, l < L) (fun i σ M1 _ h => trivial) (fun i x σ M4 K hx h1 hk => ?_) (fun σ M4 h1 => ?_) ⟨⟨_, rfl⟩, p3, e03, mc3, [], md3, rfl, by simp⟩
  · obtain ⟨⟨a, rfl⟩, p4, e4, mc4, us, md4, lu, hu⟩ := h1
    have hi := (List.getElem?_eq_some_iff.mp hx).1
    rw [List.length_map, List.length_range] at hi
    unfold bdF
    simp [Ev.x_nil, Ev.s_exp, Ev.s_asgn, Ev.s_par2, Ev.s_ret, Ev.s_retn, Ev.s_ifs, Ev.s_pas, Ev.s_brk, Ev.s_cnt, Ev.s_for, Ev.e_var, Ev.e_int, Ev.e_bl, Ev.e_non, Ev.e_str, Ev.e_gc, Ev.e_fn, Ev.e_bin, Ev.e_neg, Ev.e_not, Ev.e_and, Ev.e_or, Ev.e_ite, Ev.e_cmp, Ev.e_chain, Ev.e_tup, Ev.e_lst, Ev.e_dct0, Ev.e_dct1, Ev.e_idx, Ev.e_slc, Ev.e_rev, Ev.e_fld, Ev.e_call, Ev.e_calk, Ev.e_calv, Ev.e_blt, Ev.e_mak, Ev.e_mth, Ev.e_omt, Ev.e_isi, Ev.e_cmpr, Ev.es_nil, Ev.es_cons, Ev.y_of, Ev.y_enum, Ev.y_zip, Ev.y_rng, Ev.y_rng2, Ev.y_items, Ev.y_vals, Ev.if_nil, Ev.if_cons, Ev.tg_nm, Ev.tg_tup, Ev.tg_idx, Ev.tg_fld, Ev.tgs_nil, Ev.tgs_cons, Ev.t_bl, Ev.t_int, Ev.t_tup, Ev.t_non, Ev.t_fl, Ev.r_val, Ev.r_new, Ev.o_lst, Ev.o_set, Ev.s_tup, Ev.s_fl, Ev.s_ref, Ev.l_fl, Ev.i_tup, Ev.a_0, Ev.a_1, Ev.a_2, Ev.a_3, Ev.a_4, Ev.a_nat, Ev.b_len, Ev.b_abs, Ev.b_max, Ev.b_min, Ev.b_int, Ev.b_inb, Ev.n_tup, Ev.d_add, Ev.d_sub, Ev.c_lt, Ev.c_le, Ev.c_gt, Ev.c_ge, Ev.w_lt, Ev.w_le, Ev.w_gt, Ev.w_ge, Ev.w_eqi, Ev.w_nei, Ev.w_neb, Ev.w_eqb, Ev.y_int, Ev.y_bl, Ev.y_tup, Ev.it_tup, Ev.z_slc2, Ev.mup_same, Ev.mup_mup, Ev.isPt, Ev.z_ii, Ev.z_bi, Ev.z_ib, Ev.z_ll, Ev.z_lt, Ev.z_tt, Ev.z_tl, Ev.z_cc, Ev.isiOk, Ev.Tgs.len, Ev.wipe]
    (rw [Ev.x_cons]; simp [Ev.x_nil, Ev.s_exp, Ev.s_asgn, Ev.s_par2, Ev.s_ret, Ev.s_retn, Ev.s_ifs, Ev.s_pas, Ev.s_brk, Ev.s_cnt, Ev.s_for, Ev.e_var, Ev.e_int, Ev.e_bl, Ev.e_non, Ev.e_str, Ev.e_gc, Ev.e_fn, Ev.e_bin, Ev.e_neg, Ev.e_not, Ev.e_and, Ev.e_or, Ev.e_ite, Ev.e_cmp, Ev.e_chain, Ev.e_tup, Ev.e_lst, Ev.e_dct0, Ev.e_dct1, Ev.e_idx, Ev.e_slc, Ev.e_rev, Ev.e_fld, Ev.e_call, Ev.e_calk, Ev.e_calv, Ev.e_blt, Ev.e_mak, Ev.e_mth, Ev.e_omt, Ev.e_isi, Ev.e_cmpr, Ev.es_nil, Ev.es_cons, Ev.y_of, Ev.y_enum, Ev.y_zip, Ev.y_rng, Ev.y_rng2, Ev.y_items, Ev.y_vals, Ev.if_nil, Ev.if_cons, Ev.tg_nm, Ev.tg_tup, Ev.tg_idx, Ev.tg_fld, Ev.tgs_nil, Ev.tgs_cons, Ev.t_bl, Ev.t_int, Ev.t_tup, Ev.t_non, Ev.t_fl, Ev.r_val, Ev.r_new, Ev.o_lst, Ev.o_set, Ev.s_tup, Ev.s_fl, Ev.s_ref, Ev.l_fl, Ev.i_tup, Ev.a_0, Ev.a_1, Ev.a_2, Ev.a_3, Ev.a_4, Ev.a_nat, Ev.b_len, Ev.b_abs, Ev.b_max, Ev.b_min, Ev.b_int, Ev.b_inb, Ev.n_tup, Ev.d_add, Ev.d_sub, Ev.c_lt, Ev.c_le, Ev.c_gt, Ev.c_ge, Ev.w_lt, Ev.w_le, Ev.w_gt, Ev.w_ge, Ev.w_eqi, Ev.w_nei, Ev.w_neb, Ev.w_eqb, Ev.y_int, Ev.y_bl, Ev.y_tup, Ev.it_tup, Ev.z_slc2, Ev.mup_same, Ev.mup_mup, Ev.isPt, Ev.z_ii, Ev.z_bi, Ev.z_ib, Ev.z_ll, Ev.z_lt, Ev.z_tt, Ev.z_tl, Ev.z_cc, Ev.isiOk, Ev.Tgs.len, Ev.wipe, o_app md4])
    refine w_draw h (sz := L) p4 hL (by omega) fun r5 M5 hr5 p5 e5 => ?_
    have md5 := e5 _ _ np md4
    have ls : us.length < sizeLine := by omega
    simp [Ev.x_nil, Ev.s_exp, Ev.s_asgn, Ev.s_par2, Ev.s_ret, Ev.s_retn, Ev.s_ifs, Ev.s_pas, Ev.s_brk, Ev.s_cnt, Ev.s_for, Ev.e_var, Ev.e_int, Ev.e_bl, Ev.e_non, Ev.e_str, Ev.e_gc, Ev.e_fn, Ev.e_bin, Ev.e_neg, Ev.e_not, Ev.e_and, Ev.e_or, Ev.e_ite, Ev.e_cmp, Ev.e_chain, Ev.e_tup, Ev.e_lst, Ev.e_dct0, Ev.e_dct1, Ev.e_idx, Ev.e_slc, Ev.e_rev, Ev.e_fld, Ev.e_call, Ev.e_calk, Ev.e_calv, Ev.e_blt, Ev.e_mak, Ev.e_mth, Ev.e_omt, Ev.e_isi, Ev.e_cmpr, Ev.es_nil, Ev.es_cons, Ev.y_of, Ev.y_enum, Ev.y_zip, Ev.y_rng, Ev.y_rng2, Ev.y_items, Ev.y_vals, Ev.if_nil, Ev.if_cons, Ev.tg_nm, Ev.tg_tup, Ev.tg_idx, Ev.tg_fld, Ev.tgs_nil, Ev.tgs_cons, Ev.t_bl, Ev.t_int, Ev.t_tup, Ev.t_non, Ev.t_fl, Ev.r_val, Ev.r_new, Ev.o_lst, Ev.o_set, Ev.s_tup, Ev.s_fl, Ev.s_ref, Ev.l_fl, Ev.i_tup, Ev.a_0, Ev.a_1, Ev.a_2, Ev.a_3, Ev.a_4, Ev.a_nat, Ev.b_len, Ev.b_abs, Ev.b_max, Ev.b_min, Ev.b_int, Ev.b_inb, Ev.n_tup, Ev.d_add, Ev.d_sub, Ev.c_lt, Ev.c_le, Ev.c_gt, Ev.c_ge, Ev.w_lt, Ev.w_le, Ev.w_gt, Ev.w_ge, Ev.w_eqi, Ev.w_nei, Ev.w_neb, Ev.w_eqb, Ev.y_int, Ev.y_bl, Ev.y_tup, Ev.it_tup, Ev.z_slc2, Ev.mup_same, Ev.mup_mup, Ev.isPt, Ev.z_ii, Ev.z_bi, Ev.z_ib, Ev.z_ll, Ev.z_lt, Ev.z_tt, Ev.z_tl, Ev.z_cc, Ev.isiOk, Ev.Tgs.len, Ev.wipe, u_app md5, ls]
    refine hk _ _ ⟨⟨_, rfl⟩, p5.mup np, (e4.trans e5).mup hd, by rw [mup_ne (fun z => ndc z.symm)]; exact e5 _ _ nc mc4, us ++ [r5], by rw [mup_same, List.map_append]; rfl, by simp [lu], fun l hl => ?_⟩
    rcases List.mem_append.mp hl with hl | hl
    · exact hu l hl
    · rw [List.mem_singleton] at hl
      omega
  · obtain ⟨⟨a, rfl⟩, p4, e4, mc4, us, md4, lu, hu⟩ := h1
    rw [List.length_map, List.length_range] at lu
    (rw [Ev.x_cons]; simp [Ev.x_nil, Ev.s_exp, Ev.s_asgn, Ev.s_par2, Ev.s_ret, Ev.s_retn, Ev.s_ifs, Ev.s_pas, Ev.s_brk, Ev.s_cnt, Ev.s_for, Ev.e_var, Ev.e_int, Ev.e_bl, Ev.e_non, Ev.e_str, Ev.e_gc, Ev.e_fn, Ev.e_bin, Ev.e_neg, Ev.e_not, Ev.e_and, Ev.e_or, Ev.e_ite, Ev.e_cmp, Ev.e_chain, Ev.e_tup, Ev.e_lst, Ev.e_dct0, Ev.e_dct1, Ev.e_idx, Ev.e_slc, Ev.e_rev, Ev.e_fld, Ev.e_call, Ev.e_calk, Ev.e_calv, Ev.e_blt, Ev.e_mak, Ev.e_mth, Ev.e_omt, Ev.e_isi, Ev.e_cmpr, Ev.es_nil, Ev.es_cons, Ev.y_of, Ev.y_enum, Ev.y_zip, Ev.y_rng, Ev.y_rng2, Ev.y_items, Ev.y_vals, Ev.if_nil, Ev.if_cons, Ev.tg_nm, Ev.tg_tup, Ev.tg_idx, Ev.tg_fld, Ev.tgs_nil, Ev.tgs_cons, Ev.t_bl, Ev.t_int, Ev.t_tup, Ev.t_non, Ev.t_fl, Ev.r_val, Ev.r_new, Ev.o_lst, Ev.o_set, Ev.s_tup, Ev.s_fl, Ev.s_ref, Ev.l_fl, Ev.i_tup, Ev.a_0, Ev.a_1, Ev.a_2, Ev.a_3, Ev.a_4, Ev.a_nat, Ev.b_len, Ev.b_abs, Ev.b_max, Ev.b_min, Ev.b_int, Ev.b_inb, Ev.n_tup, Ev.d_add, Ev.d_sub, Ev.c_lt, Ev.c_le, Ev.c_gt, Ev.c_ge, Ev.w_lt, Ev.w_le, Ev.w_gt, Ev.w_ge, Ev.w_eqi, Ev.w_nei, Ev.w_neb, Ev.w_eqb, Ev.y_int, Ev.y_bl, Ev.y_tup, Ev.it_tup, Ev.z_slc2, Ev.mup_same, Ev.mup_mup, Ev.isPt, Ev.z_ii, Ev.z_bi, Ev.z_ib, Ev.z_ll, Ev.z_lt, Ev.z_tt, Ev.z_tl, Ev.z_cc, Ev.isiOk, Ev.Tgs.len, Ev.wipe])
    refine w_draw h (sz := 3) p4 (by decide) (by decide) fun t2 M5 ht2 p5 e5 => ?_
    rw [rngN (by omega)]
    refine forL_ind (fun i σ M1 => (∃ a, σ = [some (.ref pot), some (.int L), some (.ref d), some (.ref c), a]) ∧ Pot M1 pot ∧ ExtP pot M M1 ∧ M1 d = some (.lst (us.map nI)) ∧ ∃ vs : List Nat, M1 c = some (.lst (vs.map nI)) ∧ vs.length = i + 1 ∧ ∀ l ∈ vs, l < L) (fun i σ M1 _ h => trivial) (fun i x σ M6 K hx h1 hk => ?_) (fun σ M6 h1 => ?_) ⟨⟨_, rfl⟩, p5, e4.trans e5, e5 _ _ np md4, [r1], e5 _ _ nc mc4, rfl, by simpa using hr1⟩
    · obtain ⟨⟨a, rfl⟩, p6, e6, md6, vs, mc6, lv, hv⟩ := h1
      have hi := (List.getElem?_eq_some_iff.mp hx).1
      rw [List.length_map, List.length_range] at hi
      unfold bdF
      simp [Ev.x_nil, Ev.s_exp, Ev.s_asgn, Ev.s_par2, Ev.s_ret, Ev.s_retn, Ev.s_ifs, Ev.s_pas, Ev.s_brk, Ev.s_cnt, Ev.s_for, Ev.e_var, Ev.e_int, Ev.e_bl, Ev.e_non, Ev.e_str, Ev.e_gc, Ev.e_fn, Ev.e_bin, Ev.e_neg, Ev.e_not, Ev.e_and, Ev.e_or, Ev.e_ite, Ev.e_cmp, Ev.e_chain, Ev.e_tup, Ev.e_lst, Ev.e_dct0, Ev.e_dct1, Ev.e_idx, Ev.e_slc, Ev.e_rev, Ev.e_fld, Ev.e_call, Ev.e_calk, Ev.e_calv, Ev.e_blt, Ev.e_mak, Ev.e_mth, Ev.e_omt, Ev.e_isi, Ev.e_cmpr, Ev.es_nil, Ev.es_cons, Ev.y_of, Ev.y_enum, Ev.y_zip, Ev.y_rng, Ev.y_rng2, Ev.y_items, Ev.y_vals, Ev.if_nil, Ev.if_cons, Ev.tg_nm, Ev.tg_tup, Ev.tg_idx, Ev.tg_fld, Ev.tgs_nil, Ev.tgs_cons, Ev.t_bl, Ev.t_int, Ev.t_tup, Ev.t_non, Ev.t_fl, Ev.r_val, Ev.r_new, Ev.o_lst, Ev.o_set, Ev.s_tup, Ev.s_fl, Ev.s_ref, Ev.l_fl, Ev.i_tup, Ev.a_0, Ev.a_1, Ev.a_2, Ev.a_3, Ev.a_4, Ev.a_nat, Ev.b_len, Ev.b_abs, Ev.b_max, Ev.b_min, Ev.b_int, Ev.b_inb, Ev.n_tup, Ev.d_add, Ev.d_sub, Ev.c_lt, Ev.c_le, Ev.c_gt, Ev.c_ge, Ev.w_lt, Ev.w_le, Ev.w_gt, Ev.w_ge, Ev.w_eqi, Ev.w_nei, Ev.w_neb, Ev.w_eqb, Ev.y_int, Ev.y_bl, Ev.y_tup, Ev.it_tup, Ev.z_slc2, Ev.mup_same, Ev.mup_mup, Ev.isPt, Ev.z_ii, Ev.z_bi, Ev.z_ib, Ev.z_ll, Ev.z_lt, Ev.z_tt, Ev.z_tl, Ev.z_cc, Ev.isiOk, Ev.Tgs.len, Ev.wipe]
      (rw [Ev.x_cons]; simp [Ev.x_nil, Ev.s_exp, Ev.s_asgn, Ev.s_par2, Ev.s_ret, Ev.s_retn, Ev.s_ifs, Ev.s_pas, Ev.s_brk, Ev.s_cnt, Ev.s_for, Ev.e_var, Ev.e_int, Ev.e_bl, Ev.e_non, Ev.e_str, Ev.e_gc, Ev.e_fn, Ev.e_bin, Ev.e_neg, Ev.e_not, Ev.e_and, Ev.e_or, Ev.e_ite, Ev.e_cmp, Ev.e_chain, Ev.e_tup, Ev.e_lst, Ev.e_dct0, Ev.e_dct1, Ev.e_idx, Ev.e_slc, Ev.e_rev, Ev.e_fld, Ev.e_call, Ev.e_calk, Ev.e_calv, Ev.e_blt, Ev.e_mak, Ev.e_mth, Ev.e_omt, Ev.e_isi, Ev.e_cmpr, Ev.es_nil, Ev.es_cons, Ev.y_of, Ev.y_enum, Ev.y_zip, Ev.y_rng, Ev.y_rng2, Ev.y_items, Ev.y_vals, Ev.if_nil, Ev.if_cons, Ev.tg_nm, Ev.tg_tup, Ev.tg_idx, Ev.tg_fld, Ev.tgs_nil, Ev.tgs_cons, Ev.t_bl, Ev.t_int, Ev.t_tup, Ev.t_non, Ev.t_fl, Ev.r_val, Ev.r_new, Ev.o_lst, Ev.o_set, Ev.s_tup, Ev.s_fl, Ev.s_ref, Ev.l_fl, Ev.i_tup, Ev.a_0, Ev.a_1, Ev.a_2, Ev.a_3, Ev.a_4, Ev.a_nat, Ev.b_len, Ev.b_abs, Ev.b_max, Ev.b_min, Ev.b_int, Ev.b_inb, Ev.n_tup, Ev.d_add, Ev.d_sub, Ev.c_lt, Ev.c_le, Ev.c_gt, Ev.c_ge, Ev.w_lt, Ev.w_le, Ev.w_gt, Ev.w_ge, Ev.w_eqi, Ev.w_nei, Ev.w_neb, Ev.w_eqb, Ev.y_int, Ev.y_bl, Ev.y_tup, Ev.it_tup, Ev.z_slc2, Ev.mup_same, Ev.mup_mup, Ev.isPt, Ev.z_ii, Ev.z_bi, Ev.z_ib, Ev.z_ll, Ev.z_lt, Ev.z_tt, Ev.z_tl, Ev.z_cc, Ev.isiOk, Ev.Tgs.len, Ev.wipe, o_app mc6])
      refine w_draw h (sz := L) p6 hL (by omega) fun r7 M7 hr7 p7 e7 => ?_
      have mc7 := e7 _ _ nc mc6
      have ls : vs.length < sizeLine := by omega
      simp [Ev.x_nil, Ev.s_exp, Ev.s_asgn, Ev.s_par2, Ev.s_ret, Ev.s_retn, Ev.s_ifs, Ev.s_pas, Ev.s_brk, Ev.s_cnt, Ev.s_for, Ev.e_var, Ev.e_int, Ev.e_bl, Ev.e_non, Ev.e_str, Ev.e_gc, Ev.e_fn, Ev.e_bin, Ev.e_neg, Ev.e_not, Ev.e_and, Ev.e_or, Ev.e_ite, Ev.e_cmp, Ev.e_chain, Ev.e_tup, Ev.e_lst, Ev.e_dct0, Ev.e_dct1, Ev.e_idx, Ev.e_slc, Ev.e_rev, Ev.e_fld, Ev.e_call, Ev.e_calk, Ev.e_calv, Ev.e_blt, Ev.e_mak, Ev.e_mth, Ev.e_omt, Ev.e_isi, Ev.e_cmpr, Ev.es_nil, Ev.es_cons, Ev.y_of, Ev.y_enum, Ev.y_zip, Ev.y_rng, Ev.y_rng2, Ev.y_items, Ev.y_vals, Ev.if_nil, Ev.if_cons, Ev.tg_nm, Ev.tg_tup, Ev.tg_idx, Ev.tg_fld, Ev.tgs_nil, Ev.tgs_cons, Ev.t_bl, Ev.t_int, Ev.t_tup, Ev.t_non, Ev.t_fl, Ev.r_val, Ev.r_new, Ev.o_lst, Ev.o_set, Ev.s_tup, Ev.s_fl, Ev.s_ref, Ev.l_fl, Ev.i_tup, Ev.a_0, Ev.a_1, Ev.a_2, Ev.a_3, Ev.a_4, Ev.a_nat, Ev.b_len, Ev.b_abs, Ev.b_max, Ev.b_min, Ev.b_int, Ev.b_inb, Ev.n_tup, Ev.d_add, Ev.d_sub, Ev.c_lt, Ev.c_le, Ev.c_gt, Ev.c_ge, Ev.w_lt, Ev.w_le, Ev.w_gt, Ev.w_ge, Ev.w_eqi, Ev.w_nei, Ev.w_neb, Ev.w_eqb, Ev.y_int, Ev.y_bl, Ev.y_tup, Ev.it_tup, Ev.z_slc2, Ev.mup_same, Ev.mup_mup, Ev.isPt, Ev.z_ii, Ev.z_bi, Ev.z_ib, Ev.z_ll, Ev.z_lt, Ev.z_tt, Ev.z_tl, Ev.z_cc, Ev.isiOk, Ev.Tgs.len, Ev.wipe, u_app mc7, ls]
      refine hk _ _ ⟨⟨_, rfl⟩, p7.mup nc, (e6.trans e7).mup hc0, by rw [mup_ne ndc]; exact e7 _ _ np md6, vs ++ [r7], by rw [mup_same, List.map_append]; rfl, by simp [lv], fun l hl => ?_⟩
      rcases List.mem_append.mp hl with hl | hl
      · exact hv l hl
      · rw [List.mem_singleton] at hl
        omega
    · obtain ⟨⟨a, rfl⟩, p6, e6, md6, vs, mc6, lv, hv⟩ := h1
      rw [List.length_map, List.length_range] at lv
      (rw [Ev.x_cons]; simp [Ev.x_nil, Ev.s_exp, Ev.s_asgn, Ev.s_par2, Ev.s_ret, Ev.s_retn, Ev.s_ifs, Ev.s_pas, Ev.s_brk, Ev.s_cnt, Ev.s_for, Ev.e_var, Ev.e_int, Ev.e_bl, Ev.e_non, Ev.e_str, Ev.e_gc, Ev.e_fn, Ev.e_bin, Ev.e_neg, Ev.e_not, Ev.e_and, Ev.e_or, Ev.e_ite, Ev.e_cmp, Ev.e_chain, Ev.e_tup, Ev.e_lst, Ev.e_dct0, Ev.e_dct1, Ev.e_idx, Ev.e_slc, Ev.e_rev, Ev.e_fld, Ev.e_call, Ev.e_calk, Ev.e_calv, Ev.e_blt, Ev.e_mak, Ev.e_mth, Ev.e_omt, Ev.e_isi, Ev.e_cmpr, Ev.es_nil, Ev.es_cons, Ev.y_of, Ev.y_enum, Ev.y_zip, Ev.y_rng, Ev.y_rng2, Ev.y_items, Ev.y_vals, Ev.if_nil, Ev.if_cons, Ev.tg_nm, Ev.tg_tup, Ev.tg_idx, Ev.tg_fld, Ev.tgs_nil, Ev.tgs_cons, Ev.t_bl, Ev.t_int, Ev.t_tup, Ev.t_non, Ev.t_fl, Ev.r_val, Ev.r_new, Ev.o_lst, Ev.o_set, Ev.s_tup, Ev.s_fl, Ev.s_ref, Ev.l_fl, Ev.i_tup, Ev.a_0, Ev.a_1, Ev.a_2, Ev.a_3, Ev.a_4, Ev.a_nat, Ev.b_len, Ev.b_abs, Ev.b_max, Ev.b_min, Ev.b_int, Ev.b_inb, Ev.n_tup, Ev.d_add, Ev.d_sub, Ev.c_lt, Ev.c_le, Ev.c_gt, Ev.c_ge, Ev.w_lt, Ev.w_le, Ev.w_gt, Ev.w_ge, Ev.w_eqi, Ev.w_nei, Ev.w_neb, Ev.w_eqb, Ev.y_int, Ev.y_bl, Ev.y_tup, Ev.it_tup, Ev.z_slc2, Ev.mup_same, Ev.mup_mup, Ev.isPt, Ev.z_ii, Ev.z_bi, Ev.z_ib, Ev.z_ll, Ev.z_lt, Ev.z_tt, Ev.z_tl, Ev.z_cc, Ev.isiOk, Ev.Tgs.len, Ev.wipe, b_tuple (seq_lst (l_ref md6)), b_tuple (seq_lst (l_ref mc6)), two])
      exact q (us, vs) M6 p6 e6 ⟨hu, hv, by show us.length ≤ 40; omega, by show vs.length ≤ 40; omega, by
        intro z
        have : vs = [] := z
        subst this
        simp at lv⟩
end Rv
end

section
/-! Wh: the law's own search whether a row is let by. -/
namespace Rv
open PySem Ev
/-- ways within bounds -/
structure WB (R : Nat) (ws : List Way) : Prop where
  to : ∀ w ∈ ws, w.2.2.1 < R
  ro : 0 < R
  r12 : R ≤ 12
  len : ws.length < 64
theorem ROk.wb {L R : Nat} {ws : List Way} (h : ROk L R ws) : WB R ws := ⟨fun w hw => (h.bd w hw).2.2.1, h.ro, h.r12, h.len⟩
/-- the places and rooms behind -/
def scN (ws : List Way) (a : List Nat) (x : Nd) : List Nd := (byW ws x.2 (a.getD x.1 0)).map fun w => (nxt a x.1, w.2.2.1)
theorem mem_scN {ws : List Way} {a : List Nat} {x y : Nd} : y ∈ scN ws a x ↔ EN ws a x y := by
  unfold scN EN Stp
  rw [List.mem_map]
  constructor
  · rintro ⟨⟨w1, w2, w3, w4⟩, hw, rfl⟩
    obtain ⟨h1, h2, h3⟩ := mem_byW.mp hw
    dsimp only at h2 h3
    subst h2
    rw [h3] at h1
    exact ⟨rfl, w4, h1⟩
  · obtain ⟨y1, y2⟩ := y
    rintro ⟨h1, s, h2⟩
    dsimp only at h1 h2
    subst h1
    exact ⟨_, mem_byW.mpr ⟨h2, rfl, rfl⟩, rfl⟩
theorem rea_rn {ws : List Way} {b a : List Nat} (ha : a ≠ []) {rs : List Nat} (hr : ∀ r, r ∈ rs ↔ Wrd (Stp ws) b 0 r) {x : Nd} : Rea (scN ws a) (rs.map fun r => (0, r)) x ↔ RN ws b a x := by
  constructor
  · intro h
    induction h with
    | ini h =>
      obtain ⟨r, h2, rfl⟩ := List.mem_map.mp h
      exact ⟨b.length, Nat.le_refl _, by simp, rch_begin.mpr ((hr r).mp h2)⟩
    | nx _ h ih => exact ih.step ha (mem_scN.mp h)
  · have key : ∀ d r, Rch ws b a (b.length + d) r → Rea (scN ws a) (rs.map fun r => (0, r)) (d % a.length, r) := fun d => by
      induction d with
      | zero =>
        intro r h
        rw [Nat.zero_mod]
        exact .ini (List.mem_map.mpr ⟨r, (hr r).mpr (rch_begin.mp h), rfl⟩)
      | succ d ih =>
        rintro r ⟨m, hm, hs⟩
        refine .nx (ih m hm) (mem_scN.mpr ⟨?_, ?_⟩)
        · show (d + 1) % a.length = (d % a.length + 1) % a.length
          rw [Nat.mod_add_mod]
        · have hs : Stp ws (ltr b a (b.length + d)) m r := hs
          rw [ltr_late (by omega), Nat.add_sub_cancel_left] at hs
          exact hs
    rintro ⟨t, h1, h2, h3⟩
    obtain ⟨d, rfl⟩ := Nat.le.dest h1
    rw [Nat.add_sub_cancel_left] at h2
    have := key d x.2 h3
    rw [← h2] at this
    exact this
theorem wl_bd {ws : List Way} {a : List Nat} {R : Nat} (wb : WB R ws) (ha : a ≠ []) {rs : List Nat} (fr : ∀ r ∈ rs, r < R) : ∀ n, ∀ x ∈ wl (scN ws a) (rs.map fun r => (0, r)) n, x.1 < a.length ∧ x.2 < R := fun n x hx => by
  have la := List.length_pos_iff.mpr ha
  have := wl_rea n x hx
  clear hx
  induction this with
  | ini h =>
    obtain ⟨r, h2, rfl⟩ := List.mem_map.mp h
    exact ⟨la, fr r h2⟩
  | nx _ h _ =>
    obtain ⟨w, hw, rfl⟩ := List.mem_map.mp h
    exact ⟨Nat.mod_lt _ la, wb.to w (mem_byW.mp hw).1⟩
theorem wl_len {ws : List Way} {a : List Nat} {R : Nat} (wb : WB R ws) (ha : a ≠ []) {rs : List Nat} (fr : Few R rs) (n : Nat) : (wl (scN ws a) (rs.map fun r => (0, r)) n).length ≤ a.length * R := by
  rw [← len_cells]
  refine nodup_len (wl_nodup (nodup_map (fun a b e => (Prod.mk.inj e).2) fr.nd) n) fun x hx => ?_
  exact mem_cells.mpr (wl_bd wb ha fr.lt n x hx)
/-- whether a clean way leads on to one that is left -/
def okN (ws : List Way) (a : List Nat) (l : List Nd) (x : Nd) : Bool := (((byW ws x.2 (a.getD x.1 0)).filter fun w => decide (w.2.2.2 = 0)).filter fun w => decide ((nxt a x.1, w.2.2.1) ∈ l)) != []
theorem okN_iff {ws : List Way} {a : List Nat} {l : List Nd} {x : Nd} : okN ws a l x = true ↔ ∃ y ∈ l, CN ws a x y := by
  unfold okN CN Cln
  rw [bne_iff_ne]
  constructor
  · intro h
    obtain ⟨⟨w1, w2, w3, w4⟩, hw⟩ := List.exists_mem_of_ne_nil _ h
    obtain ⟨h1, h2⟩ := List.mem_filter.mp hw
    obtain ⟨h3, h4⟩ := List.mem_filter.mp h1
    obtain ⟨h5, h6, h7⟩ := mem_byW.mp h3
    simp only [decide_eq_true_eq] at h2 h4
    dsimp only at h6 h7
    subst h4 h6
    rw [h7] at h5
    exact ⟨_, h2, rfl, h5⟩
  · rintro ⟨⟨y1, y2⟩, hy, h1, h2⟩
    dsimp only at h1 h2
    subst h1
    exact List.ne_nil_of_mem (a := (x.2, a.getD x.1 0, y2, 0)) (List.mem_filter.mpr ⟨List.mem_filter.mpr ⟨mem_byW.mpr ⟨h2, rfl, rfl⟩, by simp⟩, by simpa using hy⟩)
theorem nxt_cast {a : List Nat} {p : Nat} : ((p : Int) + 1) % (a.length : Int) = (nxt a p : Int) := by
  unfold nxt
  rw [Int.natCast_emod, Int.natCast_add]
  rfl
theorem fold_filter {α : Type} {p : α → Bool} : ∀ {l s : List α}, l.foldl (fun s x => if p x = true then s ++ [x] else s) s = s ++ l.filter p
  | [], s => by simp
  | x :: l, s => by
    rw [List.foldl_cons, fold_filter, List.filter_cons]
    cases p x <;> simp
variable {T : Tab} {F : Nat → Option Fn} {k : Nat}
theorem nats_int (l : List Nat) : mapO intOf (l.map nI) = some (l.map fun (n : Nat) => (n : Int)) := mapO_map nI intOf _ (fun w => rfl) l
theorem b_setN {M : MH} {v : PV} {l : List Nat} (h : lstOf M v = some (l.map nI)) (hl : l.length < 64) : bltR M .set [v] = some (.new (.set ((ddp l).map nI))) := by
  rw [b_set h (by rw [List.length_map]; exact hl) (by rw [nats_int]; rfl), dedup_map nI enc_nat.inj]
theorem b_sortSetN {M : MH} {a : Addr} {l : List Nat} (h : M a = some (.set (l.map nI))) (hl : l.length < 64) : bltR M .sorted [.ref a] = some (.new (.lst ((sN l).map nI))) := by
  rw [b_sorted_set h (by rw [List.length_map]; exact hl) (by rw [nats_int]; rfl), sortP_nats]
theorem w_law_lets (h : FOk F) {R : Nat} {ws : List Way} {r : Row} {v : PV} {M : MH} {Q : PV → MH → Prop} (hv : lstOf M v = some (ws.map wp)) (wb : WB R ws) (ne : r.2 ≠ []) (al : r.2.length ≤ 40)
    (q : ∀ b M', Ext M M' → (b = true ↔ Lets ws r.1 r.2) → Q (.bl b) M') : Cn T F (k + 2) i_law_lets [v, rP r] M Q := by
  refine cn_z h.h_law_lets rfl ?_
  simp only [f_law_lets, rP, uP]
  have sz : 1000000 ≤ sizeLine := by decide
  have two : 2 ≤ sizeLine := by decide
  (rw [Ev.x_cons]; simp [Ev.x_nil, Ev.s_exp, Ev.s_asgn, Ev.s_par2, Ev.s_ret, Ev.s_retn, Ev.s_ifs, Ev.s_pas, Ev.s_brk, Ev.s_cnt, Ev.s_for, Ev.e_var, Ev.e_int, Ev.e_bl, Ev.e_non, Ev.e_str, Ev.e_gc, Ev.e_fn, Ev.e_bin, Ev.e_neg, Ev.e_not, Ev.e_and, Ev.e_or, Ev.e_ite, Ev.e_cmp, Ev.e_chain, Ev.e_tup, Ev.e_lst, Ev.e_dct0, Ev.e_dct1, Ev.e_idx, Ev.e_slc, Ev.e_rev, Ev.e_fld, Ev.e_call, Ev.e_calk, Ev.e_calv, Ev.e_blt, Ev.e_mak, Ev.e_mth, Ev.e_omt, Ev.e_isi, Ev.e_cmpr, Ev.es_nil, Ev.es_cons, Ev.y_of, Ev.y_enum, Ev.y_zip, Ev.y_rng, Ev.y_rng2, Ev.y_items, Ev.y_vals, Ev.if_nil, Ev.if_cons, Ev.tg_nm, Ev.tg_tup, Ev.tg_idx, Ev.tg_fld, Ev.tgs_nil, Ev.tgs_cons, Ev.t_bl, Ev.t_int, Ev.t_tup, Ev.t_non, Ev.t_fl, Ev.r_val, Ev.r_new, Ev.o_lst, Ev.o_set, Ev.s_tup, Ev.s_fl, Ev.s_ref, Ev.l_fl, Ev.i_tup, Ev.a_0, Ev.a_1, Ev.a_2, Ev.a_3, Ev.a_4, Ev.a_nat, Ev.b_len, Ev.b_abs, Ev.b_max, Ev.b_min, Ev.b_int, Ev.b_inb, Ev.n_tup, Ev.d_add, Ev.d_sub, Ev.c_lt, Ev.c_le, Ev.c_gt, Ev.c_ge, Ev.w_lt, Ev.w_le, Ev.w_gt, Ev.w_ge, Ev.w_eqi, Ev.w_nei, Ev.w_neb, Ev.w_eqb, Ev.y_int, Ev.y_bl, Ev.y_tup, Ev.it_tup, Ev.z_slc2, Ev.mup_same, Ev.mup_mup, Ev.isPt, Ev.z_ii, Ev.z_bi, Ev.z_ib, Ev.z_ll, Ev.z_lt, Ev.z_tt, Ev.z_tl, Ev.z_cc, Ev.isiOk, Ev.Tgs.len, Ev.wipe])
  (rw [Ev.x_cons]; simp [Ev.x_nil, Ev.s_exp, Ev.s_asgn, Ev.s_par2, Ev.s_ret, Ev.s_retn, Ev.s_ifs, Ev.s_pas, Ev.s_brk, Ev.s_cnt, Ev.s_for, Ev.e_var, Ev.e_int, Ev.e_bl, Ev.e_non, Ev.e_str, Ev.e_gc, Ev.e_fn, Ev.e_bin, Ev.e_neg, Ev.e_not, Ev.e_and, Ev.e_or, Ev.e_ite, Ev.e_cmp, Ev.e_chain, Ev.e_tup, Ev.e_lst, Ev.e_dct0, Ev.e_dct1, Ev.e_idx, Ev.e_slc, Ev.e_rev, Ev.e_fld, Ev.e_call, Ev.e_calk, Ev.e_calv, Ev.e_blt, Ev.e_mak, Ev.e_mth, Ev.e_omt, Ev.e_isi, Ev.e_cmpr, Ev.es_nil, Ev.es_cons, Ev.y_of, Ev.y_enum, Ev.y_zip, Ev.y_rng, Ev.y_rng2, Ev.y_items, Ev.y_vals, Ev.if_nil, Ev.if_cons, Ev.tg_nm, Ev.tg_tup, Ev.tg_idx, Ev.tg_fld, Ev.tgs_nil, Ev.tgs_cons, Ev.t_bl, Ev.t_int, Ev.t_tup, Ev.t_non, Ev.t_fl, Ev.r_val, Ev.r_new, Ev.o_lst, Ev.o_set, Ev.s_tup, Ev.s_fl, Ev.s_ref, Ev.l_fl, Ev.i_tup, Ev.a_0, Ev.a_1, Ev.a_2, Ev.a_3, Ev.a_4, Ev.a_nat, Ev.b_len, Ev.b_abs, Ev.b_max, Ev.b_min, Ev.b_int, Ev.b_inb, Ev.n_tup, Ev.d_add, Ev.d_sub, Ev.c_lt, Ev.c_le, Ev.c_gt, Ev.c_ge, Ev.w_lt, Ev.w_le, Ev.w_gt, Ev.w_ge, Ev.w_eqi, Ev.w_nei, Ev.w_neb, Ev.w_eqb, Ev.y_int, Ev.y_bl, Ev.y_tup, Ev.it_tup, Ev.z_slc2, Ev.mup_same, Ev.mup_mup, Ev.isPt, Ev.z_ii, Ev.z_bi, Ev.z_ib, Ev.z_ll, Ev.z_lt, Ev.z_tt, Ev.z_tl, Ev.z_cc, Ev.isiOk, Ev.Tgs.len, Ev.wipe])
  refine ⟨by decide, fun p hp => ?_⟩
  have e0 := Ext.new (o := .lst [.int 0]) hp
  have mp : (mup M p (.lst [.int 0])) p = some (.lst (([0] : List Nat).map nI)) := mup_same
  generalize mup M p (.lst [.int 0]) = M0 at *
  (rw [Ev.x_cons]; simp [Ev.x_nil, Ev.s_exp, Ev.s_asgn, Ev.s_par2, Ev.s_ret, Ev.s_retn, Ev.s_ifs, Ev.s_pas, Ev.s_brk, Ev.s_cnt, Ev.s_for, Ev.e_var, Ev.e_int, Ev.e_bl, Ev.e_non, Ev.e_str, Ev.e_gc, Ev.e_fn, Ev.e_bin, Ev.e_neg, Ev.e_not, Ev.e_and, Ev.e_or, Ev.e_ite, Ev.e_cmp, Ev.e_chain, Ev.e_tup, Ev.e_lst, Ev.e_dct0, Ev.e_dct1, Ev.e_idx, Ev.e_slc, Ev.e_rev, Ev.e_fld, Ev.e_call, Ev.e_calk, Ev.e_calv, Ev.e_blt, Ev.e_mak, Ev.e_mth, Ev.e_omt, Ev.e_isi, Ev.e_cmpr, Ev.es_nil, Ev.es_cons, Ev.y_of, Ev.y_enum, Ev.y_zip, Ev.y_rng, Ev.y_rng2, Ev.y_items, Ev.y_vals, Ev.if_nil, Ev.if_cons, Ev.tg_nm, Ev.tg_tup, Ev.tg_idx, Ev.tg_fld, Ev.tgs_nil, Ev.tgs_cons, Ev.t_bl, Ev.t_int, Ev.t_tup, Ev.t_non, Ev.t_fl, Ev.r_val, Ev.r_new, Ev.o_lst, Ev.o_set, Ev.s_tup, Ev.s_fl, Ev.s_ref, Ev.l_fl, Ev.i_tup, Ev.a_0, Ev.a_1, Ev.a_2, Ev.a_3, Ev.a_4, Ev.a_nat, Ev.b_len, Ev.b_abs, Ev.b_max, Ev.b_min, Ev.b_int, Ev.b_inb, Ev.n_tup, Ev.d_add, Ev.d_sub, Ev.c_lt, Ev.c_le, Ev.c_gt, Ev.c_ge, Ev.w_lt, Ev.w_le, Ev.w_gt, Ev.w_ge, Ev.w_eqi, Ev.w_nei, Ev.w_neb, Ev.w_eqb, Ev.y_int, Ev.y_bl, Ev.y_tup, Ev.it_tup, Ev.z_slc2, Ev.mup_same, Ev.mup_mup, Ev.isPt, Ev.z_ii, Ev.z_bi, Ev.z_ib, Ev.z_ll, Ev.z_lt, Ev.z_tt, Ev.z_tl, Ev.z_cc, Ev.isiOk, Ev.Tgs.len, Ev.wipe])
  refine forL_ind (fun i σ M1 => (∃ q rs x, σ = [some v, some (.tup [.tup (r.1.map nI), .tup (r.2.map nI)]), some (.tup (r.1.map nI)), some (.tup (r.2.map nI)), some (.ref q), x, none, none, none, none, none, none, none, none, none, none, none] ∧ Ext M M1 ∧ M1 q = some (.lst (rs.map nI)) ∧ Few R rs ∧ ∀ x, x ∈ rs ↔ Wrd (Stp ws) (r.1.take i) 0 x)) (fun i σ M1 _ h => trivial) (fun i x σ M1 K hx h1 hk => ?_) (fun σ M1 h1 => ?_) ⟨p, [0], none, rfl, e0, mp, ⟨by simp, fun x hx => by rw [List.mem_singleton] at hx; subst hx; exact wb.ro⟩, fun x => by simp [Wrd, eq_comm]⟩
  · obtain ⟨q1, rs, x', rfl, e, mq, fr, hr⟩ := h1
    rw [List.getElem?_map] at hx
    obtain ⟨l, hl, rfl⟩ := Option.map_eq_some_iff.mp hx
    have tk : r.1.take (i + 1) = r.1.take i ++ [l] := by rw [List.take_succ, hl]; rfl
    unfold bdF
    simp [Ev.x_nil, Ev.s_exp, Ev.s_asgn, Ev.s_par2, Ev.s_ret, Ev.s_retn, Ev.s_ifs, Ev.s_pas, Ev.s_brk, Ev.s_cnt, Ev.s_for, Ev.e_var, Ev.e_int, Ev.e_bl, Ev.e_non, Ev.e_str, Ev.e_gc, Ev.e_fn, Ev.e_bin, Ev.e_neg, Ev.e_not, Ev.e_and, Ev.e_or, Ev.e_ite, Ev.e_cmp, Ev.e_chain, Ev.e_tup, Ev.e_lst, Ev.e_dct0, Ev.e_dct1, Ev.e_idx, Ev.e_slc, Ev.e_rev, Ev.e_fld, Ev.e_call, Ev.e_calk, Ev.e_calv, Ev.e_blt, Ev.e_mak, Ev.e_mth, Ev.e_omt, Ev.e_isi, Ev.e_cmpr, Ev.es_nil, Ev.es_cons, Ev.y_of, Ev.y_enum, Ev.y_zip, Ev.y_rng, Ev.y_rng2, Ev.y_items, Ev.y_vals, Ev.if_nil, Ev.if_cons, Ev.tg_nm, Ev.tg_tup, Ev.tg_idx, Ev.tg_fld, Ev.tgs_nil, Ev.tgs_cons, Ev.t_bl, Ev.t_int, Ev.t_tup, Ev.t_non, Ev.t_fl, Ev.r_val, Ev.r_new, Ev.o_lst, Ev.o_set, Ev.s_tup, Ev.s_fl, Ev.s_ref, Ev.l_fl, Ev.i_tup, Ev.a_0, Ev.a_1, Ev.a_2, Ev.a_3, Ev.a_4, Ev.a_nat, Ev.b_len, Ev.b_abs, Ev.b_max, Ev.b_min, Ev.b_int, Ev.b_inb, Ev.n_tup, Ev.d_add, Ev.d_sub, Ev.c_lt, Ev.c_le, Ev.c_gt, Ev.c_ge, Ev.w_lt, Ev.w_le, Ev.w_gt, Ev.w_ge, Ev.w_eqi, Ev.w_nei, Ev.w_neb, Ev.w_eqb, Ev.y_int, Ev.y_bl, Ev.y_tup, Ev.it_tup, Ev.z_slc2, Ev.mup_same, Ev.mup_mup, Ev.isPt, Ev.z_ii, Ev.z_bi, Ev.z_ib, Ev.z_ll, Ev.z_lt, Ev.z_tt, Ev.z_tl, Ev.z_cc, Ev.isiOk, Ev.Tgs.len, Ev.wipe]
    (rw [Ev.x_cons]; simp [Ev.x_nil, Ev.s_exp, Ev.s_asgn, Ev.s_par2, Ev.s_ret, Ev.s_retn, Ev.s_ifs, Ev.s_pas, Ev.s_brk, Ev.s_cnt, Ev.s_for, Ev.e_var, Ev.e_int, Ev.e_bl, Ev.e_non, Ev.e_str, Ev.e_gc, Ev.e_fn, Ev.e_bin, Ev.e_neg, Ev.e_not, Ev.e_and, Ev.e_or, Ev.e_ite, Ev.e_cmp, Ev.e_chain, Ev.e_tup, Ev.e_lst, Ev.e_dct0, Ev.e_dct1, Ev.e_idx, Ev.e_slc, Ev.e_rev, Ev.e_fld, Ev.e_call, Ev.e_calk, Ev.e_calv, Ev.e_blt, Ev.e_mak, Ev.e_mth, Ev.e_omt, Ev.e_isi, Ev.e_cmpr, Ev.es_nil, Ev.es_cons, Ev.y_of, Ev.y_enum, Ev.y_zip, Ev.y_rng, Ev.y_rng2, Ev.y_items, Ev.y_vals, Ev.if_nil, Ev.if_cons, Ev.tg_nm, Ev.tg_tup, Ev.tg_idx, Ev.tg_fld, Ev.tgs_nil, Ev.tgs_cons, Ev.t_bl, Ev.t_int, Ev.t_tup, Ev.t_non, Ev.t_fl, Ev.r_val, Ev.r_new, Ev.o_lst, Ev.o_set, Ev.s_tup, Ev.s_fl, Ev.s_ref, Ev.l_fl, Ev.i_tup, Ev.a_0, Ev.a_1, Ev.a_2, Ev.a_3, Ev.a_4, Ev.a_nat, Ev.b_len, Ev.b_abs, Ev.b_max, Ev.b_min, Ev.b_int, Ev.b_inb, Ev.n_tup, Ev.d_add, Ev.d_sub, Ev.c_lt, Ev.c_le, Ev.c_gt, Ev.c_ge, Ev.w_lt, Ev.w_le, Ev.w_gt, Ev.w_ge, Ev.w_eqi, Ev.w_nei, Ev.w_neb, Ev.w_eqb, Ev.y_int, Ev.y_bl, Ev.y_tup, Ev.it_tup, Ev.z_slc2, Ev.mup_same, Ev.mup_mup, Ev.isPt, Ev.z_ii, Ev.z_bi, Ev.z_ib, Ev.z_ll, Ev.z_lt, Ev.z_tt, Ev.z_tl, Ev.z_cc, Ev.isiOk, Ev.Tgs.len, Ev.wipe, seq_lst (lstOf_ext e hv)])
    intro D hD
    refine cmpL_filter ws wp (fun w => decide (w.1 ∈ rs) && decide (w.2.1 = l)) (fun w => nI w.2.2.1) hD (by have := wb.len; omega) (fun M' e' => seqOf_stays e' (seq_lst (lstOf_ext e hv))) (fun w hw M2 K e2 yes no => ?_) fun M2 e2 hM2 => ?_
    · have hin := enc_nat.in_ (a := w.1) (e2 _ _ mq)
      unfold Ev.bdK wp nI
      simp [Ev.x_nil, Ev.s_exp, Ev.s_asgn, Ev.s_par2, Ev.s_ret, Ev.s_retn, Ev.s_ifs, Ev.s_pas, Ev.s_brk, Ev.s_cnt, Ev.s_for, Ev.e_var, Ev.e_int, Ev.e_bl, Ev.e_non, Ev.e_str, Ev.e_gc, Ev.e_fn, Ev.e_bin, Ev.e_neg, Ev.e_not, Ev.e_and, Ev.e_or, Ev.e_ite, Ev.e_cmp, Ev.e_chain, Ev.e_tup, Ev.e_lst, Ev.e_dct0, Ev.e_dct1, Ev.e_idx, Ev.e_slc, Ev.e_rev, Ev.e_fld, Ev.e_call, Ev.e_calk, Ev.e_calv, Ev.e_blt, Ev.e_mak, Ev.e_mth, Ev.e_omt, Ev.e_isi, Ev.e_cmpr, Ev.es_nil, Ev.es_cons, Ev.y_of, Ev.y_enum, Ev.y_zip, Ev.y_rng, Ev.y_rng2, Ev.y_items, Ev.y_vals, Ev.if_nil, Ev.if_cons, Ev.tg_nm, Ev.tg_tup, Ev.tg_idx, Ev.tg_fld, Ev.tgs_nil, Ev.tgs_cons, Ev.t_bl, Ev.t_int, Ev.t_tup, Ev.t_non, Ev.t_fl, Ev.r_val, Ev.r_new, Ev.o_lst, Ev.o_set, Ev.s_tup, Ev.s_fl, Ev.s_ref, Ev.l_fl, Ev.i_tup, Ev.a_0, Ev.a_1, Ev.a_2, Ev.a_3, Ev.a_4, Ev.a_nat, Ev.b_len, Ev.b_abs, Ev.b_max, Ev.b_min, Ev.b_int, Ev.b_inb, Ev.n_tup, Ev.d_add, Ev.d_sub, Ev.c_lt, Ev.c_le, Ev.c_gt, Ev.c_ge, Ev.w_lt, Ev.w_le, Ev.w_gt, Ev.w_ge, Ev.w_eqi, Ev.w_nei, Ev.w_neb, Ev.w_eqb, Ev.y_int, Ev.y_bl, Ev.y_tup, Ev.it_tup, Ev.z_slc2, Ev.mup_same, Ev.mup_mup, Ev.isPt, Ev.z_ii, Ev.z_bi, Ev.z_ib, Ev.z_ll, Ev.z_lt, Ev.z_tt, Ev.z_tl, Ev.z_cc, Ev.isiOk, Ev.Tgs.len, Ev.wipe]
      refine (Ev.w_in hin).mpr ?_
      by_cases c1 : w.1 ∈ rs
      · simp only [c1, decide_true, Ev.t_bl]
        by_cases c2 : w.2.1 = l
        · have c2' : ((w.2.1 : Nat) : Int) = l := by omega
          simp only [c2', decide_true]
          exact yes _ (by simp [c1, c2]) Ext.refl
        · have c2' : ¬ ((w.2.1 : Nat) : Int) = l := by omega
          simp only [c2', decide_false]
          exact no _ (by simp [c1, c2]) Ext.refl
      · simp only [c1, decide_false, Ev.t_bl]
        exact no _ (by simp [c1]) Ext.refl
    · have hl2 : ((ws.filter fun w => decide (w.1 ∈ rs) && decide (w.2.1 = l)).map fun w => w.2.2.1).length < 64 := by
        rw [List.length_map]
        exact Nat.lt_of_le_of_lt (List.length_filter_le ..) wb.len
      have hM2' : M2 D = some (.lst (((ws.filter fun w => decide (w.1 ∈ rs) && decide (w.2.1 = l)).map fun w => w.2.2.1).map nI)) := by rw [hM2, List.map_map]; rfl
      have b1 := b_setN (l_ref hM2') hl2
      have lt : ∀ x ∈ (ws.filter fun w => decide (w.1 ∈ rs) && decide (w.2.1 = l)).map fun w => w.2.2.1, x < R := fun x hx => by
        obtain ⟨w, hw, rfl⟩ := List.mem_map.mp hx
        exact wb.to w (List.mem_filter.mp hw).1
      have mm : ∀ x, x ∈ ((ws.filter fun w => decide (w.1 ∈ rs) && decide (w.2.1 = l)).map fun w => w.2.2.1) ↔ Wrd (Stp ws) (r.1.take (i + 1)) 0 x := fun x => by
        rw [tk, wrd_snoc, List.mem_map]
        constructor
        · rintro ⟨⟨w1, w2, w3, w4⟩, hw, rfl⟩
          obtain ⟨h1, h2⟩ := List.mem_filter.mp hw
          simp only [Bool.and_eq_true, decide_eq_true_eq] at h2
          obtain ⟨h2, rfl⟩ := h2
          exact ⟨w1, (hr w1).mp h2, w4, h1⟩
        · rintro ⟨m, h1, s, h2⟩
          exact ⟨_, List.mem_filter.mpr ⟨h2, by simpa using (hr m).mpr h1⟩, rfl⟩
      generalize ((ws.filter fun w => decide (w.1 ∈ rs) && decide (w.2.1 = l)).map fun w => w.2.2.1) = ls at *
      have dl := ddp_len ls
      rw [b1, Ev.r_new, Ev.o_set, List.length_map]
      refine ⟨by omega, fun s hs => ?_⟩
      have ms : (mup M2 s (.set ((ddp ls).map nI))) s = some (.set ((ddp ls).map nI)) := mup_same
      have e3 := Ext.new (o := .set ((ddp ls).map nI)) hs
      generalize mup M2 s (.set ((ddp ls).map nI)) = M3 at *
      rw [b_sortSetN ms (by omega), Ev.r_new, Ev.o_lst, List.length_map, (sN_perm _).length_eq]
      refine ⟨by omega, fun t ht => hk _ _ ⟨t, sN (ddp ls), _, rfl, (((e.trans e2).trans e3).trans (Ext.new ht)), mup_same, (⟨nodup_ddp _, fun x hx => lt x (mem_ddp.mp hx)⟩ : Few R (ddp ls)).sort, fun x => by rw [mem_sN, mem_ddp]; exact mm x⟩⟩
  · obtain ⟨q1, rs, x', rfl, e, mq, fr, hr⟩ := h1
    rw [List.length_map, List.take_length] at hr
    have la : 0 < r.2.length := List.length_pos_iff.mpr ne
    have lR : r.2.length * R ≤ 480 := Nat.mul_le_mul al wb.r12
    have lrs : rs.length ≤ 12 := Nat.le_trans fr.len wb.r12
    (rw [Ev.x_cons]; simp [Ev.x_nil, Ev.s_exp, Ev.s_asgn, Ev.s_par2, Ev.s_ret, Ev.s_retn, Ev.s_ifs, Ev.s_pas, Ev.s_brk, Ev.s_cnt, Ev.s_for, Ev.e_var, Ev.e_int, Ev.e_bl, Ev.e_non, Ev.e_str, Ev.e_gc, Ev.e_fn, Ev.e_bin, Ev.e_neg, Ev.e_not, Ev.e_and, Ev.e_or, Ev.e_ite, Ev.e_cmp, Ev.e_chain, Ev.e_tup, Ev.e_lst, Ev.e_dct0, Ev.e_dct1, Ev.e_idx, Ev.e_slc, Ev.e_rev, Ev.e_fld, Ev.e_call, Ev.e_calk, Ev.e_calv, Ev.e_blt, Ev.e_mak, Ev.e_mth, Ev.e_omt, Ev.e_isi, Ev.e_cmpr, Ev.es_nil, Ev.es_cons, Ev.y_of, Ev.y_enum, Ev.y_zip, Ev.y_rng, Ev.y_rng2, Ev.y_items, Ev.y_vals, Ev.if_nil, Ev.if_cons, Ev.tg_nm, Ev.tg_tup, Ev.tg_idx, Ev.tg_fld, Ev.tgs_nil, Ev.tgs_cons, Ev.t_bl, Ev.t_int, Ev.t_tup, Ev.t_non, Ev.t_fl, Ev.r_val, Ev.r_new, Ev.o_lst, Ev.o_set, Ev.s_tup, Ev.s_fl, Ev.s_ref, Ev.l_fl, Ev.i_tup, Ev.a_0, Ev.a_1, Ev.a_2, Ev.a_3, Ev.a_4, Ev.a_nat, Ev.b_len, Ev.b_abs, Ev.b_max, Ev.b_min, Ev.b_int, Ev.b_inb, Ev.n_tup, Ev.d_add, Ev.d_sub, Ev.c_lt, Ev.c_le, Ev.c_gt, Ev.c_ge, Ev.w_lt, Ev.w_le, Ev.w_gt, Ev.w_ge, Ev.w_eqi, Ev.w_nei, Ev.w_neb, Ev.w_eqb, Ev.y_int, Ev.y_bl, Ev.y_tup, Ev.it_tup, Ev.z_slc2, Ev.mup_same, Ev.mup_mup, Ev.isPt, Ev.z_ii, Ev.z_bi, Ev.z_ib, Ev.z_ll, Ev.z_lt, Ev.z_tt, Ev.z_tl, Ev.z_cc, Ev.isiOk, Ev.Tgs.len, Ev.wipe, l_ref mq])
    intro fd hfd
    refine cmpL_map rs nI (fun r => nP (0, r)) hfd (by omega) (fun M' e' => seqOf_stays e' (seq_lst (l_ref mq))) (fun x hx M2 K e2 yes => ?_) fun M2 e2 mf => ?_
    · unfold Ev.bdK nI
      simp [Ev.x_nil, Ev.s_exp, Ev.s_asgn, Ev.s_par2, Ev.s_ret, Ev.s_retn, Ev.s_ifs, Ev.s_pas, Ev.s_brk, Ev.s_cnt, Ev.s_for, Ev.e_var, Ev.e_int, Ev.e_bl, Ev.e_non, Ev.e_str, Ev.e_gc, Ev.e_fn, Ev.e_bin, Ev.e_neg, Ev.e_not, Ev.e_and, Ev.e_or, Ev.e_ite, Ev.e_cmp, Ev.e_chain, Ev.e_tup, Ev.e_lst, Ev.e_dct0, Ev.e_dct1, Ev.e_idx, Ev.e_slc, Ev.e_rev, Ev.e_fld, Ev.e_call, Ev.e_calk, Ev.e_calv, Ev.e_blt, Ev.e_mak, Ev.e_mth, Ev.e_omt, Ev.e_isi, Ev.e_cmpr, Ev.es_nil, Ev.es_cons, Ev.y_of, Ev.y_enum, Ev.y_zip, Ev.y_rng, Ev.y_rng2, Ev.y_items, Ev.y_vals, Ev.if_nil, Ev.if_cons, Ev.tg_nm, Ev.tg_tup, Ev.tg_idx, Ev.tg_fld, Ev.tgs_nil, Ev.tgs_cons, Ev.t_bl, Ev.t_int, Ev.t_tup, Ev.t_non, Ev.t_fl, Ev.r_val, Ev.r_new, Ev.o_lst, Ev.o_set, Ev.s_tup, Ev.s_fl, Ev.s_ref, Ev.l_fl, Ev.i_tup, Ev.a_0, Ev.a_1, Ev.a_2, Ev.a_3, Ev.a_4, Ev.a_nat, Ev.b_len, Ev.b_abs, Ev.b_max, Ev.b_min, Ev.b_int, Ev.b_inb, Ev.n_tup, Ev.d_add, Ev.d_sub, Ev.c_lt, Ev.c_le, Ev.c_gt, Ev.c_ge, Ev.w_lt, Ev.w_le, Ev.w_gt, Ev.w_ge, Ev.w_eqi, Ev.w_nei, Ev.w_neb, Ev.w_eqb, Ev.y_int, Ev.y_bl, Ev.y_tup, Ev.it_tup, Ev.z_slc2, Ev.mup_same, Ev.mup_mup, Ev.isPt, Ev.z_ii, Ev.z_bi, Ev.z_ib, Ev.z_ll, Ev.z_lt, Ev.z_tt, Ev.z_tl, Ev.z_cc, Ev.isiOk, Ev.Tgs.len, Ev.wipe, two]
      exact yes M2 Ext.refl
    have mf2 : M2 fd = some (.lst ((rs.map fun r => (0, r)).map nP)) := by rw [mf, List.map_map]; rfl
    have eM := e.trans e2
    have hfd0 : M fd = none := e.non hfd
    have bd := wl_bd wb ne fr.lt (ws := ws) (a := r.2)
    have ln := wl_len wb ne fr (ws := ws) (a := r.2)
    have rn : ∀ {n x}, (wl (scN ws r.2) (rs.map fun r => (0, r)) n).length ≤ n → (x ∈ wl (scN ws r.2) (rs.map fun r => (0, r)) n ↔ RN ws r.1 r.2 x) := fun h => by rw [wl_mem h, rea_rn ne hr]
    have w0 : wl (scN ws r.2) (rs.map fun r => (0, r)) 0 = rs.map fun r => (0, r) := rfl
    have wsome := @wl_some Nd _ (scN ws r.2) (rs.map fun r => (0, r))
    clear mf hr
    clear e mq hfd
    rw [← w0] at mf2
    generalize hW : wl (scN ws r.2) (rs.map fun r => (0, r)) = W at *
    clear hW w0
    (rw [Ev.x_cons]; simp [Ev.x_nil, Ev.s_exp, Ev.s_asgn, Ev.s_par2, Ev.s_ret, Ev.s_retn, Ev.s_ifs, Ev.s_pas, Ev.s_brk, Ev.s_cnt, Ev.s_for, Ev.e_var, Ev.e_int, Ev.e_bl, Ev.e_non, Ev.e_str, Ev.e_gc, Ev.e_fn, Ev.e_bin, Ev.e_neg, Ev.e_not, Ev.e_and, Ev.e_or, Ev.e_ite, Ev.e_cmp, Ev.e_chain, Ev.e_tup, Ev.e_lst, Ev.e_dct0, Ev.e_dct1, Ev.e_idx, Ev.e_slc, Ev.e_rev, Ev.e_fld, Ev.e_call, Ev.e_calk, Ev.e_calv, Ev.e_blt, Ev.e_mak, Ev.e_mth, Ev.e_omt, Ev.e_isi, Ev.e_cmpr, Ev.es_nil, Ev.es_cons, Ev.y_of, Ev.y_enum, Ev.y_zip, Ev.y_rng, Ev.y_rng2, Ev.y_items, Ev.y_vals, Ev.if_nil, Ev.if_cons, Ev.tg_nm, Ev.tg_tup, Ev.tg_idx, Ev.tg_fld, Ev.tgs_nil, Ev.tgs_cons, Ev.t_bl, Ev.t_int, Ev.t_tup, Ev.t_non, Ev.t_fl, Ev.r_val, Ev.r_new, Ev.o_lst, Ev.o_set, Ev.s_tup, Ev.s_fl, Ev.s_ref, Ev.l_fl, Ev.i_tup, Ev.a_0, Ev.a_1, Ev.a_2, Ev.a_3, Ev.a_4, Ev.a_nat, Ev.b_len, Ev.b_abs, Ev.b_max, Ev.b_min, Ev.b_int, Ev.b_inb, Ev.n_tup, Ev.d_add, Ev.d_sub, Ev.c_lt, Ev.c_le, Ev.c_gt, Ev.c_ge, Ev.w_lt, Ev.w_le, Ev.w_gt, Ev.w_ge, Ev.w_eqi, Ev.w_nei, Ev.w_neb, Ev.w_eqb, Ev.y_int, Ev.y_bl, Ev.y_tup, Ev.it_tup, Ev.z_slc2, Ev.mup_same, Ev.mup_mup, Ev.isPt, Ev.z_ii, Ev.z_bi, Ev.z_ib, Ev.z_ll, Ev.z_lt, Ev.z_tt, Ev.z_tl, Ev.z_cc, Ev.isiOk, Ev.Tgs.len, Ev.wipe])
    rw [Ev.x_cons]
    obtain ⟨I, hI⟩ : ∃ I : Nat → Ev.St → MH → Prop, I = fun n σ M2 => ∃ (i : Nat) (a b c d e : Option PV), σ = [some v, some (.tup [.tup (r.1.map nI), .tup (r.2.map nI)]), some (.tup (r.1.map nI)), some (.tup (r.2.map nI)), some (.ref q1), a, b, c, some (.ref fd), some (.int i), d, e, none, none, none, none, none] ∧ Ext M M2 ∧ M2 fd = some (.lst ((W i).map nP)) ∧ n + i = 481 := ⟨_, rfl⟩
    refine whl_ind (Cn_mono T F _) I 481 (by
      rw [hI]
      exact ⟨0, _, _, _, _, _, rfl, eM, mf2, rfl⟩) fun n σ M3 h1 => ?_
    rw [hI] at h1
    obtain ⟨i, a, b, c, d, e', rfl, e, mf, hn⟩ := h1
    simp [Ev.x_nil, Ev.s_exp, Ev.s_asgn, Ev.s_par2, Ev.s_ret, Ev.s_retn, Ev.s_ifs, Ev.s_pas, Ev.s_brk, Ev.s_cnt, Ev.s_for, Ev.e_var, Ev.e_int, Ev.e_bl, Ev.e_non, Ev.e_str, Ev.e_gc, Ev.e_fn, Ev.e_bin, Ev.e_neg, Ev.e_not, Ev.e_and, Ev.e_or, Ev.e_ite, Ev.e_cmp, Ev.e_chain, Ev.e_tup, Ev.e_lst, Ev.e_dct0, Ev.e_dct1, Ev.e_idx, Ev.e_slc, Ev.e_rev, Ev.e_fld, Ev.e_call, Ev.e_calk, Ev.e_calv, Ev.e_blt, Ev.e_mak, Ev.e_mth, Ev.e_omt, Ev.e_isi, Ev.e_cmpr, Ev.es_nil, Ev.es_cons, Ev.y_of, Ev.y_enum, Ev.y_zip, Ev.y_rng, Ev.y_rng2, Ev.y_items, Ev.y_vals, Ev.if_nil, Ev.if_cons, Ev.tg_nm, Ev.tg_tup, Ev.tg_idx, Ev.tg_fld, Ev.tgs_nil, Ev.tgs_cons, Ev.t_bl, Ev.t_int, Ev.t_tup, Ev.t_non, Ev.t_fl, Ev.r_val, Ev.r_new, Ev.o_lst, Ev.o_set, Ev.s_tup, Ev.s_fl, Ev.s_ref, Ev.l_fl, Ev.i_tup, Ev.a_0, Ev.a_1, Ev.a_2, Ev.a_3, Ev.a_4, Ev.a_nat, Ev.b_len, Ev.b_abs, Ev.b_max, Ev.b_min, Ev.b_int, Ev.b_inb, Ev.n_tup, Ev.d_add, Ev.d_sub, Ev.c_lt, Ev.c_le, Ev.c_gt, Ev.c_ge, Ev.w_lt, Ev.w_le, Ev.w_gt, Ev.w_ge, Ev.w_eqi, Ev.w_nei, Ev.w_neb, Ev.w_eqb, Ev.y_int, Ev.y_bl, Ev.y_tup, Ev.it_tup, Ev.z_slc2, Ev.mup_same, Ev.mup_mup, Ev.isPt, Ev.z_ii, Ev.z_bi, Ev.z_ib, Ev.z_ll, Ev.z_lt, Ev.z_tt, Ev.z_tl, Ev.z_cc, Ev.isiOk, Ev.Tgs.len, Ev.wipe, n_lst mf]
    by_cases full : (W i).length ≤ i
    · refine .inl ⟨full, ?_⟩
      have rnI := fun x => rn (x := x) full
      have bdI := bd i
      have lnI : (W i).length ≤ 480 := Nat.le_trans (ln i) lR
      (rw [Ev.x_cons]; simp [Ev.x_nil, Ev.s_exp, Ev.s_asgn, Ev.s_par2, Ev.s_ret, Ev.s_retn, Ev.s_ifs, Ev.s_pas, Ev.s_brk, Ev.s_cnt, Ev.s_for, Ev.e_var, Ev.e_int, Ev.e_bl, Ev.e_non, Ev.e_str, Ev.e_gc, Ev.e_fn, Ev.e_bin, Ev.e_neg, Ev.e_not, Ev.e_and, Ev.e_or, Ev.e_ite, Ev.e_cmp, Ev.e_chain, Ev.e_tup, Ev.e_lst, Ev.e_dct0, Ev.e_dct1, Ev.e_idx, Ev.e_slc, Ev.e_rev, Ev.e_fld, Ev.e_call, Ev.e_calk, Ev.e_calv, Ev.e_blt, Ev.e_mak, Ev.e_mth, Ev.e_omt, Ev.e_isi, Ev.e_cmpr, Ev.es_nil, Ev.es_cons, Ev.y_of, Ev.y_enum, Ev.y_zip, Ev.y_rng, Ev.y_rng2, Ev.y_items, Ev.y_vals, Ev.if_nil, Ev.if_cons, Ev.tg_nm, Ev.tg_tup, Ev.tg_idx, Ev.tg_fld, Ev.tgs_nil, Ev.tgs_cons, Ev.t_bl, Ev.t_int, Ev.t_tup, Ev.t_non, Ev.t_fl, Ev.r_val, Ev.r_new, Ev.o_lst, Ev.o_set, Ev.s_tup, Ev.s_fl, Ev.s_ref, Ev.l_fl, Ev.i_tup, Ev.a_0, Ev.a_1, Ev.a_2, Ev.a_3, Ev.a_4, Ev.a_nat, Ev.b_len, Ev.b_abs, Ev.b_max, Ev.b_min, Ev.b_int, Ev.b_inb, Ev.n_tup, Ev.d_add, Ev.d_sub, Ev.c_lt, Ev.c_le, Ev.c_gt, Ev.c_ge, Ev.w_lt, Ev.w_le, Ev.w_gt, Ev.w_ge, Ev.w_eqi, Ev.w_nei, Ev.w_neb, Ev.w_eqb, Ev.y_int, Ev.y_bl, Ev.y_tup, Ev.it_tup, Ev.z_slc2, Ev.mup_same, Ev.mup_mup, Ev.isPt, Ev.z_ii, Ev.z_bi, Ev.z_ib, Ev.z_ll, Ev.z_lt, Ev.z_tt, Ev.z_tl, Ev.z_cc, Ev.isiOk, Ev.Tgs.len, Ev.wipe, n_lst mf, two])
      rw [Ev.x_cons]
      obtain ⟨I2, hI2⟩ : ∃ I2 : Nat → Ev.St → MH → Prop, I2 = fun n σ M2 => ∃ pl ls m b c d f g, σ = [some v, some (.tup [.tup (r.1.map nI), .tup (r.2.map nI)]), some (.tup (r.1.map nI)), some (.tup (r.2.map nI)), some (.ref q1), a, b, c, some (.ref fd), some (.int i), d, e', some (.ref pl), some (.int (m : Nat)), f, g, none] ∧ Ext M M2 ∧ M2 pl = some (.lst (ls.map nP)) ∧ Stay (okN ws r.2) (W i) ls ∧ ls.length ≤ 480 ∧ n = m ∧ ((m = ls.length + 1) ∨ ∃ prev : List Nd, m = prev.length ∧ ls = prev.filter (okN ws r.2 prev)) := ⟨_, rfl⟩
      have ce : ((W i).length : Int) + 1 = (((W i).length + 1 : Nat) : Int) := by omega
      refine whl_ind (Cn_mono T F _) I2 ((W i).length + 1) (by
        rw [hI2]
        exact ⟨fd, W i, (W i).length + 1, _, _, _, _, _, by rw [ce], e, mf, Stay.refl, lnI, rfl, .inl rfl⟩) fun n σ M4 h1 => ?_
      rw [hI2] at h1
      obtain ⟨pl, ls, m, b, c, d, f, g, rfl, e, ml, st, ll, rfl, hm⟩ := h1
      simp [Ev.x_nil, Ev.s_exp, Ev.s_asgn, Ev.s_par2, Ev.s_ret, Ev.s_retn, Ev.s_ifs, Ev.s_pas, Ev.s_brk, Ev.s_cnt, Ev.s_for, Ev.e_var, Ev.e_int, Ev.e_bl, Ev.e_non, Ev.e_str, Ev.e_gc, Ev.e_fn, Ev.e_bin, Ev.e_neg, Ev.e_not, Ev.e_and, Ev.e_or, Ev.e_ite, Ev.e_cmp, Ev.e_chain, Ev.e_tup, Ev.e_lst, Ev.e_dct0, Ev.e_dct1, Ev.e_idx, Ev.e_slc, Ev.e_rev, Ev.e_fld, Ev.e_call, Ev.e_calk, Ev.e_calv, Ev.e_blt, Ev.e_mak, Ev.e_mth, Ev.e_omt, Ev.e_isi, Ev.e_cmpr, Ev.es_nil, Ev.es_cons, Ev.y_of, Ev.y_enum, Ev.y_zip, Ev.y_rng, Ev.y_rng2, Ev.y_items, Ev.y_vals, Ev.if_nil, Ev.if_cons, Ev.tg_nm, Ev.tg_tup, Ev.tg_idx, Ev.tg_fld, Ev.tgs_nil, Ev.tgs_cons, Ev.t_bl, Ev.t_int, Ev.t_tup, Ev.t_non, Ev.t_fl, Ev.r_val, Ev.r_new, Ev.o_lst, Ev.o_set, Ev.s_tup, Ev.s_fl, Ev.s_ref, Ev.l_fl, Ev.i_tup, Ev.a_0, Ev.a_1, Ev.a_2, Ev.a_3, Ev.a_4, Ev.a_nat, Ev.b_len, Ev.b_abs, Ev.b_max, Ev.b_min, Ev.b_int, Ev.b_inb, Ev.n_tup, Ev.d_add, Ev.d_sub, Ev.c_lt, Ev.c_le, Ev.c_gt, Ev.c_ge, Ev.w_lt, Ev.w_le, Ev.w_gt, Ev.w_ge, Ev.w_eqi, Ev.w_nei, Ev.w_neb, Ev.w_eqb, Ev.y_int, Ev.y_bl, Ev.y_tup, Ev.it_tup, Ev.z_slc2, Ev.mup_same, Ev.mup_mup, Ev.isPt, Ev.z_ii, Ev.z_bi, Ev.z_ib, Ev.z_ll, Ev.z_lt, Ev.z_tt, Ev.z_tl, Ev.z_cc, Ev.isiOk, Ev.Tgs.len, Ev.wipe, n_lst ml]
      by_cases more : ls.length < n
      · refine .inr ⟨more, fun K hK => ?_⟩
        (rw [Ev.x_cons]; simp [Ev.x_nil, Ev.s_exp, Ev.s_asgn, Ev.s_par2, Ev.s_ret, Ev.s_retn, Ev.s_ifs, Ev.s_pas, Ev.s_brk, Ev.s_cnt, Ev.s_for, Ev.e_var, Ev.e_int, Ev.e_bl, Ev.e_non, Ev.e_str, Ev.e_gc, Ev.e_fn, Ev.e_bin, Ev.e_neg, Ev.e_not, Ev.e_and, Ev.e_or, Ev.e_ite, Ev.e_cmp, Ev.e_chain, Ev.e_tup, Ev.e_lst, Ev.e_dct0, Ev.e_dct1, Ev.e_idx, Ev.e_slc, Ev.e_rev, Ev.e_fld, Ev.e_call, Ev.e_calk, Ev.e_calv, Ev.e_blt, Ev.e_mak, Ev.e_mth, Ev.e_omt, Ev.e_isi, Ev.e_cmpr, Ev.es_nil, Ev.es_cons, Ev.y_of, Ev.y_enum, Ev.y_zip, Ev.y_rng, Ev.y_rng2, Ev.y_items, Ev.y_vals, Ev.if_nil, Ev.if_cons, Ev.tg_nm, Ev.tg_tup, Ev.tg_idx, Ev.tg_fld, Ev.tgs_nil, Ev.tgs_cons, Ev.t_bl, Ev.t_int, Ev.t_tup, Ev.t_non, Ev.t_fl, Ev.r_val, Ev.r_new, Ev.o_lst, Ev.o_set, Ev.s_tup, Ev.s_fl, Ev.s_ref, Ev.l_fl, Ev.i_tup, Ev.a_0, Ev.a_1, Ev.a_2, Ev.a_3, Ev.a_4, Ev.a_nat, Ev.b_len, Ev.b_abs, Ev.b_max, Ev.b_min, Ev.b_int, Ev.b_inb, Ev.n_tup, Ev.d_add, Ev.d_sub, Ev.c_lt, Ev.c_le, Ev.c_gt, Ev.c_ge, Ev.w_lt, Ev.w_le, Ev.w_gt, Ev.w_ge, Ev.w_eqi, Ev.w_nei, Ev.w_neb, Ev.w_eqb, Ev.y_int, Ev.y_bl, Ev.y_tup, Ev.it_tup, Ev.z_slc2, Ev.mup_same, Ev.mup_mup, Ev.isPt, Ev.z_ii, Ev.z_bi, Ev.z_ib, Ev.z_ll, Ev.z_lt, Ev.z_tt, Ev.z_tl, Ev.z_cc, Ev.isiOk, Ev.Tgs.len, Ev.wipe, n_lst ml])
        intro kd hkd
        have e5 := Ext.new (o := .lst []) hkd
        have mk5 : (mup M4 kd (.lst [])) kd = some (.lst (([] : List Nd).map nP)) := mup_same
        have hkd0 := e.non hkd
        have kl : kd ≠ pl := by
          rintro rfl
          rw [hkd] at ml
          cases ml
        have ml5 := e5 _ _ ml
        have eM5 := e.trans e5
        generalize mup M4 kd (.lst []) = M5 at *
        (rw [Ev.x_cons]; simp [Ev.x_nil, Ev.s_exp, Ev.s_asgn, Ev.s_par2, Ev.s_ret, Ev.s_retn, Ev.s_ifs, Ev.s_pas, Ev.s_brk, Ev.s_cnt, Ev.s_for, Ev.e_var, Ev.e_int, Ev.e_bl, Ev.e_non, Ev.e_str, Ev.e_gc, Ev.e_fn, Ev.e_bin, Ev.e_neg, Ev.e_not, Ev.e_and, Ev.e_or, Ev.e_ite, Ev.e_cmp, Ev.e_chain, Ev.e_tup, Ev.e_lst, Ev.e_dct0, Ev.e_dct1, Ev.e_idx, Ev.e_slc, Ev.e_rev, Ev.e_fld, Ev.e_call, Ev.e_calk, Ev.e_calv, Ev.e_blt, Ev.e_mak, Ev.e_mth, Ev.e_omt, Ev.e_isi, Ev.e_cmpr, Ev.es_nil, Ev.es_cons, Ev.y_of, Ev.y_enum, Ev.y_zip, Ev.y_rng, Ev.y_rng2, Ev.y_items, Ev.y_vals, Ev.if_nil, Ev.if_cons, Ev.tg_nm, Ev.tg_tup, Ev.tg_idx, Ev.tg_fld, Ev.tgs_nil, Ev.tgs_cons, Ev.t_bl, Ev.t_int, Ev.t_tup, Ev.t_non, Ev.t_fl, Ev.r_val, Ev.r_new, Ev.o_lst, Ev.o_set, Ev.s_tup, Ev.s_fl, Ev.s_ref, Ev.l_fl, Ev.i_tup, Ev.a_0, Ev.a_1, Ev.a_2, Ev.a_3, Ev.a_4, Ev.a_nat, Ev.b_len, Ev.b_abs, Ev.b_max, Ev.b_min, Ev.b_int, Ev.b_inb, Ev.n_tup, Ev.d_add, Ev.d_sub, Ev.c_lt, Ev.c_le, Ev.c_gt, Ev.c_ge, Ev.w_lt, Ev.w_le, Ev.w_gt, Ev.w_ge, Ev.w_eqi, Ev.w_nei, Ev.w_neb, Ev.w_eqb, Ev.y_int, Ev.y_bl, Ev.y_tup, Ev.it_tup, Ev.z_slc2, Ev.mup_same, Ev.mup_mup, Ev.isPt, Ev.z_ii, Ev.z_bi, Ev.z_ib, Ev.z_ll, Ev.z_lt, Ev.z_tt, Ev.z_tl, Ev.z_cc, Ev.isiOk, Ev.Tgs.len, Ev.wipe, l_ref ml5])
        refine forL_fold nP ls (fun s x => if okN ws r.2 ls x = true then s ++ [x] else s) (s0 := []) (fun s σ M' => (∃ c d g, σ = [some v, some (.tup [.tup (r.1.map nI), .tup (r.2.map nI)]), some (.tup (r.1.map nI)), some (.tup (r.2.map nI)), some (.ref q1), a, b, c, some (.ref fd), some (.int i), d, e', some (.ref pl), some (.int ls.length), some (.ref kd), g, none]) ∧ Ext M M' ∧ M' kd = some (.lst (s.map nP)) ∧ M' pl = some (.lst (ls.map nP)) ∧ s.length ≤ 480) (fun s σ M1 h => ?_) (fun s x σ M6 K p2 q2 hpq hs h1 hk => ?_) (fun σ M6 h1 => ?_) ⟨⟨_, _, _, rfl⟩, eM5, mk5, ml5, by simp⟩
        · show M1 pl = M5 pl
          rw [h.2.2.2.1, ml5]
        · obtain ⟨⟨c, d, g, rfl⟩, e, mk, ml, sl⟩ := h1
          have xb := bdI x (st.sub x (by rw [hpq]; simp))
          have hp : (r.2.map nI)[x.1]? = some (.int (r.2.getD x.1 0 : Nat)) := by
            rw [List.getElem?_map, List.getElem?_eq_getElem xb.1, List.getD_eq_getElem?_getD, List.getElem?_eq_getElem xb.1]
            rfl
          have okE : okN ws r.2 ls x = ((((byW ws x.2 (r.2.getD x.1 0)).filter fun w => decide (w.2.2.2 = 0)).filter fun w => decide ((nxt r.2 x.1, w.2.2.1) ∈ ls)) != []) := rfl
          obtain ⟨l, hl⟩ : ∃ l, r.2.getD x.1 0 = l := ⟨_, rfl⟩
          rw [hl] at hp okE
          have sl2 : (if okN ws r.2 ls x = true then s ++ [x] else s).length ≤ 480 := by
            have h1 : (if okN ws r.2 ls x = true then s ++ [x] else s) <+: ls.filter (okN ws r.2 ls) := by
              have : (if okN ws r.2 ls x = true then s ++ [x] else s) = (p2 ++ [x]).filter (okN ws r.2 ls) := by
                rw [hs, fold_filter, List.filter_append, List.nil_append, List.filter_cons]
                by_cases c : okN ws r.2 ls x = true
                · simp [c]
                · simp [c]
              refine ⟨q2.filter (okN ws r.2 ls), ?_⟩
              rw [this, ← List.filter_append]
              congr 1
              rw [hpq]
              simp
            exact Nat.le_trans h1.length_le (Nat.le_trans (List.length_filter_le ..) ll)
          unfold bdF nP
          simp [Ev.x_nil, Ev.s_exp, Ev.s_asgn, Ev.s_par2, Ev.s_ret, Ev.s_retn, Ev.s_ifs, Ev.s_pas, Ev.s_brk, Ev.s_cnt, Ev.s_for, Ev.e_var, Ev.e_int, Ev.e_bl, Ev.e_non, Ev.e_str, Ev.e_gc, Ev.e_fn, Ev.e_bin, Ev.e_neg, Ev.e_not, Ev.e_and, Ev.e_or, Ev.e_ite, Ev.e_cmp, Ev.e_chain, Ev.e_tup, Ev.e_lst, Ev.e_dct0, Ev.e_dct1, Ev.e_idx, Ev.e_slc, Ev.e_rev, Ev.e_fld, Ev.e_call, Ev.e_calk, Ev.e_calv, Ev.e_blt, Ev.e_mak, Ev.e_mth, Ev.e_omt, Ev.e_isi, Ev.e_cmpr, Ev.es_nil, Ev.es_cons, Ev.y_of, Ev.y_enum, Ev.y_zip, Ev.y_rng, Ev.y_rng2, Ev.y_items, Ev.y_vals, Ev.if_nil, Ev.if_cons, Ev.tg_nm, Ev.tg_tup, Ev.tg_idx, Ev.tg_fld, Ev.tgs_nil, Ev.tgs_cons, Ev.t_bl, Ev.t_int, Ev.t_tup, Ev.t_non, Ev.t_fl, Ev.r_val, Ev.r_new, Ev.o_lst, Ev.o_set, Ev.s_tup, Ev.s_fl, Ev.s_ref, Ev.l_fl, Ev.i_tup, Ev.a_0, Ev.a_1, Ev.a_2, Ev.a_3, Ev.a_4, Ev.a_nat, Ev.b_len, Ev.b_abs, Ev.b_max, Ev.b_min, Ev.b_int, Ev.b_inb, Ev.n_tup, Ev.d_add, Ev.d_sub, Ev.c_lt, Ev.c_le, Ev.c_gt, Ev.c_ge, Ev.w_lt, Ev.w_le, Ev.w_gt, Ev.w_ge, Ev.w_eqi, Ev.w_nei, Ev.w_neb, Ev.w_eqb, Ev.y_int, Ev.y_bl, Ev.y_tup, Ev.it_tup, Ev.z_slc2, Ev.mup_same, Ev.mup_mup, Ev.isPt, Ev.z_ii, Ev.z_bi, Ev.z_ib, Ev.z_ll, Ev.z_lt, Ev.z_tt, Ev.z_tl, Ev.z_cc, Ev.isiOk, Ev.Tgs.len, Ev.wipe]
          (rw [Ev.x_cons]; simp [Ev.x_nil, Ev.s_exp, Ev.s_asgn, Ev.s_par2, Ev.s_ret, Ev.s_retn, Ev.s_ifs, Ev.s_pas, Ev.s_brk, Ev.s_cnt, Ev.s_for, Ev.e_var, Ev.e_int, Ev.e_bl, Ev.e_non, Ev.e_str, Ev.e_gc, Ev.e_fn, Ev.e_bin, Ev.e_neg, Ev.e_not, Ev.e_and, Ev.e_or, Ev.e_ite, Ev.e_cmp, Ev.e_chain, Ev.e_tup, Ev.e_lst, Ev.e_dct0, Ev.e_dct1, Ev.e_idx, Ev.e_slc, Ev.e_rev, Ev.e_fld, Ev.e_call, Ev.e_calk, Ev.e_calv, Ev.e_blt, Ev.e_mak, Ev.e_mth, Ev.e_omt, Ev.e_isi, Ev.e_cmpr, Ev.es_nil, Ev.es_cons, Ev.y_of, Ev.y_enum, Ev.y_zip, Ev.y_rng, Ev.y_rng2, Ev.y_items, Ev.y_vals, Ev.if_nil, Ev.if_cons, Ev.tg_nm, Ev.tg_tup, Ev.tg_idx, Ev.tg_fld, Ev.tgs_nil, Ev.tgs_cons, Ev.t_bl, Ev.t_int, Ev.t_tup, Ev.t_non, Ev.t_fl, Ev.r_val, Ev.r_new, Ev.o_lst, Ev.o_set, Ev.s_tup, Ev.s_fl, Ev.s_ref, Ev.l_fl, Ev.i_tup, Ev.a_0, Ev.a_1, Ev.a_2, Ev.a_3, Ev.a_4, Ev.a_nat, Ev.b_len, Ev.b_abs, Ev.b_max, Ev.b_min, Ev.b_int, Ev.b_inb, Ev.n_tup, Ev.d_add, Ev.d_sub, Ev.c_lt, Ev.c_le, Ev.c_gt, Ev.c_ge, Ev.w_lt, Ev.w_le, Ev.w_gt, Ev.w_ge, Ev.w_eqi, Ev.w_nei, Ev.w_neb, Ev.w_eqb, Ev.y_int, Ev.y_bl, Ev.y_tup, Ev.it_tup, Ev.z_slc2, Ev.mup_same, Ev.mup_mup, Ev.isPt, Ev.z_ii, Ev.z_bi, Ev.z_ib, Ev.z_ll, Ev.z_lt, Ev.z_tt, Ev.z_tl, Ev.z_cc, Ev.isiOk, Ev.Tgs.len, Ev.wipe, hp])
          refine w_by h (lstOf_ext e hv) (by have := wb.len; omega) fun pb M7 hpb e7 mb => ?_
          simp [Ev.x_nil, Ev.s_exp, Ev.s_asgn, Ev.s_par2, Ev.s_ret, Ev.s_retn, Ev.s_ifs, Ev.s_pas, Ev.s_brk, Ev.s_cnt, Ev.s_for, Ev.e_var, Ev.e_int, Ev.e_bl, Ev.e_non, Ev.e_str, Ev.e_gc, Ev.e_fn, Ev.e_bin, Ev.e_neg, Ev.e_not, Ev.e_and, Ev.e_or, Ev.e_ite, Ev.e_cmp, Ev.e_chain, Ev.e_tup, Ev.e_lst, Ev.e_dct0, Ev.e_dct1, Ev.e_idx, Ev.e_slc, Ev.e_rev, Ev.e_fld, Ev.e_call, Ev.e_calk, Ev.e_calv, Ev.e_blt, Ev.e_mak, Ev.e_mth, Ev.e_omt, Ev.e_isi, Ev.e_cmpr, Ev.es_nil, Ev.es_cons, Ev.y_of, Ev.y_enum, Ev.y_zip, Ev.y_rng, Ev.y_rng2, Ev.y_items, Ev.y_vals, Ev.if_nil, Ev.if_cons, Ev.tg_nm, Ev.tg_tup, Ev.tg_idx, Ev.tg_fld, Ev.tgs_nil, Ev.tgs_cons, Ev.t_bl, Ev.t_int, Ev.t_tup, Ev.t_non, Ev.t_fl, Ev.r_val, Ev.r_new, Ev.o_lst, Ev.o_set, Ev.s_tup, Ev.s_fl, Ev.s_ref, Ev.l_fl, Ev.i_tup, Ev.a_0, Ev.a_1, Ev.a_2, Ev.a_3, Ev.a_4, Ev.a_nat, Ev.b_len, Ev.b_abs, Ev.b_max, Ev.b_min, Ev.b_int, Ev.b_inb, Ev.n_tup, Ev.d_add, Ev.d_sub, Ev.c_lt, Ev.c_le, Ev.c_gt, Ev.c_ge, Ev.w_lt, Ev.w_le, Ev.w_gt, Ev.w_ge, Ev.w_eqi, Ev.w_nei, Ev.w_neb, Ev.w_eqb, Ev.y_int, Ev.y_bl, Ev.y_tup, Ev.it_tup, Ev.z_slc2, Ev.mup_same, Ev.mup_mup, Ev.isPt, Ev.z_ii, Ev.z_bi, Ev.z_ib, Ev.z_ll, Ev.z_lt, Ev.z_tt, Ev.z_tl, Ev.z_cc, Ev.isiOk, Ev.Tgs.len, Ev.wipe, l_ref mb]
          intro pc hpc
          have lb : (byW ws x.2 l).length < 64 := Nat.lt_of_le_of_lt (List.length_filter_le ..) wb.len
          refine cmpL_filter (byW ws x.2 l) wp (fun w => decide (w.2.2.2 = 0)) wp hpc (by omega) (fun M' e' => seqOf_stays e' (seq_lst (l_ref mb))) (fun w hw M8 K e8 yes no => ?_) fun M8 e8 mc => ?_
          · unfold Ev.bdK wp
            simp [Ev.x_nil, Ev.s_exp, Ev.s_asgn, Ev.s_par2, Ev.s_ret, Ev.s_retn, Ev.s_ifs, Ev.s_pas, Ev.s_brk, Ev.s_cnt, Ev.s_for, Ev.e_var, Ev.e_int, Ev.e_bl, Ev.e_non, Ev.e_str, Ev.e_gc, Ev.e_fn, Ev.e_bin, Ev.e_neg, Ev.e_not, Ev.e_and, Ev.e_or, Ev.e_ite, Ev.e_cmp, Ev.e_chain, Ev.e_tup, Ev.e_lst, Ev.e_dct0, Ev.e_dct1, Ev.e_idx, Ev.e_slc, Ev.e_rev, Ev.e_fld, Ev.e_call, Ev.e_calk, Ev.e_calv, Ev.e_blt, Ev.e_mak, Ev.e_mth, Ev.e_omt, Ev.e_isi, Ev.e_cmpr, Ev.es_nil, Ev.es_cons, Ev.y_of, Ev.y_enum, Ev.y_zip, Ev.y_rng, Ev.y_rng2, Ev.y_items, Ev.y_vals, Ev.if_nil, Ev.if_cons, Ev.tg_nm, Ev.tg_tup, Ev.tg_idx, Ev.tg_fld, Ev.tgs_nil, Ev.tgs_cons, Ev.t_bl, Ev.t_int, Ev.t_tup, Ev.t_non, Ev.t_fl, Ev.r_val, Ev.r_new, Ev.o_lst, Ev.o_set, Ev.s_tup, Ev.s_fl, Ev.s_ref, Ev.l_fl, Ev.i_tup, Ev.a_0, Ev.a_1, Ev.a_2, Ev.a_3, Ev.a_4, Ev.a_nat, Ev.b_len, Ev.b_abs, Ev.b_max, Ev.b_min, Ev.b_int, Ev.b_inb, Ev.n_tup, Ev.d_add, Ev.d_sub, Ev.c_lt, Ev.c_le, Ev.c_gt, Ev.c_ge, Ev.w_lt, Ev.w_le, Ev.w_gt, Ev.w_ge, Ev.w_eqi, Ev.w_nei, Ev.w_neb, Ev.w_eqb, Ev.y_int, Ev.y_bl, Ev.y_tup, Ev.it_tup, Ev.z_slc2, Ev.mup_same, Ev.mup_mup, Ev.isPt, Ev.z_ii, Ev.z_bi, Ev.z_ib, Ev.z_ll, Ev.z_lt, Ev.z_tt, Ev.z_tl, Ev.z_cc, Ev.isiOk, Ev.Tgs.len, Ev.wipe]
            by_cases c1 : w.2.2.2 = 0
            · have := yes M8 (by simp [c1]) Ext.refl
              unfold wp at this
              simp only [c1, decide_true] at this ⊢
              exact this
            · simp only [c1, decide_false]
              exact no M8 (by simp [c1]) Ext.refl
          · have lc : ((byW ws x.2 l).filter fun w => decide (w.2.2.2 = 0)).length ≤ 64 := Nat.le_trans (List.length_filter_le ..) (Nat.le_of_lt lb)
            generalize ((byW ws x.2 l).filter fun w => decide (w.2.2.2 = 0)) = cs at *
            have ml8 := e8 _ _ (e7 _ _ ml)
            have mk8 := e8 _ _ (e7 _ _ mk)
            have lp : (0 : Int) < r.2.length := by omega
            (rw [Ev.x_cons]; simp [Ev.x_nil, Ev.s_exp, Ev.s_asgn, Ev.s_par2, Ev.s_ret, Ev.s_retn, Ev.s_ifs, Ev.s_pas, Ev.s_brk, Ev.s_cnt, Ev.s_for, Ev.e_var, Ev.e_int, Ev.e_bl, Ev.e_non, Ev.e_str, Ev.e_gc, Ev.e_fn, Ev.e_bin, Ev.e_neg, Ev.e_not, Ev.e_and, Ev.e_or, Ev.e_ite, Ev.e_cmp, Ev.e_chain, Ev.e_tup, Ev.e_lst, Ev.e_dct0, Ev.e_dct1, Ev.e_idx, Ev.e_slc, Ev.e_rev, Ev.e_fld, Ev.e_call, Ev.e_calk, Ev.e_calv, Ev.e_blt, Ev.e_mak, Ev.e_mth, Ev.e_omt, Ev.e_isi, Ev.e_cmpr, Ev.es_nil, Ev.es_cons, Ev.y_of, Ev.y_enum, Ev.y_zip, Ev.y_rng, Ev.y_rng2, Ev.y_items, Ev.y_vals, Ev.if_nil, Ev.if_cons, Ev.tg_nm, Ev.tg_tup, Ev.tg_idx, Ev.tg_fld, Ev.tgs_nil, Ev.tgs_cons, Ev.t_bl, Ev.t_int, Ev.t_tup, Ev.t_non, Ev.t_fl, Ev.r_val, Ev.r_new, Ev.o_lst, Ev.o_set, Ev.s_tup, Ev.s_fl, Ev.s_ref, Ev.l_fl, Ev.i_tup, Ev.a_0, Ev.a_1, Ev.a_2, Ev.a_3, Ev.a_4, Ev.a_nat, Ev.b_len, Ev.b_abs, Ev.b_max, Ev.b_min, Ev.b_int, Ev.b_inb, Ev.n_tup, Ev.d_add, Ev.d_sub, Ev.c_lt, Ev.c_le, Ev.c_gt, Ev.c_ge, Ev.w_lt, Ev.w_le, Ev.w_gt, Ev.w_ge, Ev.w_eqi, Ev.w_nei, Ev.w_neb, Ev.w_eqb, Ev.y_int, Ev.y_bl, Ev.y_tup, Ev.it_tup, Ev.z_slc2, Ev.mup_same, Ev.mup_mup, Ev.isPt, Ev.z_ii, Ev.z_bi, Ev.z_ib, Ev.z_ll, Ev.z_lt, Ev.z_tt, Ev.z_tl, Ev.z_cc, Ev.isiOk, Ev.Tgs.len, Ev.wipe, l_ref mc])
            intro pd hpd
            refine cmpL_filter cs wp (fun w => decide ((nxt r.2 x.1, w.2.2.1) ∈ ls)) (fun _ => PV.int 1) hpd (by omega) (fun M' e' => seqOf_stays e' (seq_lst (l_ref mc))) (fun w hw M9 K e9 yes no => ?_) fun M9 e9 md => ?_
            · have hin := enc_pair.in_ (a := (nxt r.2 x.1, w.2.2.1)) (e9 _ _ ml8)
              unfold Ev.bdK wp
              simp [Ev.x_nil, Ev.s_exp, Ev.s_asgn, Ev.s_par2, Ev.s_ret, Ev.s_retn, Ev.s_ifs, Ev.s_pas, Ev.s_brk, Ev.s_cnt, Ev.s_for, Ev.e_var, Ev.e_int, Ev.e_bl, Ev.e_non, Ev.e_str, Ev.e_gc, Ev.e_fn, Ev.e_bin, Ev.e_neg, Ev.e_not, Ev.e_and, Ev.e_or, Ev.e_ite, Ev.e_cmp, Ev.e_chain, Ev.e_tup, Ev.e_lst, Ev.e_dct0, Ev.e_dct1, Ev.e_idx, Ev.e_slc, Ev.e_rev, Ev.e_fld, Ev.e_call, Ev.e_calk, Ev.e_calv, Ev.e_blt, Ev.e_mak, Ev.e_mth, Ev.e_omt, Ev.e_isi, Ev.e_cmpr, Ev.es_nil, Ev.es_cons, Ev.y_of, Ev.y_enum, Ev.y_zip, Ev.y_rng, Ev.y_rng2, Ev.y_items, Ev.y_vals, Ev.if_nil, Ev.if_cons, Ev.tg_nm, Ev.tg_tup, Ev.tg_idx, Ev.tg_fld, Ev.tgs_nil, Ev.tgs_cons, Ev.t_bl, Ev.t_int, Ev.t_tup, Ev.t_non, Ev.t_fl, Ev.r_val, Ev.r_new, Ev.o_lst, Ev.o_set, Ev.s_tup, Ev.s_fl, Ev.s_ref, Ev.l_fl, Ev.i_tup, Ev.a_0, Ev.a_1, Ev.a_2, Ev.a_3, Ev.a_4, Ev.a_nat, Ev.b_len, Ev.b_abs, Ev.b_max, Ev.b_min, Ev.b_int, Ev.b_inb, Ev.n_tup, Ev.d_add, Ev.d_sub, Ev.c_lt, Ev.c_le, Ev.c_gt, Ev.c_ge, Ev.w_lt, Ev.w_le, Ev.w_gt, Ev.w_ge, Ev.w_eqi, Ev.w_nei, Ev.w_neb, Ev.w_eqb, Ev.y_int, Ev.y_bl, Ev.y_tup, Ev.it_tup, Ev.z_slc2, Ev.mup_same, Ev.mup_mup, Ev.isPt, Ev.z_ii, Ev.z_bi, Ev.z_ib, Ev.z_ll, Ev.z_lt, Ev.z_tt, Ev.z_tl, Ev.z_cc, Ev.isiOk, Ev.Tgs.len, Ev.wipe, d_mod lp, nxt_cast, two]
              refine (Ev.w_in hin).mpr ?_
              by_cases c1 : (nxt r.2 x.1, w.2.2.1) ∈ ls
              · simp only [c1, decide_true, Ev.t_bl]
                exact yes M9 (by simp [c1]) Ext.refl
              · simp only [c1, decide_false, Ev.t_bl]
                exact no M9 (by simp [c1]) Ext.refl
            · have md' : M9 pd = some (.lst (((cs.filter fun w => decide ((nxt r.2 x.1, w.2.2.1) ∈ ls)).map fun _ => (1 : Int)).map PV.int)) := by rw [md, List.map_map]; rfl
              refine w_ne_nil enc_int md' fun M10 e10 => ?_
              have emp : decide (((cs.filter fun w => decide ((nxt r.2 x.1, w.2.2.1) ∈ ls)).map fun _ => (1 : Int)) = []) = !okN ws r.2 ls x := by
                rw [okE]
                generalize (cs.filter fun w => decide ((nxt r.2 x.1, w.2.2.1) ∈ ls)) = zs
                cases zs <;> simp
              rw [emp, Bool.not_not]
              have mk10 := e10 _ _ (e9 _ _ mk8)
              have ml10 := e10 _ _ (e9 _ _ ml8)
              have eM10 := (((e.trans e7).trans e8).trans e9).trans e10
              have ls2 : s.length < sizeLine := by omega
              cases hok : okN ws r.2 ls x with
              | true =>
                rw [hok] at sl2
                have sl3 : (s ++ [x]).length ≤ 480 := sl2
                simp only [Ev.t_bl]
                (rw [Ev.x_cons]; simp [Ev.x_nil, Ev.s_exp, Ev.s_asgn, Ev.s_par2, Ev.s_ret, Ev.s_retn, Ev.s_ifs, Ev.s_pas, Ev.s_brk, Ev.s_cnt, Ev.s_for, Ev.e_var, Ev.e_int, Ev.e_bl, Ev.e_non, Ev.e_str, Ev.e_gc, Ev.e_fn, Ev.e_bin, Ev.e_neg, Ev.e_not, Ev.e_and, Ev.e_or, Ev.e_ite, Ev.e_cmp, Ev.e_chain, Ev.e_tup, Ev.e_lst, Ev.e_dct0, Ev.e_dct1, Ev.e_idx, Ev.e_slc, Ev.e_rev, Ev.e_fld, Ev.e_call, Ev.e_calk, Ev.e_calv, Ev.e_blt, Ev.e_mak, Ev.e_mth, Ev.e_omt, Ev.e_isi, Ev.e_cmpr, Ev.es_nil, Ev.es_cons, Ev.y_of, Ev.y_enum, Ev.y_zip, Ev.y_rng, Ev.y_rng2, Ev.y_items, Ev.y_vals, Ev.if_nil, Ev.if_cons, Ev.tg_nm, Ev.tg_tup, Ev.tg_idx, Ev.tg_fld, Ev.tgs_nil, Ev.tgs_cons, Ev.t_bl, Ev.t_int, Ev.t_tup, Ev.t_non, Ev.t_fl, Ev.r_val, Ev.r_new, Ev.o_lst, Ev.o_set, Ev.s_tup, Ev.s_fl, Ev.s_ref, Ev.l_fl, Ev.i_tup, Ev.a_0, Ev.a_1, Ev.a_2, Ev.a_3, Ev.a_4, Ev.a_nat, Ev.b_len, Ev.b_abs, Ev.b_max, Ev.b_min, Ev.b_int, Ev.b_inb, Ev.n_tup, Ev.d_add, Ev.d_sub, Ev.c_lt, Ev.c_le, Ev.c_gt, Ev.c_ge, Ev.w_lt, Ev.w_le, Ev.w_gt, Ev.w_ge, Ev.w_eqi, Ev.w_nei, Ev.w_neb, Ev.w_eqb, Ev.y_int, Ev.y_bl, Ev.y_tup, Ev.it_tup, Ev.z_slc2, Ev.mup_same, Ev.mup_mup, Ev.isPt, Ev.z_ii, Ev.z_bi, Ev.z_ib, Ev.z_ll, Ev.z_lt, Ev.z_tt, Ev.z_tl, Ev.z_cc, Ev.isiOk, Ev.Tgs.len, Ev.wipe, o_app mk10, u_app mk10, ls2, two])
                exact hk _ _ ⟨⟨_, _, _, rfl⟩, eM10.mup hkd0, by rw [hok, mup_same]; simp [nP], by rw [mup_ne (fun z => kl z.symm)]; exact ml10, by rw [hok]; exact sl2⟩
              | false =>
                simp only [Ev.t_bl, Ev.x_nil]
                exact hk _ _ ⟨⟨_, _, _, rfl⟩, eM10, by rw [hok]; exact mk10, ml10, by rw [hok]; exact sl⟩
        · rw [fold_filter, List.nil_append] at h1
          obtain ⟨⟨c, d, g, rfl⟩, e, mk, ml, sl⟩ := h1
          (rw [Ev.x_cons]; simp [Ev.x_nil, Ev.s_exp, Ev.s_asgn, Ev.s_par2, Ev.s_ret, Ev.s_retn, Ev.s_ifs, Ev.s_pas, Ev.s_brk, Ev.s_cnt, Ev.s_for, Ev.e_var, Ev.e_int, Ev.e_bl, Ev.e_non, Ev.e_str, Ev.e_gc, Ev.e_fn, Ev.e_bin, Ev.e_neg, Ev.e_not, Ev.e_and, Ev.e_or, Ev.e_ite, Ev.e_cmp, Ev.e_chain, Ev.e_tup, Ev.e_lst, Ev.e_dct0, Ev.e_dct1, Ev.e_idx, Ev.e_slc, Ev.e_rev, Ev.e_fld, Ev.e_call, Ev.e_calk, Ev.e_calv, Ev.e_blt, Ev.e_mak, Ev.e_mth, Ev.e_omt, Ev.e_isi, Ev.e_cmpr, Ev.es_nil, Ev.es_cons, Ev.y_of, Ev.y_enum, Ev.y_zip, Ev.y_rng, Ev.y_rng2, Ev.y_items, Ev.y_vals, Ev.if_nil, Ev.if_cons, Ev.tg_nm, Ev.tg_tup, Ev.tg_idx, Ev.tg_fld, Ev.tgs_nil, Ev.tgs_cons, Ev.t_bl, Ev.t_int, Ev.t_tup, Ev.t_non, Ev.t_fl, Ev.r_val, Ev.r_new, Ev.o_lst, Ev.o_set, Ev.s_tup, Ev.s_fl, Ev.s_ref, Ev.l_fl, Ev.i_tup, Ev.a_0, Ev.a_1, Ev.a_2, Ev.a_3, Ev.a_4, Ev.a_nat, Ev.b_len, Ev.b_abs, Ev.b_max, Ev.b_min, Ev.b_int, Ev.b_inb, Ev.n_tup, Ev.d_add, Ev.d_sub, Ev.c_lt, Ev.c_le, Ev.c_gt, Ev.c_ge, Ev.w_lt, Ev.w_le, Ev.w_gt, Ev.w_ge, Ev.w_eqi, Ev.w_nei, Ev.w_neb, Ev.w_eqb, Ev.y_int, Ev.y_bl, Ev.y_tup, Ev.it_tup, Ev.z_slc2, Ev.mup_same, Ev.mup_mup, Ev.isPt, Ev.z_ii, Ev.z_bi, Ev.z_ib, Ev.z_ll, Ev.z_lt, Ev.z_tt, Ev.z_tl, Ev.z_cc, Ev.isiOk, Ev.Tgs.len, Ev.wipe])
          refine hK ls.length _ _ (by omega) (by
            rw [hI2]
            exact ⟨kd, ls.filter (okN ws r.2 ls), ls.length, _, _, _, _, _, rfl, e, mk, st.next, sl, rfl, .inr ⟨ls, rfl, rfl⟩⟩)
      · refine .inl ⟨by omega, ?_⟩
        have ok : ∀ x ∈ ls, okN ws r.2 ls x = true := by
          rcases hm with hm | ⟨prev, hm, hl⟩
          · omega
          · have : prev.filter (okN ws r.2 prev) = prev := filter_all (by rw [← hl]; omega)
            rw [this] at hl
            subst hl
            exact fun x hx => List.filter_eq_self.mp this x hx
        have fin := lets_stay (b := r.1) ne rnI (fun l x => okN_iff) st ok
        (rw [Ev.x_cons]; simp [Ev.x_nil, Ev.s_exp, Ev.s_asgn, Ev.s_par2, Ev.s_ret, Ev.s_retn, Ev.s_ifs, Ev.s_pas, Ev.s_brk, Ev.s_cnt, Ev.s_for, Ev.e_var, Ev.e_int, Ev.e_bl, Ev.e_non, Ev.e_str, Ev.e_gc, Ev.e_fn, Ev.e_bin, Ev.e_neg, Ev.e_not, Ev.e_and, Ev.e_or, Ev.e_ite, Ev.e_cmp, Ev.e_chain, Ev.e_tup, Ev.e_lst, Ev.e_dct0, Ev.e_dct1, Ev.e_idx, Ev.e_slc, Ev.e_rev, Ev.e_fld, Ev.e_call, Ev.e_calk, Ev.e_calv, Ev.e_blt, Ev.e_mak, Ev.e_mth, Ev.e_omt, Ev.e_isi, Ev.e_cmpr, Ev.es_nil, Ev.es_cons, Ev.y_of, Ev.y_enum, Ev.y_zip, Ev.y_rng, Ev.y_rng2, Ev.y_items, Ev.y_vals, Ev.if_nil, Ev.if_cons, Ev.tg_nm, Ev.tg_tup, Ev.tg_idx, Ev.tg_fld, Ev.tgs_nil, Ev.tgs_cons, Ev.t_bl, Ev.t_int, Ev.t_tup, Ev.t_non, Ev.t_fl, Ev.r_val, Ev.r_new, Ev.o_lst, Ev.o_set, Ev.s_tup, Ev.s_fl, Ev.s_ref, Ev.l_fl, Ev.i_tup, Ev.a_0, Ev.a_1, Ev.a_2, Ev.a_3, Ev.a_4, Ev.a_nat, Ev.b_len, Ev.b_abs, Ev.b_max, Ev.b_min, Ev.b_int, Ev.b_inb, Ev.n_tup, Ev.d_add, Ev.d_sub, Ev.c_lt, Ev.c_le, Ev.c_gt, Ev.c_ge, Ev.w_lt, Ev.w_le, Ev.w_gt, Ev.w_ge, Ev.w_eqi, Ev.w_nei, Ev.w_neb, Ev.w_eqb, Ev.y_int, Ev.y_bl, Ev.y_tup, Ev.it_tup, Ev.z_slc2, Ev.mup_same, Ev.mup_mup, Ev.isPt, Ev.z_ii, Ev.z_bi, Ev.z_ib, Ev.z_ll, Ev.z_lt, Ev.z_tt, Ev.z_tl, Ev.z_cc, Ev.isiOk, Ev.Tgs.len, Ev.wipe])
        refine w_ne_nil enc_pair ml fun M5 e5 => q _ _ (e.trans e5) ?_
        rw [fin]
        simp
    · refine .inr ⟨by omega, fun K hK => ?_⟩
      have lt : i < (W i).length := by omega
      have hx : (W i)[i]? = some ((W i)[i]) := List.getElem?_eq_getElem lt
      have hx' : ((W i).map nP)[i]? = some (nP ((W i)[i])) := by rw [List.getElem?_map, hx]; rfl
      have xb := bd i _ (List.getElem_mem lt)
      have nx := wsome hx
      have lni := ln i
      have lni1 := ln (i + 1)
      generalize (W i)[i] = x at *
      have hp : (r.2.map nI)[x.1]? = some (.int (r.2.getD x.1 0 : Nat)) := by
        rw [List.getElem?_map, List.getElem?_eq_getElem xb.1, List.getD_eq_getElem?_getD, List.getElem?_eq_getElem xb.1]
        rfl
      obtain ⟨l, hl⟩ : ∃ l, r.2.getD x.1 0 = l := ⟨_, rfl⟩
      rw [hl] at hp
      have scE : scN ws r.2 x = (byW ws x.2 l).map fun w => (nxt r.2 x.1, w.2.2.1) := by unfold scN; rw [hl]
      rw [scE] at nx
      (rw [Ev.x_cons]; simp [Ev.x_nil, Ev.s_exp, Ev.s_asgn, Ev.s_par2, Ev.s_ret, Ev.s_retn, Ev.s_ifs, Ev.s_pas, Ev.s_brk, Ev.s_cnt, Ev.s_for, Ev.e_var, Ev.e_int, Ev.e_bl, Ev.e_non, Ev.e_str, Ev.e_gc, Ev.e_fn, Ev.e_bin, Ev.e_neg, Ev.e_not, Ev.e_and, Ev.e_or, Ev.e_ite, Ev.e_cmp, Ev.e_chain, Ev.e_tup, Ev.e_lst, Ev.e_dct0, Ev.e_dct1, Ev.e_idx, Ev.e_slc, Ev.e_rev, Ev.e_fld, Ev.e_call, Ev.e_calk, Ev.e_calv, Ev.e_blt, Ev.e_mak, Ev.e_mth, Ev.e_omt, Ev.e_isi, Ev.e_cmpr, Ev.es_nil, Ev.es_cons, Ev.y_of, Ev.y_enum, Ev.y_zip, Ev.y_rng, Ev.y_rng2, Ev.y_items, Ev.y_vals, Ev.if_nil, Ev.if_cons, Ev.tg_nm, Ev.tg_tup, Ev.tg_idx, Ev.tg_fld, Ev.tgs_nil, Ev.tgs_cons, Ev.t_bl, Ev.t_int, Ev.t_tup, Ev.t_non, Ev.t_fl, Ev.r_val, Ev.r_new, Ev.o_lst, Ev.o_set, Ev.s_tup, Ev.s_fl, Ev.s_ref, Ev.l_fl, Ev.i_tup, Ev.a_0, Ev.a_1, Ev.a_2, Ev.a_3, Ev.a_4, Ev.a_nat, Ev.b_len, Ev.b_abs, Ev.b_max, Ev.b_min, Ev.b_int, Ev.b_inb, Ev.n_tup, Ev.d_add, Ev.d_sub, Ev.c_lt, Ev.c_le, Ev.c_gt, Ev.c_ge, Ev.w_lt, Ev.w_le, Ev.w_gt, Ev.w_ge, Ev.w_eqi, Ev.w_nei, Ev.w_neb, Ev.w_eqb, Ev.y_int, Ev.y_bl, Ev.y_tup, Ev.it_tup, Ev.z_slc2, Ev.mup_same, Ev.mup_mup, Ev.isPt, Ev.z_ii, Ev.z_bi, Ev.z_ib, Ev.z_ll, Ev.z_lt, Ev.z_tt, Ev.z_tl, Ev.z_cc, Ev.isiOk, Ev.Tgs.len, Ev.wipe, i_lst mf, hx', nP])
      (rw [Ev.x_cons]; simp [Ev.x_nil, Ev.s_exp, Ev.s_asgn, Ev.s_par2, Ev.s_ret, Ev.s_retn, Ev.s_ifs, Ev.s_pas, Ev.s_brk, Ev.s_cnt, Ev.s_for, Ev.e_var, Ev.e_int, Ev.e_bl, Ev.e_non, Ev.e_str, Ev.e_gc, Ev.e_fn, Ev.e_bin, Ev.e_neg, Ev.e_not, Ev.e_and, Ev.e_or, Ev.e_ite, Ev.e_cmp, Ev.e_chain, Ev.e_tup, Ev.e_lst, Ev.e_dct0, Ev.e_dct1, Ev.e_idx, Ev.e_slc, Ev.e_rev, Ev.e_fld, Ev.e_call, Ev.e_calk, Ev.e_calv, Ev.e_blt, Ev.e_mak, Ev.e_mth, Ev.e_omt, Ev.e_isi, Ev.e_cmpr, Ev.es_nil, Ev.es_cons, Ev.y_of, Ev.y_enum, Ev.y_zip, Ev.y_rng, Ev.y_rng2, Ev.y_items, Ev.y_vals, Ev.if_nil, Ev.if_cons, Ev.tg_nm, Ev.tg_tup, Ev.tg_idx, Ev.tg_fld, Ev.tgs_nil, Ev.tgs_cons, Ev.t_bl, Ev.t_int, Ev.t_tup, Ev.t_non, Ev.t_fl, Ev.r_val, Ev.r_new, Ev.o_lst, Ev.o_set, Ev.s_tup, Ev.s_fl, Ev.s_ref, Ev.l_fl, Ev.i_tup, Ev.a_0, Ev.a_1, Ev.a_2, Ev.a_3, Ev.a_4, Ev.a_nat, Ev.b_len, Ev.b_abs, Ev.b_max, Ev.b_min, Ev.b_int, Ev.b_inb, Ev.n_tup, Ev.d_add, Ev.d_sub, Ev.c_lt, Ev.c_le, Ev.c_gt, Ev.c_ge, Ev.w_lt, Ev.w_le, Ev.w_gt, Ev.w_ge, Ev.w_eqi, Ev.w_nei, Ev.w_neb, Ev.w_eqb, Ev.y_int, Ev.y_bl, Ev.y_tup, Ev.it_tup, Ev.z_slc2, Ev.mup_same, Ev.mup_mup, Ev.isPt, Ev.z_ii, Ev.z_bi, Ev.z_ib, Ev.z_ll, Ev.z_lt, Ev.z_tt, Ev.z_tl, Ev.z_cc, Ev.isiOk, Ev.Tgs.len, Ev.wipe, hp])
      refine w_by h (lstOf_ext e hv) (by have := wb.len; omega) fun pb M4 hpb e4 mb => ?_
      simp [Ev.x_nil, Ev.s_exp, Ev.s_asgn, Ev.s_par2, Ev.s_ret, Ev.s_retn, Ev.s_ifs, Ev.s_pas, Ev.s_brk, Ev.s_cnt, Ev.s_for, Ev.e_var, Ev.e_int, Ev.e_bl, Ev.e_non, Ev.e_str, Ev.e_gc, Ev.e_fn, Ev.e_bin, Ev.e_neg, Ev.e_not, Ev.e_and, Ev.e_or, Ev.e_ite, Ev.e_cmp, Ev.e_chain, Ev.e_tup, Ev.e_lst, Ev.e_dct0, Ev.e_dct1, Ev.e_idx, Ev.e_slc, Ev.e_rev, Ev.e_fld, Ev.e_call, Ev.e_calk, Ev.e_calv, Ev.e_blt, Ev.e_mak, Ev.e_mth, Ev.e_omt, Ev.e_isi, Ev.e_cmpr, Ev.es_nil, Ev.es_cons, Ev.y_of, Ev.y_enum, Ev.y_zip, Ev.y_rng, Ev.y_rng2, Ev.y_items, Ev.y_vals, Ev.if_nil, Ev.if_cons, Ev.tg_nm, Ev.tg_tup, Ev.tg_idx, Ev.tg_fld, Ev.tgs_nil, Ev.tgs_cons, Ev.t_bl, Ev.t_int, Ev.t_tup, Ev.t_non, Ev.t_fl, Ev.r_val, Ev.r_new, Ev.o_lst, Ev.o_set, Ev.s_tup, Ev.s_fl, Ev.s_ref, Ev.l_fl, Ev.i_tup, Ev.a_0, Ev.a_1, Ev.a_2, Ev.a_3, Ev.a_4, Ev.a_nat, Ev.b_len, Ev.b_abs, Ev.b_max, Ev.b_min, Ev.b_int, Ev.b_inb, Ev.n_tup, Ev.d_add, Ev.d_sub, Ev.c_lt, Ev.c_le, Ev.c_gt, Ev.c_ge, Ev.w_lt, Ev.w_le, Ev.w_gt, Ev.w_ge, Ev.w_eqi, Ev.w_nei, Ev.w_neb, Ev.w_eqb, Ev.y_int, Ev.y_bl, Ev.y_tup, Ev.it_tup, Ev.z_slc2, Ev.mup_same, Ev.mup_mup, Ev.isPt, Ev.z_ii, Ev.z_bi, Ev.z_ib, Ev.z_ll, Ev.z_lt, Ev.z_tt, Ev.z_tl, Ev.z_cc, Ev.isiOk, Ev.Tgs.len, Ev.wipe, l_ref mb]
      have pbf : fd ≠ pb := by
        rintro rfl
        rw [hpb] at mf
        cases mf
      refine forL_fold wp (byW ws x.2 l) (fun s w => addN s (nxt r.2 x.1, w.2.2.1)) (s0 := W i) (fun s σ M' => (∃ b e, σ = [some v, some (.tup [.tup (r.1.map nI), .tup (r.2.map nI)]), some (.tup (r.1.map nI)), some (.tup (r.2.map nI)), some (.ref q1), a, b, some (.int x.2), some (.ref fd), some (.int i), some (.int x.1), e, none, none, none, none, none]) ∧ Ext M M' ∧ M' fd = some (.lst (s.map nP)) ∧ M' pb = some (.lst ((byW ws x.2 l).map wp))) (fun s σ M1 h => ?_) (fun s w σ M5 K p2 q2 hpq hs h1 hk => ?_) (fun σ M5 h1 => ?_) ⟨⟨_, _, rfl⟩, e.trans e4, e4 _ _ mf, mb⟩
      · show M1 pb = M4 pb
        rw [h.2.2.2, mb]
      · obtain ⟨⟨b, e', rfl⟩, e, mf, mb⟩ := h1
        have ls : s.length ≤ 480 := by
          have : s <+: W (i + 1) := by
            rw [nx]
            unfold addL
            rw [List.foldl_map, hpq, List.foldl_append, ← hs]
            exact pre_addL (xs := (w :: q2).map fun w => (nxt r.2 x.1, w.2.2.1)) |> fun h => by
              unfold addL at h
              rwa [List.foldl_map] at h
          have := this.length_le
          omega
        have ls2 : s.length < sizeLine := by omega
        have lp : (0 : Int) < r.2.length := by omega
        unfold bdF wp
        simp [Ev.x_nil, Ev.s_exp, Ev.s_asgn, Ev.s_par2, Ev.s_ret, Ev.s_retn, Ev.s_ifs, Ev.s_pas, Ev.s_brk, Ev.s_cnt, Ev.s_for, Ev.e_var, Ev.e_int, Ev.e_bl, Ev.e_non, Ev.e_str, Ev.e_gc, Ev.e_fn, Ev.e_bin, Ev.e_neg, Ev.e_not, Ev.e_and, Ev.e_or, Ev.e_ite, Ev.e_cmp, Ev.e_chain, Ev.e_tup, Ev.e_lst, Ev.e_dct0, Ev.e_dct1, Ev.e_idx, Ev.e_slc, Ev.e_rev, Ev.e_fld, Ev.e_call, Ev.e_calk, Ev.e_calv, Ev.e_blt, Ev.e_mak, Ev.e_mth, Ev.e_omt, Ev.e_isi, Ev.e_cmpr, Ev.es_nil, Ev.es_cons, Ev.y_of, Ev.y_enum, Ev.y_zip, Ev.y_rng, Ev.y_rng2, Ev.y_items, Ev.y_vals, Ev.if_nil, Ev.if_cons, Ev.tg_nm, Ev.tg_tup, Ev.tg_idx, Ev.tg_fld, Ev.tgs_nil, Ev.tgs_cons, Ev.t_bl, Ev.t_int, Ev.t_tup, Ev.t_non, Ev.t_fl, Ev.r_val, Ev.r_new, Ev.o_lst, Ev.o_set, Ev.s_tup, Ev.s_fl, Ev.s_ref, Ev.l_fl, Ev.i_tup, Ev.a_0, Ev.a_1, Ev.a_2, Ev.a_3, Ev.a_4, Ev.a_nat, Ev.b_len, Ev.b_abs, Ev.b_max, Ev.b_min, Ev.b_int, Ev.b_inb, Ev.n_tup, Ev.d_add, Ev.d_sub, Ev.c_lt, Ev.c_le, Ev.c_gt, Ev.c_ge, Ev.w_lt, Ev.w_le, Ev.w_gt, Ev.w_ge, Ev.w_eqi, Ev.w_nei, Ev.w_neb, Ev.w_eqb, Ev.y_int, Ev.y_bl, Ev.y_tup, Ev.it_tup, Ev.z_slc2, Ev.mup_same, Ev.mup_mup, Ev.isPt, Ev.z_ii, Ev.z_bi, Ev.z_ib, Ev.z_ll, Ev.z_lt, Ev.z_tt, Ev.z_tl, Ev.z_cc, Ev.isiOk, Ev.Tgs.len, Ev.wipe]
        (rw [Ev.x_cons]; simp [Ev.x_nil, Ev.s_exp, Ev.s_asgn, Ev.s_par2, Ev.s_ret, Ev.s_retn, Ev.s_ifs, Ev.s_pas, Ev.s_brk, Ev.s_cnt, Ev.s_for, Ev.e_var, Ev.e_int, Ev.e_bl, Ev.e_non, Ev.e_str, Ev.e_gc, Ev.e_fn, Ev.e_bin, Ev.e_neg, Ev.e_not, Ev.e_and, Ev.e_or, Ev.e_ite, Ev.e_cmp, Ev.e_chain, Ev.e_tup, Ev.e_lst, Ev.e_dct0, Ev.e_dct1, Ev.e_idx, Ev.e_slc, Ev.e_rev, Ev.e_fld, Ev.e_call, Ev.e_calk, Ev.e_calv, Ev.e_blt, Ev.e_mak, Ev.e_mth, Ev.e_omt, Ev.e_isi, Ev.e_cmpr, Ev.es_nil, Ev.es_cons, Ev.y_of, Ev.y_enum, Ev.y_zip, Ev.y_rng, Ev.y_rng2, Ev.y_items, Ev.y_vals, Ev.if_nil, Ev.if_cons, Ev.tg_nm, Ev.tg_tup, Ev.tg_idx, Ev.tg_fld, Ev.tgs_nil, Ev.tgs_cons, Ev.t_bl, Ev.t_int, Ev.t_tup, Ev.t_non, Ev.t_fl, Ev.r_val, Ev.r_new, Ev.o_lst, Ev.o_set, Ev.s_tup, Ev.s_fl, Ev.s_ref, Ev.l_fl, Ev.i_tup, Ev.a_0, Ev.a_1, Ev.a_2, Ev.a_3, Ev.a_4, Ev.a_nat, Ev.b_len, Ev.b_abs, Ev.b_max, Ev.b_min, Ev.b_int, Ev.b_inb, Ev.n_tup, Ev.d_add, Ev.d_sub, Ev.c_lt, Ev.c_le, Ev.c_gt, Ev.c_ge, Ev.w_lt, Ev.w_le, Ev.w_gt, Ev.w_ge, Ev.w_eqi, Ev.w_nei, Ev.w_neb, Ev.w_eqb, Ev.y_int, Ev.y_bl, Ev.y_tup, Ev.it_tup, Ev.z_slc2, Ev.mup_same, Ev.mup_mup, Ev.isPt, Ev.z_ii, Ev.z_bi, Ev.z_ib, Ev.z_ll, Ev.z_lt, Ev.z_tt, Ev.z_tl, Ev.z_cc, Ev.isiOk, Ev.Tgs.len, Ev.wipe, d_mod lp, nxt_cast, two])
        have hin := enc_pair.nin (a := (nxt r.2 x.1, w.2.2.1)) mf
        (rw [Ev.x_cons]; simp [Ev.x_nil, Ev.s_exp, Ev.s_asgn, Ev.s_par2, Ev.s_ret, Ev.s_retn, Ev.s_ifs, Ev.s_pas, Ev.s_brk, Ev.s_cnt, Ev.s_for, Ev.e_var, Ev.e_int, Ev.e_bl, Ev.e_non, Ev.e_str, Ev.e_gc, Ev.e_fn, Ev.e_bin, Ev.e_neg, Ev.e_not, Ev.e_and, Ev.e_or, Ev.e_ite, Ev.e_cmp, Ev.e_chain, Ev.e_tup, Ev.e_lst, Ev.e_dct0, Ev.e_dct1, Ev.e_idx, Ev.e_slc, Ev.e_rev, Ev.e_fld, Ev.e_call, Ev.e_calk, Ev.e_calv, Ev.e_blt, Ev.e_mak, Ev.e_mth, Ev.e_omt, Ev.e_isi, Ev.e_cmpr, Ev.es_nil, Ev.es_cons, Ev.y_of, Ev.y_enum, Ev.y_zip, Ev.y_rng, Ev.y_rng2, Ev.y_items, Ev.y_vals, Ev.if_nil, Ev.if_cons, Ev.tg_nm, Ev.tg_tup, Ev.tg_idx, Ev.tg_fld, Ev.tgs_nil, Ev.tgs_cons, Ev.t_bl, Ev.t_int, Ev.t_tup, Ev.t_non, Ev.t_fl, Ev.r_val, Ev.r_new, Ev.o_lst, Ev.o_set, Ev.s_tup, Ev.s_fl, Ev.s_ref, Ev.l_fl, Ev.i_tup, Ev.a_0, Ev.a_1, Ev.a_2, Ev.a_3, Ev.a_4, Ev.a_nat, Ev.b_len, Ev.b_abs, Ev.b_max, Ev.b_min, Ev.b_int, Ev.b_inb, Ev.n_tup, Ev.d_add, Ev.d_sub, Ev.c_lt, Ev.c_le, Ev.c_gt, Ev.c_ge, Ev.w_lt, Ev.w_le, Ev.w_gt, Ev.w_ge, Ev.w_eqi, Ev.w_nei, Ev.w_neb, Ev.w_eqb, Ev.y_int, Ev.y_bl, Ev.y_tup, Ev.it_tup, Ev.z_slc2, Ev.mup_same, Ev.mup_mup, Ev.isPt, Ev.z_ii, Ev.z_bi, Ev.z_ib, Ev.z_ll, Ev.z_lt, Ev.z_tt, Ev.z_tl, Ev.z_cc, Ev.isiOk, Ev.Tgs.len, Ev.wipe])
        refine (Ev.w_nin hin).mpr ?_
        by_cases c1 : (nxt r.2 x.1, w.2.2.1) ∈ s
        · have aN : addN s (nxt r.2 x.1, w.2.2.1) = s := if_pos c1
          simp only [c1, not_true, decide_false, Ev.t_bl, Ev.x_nil]
          exact hk _ _ ⟨⟨_, _, rfl⟩, e, by rw [aN]; exact mf, mb⟩
        · have aN : addN s (nxt r.2 x.1, w.2.2.1) = s ++ [(nxt r.2 x.1, w.2.2.1)] := if_neg c1
          simp only [c1, not_false_eq_true, decide_true, Ev.t_bl]
          (rw [Ev.x_cons]; simp [Ev.x_nil, Ev.s_exp, Ev.s_asgn, Ev.s_par2, Ev.s_ret, Ev.s_retn, Ev.s_ifs, Ev.s_pas, Ev.s_brk, Ev.s_cnt, Ev.s_for, Ev.e_var, Ev.e_int, Ev.e_bl, Ev.e_non, Ev.e_str, Ev.e_gc, Ev.e_fn, Ev.e_bin, Ev.e_neg, Ev.e_not, Ev.e_and, Ev.e_or, Ev.e_ite, Ev.e_cmp, Ev.e_chain, Ev.e_tup, Ev.e_lst, Ev.e_dct0, Ev.e_dct1, Ev.e_idx, Ev.e_slc, Ev.e_rev, Ev.e_fld, Ev.e_call, Ev.e_calk, Ev.e_calv, Ev.e_blt, Ev.e_mak, Ev.e_mth, Ev.e_omt, Ev.e_isi, Ev.e_cmpr, Ev.es_nil, Ev.es_cons, Ev.y_of, Ev.y_enum, Ev.y_zip, Ev.y_rng, Ev.y_rng2, Ev.y_items, Ev.y_vals, Ev.if_nil, Ev.if_cons, Ev.tg_nm, Ev.tg_tup, Ev.tg_idx, Ev.tg_fld, Ev.tgs_nil, Ev.tgs_cons, Ev.t_bl, Ev.t_int, Ev.t_tup, Ev.t_non, Ev.t_fl, Ev.r_val, Ev.r_new, Ev.o_lst, Ev.o_set, Ev.s_tup, Ev.s_fl, Ev.s_ref, Ev.l_fl, Ev.i_tup, Ev.a_0, Ev.a_1, Ev.a_2, Ev.a_3, Ev.a_4, Ev.a_nat, Ev.b_len, Ev.b_abs, Ev.b_max, Ev.b_min, Ev.b_int, Ev.b_inb, Ev.n_tup, Ev.d_add, Ev.d_sub, Ev.c_lt, Ev.c_le, Ev.c_gt, Ev.c_ge, Ev.w_lt, Ev.w_le, Ev.w_gt, Ev.w_ge, Ev.w_eqi, Ev.w_nei, Ev.w_neb, Ev.w_eqb, Ev.y_int, Ev.y_bl, Ev.y_tup, Ev.it_tup, Ev.z_slc2, Ev.mup_same, Ev.mup_mup, Ev.isPt, Ev.z_ii, Ev.z_bi, Ev.z_ib, Ev.z_ll, Ev.z_lt, Ev.z_tt, Ev.z_tl, Ev.z_cc, Ev.isiOk, Ev.Tgs.len, Ev.wipe, o_app mf, u_app mf, ls2])
          exact hk _ _ ⟨⟨_, _, rfl⟩, e.mup hfd0, by rw [aN, mup_same, List.map_append]; rfl, by rw [mup_ne (fun z => pbf z.symm)]; exact mb⟩
      · obtain ⟨⟨b, e', rfl⟩, e, mf, mb⟩ := h1
        (rw [Ev.x_cons]; simp [Ev.x_nil, Ev.s_exp, Ev.s_asgn, Ev.s_par2, Ev.s_ret, Ev.s_retn, Ev.s_ifs, Ev.s_pas, Ev.s_brk, Ev.s_cnt, Ev.s_for, Ev.e_var, Ev.e_int, Ev.e_bl, Ev.e_non, Ev.e_str, Ev.e_gc, Ev.e_fn, Ev.e_bin, Ev.e_neg, Ev.e_not, Ev.e_and, Ev.e_or, Ev.e_ite, Ev.e_cmp, Ev.e_chain, Ev.e_tup, Ev.e_lst, Ev.e_dct0, Ev.e_dct1, Ev.e_idx, Ev.e_slc, Ev.e_rev, Ev.e_fld, Ev.e_call, Ev.e_calk, Ev.e_calv, Ev.e_blt, Ev.e_mak, Ev.e_mth, Ev.e_omt, Ev.e_isi, Ev.e_cmpr, Ev.es_nil, Ev.es_cons, Ev.y_of, Ev.y_enum, Ev.y_zip, Ev.y_rng, Ev.y_rng2, Ev.y_items, Ev.y_vals, Ev.if_nil, Ev.if_cons, Ev.tg_nm, Ev.tg_tup, Ev.tg_idx, Ev.tg_fld, Ev.tgs_nil, Ev.tgs_cons, Ev.t_bl, Ev.t_int, Ev.t_tup, Ev.t_non, Ev.t_fl, Ev.r_val, Ev.r_new, Ev.o_lst, Ev.o_set, Ev.s_tup, Ev.s_fl, Ev.s_ref, Ev.l_fl, Ev.i_tup, Ev.a_0, Ev.a_1, Ev.a_2, Ev.a_3, Ev.a_4, Ev.a_nat, Ev.b_len, Ev.b_abs, Ev.b_max, Ev.b_min, Ev.b_int, Ev.b_inb, Ev.n_tup, Ev.d_add, Ev.d_sub, Ev.c_lt, Ev.c_le, Ev.c_gt, Ev.c_ge, Ev.w_lt, Ev.w_le, Ev.w_gt, Ev.w_ge, Ev.w_eqi, Ev.w_nei, Ev.w_neb, Ev.w_eqb, Ev.y_int, Ev.y_bl, Ev.y_tup, Ev.it_tup, Ev.z_slc2, Ev.mup_same, Ev.mup_mup, Ev.isPt, Ev.z_ii, Ev.z_bi, Ev.z_ib, Ev.z_ll, Ev.z_lt, Ev.z_tt, Ev.z_tl, Ev.z_cc, Ev.isiOk, Ev.Tgs.len, Ev.wipe])
        refine hK (n - 1) _ _ (by omega) (by
          rw [hI]
          have ie : (i : Int) + 1 = ((i + 1 : Nat) : Int) := by omega
          refine ⟨i + 1, _, _, _, _, _, by rw [ie], e, ?_, by omega⟩
          rw [mf, nx]
          unfold addL
          rw [List.foldl_map])
end Rv
end

section
/-! Wi: the law's own joined readers. -/
namespace Rv
open PySem Ev
/-- grown -/
def Pfx {N : Type} (s t : List N × List Way) : Prop := s.1 <+: t.1 ∧ s.2 <+: t.2
theorem Pfx.refl {N : Type} {s : List N × List Way} : Pfx s s := ⟨List.prefix_rfl, List.prefix_rfl⟩
theorem Pfx.trans {N : Type} {s t u : List N × List Way} (h : Pfx s t) (k : Pfx t u) : Pfx s u := ⟨h.1.trans k.1, h.2.trans k.2⟩
theorem Pfx.fold {N α : Type} {f : List N × List Way → α → List N × List Way} (h : ∀ s a, Pfx s (f s a)) : ∀ (as : List α) (s : List N × List Way), Pfx s (as.foldl f s)
  | [], s => .refl
  | a :: as, s => (h s a).trans (Pfx.fold h as (f s a))
theorem Pfx.j1 {N : Type} [DecidableEq N] {a l : Nat} (s : List N × List Way) (y : N × Nat) : Pfx s (Jn.j1 a l s y) := ⟨pre_addN, List.prefix_append _ _⟩
/-- ways of the one, then of the other -/
def jo {N : Type} [DecidableEq N] (J : Jn N) (i l : Nat) (x : N) (s : List N × List Way) (w : Way) : List N × List Way := (byW J.far (J.p2 x) l).foldl (fun s v => Jn.j1 i l s (J.st x w v)) s
theorem jl_jo {N : Type} [DecidableEq N] {J : Jn N} {i l : Nat} {x : N} {s : List N × List Way} : J.jl i x s l = (byW J.near (J.p1 x) l).foldl (jo J i l x) s := by
  unfold Jn.jl Jn.jps
  have : ∀ (ws : List Way) (s : List N × List Way), (ws.flatMap fun w => (byW J.far (J.p2 x) l).map fun v => J.st x w v).foldl (Jn.j1 i l) s = ws.foldl (jo J i l x) s := fun ws => by
    induction ws with
    | nil => intro s; rfl
    | cons w ws ih =>
      intro s
      rw [List.flatMap_cons, List.foldl_append, ih, List.foldl_cons]
      congr 1
      unfold jo
      rw [List.foldl_map]
  exact this _ _
variable {T : Tab} {F : Nat → Option Fn} {k : Nat}
def LedOk (T : Tab) (F : Nat → Option Fn) {N : Type} (J : Jn N) (nP : N → PV) (f : Nat) : Prop := ∀ k x w v M (Q : PV → MH → Prop), w ∈ J.near → v ∈ J.far → Q (stP nP (J.st x w v)) M → Cn T F (k + 1) f [nP x, wp w, wp v] M Q
theorem w_law_joined (h : FOk F) {N : Type} [DecidableEq N] {J : Jn N} {nP : N → PV} {R1 R2 : Nat} (jk : JOk J nP R1 R2) {f : Nat} (hf : LedOk T F J nP f) {v u : PV} {M : MH} {Q : PV → MH → Prop} (hv : lstOf M v = some (J.near.map wp)) (hu : lstOf M u = some (J.far.map wp))
    (q : ∀ p n M', Ext M M' → J.Full n → M' p = some (.lst ((sW (ddp (J.jn n).2)).map wp)) → Q (.tup [.int (J.jn n).1.length, .ref p]) M') : Cn T F (k + 2) i_law_joined [v, u, .int J.L, nP J.first, .fn f] M Q := by
  refine cn_z h.h_law_joined rfl ?_
  simp only [f_law_joined]
  have sz : 1000000 ≤ sizeLine := by decide
  have one : 1 ≤ sizeLine := by decide
  have two : 2 ≤ sizeLine := by decide
  have four : 4 ≤ sizeLine := by decide
  (rw [Ev.x_cons]; simp [Ev.x_nil, Ev.s_exp, Ev.s_asgn, Ev.s_par2, Ev.s_ret, Ev.s_retn, Ev.s_ifs, Ev.s_pas, Ev.s_brk, Ev.s_cnt, Ev.s_for, Ev.e_var, Ev.e_int, Ev.e_bl, Ev.e_non, Ev.e_str, Ev.e_gc, Ev.e_fn, Ev.e_bin, Ev.e_neg, Ev.e_not, Ev.e_and, Ev.e_or, Ev.e_ite, Ev.e_cmp, Ev.e_chain, Ev.e_tup, Ev.e_lst, Ev.e_dct0, Ev.e_dct1, Ev.e_idx, Ev.e_slc, Ev.e_rev, Ev.e_fld, Ev.e_call, Ev.e_calk, Ev.e_calv, Ev.e_blt, Ev.e_mak, Ev.e_mth, Ev.e_omt, Ev.e_isi, Ev.e_cmpr, Ev.es_nil, Ev.es_cons, Ev.y_of, Ev.y_enum, Ev.y_zip, Ev.y_rng, Ev.y_rng2, Ev.y_items, Ev.y_vals, Ev.if_nil, Ev.if_cons, Ev.tg_nm, Ev.tg_tup, Ev.tg_idx, Ev.tg_fld, Ev.tgs_nil, Ev.tgs_cons, Ev.t_bl, Ev.t_int, Ev.t_tup, Ev.t_non, Ev.t_fl, Ev.r_val, Ev.r_new, Ev.o_lst, Ev.o_set, Ev.s_tup, Ev.s_fl, Ev.s_ref, Ev.l_fl, Ev.i_tup, Ev.a_0, Ev.a_1, Ev.a_2, Ev.a_3, Ev.a_4, Ev.a_nat, Ev.b_len, Ev.b_abs, Ev.b_max, Ev.b_min, Ev.b_int, Ev.b_inb, Ev.n_tup, Ev.d_add, Ev.d_sub, Ev.c_lt, Ev.c_le, Ev.c_gt, Ev.c_ge, Ev.w_lt, Ev.w_le, Ev.w_gt, Ev.w_ge, Ev.w_eqi, Ev.w_nei, Ev.w_neb, Ev.w_eqb, Ev.y_int, Ev.y_bl, Ev.y_tup, Ev.it_tup, Ev.z_slc2, Ev.mup_same, Ev.mup_mup, Ev.isPt, Ev.z_ii, Ev.z_bi, Ev.z_ib, Ev.z_ll, Ev.z_lt, Ev.z_tt, Ev.z_tl, Ev.z_cc, Ev.isiOk, Ev.Tgs.len, Ev.wipe, one])
  intro nd hnd pd hpd
  have e1 := Ext.new (o := .lst [nP J.first]) hnd
  have n1 : (mup M nd (.lst [nP J.first])) nd = some (.lst [nP J.first]) := mup_same
  generalize mup M nd (.lst [nP J.first]) = M1 at *
  refine ⟨⟨jk.tup _, jk.key _⟩, ?_⟩
  have e2 := Ext.new (o := .dct [(nP J.first, .int 0)]) hpd
  have n2 := e2 _ _ n1
  have k2 : (mup M1 pd (.dct [(nP J.first, .int 0)])) pd = some (.dct [(nP J.first, .int 0)]) := mup_same
  have hp0 : M pd = none := e1.non hpd
  have ne1 : nd ≠ pd := by
    rintro rfl
    rw [hpd] at n1
    cases n1
  generalize mup M1 pd (.dct [(nP J.first, .int 0)]) = M2 at *
  intro fd hfd
  have hf0 : M fd = none := (e1.trans e2).non hfd
  have ne2 : nd ≠ fd := by
    rintro rfl
    rw [hfd] at n2
    cases n2
  have ne3 : pd ≠ fd := by
    rintro rfl
    rw [hfd] at k2
    cases k2
  have e3 := Ext.new (o := .lst []) hfd
  refine ⟨four, ?_⟩
  rw [Ev.x_cons]
  obtain ⟨I, hI⟩ : ∃ I : Nat → Ev.St → MH → Prop, I = fun n σ M2 => ∃ i a b c d e, σ = [some v, some u, some (.int J.L), some (nP J.first), some (.fn f), some (.ref nd), some (.ref pd), some (.ref fd), some (.int (i : Nat)), a, b, c, d, e] ∧ Ext M M2 ∧ M2 nd = some (.lst ((J.jn i).1.map nP)) ∧ M2 pd = some (.dct (plc nP (J.jn i).1)) ∧ M2 fd = some (.lst ((J.jn i).2.map wp)) ∧ n + i = 13 := ⟨_, rfl⟩
  refine whl_ind (Cn_mono T F _) I 13 (by
    rw [hI]
    exact ⟨0, none, none, none, none, none, rfl, (e1.trans e2).trans e3, e3 _ _ n2, e3 _ _ k2, mup_same, rfl⟩) fun n σ M3 h1 => ?_
  rw [hI] at h1
  obtain ⟨i, a, b, c, d, e', rfl, e, hN, hP, hW, hn⟩ := h1
  simp [Ev.x_nil, Ev.s_exp, Ev.s_asgn, Ev.s_par2, Ev.s_ret, Ev.s_retn, Ev.s_ifs, Ev.s_pas, Ev.s_brk, Ev.s_cnt, Ev.s_for, Ev.e_var, Ev.e_int, Ev.e_bl, Ev.e_non, Ev.e_str, Ev.e_gc, Ev.e_fn, Ev.e_bin, Ev.e_neg, Ev.e_not, Ev.e_and, Ev.e_or, Ev.e_ite, Ev.e_cmp, Ev.e_chain, Ev.e_tup, Ev.e_lst, Ev.e_dct0, Ev.e_dct1, Ev.e_idx, Ev.e_slc, Ev.e_rev, Ev.e_fld, Ev.e_call, Ev.e_calk, Ev.e_calv, Ev.e_blt, Ev.e_mak, Ev.e_mth, Ev.e_omt, Ev.e_isi, Ev.e_cmpr, Ev.es_nil, Ev.es_cons, Ev.y_of, Ev.y_enum, Ev.y_zip, Ev.y_rng, Ev.y_rng2, Ev.y_items, Ev.y_vals, Ev.if_nil, Ev.if_cons, Ev.tg_nm, Ev.tg_tup, Ev.tg_idx, Ev.tg_fld, Ev.tgs_nil, Ev.tgs_cons, Ev.t_bl, Ev.t_int, Ev.t_tup, Ev.t_non, Ev.t_fl, Ev.r_val, Ev.r_new, Ev.o_lst, Ev.o_set, Ev.s_tup, Ev.s_fl, Ev.s_ref, Ev.l_fl, Ev.i_tup, Ev.a_0, Ev.a_1, Ev.a_2, Ev.a_3, Ev.a_4, Ev.a_nat, Ev.b_len, Ev.b_abs, Ev.b_max, Ev.b_min, Ev.b_int, Ev.b_inb, Ev.n_tup, Ev.d_add, Ev.d_sub, Ev.c_lt, Ev.c_le, Ev.c_gt, Ev.c_ge, Ev.w_lt, Ev.w_le, Ev.w_gt, Ev.w_ge, Ev.w_eqi, Ev.w_nei, Ev.w_neb, Ev.w_eqb, Ev.y_int, Ev.y_bl, Ev.y_tup, Ev.it_tup, Ev.z_slc2, Ev.mup_same, Ev.mup_mup, Ev.isPt, Ev.z_ii, Ev.z_bi, Ev.z_ib, Ev.z_ll, Ev.z_lt, Ev.z_tt, Ev.z_tl, Ev.z_cc, Ev.isiOk, Ev.Tgs.len, Ev.wipe, n_lst hN]
  by_cases full : (J.jn i).1.length ≤ i
  · refine .inl ⟨full, ?_⟩
    have fu : J.Full i := ⟨full⟩
    have lw := jk.ways i
    have dl := ddp_len (J.jn i).2
    have b1 := b_set (l_ref hW) (by rw [List.length_map]; exact lw) (by rw [ways_tup]; simp)
    rw [dedup_map wp (fun _ _ => wp_inj)] at b1
    have l1 : (ddp (J.jn i).2).length ≤ sizeLine := by omega
    (rw [Ev.x_cons]; simp [Ev.x_nil, Ev.s_exp, Ev.s_asgn, Ev.s_par2, Ev.s_ret, Ev.s_retn, Ev.s_ifs, Ev.s_pas, Ev.s_brk, Ev.s_cnt, Ev.s_for, Ev.e_var, Ev.e_int, Ev.e_bl, Ev.e_non, Ev.e_str, Ev.e_gc, Ev.e_fn, Ev.e_bin, Ev.e_neg, Ev.e_not, Ev.e_and, Ev.e_or, Ev.e_ite, Ev.e_cmp, Ev.e_chain, Ev.e_tup, Ev.e_lst, Ev.e_dct0, Ev.e_dct1, Ev.e_idx, Ev.e_slc, Ev.e_rev, Ev.e_fld, Ev.e_call, Ev.e_calk, Ev.e_calv, Ev.e_blt, Ev.e_mak, Ev.e_mth, Ev.e_omt, Ev.e_isi, Ev.e_cmpr, Ev.es_nil, Ev.es_cons, Ev.y_of, Ev.y_enum, Ev.y_zip, Ev.y_rng, Ev.y_rng2, Ev.y_items, Ev.y_vals, Ev.if_nil, Ev.if_cons, Ev.tg_nm, Ev.tg_tup, Ev.tg_idx, Ev.tg_fld, Ev.tgs_nil, Ev.tgs_cons, Ev.t_bl, Ev.t_int, Ev.t_tup, Ev.t_non, Ev.t_fl, Ev.r_val, Ev.r_new, Ev.o_lst, Ev.o_set, Ev.s_tup, Ev.s_fl, Ev.s_ref, Ev.l_fl, Ev.i_tup, Ev.a_0, Ev.a_1, Ev.a_2, Ev.a_3, Ev.a_4, Ev.a_nat, Ev.b_len, Ev.b_abs, Ev.b_max, Ev.b_min, Ev.b_int, Ev.b_inb, Ev.n_tup, Ev.d_add, Ev.d_sub, Ev.c_lt, Ev.c_le, Ev.c_gt, Ev.c_ge, Ev.w_lt, Ev.w_le, Ev.w_gt, Ev.w_ge, Ev.w_eqi, Ev.w_nei, Ev.w_neb, Ev.w_eqb, Ev.y_int, Ev.y_bl, Ev.y_tup, Ev.it_tup, Ev.z_slc2, Ev.mup_same, Ev.mup_mup, Ev.isPt, Ev.z_ii, Ev.z_bi, Ev.z_ib, Ev.z_ll, Ev.z_lt, Ev.z_tt, Ev.z_tl, Ev.z_cc, Ev.isiOk, Ev.Tgs.len, Ev.wipe, n_lst hN, b1, l1])
    intro s hs
    have e4 := Ext.new (o := .set ((ddp (J.jn i).2).map wp)) hs
    have ms : (mup M3 s (.set ((ddp (J.jn i).2).map wp))) s = some (.set ((ddp (J.jn i).2).map wp)) := mup_same
    generalize mup M3 s (.set ((ddp (J.jn i).2).map wp)) = M4 at *
    have b2 := b_sorted_set ms (by rw [List.length_map]; omega) (by rw [ways_fit]; simp)
    rw [sortP_ways] at b2
    rw [b2, Ev.r_new, Ev.o_lst, List.length_map, len_sW]
    refine ⟨l1, fun p hp => ⟨two, q p i _ ((e.trans e4).trans (Ext.new hp)) fu mup_same⟩⟩
  · refine .inr ⟨by omega, fun K hK => ?_⟩
    have lt : i < (J.jn i).1.length := by omega
    have hx : (J.jn i).1[i]? = some ((J.jn i).1[i]) := List.getElem?_eq_getElem lt
    have nx : J.jn (i + 1) = J.jx i ((J.jn i).1[i]) (J.jn i) := by
      show (match (J.jn i).1[i]? with
        | some x => J.jx i x (J.jn i)
        | none => J.jn i) = _
      rw [hx]
    have xb := jk.bd i _ (List.getElem_mem lt)
    have L4 : J.L < 1000000 := by have := jk.ok1.l4; omega
    have fin1 : (J.jn (i + 1)).1.length ≤ 12 := jk.few _
    have fin2 : (J.jn (i + 1)).2.length < 64 := jk.ways _
    rw [nx] at fin1 fin2
    unfold Jn.jx at fin1 fin2 nx
    generalize hxx : (J.jn i).1[i] = x at *
    (rw [Ev.x_cons]; simp [Ev.x_nil, Ev.s_exp, Ev.s_asgn, Ev.s_par2, Ev.s_ret, Ev.s_retn, Ev.s_ifs, Ev.s_pas, Ev.s_brk, Ev.s_cnt, Ev.s_for, Ev.e_var, Ev.e_int, Ev.e_bl, Ev.e_non, Ev.e_str, Ev.e_gc, Ev.e_fn, Ev.e_bin, Ev.e_neg, Ev.e_not, Ev.e_and, Ev.e_or, Ev.e_ite, Ev.e_cmp, Ev.e_chain, Ev.e_tup, Ev.e_lst, Ev.e_dct0, Ev.e_dct1, Ev.e_idx, Ev.e_slc, Ev.e_rev, Ev.e_fld, Ev.e_call, Ev.e_calk, Ev.e_calv, Ev.e_blt, Ev.e_mak, Ev.e_mth, Ev.e_omt, Ev.e_isi, Ev.e_cmpr, Ev.es_nil, Ev.es_cons, Ev.y_of, Ev.y_enum, Ev.y_zip, Ev.y_rng, Ev.y_rng2, Ev.y_items, Ev.y_vals, Ev.if_nil, Ev.if_cons, Ev.tg_nm, Ev.tg_tup, Ev.tg_idx, Ev.tg_fld, Ev.tgs_nil, Ev.tgs_cons, Ev.t_bl, Ev.t_int, Ev.t_tup, Ev.t_non, Ev.t_fl, Ev.r_val, Ev.r_new, Ev.o_lst, Ev.o_set, Ev.s_tup, Ev.s_fl, Ev.s_ref, Ev.l_fl, Ev.i_tup, Ev.a_0, Ev.a_1, Ev.a_2, Ev.a_3, Ev.a_4, Ev.a_nat, Ev.b_len, Ev.b_abs, Ev.b_max, Ev.b_min, Ev.b_int, Ev.b_inb, Ev.n_tup, Ev.d_add, Ev.d_sub, Ev.c_lt, Ev.c_le, Ev.c_gt, Ev.c_ge, Ev.w_lt, Ev.w_le, Ev.w_gt, Ev.w_ge, Ev.w_eqi, Ev.w_nei, Ev.w_neb, Ev.w_eqb, Ev.y_int, Ev.y_bl, Ev.y_tup, Ev.it_tup, Ev.z_slc2, Ev.mup_same, Ev.mup_mup, Ev.isPt, Ev.z_ii, Ev.z_bi, Ev.z_ib, Ev.z_ll, Ev.z_lt, Ev.z_tt, Ev.z_tl, Ev.z_cc, Ev.isiOk, Ev.Tgs.len, Ev.wipe, rngN L4])
    refine forL_fold (fun n : Nat => PV.int (n : Int)) (List.range J.L) (J.jl i x) (s0 := J.jn i) (fun s σ M' => (∃ a b c d e, σ = [some v, some u, some (.int J.L), some (nP J.first), some (.fn f), some (.ref nd), some (.ref pd), some (.ref fd), some (.int (i : Nat)), a, b, c, d, e]) ∧ Ext M M' ∧ M' nd = some (.lst (s.1.map nP)) ∧ M' pd = some (.dct (plc nP s.1)) ∧ M' fd = some (.lst (s.2.map wp))) (fun s σ M1 h => trivial) (fun s l σ M4 K p q' hpq hs h1 hk => ?_) (fun σ M4 h1 => ?_) ⟨⟨_, _, _, _, _, rfl⟩, e, hN, hP, hW⟩
    · obtain ⟨⟨a, b, c, d, e', rfl⟩, e, hN, hP, hW⟩ := h1
      have hsx : s.1[i]? = some x := by
        rw [hs, pre_get jls_pre.1 lt, hx]
      have fi : Pfx (J.jl i x s l) ((List.range J.L).foldl (J.jl i x) (J.jn i)) := by
        rw [hpq, List.foldl_append, List.foldl_cons, ← hs]
        exact ⟨jls_pre.1, jls_pre.2⟩
      rw [jl_jo] at fi hk
      have hsx' : (s.1.map nP)[i]? = some (nP x) := by rw [List.getElem?_map, hsx]; rfl
      unfold bdF
      simp [Ev.x_nil, Ev.s_exp, Ev.s_asgn, Ev.s_par2, Ev.s_ret, Ev.s_retn, Ev.s_ifs, Ev.s_pas, Ev.s_brk, Ev.s_cnt, Ev.s_for, Ev.e_var, Ev.e_int, Ev.e_bl, Ev.e_non, Ev.e_str, Ev.e_gc, Ev.e_fn, Ev.e_bin, Ev.e_neg, Ev.e_not, Ev.e_and, Ev.e_or, Ev.e_ite, Ev.e_cmp, Ev.e_chain, Ev.e_tup, Ev.e_lst, Ev.e_dct0, Ev.e_dct1, Ev.e_idx, Ev.e_slc, Ev.e_rev, Ev.e_fld, Ev.e_call, Ev.e_calk, Ev.e_calv, Ev.e_blt, Ev.e_mak, Ev.e_mth, Ev.e_omt, Ev.e_isi, Ev.e_cmpr, Ev.es_nil, Ev.es_cons, Ev.y_of, Ev.y_enum, Ev.y_zip, Ev.y_rng, Ev.y_rng2, Ev.y_items, Ev.y_vals, Ev.if_nil, Ev.if_cons, Ev.tg_nm, Ev.tg_tup, Ev.tg_idx, Ev.tg_fld, Ev.tgs_nil, Ev.tgs_cons, Ev.t_bl, Ev.t_int, Ev.t_tup, Ev.t_non, Ev.t_fl, Ev.r_val, Ev.r_new, Ev.o_lst, Ev.o_set, Ev.s_tup, Ev.s_fl, Ev.s_ref, Ev.l_fl, Ev.i_tup, Ev.a_0, Ev.a_1, Ev.a_2, Ev.a_3, Ev.a_4, Ev.a_nat, Ev.b_len, Ev.b_abs, Ev.b_max, Ev.b_min, Ev.b_int, Ev.b_inb, Ev.n_tup, Ev.d_add, Ev.d_sub, Ev.c_lt, Ev.c_le, Ev.c_gt, Ev.c_ge, Ev.w_lt, Ev.w_le, Ev.w_gt, Ev.w_ge, Ev.w_eqi, Ev.w_nei, Ev.w_neb, Ev.w_eqb, Ev.y_int, Ev.y_bl, Ev.y_tup, Ev.it_tup, Ev.z_slc2, Ev.mup_same, Ev.mup_mup, Ev.isPt, Ev.z_ii, Ev.z_bi, Ev.z_ib, Ev.z_ll, Ev.z_lt, Ev.z_tt, Ev.z_tl, Ev.z_cc, Ev.isiOk, Ev.Tgs.len, Ev.wipe]
      (rw [Ev.x_cons]; simp [Ev.x_nil, Ev.s_exp, Ev.s_asgn, Ev.s_par2, Ev.s_ret, Ev.s_retn, Ev.s_ifs, Ev.s_pas, Ev.s_brk, Ev.s_cnt, Ev.s_for, Ev.e_var, Ev.e_int, Ev.e_bl, Ev.e_non, Ev.e_str, Ev.e_gc, Ev.e_fn, Ev.e_bin, Ev.e_neg, Ev.e_not, Ev.e_and, Ev.e_or, Ev.e_ite, Ev.e_cmp, Ev.e_chain, Ev.e_tup, Ev.e_lst, Ev.e_dct0, Ev.e_dct1, Ev.e_idx, Ev.e_slc, Ev.e_rev, Ev.e_fld, Ev.e_call, Ev.e_calk, Ev.e_calv, Ev.e_blt, Ev.e_mak, Ev.e_mth, Ev.e_omt, Ev.e_isi, Ev.e_cmpr, Ev.es_nil, Ev.es_cons, Ev.y_of, Ev.y_enum, Ev.y_zip, Ev.y_rng, Ev.y_rng2, Ev.y_items, Ev.y_vals, Ev.if_nil, Ev.if_cons, Ev.tg_nm, Ev.tg_tup, Ev.tg_idx, Ev.tg_fld, Ev.tgs_nil, Ev.tgs_cons, Ev.t_bl, Ev.t_int, Ev.t_tup, Ev.t_non, Ev.t_fl, Ev.r_val, Ev.r_new, Ev.o_lst, Ev.o_set, Ev.s_tup, Ev.s_fl, Ev.s_ref, Ev.l_fl, Ev.i_tup, Ev.a_0, Ev.a_1, Ev.a_2, Ev.a_3, Ev.a_4, Ev.a_nat, Ev.b_len, Ev.b_abs, Ev.b_max, Ev.b_min, Ev.b_int, Ev.b_inb, Ev.n_tup, Ev.d_add, Ev.d_sub, Ev.c_lt, Ev.c_le, Ev.c_gt, Ev.c_ge, Ev.w_lt, Ev.w_le, Ev.w_gt, Ev.w_ge, Ev.w_eqi, Ev.w_nei, Ev.w_neb, Ev.w_eqb, Ev.y_int, Ev.y_bl, Ev.y_tup, Ev.it_tup, Ev.z_slc2, Ev.mup_same, Ev.mup_mup, Ev.isPt, Ev.z_ii, Ev.z_bi, Ev.z_ib, Ev.z_ll, Ev.z_lt, Ev.z_tt, Ev.z_tl, Ev.z_cc, Ev.isiOk, Ev.Tgs.len, Ev.wipe, i_lst hN, hsx', jk.i0])
      refine w_by h (lstOf_ext e hv) (by have := jk.ok1.len; omega) fun nb M5 hnb e5 mnb => ?_
      simp [Ev.x_nil, Ev.s_exp, Ev.s_asgn, Ev.s_par2, Ev.s_ret, Ev.s_retn, Ev.s_ifs, Ev.s_pas, Ev.s_brk, Ev.s_cnt, Ev.s_for, Ev.e_var, Ev.e_int, Ev.e_bl, Ev.e_non, Ev.e_str, Ev.e_gc, Ev.e_fn, Ev.e_bin, Ev.e_neg, Ev.e_not, Ev.e_and, Ev.e_or, Ev.e_ite, Ev.e_cmp, Ev.e_chain, Ev.e_tup, Ev.e_lst, Ev.e_dct0, Ev.e_dct1, Ev.e_idx, Ev.e_slc, Ev.e_rev, Ev.e_fld, Ev.e_call, Ev.e_calk, Ev.e_calv, Ev.e_blt, Ev.e_mak, Ev.e_mth, Ev.e_omt, Ev.e_isi, Ev.e_cmpr, Ev.es_nil, Ev.es_cons, Ev.y_of, Ev.y_enum, Ev.y_zip, Ev.y_rng, Ev.y_rng2, Ev.y_items, Ev.y_vals, Ev.if_nil, Ev.if_cons, Ev.tg_nm, Ev.tg_tup, Ev.tg_idx, Ev.tg_fld, Ev.tgs_nil, Ev.tgs_cons, Ev.t_bl, Ev.t_int, Ev.t_tup, Ev.t_non, Ev.t_fl, Ev.r_val, Ev.r_new, Ev.o_lst, Ev.o_set, Ev.s_tup, Ev.s_fl, Ev.s_ref, Ev.l_fl, Ev.i_tup, Ev.a_0, Ev.a_1, Ev.a_2, Ev.a_3, Ev.a_4, Ev.a_nat, Ev.b_len, Ev.b_abs, Ev.b_max, Ev.b_min, Ev.b_int, Ev.b_inb, Ev.n_tup, Ev.d_add, Ev.d_sub, Ev.c_lt, Ev.c_le, Ev.c_gt, Ev.c_ge, Ev.w_lt, Ev.w_le, Ev.w_gt, Ev.w_ge, Ev.w_eqi, Ev.w_nei, Ev.w_neb, Ev.w_eqb, Ev.y_int, Ev.y_bl, Ev.y_tup, Ev.it_tup, Ev.z_slc2, Ev.mup_same, Ev.mup_mup, Ev.isPt, Ev.z_ii, Ev.z_bi, Ev.z_ib, Ev.z_ll, Ev.z_lt, Ev.z_tt, Ev.z_tl, Ev.z_cc, Ev.isiOk, Ev.Tgs.len, Ev.wipe, l_ref mnb]
      have e05 := e.trans e5
      have ns : ∀ {p o}, M4 p = some o → p ≠ nb := by
        rintro p o h rfl
        rw [hnb] at h
        cases h
      have nsN : nd ≠ nb := ns hN
      have nsP : pd ≠ nb := ns hP
      have nsW : fd ≠ nb := ns hW
      refine forL_fold wp (byW J.near (J.p1 x) l) (jo J i l x) (s0 := s) (fun t σ M' => (∃ b c d e, σ = [some v, some u, some (.int J.L), some (nP J.first), some (.fn f), some (.ref nd), some (.ref pd), some (.ref fd), some (.int (i : Nat)), some (.int (l : Nat)), b, c, d, e]) ∧ Ext M M' ∧ M' nd = some (.lst (t.1.map nP)) ∧ M' pd = some (.dct (plc nP t.1)) ∧ M' fd = some (.lst (t.2.map wp)) ∧ M' nb = some (.lst ((byW J.near (J.p1 x) l).map wp)) ∧ Pfx s t) (fun s σ M1 h => ?_) (fun s2 w σ M6 K p2 q2 hpq2 hs2 h1 hk => ?_) (fun σ M6 h1 => ?_) ⟨⟨_, _, _, _, rfl⟩, e05, e5 _ _ hN, e5 _ _ hP, e5 _ _ hW, mnb, .refl⟩
      · show M1 nb = M5 nb
        rw [h.2.2.2.2.2.1, mnb]
      · obtain ⟨⟨b, c, d, e', rfl⟩, e, hN, hP, hW, mnb, px⟩ := h1
        have hw : w ∈ J.near := (mem_byW.mp (by rw [hpq2]; simp : w ∈ byW J.near (J.p1 x) l)).1
        have gi : Pfx (jo J i l x s2 w) ((List.range J.L).foldl (J.jl i x) (J.jn i)) := by
          refine Pfx.trans ?_ fi
          rw [hpq2, List.foldl_append, List.foldl_cons, ← hs2]
          exact Pfx.fold (fun s a => Pfx.fold (fun s y => Pfx.j1 _ _) _ _) _ _
        have hsx2 : (s2.1.map nP)[i]? = some (nP x) := by
          rw [List.getElem?_map, pre_get px.1 (List.getElem?_eq_some_iff.mp hsx).1, hsx]
          rfl
        unfold bdF
        simp [Ev.x_nil, Ev.s_exp, Ev.s_asgn, Ev.s_par2, Ev.s_ret, Ev.s_retn, Ev.s_ifs, Ev.s_pas, Ev.s_brk, Ev.s_cnt, Ev.s_for, Ev.e_var, Ev.e_int, Ev.e_bl, Ev.e_non, Ev.e_str, Ev.e_gc, Ev.e_fn, Ev.e_bin, Ev.e_neg, Ev.e_not, Ev.e_and, Ev.e_or, Ev.e_ite, Ev.e_cmp, Ev.e_chain, Ev.e_tup, Ev.e_lst, Ev.e_dct0, Ev.e_dct1, Ev.e_idx, Ev.e_slc, Ev.e_rev, Ev.e_fld, Ev.e_call, Ev.e_calk, Ev.e_calv, Ev.e_blt, Ev.e_mak, Ev.e_mth, Ev.e_omt, Ev.e_isi, Ev.e_cmpr, Ev.es_nil, Ev.es_cons, Ev.y_of, Ev.y_enum, Ev.y_zip, Ev.y_rng, Ev.y_rng2, Ev.y_items, Ev.y_vals, Ev.if_nil, Ev.if_cons, Ev.tg_nm, Ev.tg_tup, Ev.tg_idx, Ev.tg_fld, Ev.tgs_nil, Ev.tgs_cons, Ev.t_bl, Ev.t_int, Ev.t_tup, Ev.t_non, Ev.t_fl, Ev.r_val, Ev.r_new, Ev.o_lst, Ev.o_set, Ev.s_tup, Ev.s_fl, Ev.s_ref, Ev.l_fl, Ev.i_tup, Ev.a_0, Ev.a_1, Ev.a_2, Ev.a_3, Ev.a_4, Ev.a_nat, Ev.b_len, Ev.b_abs, Ev.b_max, Ev.b_min, Ev.b_int, Ev.b_inb, Ev.n_tup, Ev.d_add, Ev.d_sub, Ev.c_lt, Ev.c_le, Ev.c_gt, Ev.c_ge, Ev.w_lt, Ev.w_le, Ev.w_gt, Ev.w_ge, Ev.w_eqi, Ev.w_nei, Ev.w_neb, Ev.w_eqb, Ev.y_int, Ev.y_bl, Ev.y_tup, Ev.it_tup, Ev.z_slc2, Ev.mup_same, Ev.mup_mup, Ev.isPt, Ev.z_ii, Ev.z_bi, Ev.z_ib, Ev.z_ll, Ev.z_lt, Ev.z_tt, Ev.z_tl, Ev.z_cc, Ev.isiOk, Ev.Tgs.len, Ev.wipe]
        (rw [Ev.x_cons]; simp [Ev.x_nil, Ev.s_exp, Ev.s_asgn, Ev.s_par2, Ev.s_ret, Ev.s_retn, Ev.s_ifs, Ev.s_pas, Ev.s_brk, Ev.s_cnt, Ev.s_for, Ev.e_var, Ev.e_int, Ev.e_bl, Ev.e_non, Ev.e_str, Ev.e_gc, Ev.e_fn, Ev.e_bin, Ev.e_neg, Ev.e_not, Ev.e_and, Ev.e_or, Ev.e_ite, Ev.e_cmp, Ev.e_chain, Ev.e_tup, Ev.e_lst, Ev.e_dct0, Ev.e_dct1, Ev.e_idx, Ev.e_slc, Ev.e_rev, Ev.e_fld, Ev.e_call, Ev.e_calk, Ev.e_calv, Ev.e_blt, Ev.e_mak, Ev.e_mth, Ev.e_omt, Ev.e_isi, Ev.e_cmpr, Ev.es_nil, Ev.es_cons, Ev.y_of, Ev.y_enum, Ev.y_zip, Ev.y_rng, Ev.y_rng2, Ev.y_items, Ev.y_vals, Ev.if_nil, Ev.if_cons, Ev.tg_nm, Ev.tg_tup, Ev.tg_idx, Ev.tg_fld, Ev.tgs_nil, Ev.tgs_cons, Ev.t_bl, Ev.t_int, Ev.t_tup, Ev.t_non, Ev.t_fl, Ev.r_val, Ev.r_new, Ev.o_lst, Ev.o_set, Ev.s_tup, Ev.s_fl, Ev.s_ref, Ev.l_fl, Ev.i_tup, Ev.a_0, Ev.a_1, Ev.a_2, Ev.a_3, Ev.a_4, Ev.a_nat, Ev.b_len, Ev.b_abs, Ev.b_max, Ev.b_min, Ev.b_int, Ev.b_inb, Ev.n_tup, Ev.d_add, Ev.d_sub, Ev.c_lt, Ev.c_le, Ev.c_gt, Ev.c_ge, Ev.w_lt, Ev.w_le, Ev.w_gt, Ev.w_ge, Ev.w_eqi, Ev.w_nei, Ev.w_neb, Ev.w_eqb, Ev.y_int, Ev.y_bl, Ev.y_tup, Ev.it_tup, Ev.z_slc2, Ev.mup_same, Ev.mup_mup, Ev.isPt, Ev.z_ii, Ev.z_bi, Ev.z_ib, Ev.z_ll, Ev.z_lt, Ev.z_tt, Ev.z_tl, Ev.z_cc, Ev.isiOk, Ev.Tgs.len, Ev.wipe, i_lst hN, hsx2, jk.i1])
        refine w_by h (lstOf_ext e hu) (by have := jk.ok2.len; omega) fun fb M7 hfb e7 mfb => ?_
        simp [Ev.x_nil, Ev.s_exp, Ev.s_asgn, Ev.s_par2, Ev.s_ret, Ev.s_retn, Ev.s_ifs, Ev.s_pas, Ev.s_brk, Ev.s_cnt, Ev.s_for, Ev.e_var, Ev.e_int, Ev.e_bl, Ev.e_non, Ev.e_str, Ev.e_gc, Ev.e_fn, Ev.e_bin, Ev.e_neg, Ev.e_not, Ev.e_and, Ev.e_or, Ev.e_ite, Ev.e_cmp, Ev.e_chain, Ev.e_tup, Ev.e_lst, Ev.e_dct0, Ev.e_dct1, Ev.e_idx, Ev.e_slc, Ev.e_rev, Ev.e_fld, Ev.e_call, Ev.e_calk, Ev.e_calv, Ev.e_blt, Ev.e_mak, Ev.e_mth, Ev.e_omt, Ev.e_isi, Ev.e_cmpr, Ev.es_nil, Ev.es_cons, Ev.y_of, Ev.y_enum, Ev.y_zip, Ev.y_rng, Ev.y_rng2, Ev.y_items, Ev.y_vals, Ev.if_nil, Ev.if_cons, Ev.tg_nm, Ev.tg_tup, Ev.tg_idx, Ev.tg_fld, Ev.tgs_nil, Ev.tgs_cons, Ev.t_bl, Ev.t_int, Ev.t_tup, Ev.t_non, Ev.t_fl, Ev.r_val, Ev.r_new, Ev.o_lst, Ev.o_set, Ev.s_tup, Ev.s_fl, Ev.s_ref, Ev.l_fl, Ev.i_tup, Ev.a_0, Ev.a_1, Ev.a_2, Ev.a_3, Ev.a_4, Ev.a_nat, Ev.b_len, Ev.b_abs, Ev.b_max, Ev.b_min, Ev.b_int, Ev.b_inb, Ev.n_tup, Ev.d_add, Ev.d_sub, Ev.c_lt, Ev.c_le, Ev.c_gt, Ev.c_ge, Ev.w_lt, Ev.w_le, Ev.w_gt, Ev.w_ge, Ev.w_eqi, Ev.w_nei, Ev.w_neb, Ev.w_eqb, Ev.y_int, Ev.y_bl, Ev.y_tup, Ev.it_tup, Ev.z_slc2, Ev.mup_same, Ev.mup_mup, Ev.isPt, Ev.z_ii, Ev.z_bi, Ev.z_ib, Ev.z_ll, Ev.z_lt, Ev.z_tt, Ev.z_tl, Ev.z_cc, Ev.isiOk, Ev.Tgs.len, Ev.wipe, l_ref mfb]
        have e07 := e.trans e7
        have ns7 : ∀ {p o}, M6 p = some o → p ≠ fb := by
          rintro p o h rfl
          rw [hfb] at h
          cases h
        have nfN : nd ≠ fb := ns7 hN
        have nfP : pd ≠ fb := ns7 hP
        have nfW : fd ≠ fb := ns7 hW
        unfold jo at gi hk
        refine forL_fold wp (byW J.far (J.p2 x) l) (fun s v => Jn.j1 i l s (J.st x w v)) (s0 := s2) (fun t σ M' => (∃ c d e, σ = [some v, some u, some (.int J.L), some (nP J.first), some (.fn f), some (.ref nd), some (.ref pd), some (.ref fd), some (.int (i : Nat)), some (.int (l : Nat)), some (wp w), c, d, e]) ∧ Ext M M' ∧ M' nd = some (.lst (t.1.map nP)) ∧ M' pd = some (.dct (plc nP t.1)) ∧ M' fd = some (.lst (t.2.map wp)) ∧ M' nb = some (.lst ((byW J.near (J.p1 x) l).map wp)) ∧ M' fb = some (.lst ((byW J.far (J.p2 x) l).map wp)) ∧ Pfx s t) (fun s σ M1 h => ?_) (fun s3 z σ M8 K p3 q3 hpq3 hs3 h1 hk => ?_) (fun σ M8 h1 => ?_) ⟨⟨_, _, _, rfl⟩, e07, e7 _ _ hN, e7 _ _ hP, e7 _ _ hW, e7 _ _ mnb, mfb, px⟩
        · show M1 fb = M7 fb
          rw [h.2.2.2.2.2.2.1, mfb]
        · obtain ⟨⟨c, d, e', rfl⟩, e, hN, hP, hW, mnb, mfb, px⟩ := h1
          have hz : z ∈ J.far := (mem_byW.mp (by rw [hpq3]; simp : z ∈ byW J.far (J.p2 x) l)).1
          have gi3 : Pfx (Jn.j1 i l s3 (J.st x w z)) ((List.range J.L).foldl (J.jl i x) (J.jn i)) := by
            refine Pfx.trans ?_ gi
            rw [hpq3, List.foldl_append, List.foldl_cons, ← hs3]
            exact Pfx.fold (fun s y => Pfx.j1 _ _) _ _
          have hsx3 : (s3.1.map nP)[i]? = some (nP x) := by
            rw [List.getElem?_map, pre_get px.1 (List.getElem?_eq_some_iff.mp hsx).1, hsx]
            rfl
          generalize hy : J.st x w z = y at *
          have gi1 : (Jn.j1 i l s3 y).1.length ≤ 12 := Nat.le_trans gi3.1.length_le fin1
          have gi2 : (Jn.j1 i l s3 y).2.length < 64 := Nat.lt_of_le_of_lt gi3.2.length_le fin2
          have gi0 : s3.1.length ≤ 12 := Nat.le_trans (pre_addN (l := s3.1) (x := y.1)).length_le gi1
          have gi4 : s3.2.length < sizeLine := by
            have h3 : s3.2.length < (Jn.j1 i l s3 y).2.length := by simp [Jn.j1]
            omega
          have fitP : ∀ l, keyFit (plc nP l) (nP y.1) = true := fun l => fit_tup (plI_all jk.tup l 0) (jk.tup _) (jk.key _)
          have px' : Pfx s (Jn.j1 i l s3 y) := px.trans (Pfx.j1 _ _)
          unfold bdF
          simp [Ev.x_nil, Ev.s_exp, Ev.s_asgn, Ev.s_par2, Ev.s_ret, Ev.s_retn, Ev.s_ifs, Ev.s_pas, Ev.s_brk, Ev.s_cnt, Ev.s_for, Ev.e_var, Ev.e_int, Ev.e_bl, Ev.e_non, Ev.e_str, Ev.e_gc, Ev.e_fn, Ev.e_bin, Ev.e_neg, Ev.e_not, Ev.e_and, Ev.e_or, Ev.e_ite, Ev.e_cmp, Ev.e_chain, Ev.e_tup, Ev.e_lst, Ev.e_dct0, Ev.e_dct1, Ev.e_idx, Ev.e_slc, Ev.e_rev, Ev.e_fld, Ev.e_call, Ev.e_calk, Ev.e_calv, Ev.e_blt, Ev.e_mak, Ev.e_mth, Ev.e_omt, Ev.e_isi, Ev.e_cmpr, Ev.es_nil, Ev.es_cons, Ev.y_of, Ev.y_enum, Ev.y_zip, Ev.y_rng, Ev.y_rng2, Ev.y_items, Ev.y_vals, Ev.if_nil, Ev.if_cons, Ev.tg_nm, Ev.tg_tup, Ev.tg_idx, Ev.tg_fld, Ev.tgs_nil, Ev.tgs_cons, Ev.t_bl, Ev.t_int, Ev.t_tup, Ev.t_non, Ev.t_fl, Ev.r_val, Ev.r_new, Ev.o_lst, Ev.o_set, Ev.s_tup, Ev.s_fl, Ev.s_ref, Ev.l_fl, Ev.i_tup, Ev.a_0, Ev.a_1, Ev.a_2, Ev.a_3, Ev.a_4, Ev.a_nat, Ev.b_len, Ev.b_abs, Ev.b_max, Ev.b_min, Ev.b_int, Ev.b_inb, Ev.n_tup, Ev.d_add, Ev.d_sub, Ev.c_lt, Ev.c_le, Ev.c_gt, Ev.c_ge, Ev.w_lt, Ev.w_le, Ev.w_gt, Ev.w_ge, Ev.w_eqi, Ev.w_nei, Ev.w_neb, Ev.w_eqb, Ev.y_int, Ev.y_bl, Ev.y_tup, Ev.it_tup, Ev.z_slc2, Ev.mup_same, Ev.mup_mup, Ev.isPt, Ev.z_ii, Ev.z_bi, Ev.z_ib, Ev.z_ll, Ev.z_lt, Ev.z_tt, Ev.z_tl, Ev.z_cc, Ev.isiOk, Ev.Tgs.len, Ev.wipe]
          (rw [Ev.x_cons]; simp [Ev.x_nil, Ev.s_exp, Ev.s_asgn, Ev.s_par2, Ev.s_ret, Ev.s_retn, Ev.s_ifs, Ev.s_pas, Ev.s_brk, Ev.s_cnt, Ev.s_for, Ev.e_var, Ev.e_int, Ev.e_bl, Ev.e_non, Ev.e_str, Ev.e_gc, Ev.e_fn, Ev.e_bin, Ev.e_neg, Ev.e_not, Ev.e_and, Ev.e_or, Ev.e_ite, Ev.e_cmp, Ev.e_chain, Ev.e_tup, Ev.e_lst, Ev.e_dct0, Ev.e_dct1, Ev.e_idx, Ev.e_slc, Ev.e_rev, Ev.e_fld, Ev.e_call, Ev.e_calk, Ev.e_calv, Ev.e_blt, Ev.e_mak, Ev.e_mth, Ev.e_omt, Ev.e_isi, Ev.e_cmpr, Ev.es_nil, Ev.es_cons, Ev.y_of, Ev.y_enum, Ev.y_zip, Ev.y_rng, Ev.y_rng2, Ev.y_items, Ev.y_vals, Ev.if_nil, Ev.if_cons, Ev.tg_nm, Ev.tg_tup, Ev.tg_idx, Ev.tg_fld, Ev.tgs_nil, Ev.tgs_cons, Ev.t_bl, Ev.t_int, Ev.t_tup, Ev.t_non, Ev.t_fl, Ev.r_val, Ev.r_new, Ev.o_lst, Ev.o_set, Ev.s_tup, Ev.s_fl, Ev.s_ref, Ev.l_fl, Ev.i_tup, Ev.a_0, Ev.a_1, Ev.a_2, Ev.a_3, Ev.a_4, Ev.a_nat, Ev.b_len, Ev.b_abs, Ev.b_max, Ev.b_min, Ev.b_int, Ev.b_inb, Ev.n_tup, Ev.d_add, Ev.d_sub, Ev.c_lt, Ev.c_le, Ev.c_gt, Ev.c_ge, Ev.w_lt, Ev.w_le, Ev.w_gt, Ev.w_ge, Ev.w_eqi, Ev.w_nei, Ev.w_neb, Ev.w_eqb, Ev.y_int, Ev.y_bl, Ev.y_tup, Ev.it_tup, Ev.z_slc2, Ev.mup_same, Ev.mup_mup, Ev.isPt, Ev.z_ii, Ev.z_bi, Ev.z_ib, Ev.z_ll, Ev.z_lt, Ev.z_tt, Ev.z_tl, Ev.z_cc, Ev.isiOk, Ev.Tgs.len, Ev.wipe, i_lst hN, hsx3])
          refine hf _ x w z _ _ hw hz ?_
          rw [hy]
          unfold stP
          simp [Ev.x_nil, Ev.s_exp, Ev.s_asgn, Ev.s_par2, Ev.s_ret, Ev.s_retn, Ev.s_ifs, Ev.s_pas, Ev.s_brk, Ev.s_cnt, Ev.s_for, Ev.e_var, Ev.e_int, Ev.e_bl, Ev.e_non, Ev.e_str, Ev.e_gc, Ev.e_fn, Ev.e_bin, Ev.e_neg, Ev.e_not, Ev.e_and, Ev.e_or, Ev.e_ite, Ev.e_cmp, Ev.e_chain, Ev.e_tup, Ev.e_lst, Ev.e_dct0, Ev.e_dct1, Ev.e_idx, Ev.e_slc, Ev.e_rev, Ev.e_fld, Ev.e_call, Ev.e_calk, Ev.e_calv, Ev.e_blt, Ev.e_mak, Ev.e_mth, Ev.e_omt, Ev.e_isi, Ev.e_cmpr, Ev.es_nil, Ev.es_cons, Ev.y_of, Ev.y_enum, Ev.y_zip, Ev.y_rng, Ev.y_rng2, Ev.y_items, Ev.y_vals, Ev.if_nil, Ev.if_cons, Ev.tg_nm, Ev.tg_tup, Ev.tg_idx, Ev.tg_fld, Ev.tgs_nil, Ev.tgs_cons, Ev.t_bl, Ev.t_int, Ev.t_tup, Ev.t_non, Ev.t_fl, Ev.r_val, Ev.r_new, Ev.o_lst, Ev.o_set, Ev.s_tup, Ev.s_fl, Ev.s_ref, Ev.l_fl, Ev.i_tup, Ev.a_0, Ev.a_1, Ev.a_2, Ev.a_3, Ev.a_4, Ev.a_nat, Ev.b_len, Ev.b_abs, Ev.b_max, Ev.b_min, Ev.b_int, Ev.b_inb, Ev.n_tup, Ev.d_add, Ev.d_sub, Ev.c_lt, Ev.c_le, Ev.c_gt, Ev.c_ge, Ev.w_lt, Ev.w_le, Ev.w_gt, Ev.w_ge, Ev.w_eqi, Ev.w_nei, Ev.w_neb, Ev.w_eqb, Ev.y_int, Ev.y_bl, Ev.y_tup, Ev.it_tup, Ev.z_slc2, Ev.mup_same, Ev.mup_mup, Ev.isPt, Ev.z_ii, Ev.z_bi, Ev.z_ib, Ev.z_ll, Ev.z_lt, Ev.z_tt, Ev.z_tl, Ev.z_cc, Ev.isiOk, Ev.Tgs.len, Ev.wipe]
          (rw [Ev.x_cons]; simp [Ev.x_nil, Ev.s_exp, Ev.s_asgn, Ev.s_par2, Ev.s_ret, Ev.s_retn, Ev.s_ifs, Ev.s_pas, Ev.s_brk, Ev.s_cnt, Ev.s_for, Ev.e_var, Ev.e_int, Ev.e_bl, Ev.e_non, Ev.e_str, Ev.e_gc, Ev.e_fn, Ev.e_bin, Ev.e_neg, Ev.e_not, Ev.e_and, Ev.e_or, Ev.e_ite, Ev.e_cmp, Ev.e_chain, Ev.e_tup, Ev.e_lst, Ev.e_dct0, Ev.e_dct1, Ev.e_idx, Ev.e_slc, Ev.e_rev, Ev.e_fld, Ev.e_call, Ev.e_calk, Ev.e_calv, Ev.e_blt, Ev.e_mak, Ev.e_mth, Ev.e_omt, Ev.e_isi, Ev.e_cmpr, Ev.es_nil, Ev.es_cons, Ev.y_of, Ev.y_enum, Ev.y_zip, Ev.y_rng, Ev.y_rng2, Ev.y_items, Ev.y_vals, Ev.if_nil, Ev.if_cons, Ev.tg_nm, Ev.tg_tup, Ev.tg_idx, Ev.tg_fld, Ev.tgs_nil, Ev.tgs_cons, Ev.t_bl, Ev.t_int, Ev.t_tup, Ev.t_non, Ev.t_fl, Ev.r_val, Ev.r_new, Ev.o_lst, Ev.o_set, Ev.s_tup, Ev.s_fl, Ev.s_ref, Ev.l_fl, Ev.i_tup, Ev.a_0, Ev.a_1, Ev.a_2, Ev.a_3, Ev.a_4, Ev.a_nat, Ev.b_len, Ev.b_abs, Ev.b_max, Ev.b_min, Ev.b_int, Ev.b_inb, Ev.n_tup, Ev.d_add, Ev.d_sub, Ev.c_lt, Ev.c_le, Ev.c_gt, Ev.c_ge, Ev.w_lt, Ev.w_le, Ev.w_gt, Ev.w_ge, Ev.w_eqi, Ev.w_nei, Ev.w_neb, Ev.w_eqb, Ev.y_int, Ev.y_bl, Ev.y_tup, Ev.it_tup, Ev.z_slc2, Ev.mup_same, Ev.mup_mup, Ev.isPt, Ev.z_ii, Ev.z_bi, Ev.z_ib, Ev.z_ll, Ev.z_lt, Ev.z_tt, Ev.z_tl, Ev.z_cc, Ev.isiOk, Ev.Tgs.len, Ev.wipe])
          refine (Ev.w_nin (k_nin hP (fitP s3.1))).mpr ?_
          rw [plc_get jk.inj]
          have wayE : ∀ z : Nat, (PV.tup [.int i, .int l, .int z, .int y.2]) = wp (i, l, z, y.2) := fun z => rfl
          by_cases mem : y.1 ∈ s3.1
          · have g2 : dget (plc nP s3.1) (nP y.1) = some (.int (s3.1.idxOf y.1 : Nat)) := by rw [plc_get jk.inj, if_pos mem]
            have aN : addN s3.1 y.1 = s3.1 := if_pos mem
            simp only [mem, if_true, Option.isSome_some, Bool.not_true, Ev.t_bl, Ev.x_nil]
            (rw [Ev.x_cons]; simp [Ev.x_nil, Ev.s_exp, Ev.s_asgn, Ev.s_par2, Ev.s_ret, Ev.s_retn, Ev.s_ifs, Ev.s_pas, Ev.s_brk, Ev.s_cnt, Ev.s_for, Ev.e_var, Ev.e_int, Ev.e_bl, Ev.e_non, Ev.e_str, Ev.e_gc, Ev.e_fn, Ev.e_bin, Ev.e_neg, Ev.e_not, Ev.e_and, Ev.e_or, Ev.e_ite, Ev.e_cmp, Ev.e_chain, Ev.e_tup, Ev.e_lst, Ev.e_dct0, Ev.e_dct1, Ev.e_idx, Ev.e_slc, Ev.e_rev, Ev.e_fld, Ev.e_call, Ev.e_calk, Ev.e_calv, Ev.e_blt, Ev.e_mak, Ev.e_mth, Ev.e_omt, Ev.e_isi, Ev.e_cmpr, Ev.es_nil, Ev.es_cons, Ev.y_of, Ev.y_enum, Ev.y_zip, Ev.y_rng, Ev.y_rng2, Ev.y_items, Ev.y_vals, Ev.if_nil, Ev.if_cons, Ev.tg_nm, Ev.tg_tup, Ev.tg_idx, Ev.tg_fld, Ev.tgs_nil, Ev.tgs_cons, Ev.t_bl, Ev.t_int, Ev.t_tup, Ev.t_non, Ev.t_fl, Ev.r_val, Ev.r_new, Ev.o_lst, Ev.o_set, Ev.s_tup, Ev.s_fl, Ev.s_ref, Ev.l_fl, Ev.i_tup, Ev.a_0, Ev.a_1, Ev.a_2, Ev.a_3, Ev.a_4, Ev.a_nat, Ev.b_len, Ev.b_abs, Ev.b_max, Ev.b_min, Ev.b_int, Ev.b_inb, Ev.n_tup, Ev.d_add, Ev.d_sub, Ev.c_lt, Ev.c_le, Ev.c_gt, Ev.c_ge, Ev.w_lt, Ev.w_le, Ev.w_gt, Ev.w_ge, Ev.w_eqi, Ev.w_nei, Ev.w_neb, Ev.w_eqb, Ev.y_int, Ev.y_bl, Ev.y_tup, Ev.it_tup, Ev.z_slc2, Ev.mup_same, Ev.mup_mup, Ev.isPt, Ev.z_ii, Ev.z_bi, Ev.z_ib, Ev.z_ll, Ev.z_lt, Ev.z_tt, Ev.z_tl, Ev.z_cc, Ev.isiOk, Ev.Tgs.len, Ev.wipe, o_app hW, i_dct hP (fitP s3.1), g2, four, u_app hW, gi4])
            rw [wayE]
            refine hk _ _ ⟨⟨_, _, _, rfl⟩, e.mup hf0, ?_, ?_, ?_, ?_, ?_, px'⟩
            · rw [mup_ne ne2]
              show _ = some (MO.lst ((addN s3.1 y.1).map nP))
              rw [aN]
              exact hN
            · rw [mup_ne ne3]
              show _ = some (MO.dct (plc nP (addN s3.1 y.1)))
              rw [aN]
              exact hP
            · rw [mup_same]
              show _ = some (MO.lst ((s3.2 ++ [(i, l, (addN s3.1 y.1).idxOf y.1, y.2)]).map wp))
              rw [aN, List.map_append]
              rfl
            · rw [mup_ne (fun z => nsW z.symm)]
              exact mnb
            · rw [mup_ne (fun z => nfW z.symm)]
              exact mfb
          · have aN : addN s3.1 y.1 = s3.1 ++ [y.1] := if_neg mem
            have lnP : (plc nP s3.1).length < sizeLine := by unfold plc; rw [plI_len]; omega
            simp only [mem, if_false, Option.isSome_none, Bool.not_false, Ev.t_bl]
            (rw [Ev.x_cons]; simp [Ev.x_nil, Ev.s_exp, Ev.s_asgn, Ev.s_par2, Ev.s_ret, Ev.s_retn, Ev.s_ifs, Ev.s_pas, Ev.s_brk, Ev.s_cnt, Ev.s_for, Ev.e_var, Ev.e_int, Ev.e_bl, Ev.e_non, Ev.e_str, Ev.e_gc, Ev.e_fn, Ev.e_bin, Ev.e_neg, Ev.e_not, Ev.e_and, Ev.e_or, Ev.e_ite, Ev.e_cmp, Ev.e_chain, Ev.e_tup, Ev.e_lst, Ev.e_dct0, Ev.e_dct1, Ev.e_idx, Ev.e_slc, Ev.e_rev, Ev.e_fld, Ev.e_call, Ev.e_calk, Ev.e_calv, Ev.e_blt, Ev.e_mak, Ev.e_mth, Ev.e_omt, Ev.e_isi, Ev.e_cmpr, Ev.es_nil, Ev.es_cons, Ev.y_of, Ev.y_enum, Ev.y_zip, Ev.y_rng, Ev.y_rng2, Ev.y_items, Ev.y_vals, Ev.if_nil, Ev.if_cons, Ev.tg_nm, Ev.tg_tup, Ev.tg_idx, Ev.tg_fld, Ev.tgs_nil, Ev.tgs_cons, Ev.t_bl, Ev.t_int, Ev.t_tup, Ev.t_non, Ev.t_fl, Ev.r_val, Ev.r_new, Ev.o_lst, Ev.o_set, Ev.s_tup, Ev.s_fl, Ev.s_ref, Ev.l_fl, Ev.i_tup, Ev.a_0, Ev.a_1, Ev.a_2, Ev.a_3, Ev.a_4, Ev.a_nat, Ev.b_len, Ev.b_abs, Ev.b_max, Ev.b_min, Ev.b_int, Ev.b_inb, Ev.n_tup, Ev.d_add, Ev.d_sub, Ev.c_lt, Ev.c_le, Ev.c_gt, Ev.c_ge, Ev.w_lt, Ev.w_le, Ev.w_gt, Ev.w_ge, Ev.w_eqi, Ev.w_nei, Ev.w_neb, Ev.w_eqb, Ev.y_int, Ev.y_bl, Ev.y_tup, Ev.it_tup, Ev.z_slc2, Ev.mup_same, Ev.mup_mup, Ev.isPt, Ev.z_ii, Ev.z_bi, Ev.z_ib, Ev.z_ll, Ev.z_lt, Ev.z_tt, Ev.z_tl, Ev.z_cc, Ev.isiOk, Ev.Tgs.len, Ev.wipe, n_lst hN, p_dct hP, fitP s3.1, lnP])
            rw [plc_put jk.inj _ _ mem]
            have hN' : (mup M8 pd (.dct (plc nP (s3.1 ++ [y.1])))) nd = some (.lst (s3.1.map nP)) := by rw [mup_ne ne1]; exact hN
            have lnN : s3.1.length < sizeLine := by omega
            (rw [Ev.x_cons]; simp [Ev.x_nil, Ev.s_exp, Ev.s_asgn, Ev.s_par2, Ev.s_ret, Ev.s_retn, Ev.s_ifs, Ev.s_pas, Ev.s_brk, Ev.s_cnt, Ev.s_for, Ev.e_var, Ev.e_int, Ev.e_bl, Ev.e_non, Ev.e_str, Ev.e_gc, Ev.e_fn, Ev.e_bin, Ev.e_neg, Ev.e_not, Ev.e_and, Ev.e_or, Ev.e_ite, Ev.e_cmp, Ev.e_chain, Ev.e_tup, Ev.e_lst, Ev.e_dct0, Ev.e_dct1, Ev.e_idx, Ev.e_slc, Ev.e_rev, Ev.e_fld, Ev.e_call, Ev.e_calk, Ev.e_calv, Ev.e_blt, Ev.e_mak, Ev.e_mth, Ev.e_omt, Ev.e_isi, Ev.e_cmpr, Ev.es_nil, Ev.es_cons, Ev.y_of, Ev.y_enum, Ev.y_zip, Ev.y_rng, Ev.y_rng2, Ev.y_items, Ev.y_vals, Ev.if_nil, Ev.if_cons, Ev.tg_nm, Ev.tg_tup, Ev.tg_idx, Ev.tg_fld, Ev.tgs_nil, Ev.tgs_cons, Ev.t_bl, Ev.t_int, Ev.t_tup, Ev.t_non, Ev.t_fl, Ev.r_val, Ev.r_new, Ev.o_lst, Ev.o_set, Ev.s_tup, Ev.s_fl, Ev.s_ref, Ev.l_fl, Ev.i_tup, Ev.a_0, Ev.a_1, Ev.a_2, Ev.a_3, Ev.a_4, Ev.a_nat, Ev.b_len, Ev.b_abs, Ev.b_max, Ev.b_min, Ev.b_int, Ev.b_inb, Ev.n_tup, Ev.d_add, Ev.d_sub, Ev.c_lt, Ev.c_le, Ev.c_gt, Ev.c_ge, Ev.w_lt, Ev.w_le, Ev.w_gt, Ev.w_ge, Ev.w_eqi, Ev.w_nei, Ev.w_neb, Ev.w_eqb, Ev.y_int, Ev.y_bl, Ev.y_tup, Ev.it_tup, Ev.z_slc2, Ev.mup_same, Ev.mup_mup, Ev.isPt, Ev.z_ii, Ev.z_bi, Ev.z_ib, Ev.z_ll, Ev.z_lt, Ev.z_tt, Ev.z_tl, Ev.z_cc, Ev.isiOk, Ev.Tgs.len, Ev.wipe, o_app hN', u_app hN', lnN])
            have hP' : (mup (mup M8 pd (.dct (plc nP (s3.1 ++ [y.1])))) nd (.lst (s3.1.map nP ++ [nP y.1]))) pd = some (.dct (plc nP (s3.1 ++ [y.1]))) := by rw [mup_ne (fun z => ne1 z.symm), mup_same]
            have hW' : (mup (mup M8 pd (.dct (plc nP (s3.1 ++ [y.1])))) nd (.lst (s3.1.map nP ++ [nP y.1]))) fd = some (.lst (s3.2.map wp)) := by rw [mup_ne (fun z => ne2 z.symm), mup_ne (fun z => ne3 z.symm), hW]
            have hS' : (mup (mup M8 pd (.dct (plc nP (s3.1 ++ [y.1])))) nd (.lst (s3.1.map nP ++ [nP y.1]))) nb = some (.lst ((byW J.near (J.p1 x) l).map wp)) := by rw [mup_ne (fun z => nsN z.symm), mup_ne (fun z => nsP z.symm), mnb]
            have hT' : (mup (mup M8 pd (.dct (plc nP (s3.1 ++ [y.1])))) nd (.lst (s3.1.map nP ++ [nP y.1]))) fb = some (.lst ((byW J.far (J.p2 x) l).map wp)) := by rw [mup_ne (fun z => nfN z.symm), mup_ne (fun z => nfP z.symm), mfb]
            have hN2 : (mup (mup M8 pd (.dct (plc nP (s3.1 ++ [y.1])))) nd (.lst (s3.1.map nP ++ [nP y.1]))) nd = some (.lst ((s3.1 ++ [y.1]).map nP)) := by rw [mup_same, List.map_append]; rfl
            have e' : Ext M (mup (mup M8 pd (.dct (plc nP (s3.1 ++ [y.1])))) nd (.lst (s3.1.map nP ++ [nP y.1]))) := (e.mup hp0).mup hnd
            generalize mup (mup M8 pd (.dct (plc nP (s3.1 ++ [y.1])))) nd (.lst (s3.1.map nP ++ [nP y.1])) = M9 at *
            have g2 : dget (plc nP (s3.1 ++ [y.1])) (nP y.1) = some (.int ((s3.1 ++ [y.1]).idxOf y.1 : Nat)) := by rw [plc_get jk.inj, if_pos (by simp)]
            (rw [Ev.x_cons]; simp [Ev.x_nil, Ev.s_exp, Ev.s_asgn, Ev.s_par2, Ev.s_ret, Ev.s_retn, Ev.s_ifs, Ev.s_pas, Ev.s_brk, Ev.s_cnt, Ev.s_for, Ev.e_var, Ev.e_int, Ev.e_bl, Ev.e_non, Ev.e_str, Ev.e_gc, Ev.e_fn, Ev.e_bin, Ev.e_neg, Ev.e_not, Ev.e_and, Ev.e_or, Ev.e_ite, Ev.e_cmp, Ev.e_chain, Ev.e_tup, Ev.e_lst, Ev.e_dct0, Ev.e_dct1, Ev.e_idx, Ev.e_slc, Ev.e_rev, Ev.e_fld, Ev.e_call, Ev.e_calk, Ev.e_calv, Ev.e_blt, Ev.e_mak, Ev.e_mth, Ev.e_omt, Ev.e_isi, Ev.e_cmpr, Ev.es_nil, Ev.es_cons, Ev.y_of, Ev.y_enum, Ev.y_zip, Ev.y_rng, Ev.y_rng2, Ev.y_items, Ev.y_vals, Ev.if_nil, Ev.if_cons, Ev.tg_nm, Ev.tg_tup, Ev.tg_idx, Ev.tg_fld, Ev.tgs_nil, Ev.tgs_cons, Ev.t_bl, Ev.t_int, Ev.t_tup, Ev.t_non, Ev.t_fl, Ev.r_val, Ev.r_new, Ev.o_lst, Ev.o_set, Ev.s_tup, Ev.s_fl, Ev.s_ref, Ev.l_fl, Ev.i_tup, Ev.a_0, Ev.a_1, Ev.a_2, Ev.a_3, Ev.a_4, Ev.a_nat, Ev.b_len, Ev.b_abs, Ev.b_max, Ev.b_min, Ev.b_int, Ev.b_inb, Ev.n_tup, Ev.d_add, Ev.d_sub, Ev.c_lt, Ev.c_le, Ev.c_gt, Ev.c_ge, Ev.w_lt, Ev.w_le, Ev.w_gt, Ev.w_ge, Ev.w_eqi, Ev.w_nei, Ev.w_neb, Ev.w_eqb, Ev.y_int, Ev.y_bl, Ev.y_tup, Ev.it_tup, Ev.z_slc2, Ev.mup_same, Ev.mup_mup, Ev.isPt, Ev.z_ii, Ev.z_bi, Ev.z_ib, Ev.z_ll, Ev.z_lt, Ev.z_tt, Ev.z_tl, Ev.z_cc, Ev.isiOk, Ev.Tgs.len, Ev.wipe, o_app hW', i_dct hP' (fitP _), g2, four, u_app hW', gi4])
            rw [wayE]
            refine hk _ _ ⟨⟨_, _, _, rfl⟩, e'.mup hf0, ?_, ?_, ?_, ?_, ?_, px'⟩
            · rw [mup_ne ne2]
              show _ = some (MO.lst ((addN s3.1 y.1).map nP))
              rw [aN]
              exact hN2
            · rw [mup_ne ne3]
              show _ = some (MO.dct (plc nP (addN s3.1 y.1)))
              rw [aN]
              exact hP'
            · rw [mup_same]
              show _ = some (MO.lst ((s3.2 ++ [(i, l, (addN s3.1 y.1).idxOf y.1, y.2)]).map wp))
              rw [aN, List.map_append]
              rfl
            · rw [mup_ne (fun z => nsW z.symm)]
              exact hS'
            · rw [mup_ne (fun z => nfW z.symm)]
              exact hT'
        · obtain ⟨⟨c, d, e', rfl⟩, e, hN, hP, hW, mnb, mfb, px⟩ := h1
          simp [Ev.x_nil, Ev.s_exp, Ev.s_asgn, Ev.s_par2, Ev.s_ret, Ev.s_retn, Ev.s_ifs, Ev.s_pas, Ev.s_brk, Ev.s_cnt, Ev.s_for, Ev.e_var, Ev.e_int, Ev.e_bl, Ev.e_non, Ev.e_str, Ev.e_gc, Ev.e_fn, Ev.e_bin, Ev.e_neg, Ev.e_not, Ev.e_and, Ev.e_or, Ev.e_ite, Ev.e_cmp, Ev.e_chain, Ev.e_tup, Ev.e_lst, Ev.e_dct0, Ev.e_dct1, Ev.e_idx, Ev.e_slc, Ev.e_rev, Ev.e_fld, Ev.e_call, Ev.e_calk, Ev.e_calv, Ev.e_blt, Ev.e_mak, Ev.e_mth, Ev.e_omt, Ev.e_isi, Ev.e_cmpr, Ev.es_nil, Ev.es_cons, Ev.y_of, Ev.y_enum, Ev.y_zip, Ev.y_rng, Ev.y_rng2, Ev.y_items, Ev.y_vals, Ev.if_nil, Ev.if_cons, Ev.tg_nm, Ev.tg_tup, Ev.tg_idx, Ev.tg_fld, Ev.tgs_nil, Ev.tgs_cons, Ev.t_bl, Ev.t_int, Ev.t_tup, Ev.t_non, Ev.t_fl, Ev.r_val, Ev.r_new, Ev.o_lst, Ev.o_set, Ev.s_tup, Ev.s_fl, Ev.s_ref, Ev.l_fl, Ev.i_tup, Ev.a_0, Ev.a_1, Ev.a_2, Ev.a_3, Ev.a_4, Ev.a_nat, Ev.b_len, Ev.b_abs, Ev.b_max, Ev.b_min, Ev.b_int, Ev.b_inb, Ev.n_tup, Ev.d_add, Ev.d_sub, Ev.c_lt, Ev.c_le, Ev.c_gt, Ev.c_ge, Ev.w_lt, Ev.w_le, Ev.w_gt, Ev.w_ge, Ev.w_eqi, Ev.w_nei, Ev.w_neb, Ev.w_eqb, Ev.y_int, Ev.y_bl, Ev.y_tup, Ev.it_tup, Ev.z_slc2, Ev.mup_same, Ev.mup_mup, Ev.isPt, Ev.z_ii, Ev.z_bi, Ev.z_ib, Ev.z_ll, Ev.z_lt, Ev.z_tt, Ev.z_tl, Ev.z_cc, Ev.isiOk, Ev.Tgs.len, Ev.wipe]
          exact hk _ _ ⟨⟨_, _, _, _, rfl⟩, e, hN, hP, hW, mnb, px⟩
      · obtain ⟨⟨b, c, d, e', rfl⟩, e, hN, hP, hW, mnb, px⟩ := h1
        simp [Ev.x_nil, Ev.s_exp, Ev.s_asgn, Ev.s_par2, Ev.s_ret, Ev.s_retn, Ev.s_ifs, Ev.s_pas, Ev.s_brk, Ev.s_cnt, Ev.s_for, Ev.e_var, Ev.e_int, Ev.e_bl, Ev.e_non, Ev.e_str, Ev.e_gc, Ev.e_fn, Ev.e_bin, Ev.e_neg, Ev.e_not, Ev.e_and, Ev.e_or, Ev.e_ite, Ev.e_cmp, Ev.e_chain, Ev.e_tup, Ev.e_lst, Ev.e_dct0, Ev.e_dct1, Ev.e_idx, Ev.e_slc, Ev.e_rev, Ev.e_fld, Ev.e_call, Ev.e_calk, Ev.e_calv, Ev.e_blt, Ev.e_mak, Ev.e_mth, Ev.e_omt, Ev.e_isi, Ev.e_cmpr, Ev.es_nil, Ev.es_cons, Ev.y_of, Ev.y_enum, Ev.y_zip, Ev.y_rng, Ev.y_rng2, Ev.y_items, Ev.y_vals, Ev.if_nil, Ev.if_cons, Ev.tg_nm, Ev.tg_tup, Ev.tg_idx, Ev.tg_fld, Ev.tgs_nil, Ev.tgs_cons, Ev.t_bl, Ev.t_int, Ev.t_tup, Ev.t_non, Ev.t_fl, Ev.r_val, Ev.r_new, Ev.o_lst, Ev.o_set, Ev.s_tup, Ev.s_fl, Ev.s_ref, Ev.l_fl, Ev.i_tup, Ev.a_0, Ev.a_1, Ev.a_2, Ev.a_3, Ev.a_4, Ev.a_nat, Ev.b_len, Ev.b_abs, Ev.b_max, Ev.b_min, Ev.b_int, Ev.b_inb, Ev.n_tup, Ev.d_add, Ev.d_sub, Ev.c_lt, Ev.c_le, Ev.c_gt, Ev.c_ge, Ev.w_lt, Ev.w_le, Ev.w_gt, Ev.w_ge, Ev.w_eqi, Ev.w_nei, Ev.w_neb, Ev.w_eqb, Ev.y_int, Ev.y_bl, Ev.y_tup, Ev.it_tup, Ev.z_slc2, Ev.mup_same, Ev.mup_mup, Ev.isPt, Ev.z_ii, Ev.z_bi, Ev.z_ib, Ev.z_ll, Ev.z_lt, Ev.z_tt, Ev.z_tl, Ev.z_cc, Ev.isiOk, Ev.Tgs.len, Ev.wipe]
        exact hk _ _ ⟨⟨_, _, _, _, _, rfl⟩, e, hN, hP, hW⟩
    · obtain ⟨⟨a, b, c, d, e', rfl⟩, e, hN, hP, hW⟩ := h1
      (rw [Ev.x_cons]; simp [Ev.x_nil, Ev.s_exp, Ev.s_asgn, Ev.s_par2, Ev.s_ret, Ev.s_retn, Ev.s_ifs, Ev.s_pas, Ev.s_brk, Ev.s_cnt, Ev.s_for, Ev.e_var, Ev.e_int, Ev.e_bl, Ev.e_non, Ev.e_str, Ev.e_gc, Ev.e_fn, Ev.e_bin, Ev.e_neg, Ev.e_not, Ev.e_and, Ev.e_or, Ev.e_ite, Ev.e_cmp, Ev.e_chain, Ev.e_tup, Ev.e_lst, Ev.e_dct0, Ev.e_dct1, Ev.e_idx, Ev.e_slc, Ev.e_rev, Ev.e_fld, Ev.e_call, Ev.e_calk, Ev.e_calv, Ev.e_blt, Ev.e_mak, Ev.e_mth, Ev.e_omt, Ev.e_isi, Ev.e_cmpr, Ev.es_nil, Ev.es_cons, Ev.y_of, Ev.y_enum, Ev.y_zip, Ev.y_rng, Ev.y_rng2, Ev.y_items, Ev.y_vals, Ev.if_nil, Ev.if_cons, Ev.tg_nm, Ev.tg_tup, Ev.tg_idx, Ev.tg_fld, Ev.tgs_nil, Ev.tgs_cons, Ev.t_bl, Ev.t_int, Ev.t_tup, Ev.t_non, Ev.t_fl, Ev.r_val, Ev.r_new, Ev.o_lst, Ev.o_set, Ev.s_tup, Ev.s_fl, Ev.s_ref, Ev.l_fl, Ev.i_tup, Ev.a_0, Ev.a_1, Ev.a_2, Ev.a_3, Ev.a_4, Ev.a_nat, Ev.b_len, Ev.b_abs, Ev.b_max, Ev.b_min, Ev.b_int, Ev.b_inb, Ev.n_tup, Ev.d_add, Ev.d_sub, Ev.c_lt, Ev.c_le, Ev.c_gt, Ev.c_ge, Ev.w_lt, Ev.w_le, Ev.w_gt, Ev.w_ge, Ev.w_eqi, Ev.w_nei, Ev.w_neb, Ev.w_eqb, Ev.y_int, Ev.y_bl, Ev.y_tup, Ev.it_tup, Ev.z_slc2, Ev.mup_same, Ev.mup_mup, Ev.isPt, Ev.z_ii, Ev.z_bi, Ev.z_ib, Ev.z_ll, Ev.z_lt, Ev.z_tt, Ev.z_tl, Ev.z_cc, Ev.isiOk, Ev.Tgs.len, Ev.wipe])
      have few := jk.few i
      refine hK (n - 1) _ _ (by omega) (by
        rw [hI]
        have ie : (i : Int) + 1 = ((i + 1 : Nat) : Int) := by omega
        exact ⟨i + 1, _, _, _, _, _, by rw [ie], e, by rw [nx]; exact hN, by rw [nx]; exact hP, by rw [nx]; exact hW, by omega⟩)
end Rv
end

section
/-! Wj: readers of both. -/
namespace Rv
open PySem Ev
variable {T : Tab} {F : Nat → Option Fn} {k : Nat}
theorem max_cast {a b : Nat} : (if (b : Int) > (a : Int) then (b : Int) else (a : Int)) = ((max a b : Nat) : Int) := by
  split <;> omega
theorem step_both (h : FOk F) {near far : List Way} {L : Nat} : StepOk T F (bothJ near far L) nP i_both_step := fun k x w v M Q _ _ q => by
  refine cn_z h.h_both_step rfl ?_
  simp only [f_both_step, wp]
  have two : 2 ≤ sizeLine := by decide
  have e := @max_cast w.2.2.2 v.2.2.2
  (rw [Ev.x_cons]; simp [Ev.x_nil, Ev.s_exp, Ev.s_asgn, Ev.s_par2, Ev.s_ret, Ev.s_retn, Ev.s_ifs, Ev.s_pas, Ev.s_brk, Ev.s_cnt, Ev.s_for, Ev.e_var, Ev.e_int, Ev.e_bl, Ev.e_non, Ev.e_str, Ev.e_gc, Ev.e_fn, Ev.e_bin, Ev.e_neg, Ev.e_not, Ev.e_and, Ev.e_or, Ev.e_ite, Ev.e_cmp, Ev.e_chain, Ev.e_tup, Ev.e_lst, Ev.e_dct0, Ev.e_dct1, Ev.e_idx, Ev.e_slc, Ev.e_rev, Ev.e_fld, Ev.e_call, Ev.e_calk, Ev.e_calv, Ev.e_blt, Ev.e_mak, Ev.e_mth, Ev.e_omt, Ev.e_isi, Ev.e_cmpr, Ev.es_nil, Ev.es_cons, Ev.y_of, Ev.y_enum, Ev.y_zip, Ev.y_rng, Ev.y_rng2, Ev.y_items, Ev.y_vals, Ev.if_nil, Ev.if_cons, Ev.tg_nm, Ev.tg_tup, Ev.tg_idx, Ev.tg_fld, Ev.tgs_nil, Ev.tgs_cons, Ev.t_bl, Ev.t_int, Ev.t_tup, Ev.t_non, Ev.t_fl, Ev.r_val, Ev.r_new, Ev.o_lst, Ev.o_set, Ev.s_tup, Ev.s_fl, Ev.s_ref, Ev.l_fl, Ev.i_tup, Ev.a_0, Ev.a_1, Ev.a_2, Ev.a_3, Ev.a_4, Ev.a_nat, Ev.b_len, Ev.b_abs, Ev.b_max, Ev.b_min, Ev.b_int, Ev.b_inb, Ev.n_tup, Ev.d_add, Ev.d_sub, Ev.c_lt, Ev.c_le, Ev.c_gt, Ev.c_ge, Ev.w_lt, Ev.w_le, Ev.w_gt, Ev.w_ge, Ev.w_eqi, Ev.w_nei, Ev.w_neb, Ev.w_eqb, Ev.y_int, Ev.y_bl, Ev.y_tup, Ev.it_tup, Ev.z_slc2, Ev.mup_same, Ev.mup_mup, Ev.isPt, Ev.z_ii, Ev.z_bi, Ev.z_ib, Ev.z_ll, Ev.z_lt, Ev.z_tt, Ev.z_tl, Ev.z_cc, Ev.isiOk, Ev.Tgs.len, Ev.wipe, two])
  simp only [gt_iff_lt, Int.ofNat_lt] at e
  rw [e]
  exact q
theorem led_both (h : FOk F) {near far : List Way} {L : Nat} : LedOk T F (bothJ near far L) nP i_law_led_both := fun k x w v M Q _ _ q => by
  refine cn_z h.h_law_led_both rfl ?_
  simp only [f_law_led_both, wp]
  have two : 2 ≤ sizeLine := by decide
  have e := @max_cast w.2.2.2 v.2.2.2
  (rw [Ev.x_cons]; simp [Ev.x_nil, Ev.s_exp, Ev.s_asgn, Ev.s_par2, Ev.s_ret, Ev.s_retn, Ev.s_ifs, Ev.s_pas, Ev.s_brk, Ev.s_cnt, Ev.s_for, Ev.e_var, Ev.e_int, Ev.e_bl, Ev.e_non, Ev.e_str, Ev.e_gc, Ev.e_fn, Ev.e_bin, Ev.e_neg, Ev.e_not, Ev.e_and, Ev.e_or, Ev.e_ite, Ev.e_cmp, Ev.e_chain, Ev.e_tup, Ev.e_lst, Ev.e_dct0, Ev.e_dct1, Ev.e_idx, Ev.e_slc, Ev.e_rev, Ev.e_fld, Ev.e_call, Ev.e_calk, Ev.e_calv, Ev.e_blt, Ev.e_mak, Ev.e_mth, Ev.e_omt, Ev.e_isi, Ev.e_cmpr, Ev.es_nil, Ev.es_cons, Ev.y_of, Ev.y_enum, Ev.y_zip, Ev.y_rng, Ev.y_rng2, Ev.y_items, Ev.y_vals, Ev.if_nil, Ev.if_cons, Ev.tg_nm, Ev.tg_tup, Ev.tg_idx, Ev.tg_fld, Ev.tgs_nil, Ev.tgs_cons, Ev.t_bl, Ev.t_int, Ev.t_tup, Ev.t_non, Ev.t_fl, Ev.r_val, Ev.r_new, Ev.o_lst, Ev.o_set, Ev.s_tup, Ev.s_fl, Ev.s_ref, Ev.l_fl, Ev.i_tup, Ev.a_0, Ev.a_1, Ev.a_2, Ev.a_3, Ev.a_4, Ev.a_nat, Ev.b_len, Ev.b_abs, Ev.b_max, Ev.b_min, Ev.b_int, Ev.b_inb, Ev.n_tup, Ev.d_add, Ev.d_sub, Ev.c_lt, Ev.c_le, Ev.c_gt, Ev.c_ge, Ev.w_lt, Ev.w_le, Ev.w_gt, Ev.w_ge, Ev.w_eqi, Ev.w_nei, Ev.w_neb, Ev.w_eqb, Ev.y_int, Ev.y_bl, Ev.y_tup, Ev.it_tup, Ev.z_slc2, Ev.mup_same, Ev.mup_mup, Ev.isPt, Ev.z_ii, Ev.z_bi, Ev.z_ib, Ev.z_ll, Ev.z_lt, Ev.z_tt, Ev.z_tl, Ev.z_cc, Ev.isiOk, Ev.Tgs.len, Ev.wipe, two])
  simp only [gt_iff_lt, Int.ofNat_lt] at e
  rw [e]
  exact q
theorem nam_both {near far : List Way} {L : Nat} : Nam (bothJ near far L) nP where
  inj := enc_pair.inj
  tup _ := rfl
  key _ := rfl
  i0 _ _ := rfl
  i1 _ _ := rfl
theorem jok_both {near far : List Way} {L R1 R2 : Nat} (h1 : Drn L R1 near) (h2 : Drn L R2 far) (l2 : L ≤ 2) (r1 : R1 ≤ 2) (r2 : R2 ≤ 2) : JOk (bothJ near far L) nP R1 R2 where
  toNam := nam_both
  ok1 := h1.toROk
  ok2 := h2.toROk
  bd := both_names h1.toROk h2.toROk
  few n := Nat.le_trans (both_len h1.toROk h2.toROk n) (Nat.le_trans (Nat.mul_le_mul r1 r2) (by decide))
  ways n := by
    have a := Jn.jn_len (J := bothJ near far L) (B := 2 * 2) (fun x l => Jn.jps_len (h1.two _ _) (h2.two _ _)) n
    have b := both_len h1.toROk h2.toROk n
    have c : R1 * R2 ≤ 2 * 2 := Nat.mul_le_mul r1 r2
    have d : min n ((bothJ near far L).jn n).1.length ≤ 4 := by omega
    have e : min n ((bothJ near far L).jn n).1.length * ((bothJ near far L).L * (2 * 2)) ≤ 4 * (2 * (2 * 2)) := Nat.mul_le_mul d (Nat.mul_le_mul l2 (Nat.le_refl _))
    omega
  due n hn ws hw nd len := both_ok h1.toROk h2.toROk hn hw nd len (Nat.le_trans (Nat.mul_le_mul r1 r2) (by decide))
  dec x hx := by
    rw [List.mem_singleton] at hx
    subst hx
    exact ⟨h1.ro, h2.ro⟩
/-- the ways of the reader of both -/
structure Due (near far : List Way) (L R1 R2 R : Nat) (ws : List Way) : Prop where
  ok : ROk L R ws
  lets : ∀ b a, Lets ws b a ↔ Lets near b a ∧ Lets far b a
  single : near.length = L * R1 → far.length = L * R2 → ws.length = L * R
theorem due_both {near far ws : List Way} {L R1 R2 n : Nat} (h1 : Drn L R1 near) (h2 : Drn L R2 far) (l2 : L ≤ 2) (r1 : R1 ≤ 2) (r2 : R2 ≤ 2) (hn : (bothJ near far L).Full n) (hw : ∀ w, w ∈ ws ↔ w ∈ ((bothJ near far L).jn n).2) (nd : ws.Nodup) : Due near far L R1 R2 ((bothJ near far L).jn n).1.length ws := by
  have jk := jok_both h1 h2 l2 r1 r2
  have len : ws.length < 64 := Nat.lt_of_le_of_lt (nodup_len nd fun x hx => (hw x).mp hx) (jk.ways n)
  have ok := jk.due n hn ws hw nd len
  exact ⟨ok, fun b a => (both_both h1.toROk h2.toROk hn hw).lets, fun e1 e2 => both_single h1.toROk h2.toROk hn hw nd e1 e2 fun w hw => ⟨(ok.bd w hw).1, (ok.bd w hw).2.1⟩⟩
theorem addL_self {l : List Way} : ∀ x, x ∈ addL [] l ↔ x ∈ l := fun x => by rw [mem_addL]; simp
theorem due_eq {l : List Way} : sW (ddp l) = sW (addL [] l) := sW_eq (perm_of_mem (nodup_ddp l) (nodup_addL List.nodup_nil) fun x => by rw [mem_ddp, addL_self])
/-- the ways told: of the join, sorted -/
def dueB (near far : List Way) (L : Nat) (R : Nat) (ws : List Way) : Prop := ∃ n, (bothJ near far L).Full n ∧ R = ((bothJ near far L).jn n).1.length ∧ ws = sW (addL [] ((bothJ near far L).jn n).2)
theorem dueB.uniq {near far : List Way} {L R R' : Nat} {ws ws' : List Way} (h : dueB near far L R ws) (k : dueB near far L R' ws') : R = R' ∧ ws = ws' := by
  obtain ⟨n, h1, rfl, rfl⟩ := h
  obtain ⟨m, h2, rfl, rfl⟩ := k
  rw [Jn.jn_end h1 h2]
  exact ⟨rfl, rfl⟩
theorem dueB.due {near far : List Way} {L R1 R2 R : Nat} {ws : List Way} (h1 : Drn L R1 near) (h2 : Drn L R2 far) (l2 : L ≤ 2) (r1 : R1 ≤ 2) (r2 : R2 ≤ 2) (h : dueB near far L R ws) : Due near far L R1 R2 R ws := by
  obtain ⟨n, hn, rfl, rfl⟩ := h
  exact due_both h1 h2 l2 r1 r2 hn (fun w => by rw [mem_sW, addL_self]) ((sW_perm _).nodup_iff.mpr (nodup_addL List.nodup_nil))
theorem w_both_of (h : FOk F) (t : TOk T) {near far : List Way} {L R1 R2 : Nat} (h1 : Drn L R1 near) (h2 : Drn L R2 far) (l2 : L ≤ 2) (r1 : R1 ≤ 2) (r2 : R2 ≤ 2) {v u : PV} {M : MH} {Q : PV → MH → Prop} (hv : Rdr M v L R1 near) (hu : Rdr M u L R2 far)
    (q : ∀ z R ws M', Ext M M' → dueB near far L R ws → Rdr M' z L R ws → Q z M') : Cn T F (k + 9) i_both_of [v, u] M Q := by
  refine cn_z h.h_both_of rfl ?_
  simp only [f_both_of]
  (rw [Ev.x_cons]; simp [Ev.x_nil, Ev.s_exp, Ev.s_asgn, Ev.s_par2, Ev.s_ret, Ev.s_retn, Ev.s_ifs, Ev.s_pas, Ev.s_brk, Ev.s_cnt, Ev.s_for, Ev.e_var, Ev.e_int, Ev.e_bl, Ev.e_non, Ev.e_str, Ev.e_gc, Ev.e_fn, Ev.e_bin, Ev.e_neg, Ev.e_not, Ev.e_and, Ev.e_or, Ev.e_ite, Ev.e_cmp, Ev.e_chain, Ev.e_tup, Ev.e_lst, Ev.e_dct0, Ev.e_dct1, Ev.e_idx, Ev.e_slc, Ev.e_rev, Ev.e_fld, Ev.e_call, Ev.e_calk, Ev.e_calv, Ev.e_blt, Ev.e_mak, Ev.e_mth, Ev.e_omt, Ev.e_isi, Ev.e_cmpr, Ev.es_nil, Ev.es_cons, Ev.y_of, Ev.y_enum, Ev.y_zip, Ev.y_rng, Ev.y_rng2, Ev.y_items, Ev.y_vals, Ev.if_nil, Ev.if_cons, Ev.tg_nm, Ev.tg_tup, Ev.tg_idx, Ev.tg_fld, Ev.tgs_nil, Ev.tgs_cons, Ev.t_bl, Ev.t_int, Ev.t_tup, Ev.t_non, Ev.t_fl, Ev.r_val, Ev.r_new, Ev.o_lst, Ev.o_set, Ev.s_tup, Ev.s_fl, Ev.s_ref, Ev.l_fl, Ev.i_tup, Ev.a_0, Ev.a_1, Ev.a_2, Ev.a_3, Ev.a_4, Ev.a_nat, Ev.b_len, Ev.b_abs, Ev.b_max, Ev.b_min, Ev.b_int, Ev.b_inb, Ev.n_tup, Ev.d_add, Ev.d_sub, Ev.c_lt, Ev.c_le, Ev.c_gt, Ev.c_ge, Ev.w_lt, Ev.w_le, Ev.w_gt, Ev.w_ge, Ev.w_eqi, Ev.w_nei, Ev.w_neb, Ev.w_eqb, Ev.y_int, Ev.y_bl, Ev.y_tup, Ev.it_tup, Ev.z_slc2, Ev.mup_same, Ev.mup_mup, Ev.isPt, Ev.z_ii, Ev.z_bi, Ev.z_ib, Ev.z_ll, Ev.z_lt, Ev.z_tt, Ev.z_tl, Ev.z_cc, Ev.isiOk, Ev.Tgs.len, Ev.wipe])
  refine w_want_two h t hv hu ?_
  (rw [Ev.x_cons]; simp [Ev.x_nil, Ev.s_exp, Ev.s_asgn, Ev.s_par2, Ev.s_ret, Ev.s_retn, Ev.s_ifs, Ev.s_pas, Ev.s_brk, Ev.s_cnt, Ev.s_for, Ev.e_var, Ev.e_int, Ev.e_bl, Ev.e_non, Ev.e_str, Ev.e_gc, Ev.e_fn, Ev.e_bin, Ev.e_neg, Ev.e_not, Ev.e_and, Ev.e_or, Ev.e_ite, Ev.e_cmp, Ev.e_chain, Ev.e_tup, Ev.e_lst, Ev.e_dct0, Ev.e_dct1, Ev.e_idx, Ev.e_slc, Ev.e_rev, Ev.e_fld, Ev.e_call, Ev.e_calk, Ev.e_calv, Ev.e_blt, Ev.e_mak, Ev.e_mth, Ev.e_omt, Ev.e_isi, Ev.e_cmpr, Ev.es_nil, Ev.es_cons, Ev.y_of, Ev.y_enum, Ev.y_zip, Ev.y_rng, Ev.y_rng2, Ev.y_items, Ev.y_vals, Ev.if_nil, Ev.if_cons, Ev.tg_nm, Ev.tg_tup, Ev.tg_idx, Ev.tg_fld, Ev.tgs_nil, Ev.tgs_cons, Ev.t_bl, Ev.t_int, Ev.t_tup, Ev.t_non, Ev.t_fl, Ev.r_val, Ev.r_new, Ev.o_lst, Ev.o_set, Ev.s_tup, Ev.s_fl, Ev.s_ref, Ev.l_fl, Ev.i_tup, Ev.a_0, Ev.a_1, Ev.a_2, Ev.a_3, Ev.a_4, Ev.a_nat, Ev.b_len, Ev.b_abs, Ev.b_max, Ev.b_min, Ev.b_int, Ev.b_inb, Ev.n_tup, Ev.d_add, Ev.d_sub, Ev.c_lt, Ev.c_le, Ev.c_gt, Ev.c_ge, Ev.w_lt, Ev.w_le, Ev.w_gt, Ev.w_ge, Ev.w_eqi, Ev.w_nei, Ev.w_neb, Ev.w_eqb, Ev.y_int, Ev.y_bl, Ev.y_tup, Ev.it_tup, Ev.z_slc2, Ev.mup_same, Ev.mup_mup, Ev.isPt, Ev.z_ii, Ev.z_bi, Ev.z_ib, Ev.z_ll, Ev.z_lt, Ev.z_tt, Ev.z_tl, Ev.z_cc, Ev.isiOk, Ev.Tgs.len, Ev.wipe])
  refine cn_z h.h_both_made rfl ?_
  simp only [f_both_made]
  have two : 2 ≤ sizeLine := by decide
  (rw [Ev.x_cons]; simp [Ev.x_nil, Ev.s_exp, Ev.s_asgn, Ev.s_par2, Ev.s_ret, Ev.s_retn, Ev.s_ifs, Ev.s_pas, Ev.s_brk, Ev.s_cnt, Ev.s_for, Ev.e_var, Ev.e_int, Ev.e_bl, Ev.e_non, Ev.e_str, Ev.e_gc, Ev.e_fn, Ev.e_bin, Ev.e_neg, Ev.e_not, Ev.e_and, Ev.e_or, Ev.e_ite, Ev.e_cmp, Ev.e_chain, Ev.e_tup, Ev.e_lst, Ev.e_dct0, Ev.e_dct1, Ev.e_idx, Ev.e_slc, Ev.e_rev, Ev.e_fld, Ev.e_call, Ev.e_calk, Ev.e_calv, Ev.e_blt, Ev.e_mak, Ev.e_mth, Ev.e_omt, Ev.e_isi, Ev.e_cmpr, Ev.es_nil, Ev.es_cons, Ev.y_of, Ev.y_enum, Ev.y_zip, Ev.y_rng, Ev.y_rng2, Ev.y_items, Ev.y_vals, Ev.if_nil, Ev.if_cons, Ev.tg_nm, Ev.tg_tup, Ev.tg_idx, Ev.tg_fld, Ev.tgs_nil, Ev.tgs_cons, Ev.t_bl, Ev.t_int, Ev.t_tup, Ev.t_non, Ev.t_fl, Ev.r_val, Ev.r_new, Ev.o_lst, Ev.o_set, Ev.s_tup, Ev.s_fl, Ev.s_ref, Ev.l_fl, Ev.i_tup, Ev.a_0, Ev.a_1, Ev.a_2, Ev.a_3, Ev.a_4, Ev.a_nat, Ev.b_len, Ev.b_abs, Ev.b_max, Ev.b_min, Ev.b_int, Ev.b_inb, Ev.n_tup, Ev.d_add, Ev.d_sub, Ev.c_lt, Ev.c_le, Ev.c_gt, Ev.c_ge, Ev.w_lt, Ev.w_le, Ev.w_gt, Ev.w_ge, Ev.w_eqi, Ev.w_nei, Ev.w_neb, Ev.w_eqb, Ev.y_int, Ev.y_bl, Ev.y_tup, Ev.it_tup, Ev.z_slc2, Ev.mup_same, Ev.mup_mup, Ev.isPt, Ev.z_ii, Ev.z_bi, Ev.z_ib, Ev.z_ll, Ev.z_lt, Ev.z_tt, Ev.z_tl, Ev.z_cc, Ev.isiOk, Ev.Tgs.len, Ev.wipe, two])
  exact w_joined_by h t (jok_both h1 h2 l2 r1 r2) (step_both h) hv hu fun z n M' e hn hz => q z _ _ M' e ⟨n, hn, rfl, rfl⟩ hz
theorem eq_three {M : MH} {p q a b : Addr} {c d m n : Nat} {l l' : List Way} (hp : M p = some (.lst [.int c, .int d, .ref a])) (hq : M q = some (.lst [.int m, .int n, .ref b])) (ha : M a = some (.lst (l.map wp))) (hb : M b = some (.lst (l'.map wp))) : eqR M (.ref p) (.ref q) = some (decide (c = m ∧ d = n ∧ l = l')) := by
  unfold eqR dD
  simp only [den, hp, hq, mapO, ha, hb, enc_way.list M 6, Option.map_some, PyData.eqv, PyData.eqvAll, enc_way.alls, Option.some.injEq]
  rw [Bool.eq_iff_iff]
  simp only [Bool.and_eq_true, beq_iff_eq, Int.natCast_inj, decide_eq_true_eq, and_true]
theorem w_right (h : FOk F) (t : TOk T) {near far : List Way} {L R1 R2 : Nat} (h1 : Drn L R1 near) (h2 : Drn L R2 far) (l2 : L ≤ 2) (r1 : R1 ≤ 2) (r2 : R2 ≤ 2) {pot p1 p2 : Addr} {M : MH} {Q : PV → MH → Prop} (hp : Pot M pot) (m1 : M p1 = some (.lst (near.map wp))) (m2 : M p2 = some (.lst (far.map wp)))
    (q : ∀ M', Pot M' pot → ExtP pot M M' → Q (.bl true) M') : Cn T F (k + 10) i_law_right [.ref pot, .int L, .tup [.int R1, .ref p1], .tup [.int R2, .ref p2]] M Q := by
  refine cn_z h.h_law_right rfl ?_
  simp only [f_law_right]
  have two : 2 ≤ sizeLine := by decide
  have three : 3 ≤ sizeLine := by decide
  (rw [Ev.x_cons]; simp [Ev.x_nil, Ev.s_exp, Ev.s_asgn, Ev.s_par2, Ev.s_ret, Ev.s_retn, Ev.s_ifs, Ev.s_pas, Ev.s_brk, Ev.s_cnt, Ev.s_for, Ev.e_var, Ev.e_int, Ev.e_bl, Ev.e_non, Ev.e_str, Ev.e_gc, Ev.e_fn, Ev.e_bin, Ev.e_neg, Ev.e_not, Ev.e_and, Ev.e_or, Ev.e_ite, Ev.e_cmp, Ev.e_chain, Ev.e_tup, Ev.e_lst, Ev.e_dct0, Ev.e_dct1, Ev.e_idx, Ev.e_slc, Ev.e_rev, Ev.e_fld, Ev.e_call, Ev.e_calk, Ev.e_calv, Ev.e_blt, Ev.e_mak, Ev.e_mth, Ev.e_omt, Ev.e_isi, Ev.e_cmpr, Ev.es_nil, Ev.es_cons, Ev.y_of, Ev.y_enum, Ev.y_zip, Ev.y_rng, Ev.y_rng2, Ev.y_items, Ev.y_vals, Ev.if_nil, Ev.if_cons, Ev.tg_nm, Ev.tg_tup, Ev.tg_idx, Ev.tg_fld, Ev.tgs_nil, Ev.tgs_cons, Ev.t_bl, Ev.t_int, Ev.t_tup, Ev.t_non, Ev.t_fl, Ev.r_val, Ev.r_new, Ev.o_lst, Ev.o_set, Ev.s_tup, Ev.s_fl, Ev.s_ref, Ev.l_fl, Ev.i_tup, Ev.a_0, Ev.a_1, Ev.a_2, Ev.a_3, Ev.a_4, Ev.a_nat, Ev.b_len, Ev.b_abs, Ev.b_max, Ev.b_min, Ev.b_int, Ev.b_inb, Ev.n_tup, Ev.d_add, Ev.d_sub, Ev.c_lt, Ev.c_le, Ev.c_gt, Ev.c_ge, Ev.w_lt, Ev.w_le, Ev.w_gt, Ev.w_ge, Ev.w_eqi, Ev.w_nei, Ev.w_neb, Ev.w_eqb, Ev.y_int, Ev.y_bl, Ev.y_tup, Ev.it_tup, Ev.z_slc2, Ev.mup_same, Ev.mup_mup, Ev.isPt, Ev.z_ii, Ev.z_bi, Ev.z_ib, Ev.z_ll, Ev.z_lt, Ev.z_tt, Ev.z_tl, Ev.z_cc, Ev.isiOk, Ev.Tgs.len, Ev.wipe, two])
  refine w_law_joined h (J := bothJ near far L) (nP := nP) (jok_both h1 h2 l2 r1 r2) (led_both h) (l_ref m1) (l_ref m2) fun pd n M1 e1 hn md => ?_
  have db : dueB near far L ((bothJ near far L).jn n).1.length (sW (ddp ((bothJ near far L).jn n).2)) := ⟨n, hn, rfl, due_eq⟩
  generalize ((bothJ near far L).jn n).1.length = R at *
  generalize sW (ddp ((bothJ near far L).jn n).2) = due at *
  have dd := db.due h1 h2 l2 r1 r2
  have m1' := e1 _ _ m1
  have m2' := e1 _ _ m2
  simp [Ev.x_nil, Ev.s_exp, Ev.s_asgn, Ev.s_par2, Ev.s_ret, Ev.s_retn, Ev.s_ifs, Ev.s_pas, Ev.s_brk, Ev.s_cnt, Ev.s_for, Ev.e_var, Ev.e_int, Ev.e_bl, Ev.e_non, Ev.e_str, Ev.e_gc, Ev.e_fn, Ev.e_bin, Ev.e_neg, Ev.e_not, Ev.e_and, Ev.e_or, Ev.e_ite, Ev.e_cmp, Ev.e_chain, Ev.e_tup, Ev.e_lst, Ev.e_dct0, Ev.e_dct1, Ev.e_idx, Ev.e_slc, Ev.e_rev, Ev.e_fld, Ev.e_call, Ev.e_calk, Ev.e_calv, Ev.e_blt, Ev.e_mak, Ev.e_mth, Ev.e_omt, Ev.e_isi, Ev.e_cmpr, Ev.es_nil, Ev.es_cons, Ev.y_of, Ev.y_enum, Ev.y_zip, Ev.y_rng, Ev.y_rng2, Ev.y_items, Ev.y_vals, Ev.if_nil, Ev.if_cons, Ev.tg_nm, Ev.tg_tup, Ev.tg_idx, Ev.tg_fld, Ev.tgs_nil, Ev.tgs_cons, Ev.t_bl, Ev.t_int, Ev.t_tup, Ev.t_non, Ev.t_fl, Ev.r_val, Ev.r_new, Ev.o_lst, Ev.o_set, Ev.s_tup, Ev.s_fl, Ev.s_ref, Ev.l_fl, Ev.i_tup, Ev.a_0, Ev.a_1, Ev.a_2, Ev.a_3, Ev.a_4, Ev.a_nat, Ev.b_len, Ev.b_abs, Ev.b_max, Ev.b_min, Ev.b_int, Ev.b_inb, Ev.n_tup, Ev.d_add, Ev.d_sub, Ev.c_lt, Ev.c_le, Ev.c_gt, Ev.c_ge, Ev.w_lt, Ev.w_le, Ev.w_gt, Ev.w_ge, Ev.w_eqi, Ev.w_nei, Ev.w_neb, Ev.w_eqb, Ev.y_int, Ev.y_bl, Ev.y_tup, Ev.it_tup, Ev.z_slc2, Ev.mup_same, Ev.mup_mup, Ev.isPt, Ev.z_ii, Ev.z_bi, Ev.z_ib, Ev.z_ll, Ev.z_lt, Ev.z_tt, Ev.z_tl, Ev.z_cc, Ev.isiOk, Ev.Tgs.len, Ev.wipe]
  (rw [Ev.x_cons]; simp [Ev.x_nil, Ev.s_exp, Ev.s_asgn, Ev.s_par2, Ev.s_ret, Ev.s_retn, Ev.s_ifs, Ev.s_pas, Ev.s_brk, Ev.s_cnt, Ev.s_for, Ev.e_var, Ev.e_int, Ev.e_bl, Ev.e_non, Ev.e_str, Ev.e_gc, Ev.e_fn, Ev.e_bin, Ev.e_neg, Ev.e_not, Ev.e_and, Ev.e_or, Ev.e_ite, Ev.e_cmp, Ev.e_chain, Ev.e_tup, Ev.e_lst, Ev.e_dct0, Ev.e_dct1, Ev.e_idx, Ev.e_slc, Ev.e_rev, Ev.e_fld, Ev.e_call, Ev.e_calk, Ev.e_calv, Ev.e_blt, Ev.e_mak, Ev.e_mth, Ev.e_omt, Ev.e_isi, Ev.e_cmpr, Ev.es_nil, Ev.es_cons, Ev.y_of, Ev.y_enum, Ev.y_zip, Ev.y_rng, Ev.y_rng2, Ev.y_items, Ev.y_vals, Ev.if_nil, Ev.if_cons, Ev.tg_nm, Ev.tg_tup, Ev.tg_idx, Ev.tg_fld, Ev.tgs_nil, Ev.tgs_cons, Ev.t_bl, Ev.t_int, Ev.t_tup, Ev.t_non, Ev.t_fl, Ev.r_val, Ev.r_new, Ev.o_lst, Ev.o_set, Ev.s_tup, Ev.s_fl, Ev.s_ref, Ev.l_fl, Ev.i_tup, Ev.a_0, Ev.a_1, Ev.a_2, Ev.a_3, Ev.a_4, Ev.a_nat, Ev.b_len, Ev.b_abs, Ev.b_max, Ev.b_min, Ev.b_int, Ev.b_inb, Ev.n_tup, Ev.d_add, Ev.d_sub, Ev.c_lt, Ev.c_le, Ev.c_gt, Ev.c_ge, Ev.w_lt, Ev.w_le, Ev.w_gt, Ev.w_ge, Ev.w_eqi, Ev.w_nei, Ev.w_neb, Ev.w_eqb, Ev.y_int, Ev.y_bl, Ev.y_tup, Ev.it_tup, Ev.z_slc2, Ev.mup_same, Ev.mup_mup, Ev.isPt, Ev.z_ii, Ev.z_bi, Ev.z_ib, Ev.z_ll, Ev.z_lt, Ev.z_tt, Ev.z_tl, Ev.z_cc, Ev.isiOk, Ev.Tgs.len, Ev.wipe])
  refine w_mak h t (l_ref m1') h1.toROk fun v1 M2 e2 hv1 => ?_
  rw [h1.srt] at hv1
  refine w_mak h t (l_ref (e2 _ _ m2')) h2.toROk fun v2 M3 e3 hv2 => ?_
  rw [h2.srt] at hv2
  have hv1' := hv1.ext e3
  have e13 := (e1.trans e2).trans e3
  (rw [Ev.x_cons]; simp [Ev.x_nil, Ev.s_exp, Ev.s_asgn, Ev.s_par2, Ev.s_ret, Ev.s_retn, Ev.s_ifs, Ev.s_pas, Ev.s_brk, Ev.s_cnt, Ev.s_for, Ev.e_var, Ev.e_int, Ev.e_bl, Ev.e_non, Ev.e_str, Ev.e_gc, Ev.e_fn, Ev.e_bin, Ev.e_neg, Ev.e_not, Ev.e_and, Ev.e_or, Ev.e_ite, Ev.e_cmp, Ev.e_chain, Ev.e_tup, Ev.e_lst, Ev.e_dct0, Ev.e_dct1, Ev.e_idx, Ev.e_slc, Ev.e_rev, Ev.e_fld, Ev.e_call, Ev.e_calk, Ev.e_calv, Ev.e_blt, Ev.e_mak, Ev.e_mth, Ev.e_omt, Ev.e_isi, Ev.e_cmpr, Ev.es_nil, Ev.es_cons, Ev.y_of, Ev.y_enum, Ev.y_zip, Ev.y_rng, Ev.y_rng2, Ev.y_items, Ev.y_vals, Ev.if_nil, Ev.if_cons, Ev.tg_nm, Ev.tg_tup, Ev.tg_idx, Ev.tg_fld, Ev.tgs_nil, Ev.tgs_cons, Ev.t_bl, Ev.t_int, Ev.t_tup, Ev.t_non, Ev.t_fl, Ev.r_val, Ev.r_new, Ev.o_lst, Ev.o_set, Ev.s_tup, Ev.s_fl, Ev.s_ref, Ev.l_fl, Ev.i_tup, Ev.a_0, Ev.a_1, Ev.a_2, Ev.a_3, Ev.a_4, Ev.a_nat, Ev.b_len, Ev.b_abs, Ev.b_max, Ev.b_min, Ev.b_int, Ev.b_inb, Ev.n_tup, Ev.d_add, Ev.d_sub, Ev.c_lt, Ev.c_le, Ev.c_gt, Ev.c_ge, Ev.w_lt, Ev.w_le, Ev.w_gt, Ev.w_ge, Ev.w_eqi, Ev.w_nei, Ev.w_neb, Ev.w_eqb, Ev.y_int, Ev.y_bl, Ev.y_tup, Ev.it_tup, Ev.z_slc2, Ev.mup_same, Ev.mup_mup, Ev.isPt, Ev.z_ii, Ev.z_bi, Ev.z_ib, Ev.z_ll, Ev.z_lt, Ev.z_tt, Ev.z_tl, Ev.z_cc, Ev.isiOk, Ev.Tgs.len, Ev.wipe])
  refine w_both_of h t h1 h2 l2 r1 r2 hv1' hv2 fun v3 R' due' M4 e4 db' hv3 => ?_
  obtain ⟨rfl, rfl⟩ := db.uniq db'
  have md4 := e4 _ _ (e3 _ _ (e2 _ _ md))
  have e14 := e13.trans e4
  (rw [Ev.x_cons]; simp [Ev.x_nil, Ev.s_exp, Ev.s_asgn, Ev.s_par2, Ev.s_ret, Ev.s_retn, Ev.s_ifs, Ev.s_pas, Ev.s_brk, Ev.s_cnt, Ev.s_for, Ev.e_var, Ev.e_int, Ev.e_bl, Ev.e_non, Ev.e_str, Ev.e_gc, Ev.e_fn, Ev.e_bin, Ev.e_neg, Ev.e_not, Ev.e_and, Ev.e_or, Ev.e_ite, Ev.e_cmp, Ev.e_chain, Ev.e_tup, Ev.e_lst, Ev.e_dct0, Ev.e_dct1, Ev.e_idx, Ev.e_slc, Ev.e_rev, Ev.e_fld, Ev.e_call, Ev.e_calk, Ev.e_calv, Ev.e_blt, Ev.e_mak, Ev.e_mth, Ev.e_omt, Ev.e_isi, Ev.e_cmpr, Ev.es_nil, Ev.es_cons, Ev.y_of, Ev.y_enum, Ev.y_zip, Ev.y_rng, Ev.y_rng2, Ev.y_items, Ev.y_vals, Ev.if_nil, Ev.if_cons, Ev.tg_nm, Ev.tg_tup, Ev.tg_idx, Ev.tg_fld, Ev.tgs_nil, Ev.tgs_cons, Ev.t_bl, Ev.t_int, Ev.t_tup, Ev.t_non, Ev.t_fl, Ev.r_val, Ev.r_new, Ev.o_lst, Ev.o_set, Ev.s_tup, Ev.s_fl, Ev.s_ref, Ev.l_fl, Ev.i_tup, Ev.a_0, Ev.a_1, Ev.a_2, Ev.a_3, Ev.a_4, Ev.a_nat, Ev.b_len, Ev.b_abs, Ev.b_max, Ev.b_min, Ev.b_int, Ev.b_inb, Ev.n_tup, Ev.d_add, Ev.d_sub, Ev.c_lt, Ev.c_le, Ev.c_gt, Ev.c_ge, Ev.w_lt, Ev.w_le, Ev.w_gt, Ev.w_ge, Ev.w_eqi, Ev.w_nei, Ev.w_neb, Ev.w_eqb, Ev.y_int, Ev.y_bl, Ev.y_tup, Ev.it_tup, Ev.z_slc2, Ev.mup_same, Ev.mup_mup, Ev.isPt, Ev.z_ii, Ev.z_bi, Ev.z_ib, Ev.z_ll, Ev.z_lt, Ev.z_tt, Ev.z_tl, Ev.z_cc, Ev.isiOk, Ev.Tgs.len, Ev.wipe])
  refine w_letters h t hv3 (w_rooms h t hv3 ?_)
  have lw := dd.ok.len
  have l1 : due.length ≤ sizeLine := Nat.le_trans (Nat.le_of_lt lw) (by decide)
  rw [met_ways t hv3]
  refine w_mways h t hv3 l1 fun a hpa => ?_
  have e5 := Ext.new (o := .lst (due.map wp)) hpa
  have ma : (mup M4 a (.lst (due.map wp))) a = some (.lst (due.map wp)) := mup_same
  generalize mup M4 a (.lst (due.map wp)) = M5 at *
  refine ⟨three, fun x hpx => ⟨three, fun y hpy => ?_⟩⟩
  have e6 := Ext.new (o := .lst [.int L, .int R, .ref a]) hpx
  have mx : (mup M5 x (.lst [.int L, .int R, .ref a])) x = some (.lst [.int L, .int R, .ref a]) := mup_same
  generalize mup M5 x (.lst [.int L, .int R, .ref a]) = M6 at *
  have e7 := Ext.new (o := .lst [.int L, .int R, .ref pd]) hpy
  have my : (mup M6 y (.lst [.int L, .int R, .ref pd])) y = some (.lst [.int L, .int R, .ref pd]) := mup_same
  generalize mup M6 y (.lst [.int L, .int R, .ref pd]) = M7 at *
  have e57 := (e5.trans e6).trans e7
  have mx7 := e7 _ _ mx
  have eq := eq_three mx7 my (e7 _ _ (e6 _ _ ma)) (e57 _ _ md4)
  rw [Ev.w_ne (ins_lst mx7) eq]
  simp only [and_self, decide_true, Bool.not_true, Ev.t_bl]
  have hv1'' := (hv1'.ext e4).ext e57
  have hv2'' := (hv2.ext e4).ext e57
  have hv3' := hv3.ext e57
  refine w_both_of h t h1 h2 l2 r1 r2 hv1'' hv2'' fun v5 R5 due5 M8 e8 db5 hv5 => ?_
  obtain ⟨rfl, rfl⟩ := db.uniq db5
  refine w_ne_reader h t hv5 (hv3'.ext e8) ?_
  simp only [and_self, decide_true, Bool.not_true, Ev.t_bl, Ev.x_nil]
  (rw [Ev.x_cons]; simp [Ev.x_nil, Ev.s_exp, Ev.s_asgn, Ev.s_par2, Ev.s_ret, Ev.s_retn, Ev.s_ifs, Ev.s_pas, Ev.s_brk, Ev.s_cnt, Ev.s_for, Ev.e_var, Ev.e_int, Ev.e_bl, Ev.e_non, Ev.e_str, Ev.e_gc, Ev.e_fn, Ev.e_bin, Ev.e_neg, Ev.e_not, Ev.e_and, Ev.e_or, Ev.e_ite, Ev.e_cmp, Ev.e_chain, Ev.e_tup, Ev.e_lst, Ev.e_dct0, Ev.e_dct1, Ev.e_idx, Ev.e_slc, Ev.e_rev, Ev.e_fld, Ev.e_call, Ev.e_calk, Ev.e_calv, Ev.e_blt, Ev.e_mak, Ev.e_mth, Ev.e_omt, Ev.e_isi, Ev.e_cmpr, Ev.es_nil, Ev.es_cons, Ev.y_of, Ev.y_enum, Ev.y_zip, Ev.y_rng, Ev.y_rng2, Ev.y_items, Ev.y_vals, Ev.if_nil, Ev.if_cons, Ev.tg_nm, Ev.tg_tup, Ev.tg_idx, Ev.tg_fld, Ev.tgs_nil, Ev.tgs_cons, Ev.t_bl, Ev.t_int, Ev.t_tup, Ev.t_non, Ev.t_fl, Ev.r_val, Ev.r_new, Ev.o_lst, Ev.o_set, Ev.s_tup, Ev.s_fl, Ev.s_ref, Ev.l_fl, Ev.i_tup, Ev.a_0, Ev.a_1, Ev.a_2, Ev.a_3, Ev.a_4, Ev.a_nat, Ev.b_len, Ev.b_abs, Ev.b_max, Ev.b_min, Ev.b_int, Ev.b_inb, Ev.n_tup, Ev.d_add, Ev.d_sub, Ev.c_lt, Ev.c_le, Ev.c_gt, Ev.c_ge, Ev.w_lt, Ev.w_le, Ev.w_gt, Ev.w_ge, Ev.w_eqi, Ev.w_nei, Ev.w_neb, Ev.w_eqb, Ev.y_int, Ev.y_bl, Ev.y_tup, Ev.it_tup, Ev.z_slc2, Ev.mup_same, Ev.mup_mup, Ev.isPt, Ev.z_ii, Ev.z_bi, Ev.z_ib, Ev.z_ll, Ev.z_lt, Ev.z_tt, Ev.z_tl, Ev.z_cc, Ev.isiOk, Ev.Tgs.len, Ev.wipe])
  have hv1a := hv1''.ext e8
  have hv2a := hv2''.ext e8
  refine w_both_of h t h2 h1 l2 r2 r1 hv2a hv1a fun v6 R6 due6 M9 e9 db6 hv6 => ?_
  have d6 := db6.due h2 h1 l2 r2 r1
  have hv1b := hv1a.ext e9
  have hv2b := hv2a.ext e9
  have hv3b := (hv3'.ext e8).ext e9
  have eM9 := ((e14.trans e57).trans e8).trans e9
  have m1b := eM9 _ _ m1
  have m2b := eM9 _ _ m2
  have mdb := e9 _ _ (e8 _ _ (e57 _ _ md4))
  (rw [Ev.x_cons]; simp [Ev.x_nil, Ev.s_exp, Ev.s_asgn, Ev.s_par2, Ev.s_ret, Ev.s_retn, Ev.s_ifs, Ev.s_pas, Ev.s_brk, Ev.s_cnt, Ev.s_for, Ev.e_var, Ev.e_int, Ev.e_bl, Ev.e_non, Ev.e_str, Ev.e_gc, Ev.e_fn, Ev.e_bin, Ev.e_neg, Ev.e_not, Ev.e_and, Ev.e_or, Ev.e_ite, Ev.e_cmp, Ev.e_chain, Ev.e_tup, Ev.e_lst, Ev.e_dct0, Ev.e_dct1, Ev.e_idx, Ev.e_slc, Ev.e_rev, Ev.e_fld, Ev.e_call, Ev.e_calk, Ev.e_calv, Ev.e_blt, Ev.e_mak, Ev.e_mth, Ev.e_omt, Ev.e_isi, Ev.e_cmpr, Ev.es_nil, Ev.es_cons, Ev.y_of, Ev.y_enum, Ev.y_zip, Ev.y_rng, Ev.y_rng2, Ev.y_items, Ev.y_vals, Ev.if_nil, Ev.if_cons, Ev.tg_nm, Ev.tg_tup, Ev.tg_idx, Ev.tg_fld, Ev.tgs_nil, Ev.tgs_cons, Ev.t_bl, Ev.t_int, Ev.t_tup, Ev.t_non, Ev.t_fl, Ev.r_val, Ev.r_new, Ev.o_lst, Ev.o_set, Ev.s_tup, Ev.s_fl, Ev.s_ref, Ev.l_fl, Ev.i_tup, Ev.a_0, Ev.a_1, Ev.a_2, Ev.a_3, Ev.a_4, Ev.a_nat, Ev.b_len, Ev.b_abs, Ev.b_max, Ev.b_min, Ev.b_int, Ev.b_inb, Ev.n_tup, Ev.d_add, Ev.d_sub, Ev.c_lt, Ev.c_le, Ev.c_gt, Ev.c_ge, Ev.w_lt, Ev.w_le, Ev.w_gt, Ev.w_ge, Ev.w_eqi, Ev.w_nei, Ev.w_neb, Ev.w_eqb, Ev.y_int, Ev.y_bl, Ev.y_tup, Ev.it_tup, Ev.z_slc2, Ev.mup_same, Ev.mup_mup, Ev.isPt, Ev.z_ii, Ev.z_bi, Ev.z_ib, Ev.z_ll, Ev.z_lt, Ev.z_tt, Ev.z_tl, Ev.z_cc, Ev.isiOk, Ev.Tgs.len, Ev.wipe])
  rw [rngI (i := 4) (n := 4) rfl (by decide)]
  refine forL_ind (fun i σ M' => (∃ a b c, σ = [some (.ref pot), some (.int L), some (.tup [.int R1, .ref p1]), some (.tup [.int R2, .ref p2]), some (.int R), some (.ref pd), some v1, some v2, some v3, some v6, a, b, c, none]) ∧ Pot M' pot ∧ ExtP pot M M' ∧ M' p1 = some (.lst (near.map wp)) ∧ M' p2 = some (.lst (far.map wp)) ∧ M' pd = some (.lst (due.map wp)) ∧ Rdr M' v1 L R1 near ∧ Rdr M' v2 L R2 far ∧ Rdr M' v3 L R due ∧ Rdr M' v6 L R6 due6) (fun i σ M1 _ h => trivial) (fun i x σ Ma K hx h1' hk => ?_) (fun σ Ma h1' => ?_) ⟨⟨_, _, _, rfl⟩, hp.ext eM9, .of eM9, m1b, m2b, mdb, hv1b, hv2b, hv3b, hv6⟩
  · obtain ⟨⟨a, b, c, rfl⟩, pa, ea, m1c, m2c, mdc, k1, k2, k3, k6⟩ := h1'
    unfold bdF
    simp [Ev.x_nil, Ev.s_exp, Ev.s_asgn, Ev.s_par2, Ev.s_ret, Ev.s_retn, Ev.s_ifs, Ev.s_pas, Ev.s_brk, Ev.s_cnt, Ev.s_for, Ev.e_var, Ev.e_int, Ev.e_bl, Ev.e_non, Ev.e_str, Ev.e_gc, Ev.e_fn, Ev.e_bin, Ev.e_neg, Ev.e_not, Ev.e_and, Ev.e_or, Ev.e_ite, Ev.e_cmp, Ev.e_chain, Ev.e_tup, Ev.e_lst, Ev.e_dct0, Ev.e_dct1, Ev.e_idx, Ev.e_slc, Ev.e_rev, Ev.e_fld, Ev.e_call, Ev.e_calk, Ev.e_calv, Ev.e_blt, Ev.e_mak, Ev.e_mth, Ev.e_omt, Ev.e_isi, Ev.e_cmpr, Ev.es_nil, Ev.es_cons, Ev.y_of, Ev.y_enum, Ev.y_zip, Ev.y_rng, Ev.y_rng2, Ev.y_items, Ev.y_vals, Ev.if_nil, Ev.if_cons, Ev.tg_nm, Ev.tg_tup, Ev.tg_idx, Ev.tg_fld, Ev.tgs_nil, Ev.tgs_cons, Ev.t_bl, Ev.t_int, Ev.t_tup, Ev.t_non, Ev.t_fl, Ev.r_val, Ev.r_new, Ev.o_lst, Ev.o_set, Ev.s_tup, Ev.s_fl, Ev.s_ref, Ev.l_fl, Ev.i_tup, Ev.a_0, Ev.a_1, Ev.a_2, Ev.a_3, Ev.a_4, Ev.a_nat, Ev.b_len, Ev.b_abs, Ev.b_max, Ev.b_min, Ev.b_int, Ev.b_inb, Ev.n_tup, Ev.d_add, Ev.d_sub, Ev.c_lt, Ev.c_le, Ev.c_gt, Ev.c_ge, Ev.w_lt, Ev.w_le, Ev.w_gt, Ev.w_ge, Ev.w_eqi, Ev.w_nei, Ev.w_neb, Ev.w_eqb, Ev.y_int, Ev.y_bl, Ev.y_tup, Ev.it_tup, Ev.z_slc2, Ev.mup_same, Ev.mup_mup, Ev.isPt, Ev.z_ii, Ev.z_bi, Ev.z_ib, Ev.z_ll, Ev.z_lt, Ev.z_tt, Ev.z_tl, Ev.z_cc, Ev.isiOk, Ev.Tgs.len, Ev.wipe]
    (rw [Ev.x_cons]; simp [Ev.x_nil, Ev.s_exp, Ev.s_asgn, Ev.s_par2, Ev.s_ret, Ev.s_retn, Ev.s_ifs, Ev.s_pas, Ev.s_brk, Ev.s_cnt, Ev.s_for, Ev.e_var, Ev.e_int, Ev.e_bl, Ev.e_non, Ev.e_str, Ev.e_gc, Ev.e_fn, Ev.e_bin, Ev.e_neg, Ev.e_not, Ev.e_and, Ev.e_or, Ev.e_ite, Ev.e_cmp, Ev.e_chain, Ev.e_tup, Ev.e_lst, Ev.e_dct0, Ev.e_dct1, Ev.e_idx, Ev.e_slc, Ev.e_rev, Ev.e_fld, Ev.e_call, Ev.e_calk, Ev.e_calv, Ev.e_blt, Ev.e_mak, Ev.e_mth, Ev.e_omt, Ev.e_isi, Ev.e_cmpr, Ev.es_nil, Ev.es_cons, Ev.y_of, Ev.y_enum, Ev.y_zip, Ev.y_rng, Ev.y_rng2, Ev.y_items, Ev.y_vals, Ev.if_nil, Ev.if_cons, Ev.tg_nm, Ev.tg_tup, Ev.tg_idx, Ev.tg_fld, Ev.tgs_nil, Ev.tgs_cons, Ev.t_bl, Ev.t_int, Ev.t_tup, Ev.t_non, Ev.t_fl, Ev.r_val, Ev.r_new, Ev.o_lst, Ev.o_set, Ev.s_tup, Ev.s_fl, Ev.s_ref, Ev.l_fl, Ev.i_tup, Ev.a_0, Ev.a_1, Ev.a_2, Ev.a_3, Ev.a_4, Ev.a_nat, Ev.b_len, Ev.b_abs, Ev.b_max, Ev.b_min, Ev.b_int, Ev.b_inb, Ev.n_tup, Ev.d_add, Ev.d_sub, Ev.c_lt, Ev.c_le, Ev.c_gt, Ev.c_ge, Ev.w_lt, Ev.w_le, Ev.w_gt, Ev.w_ge, Ev.w_eqi, Ev.w_nei, Ev.w_neb, Ev.w_eqb, Ev.y_int, Ev.y_bl, Ev.y_tup, Ev.it_tup, Ev.z_slc2, Ev.mup_same, Ev.mup_mup, Ev.isPt, Ev.z_ii, Ev.z_bi, Ev.z_ib, Ev.z_ll, Ev.z_lt, Ev.z_tt, Ev.z_tl, Ev.z_cc, Ev.isiOk, Ev.Tgs.len, Ev.wipe])
    refine w_row h pa h1.lo (by omega) fun row Mb pb eb rk => ?_
    have m1d := eb.keep pa m1c (notP_ways _)
    have m2d := eb.keep pa m2c (notP_ways _)
    have mdd := eb.keep pa mdc (notP_ways _)
    (rw [Ev.x_cons]; simp [Ev.x_nil, Ev.s_exp, Ev.s_asgn, Ev.s_par2, Ev.s_ret, Ev.s_retn, Ev.s_ifs, Ev.s_pas, Ev.s_brk, Ev.s_cnt, Ev.s_for, Ev.e_var, Ev.e_int, Ev.e_bl, Ev.e_non, Ev.e_str, Ev.e_gc, Ev.e_fn, Ev.e_bin, Ev.e_neg, Ev.e_not, Ev.e_and, Ev.e_or, Ev.e_ite, Ev.e_cmp, Ev.e_chain, Ev.e_tup, Ev.e_lst, Ev.e_dct0, Ev.e_dct1, Ev.e_idx, Ev.e_slc, Ev.e_rev, Ev.e_fld, Ev.e_call, Ev.e_calk, Ev.e_calv, Ev.e_blt, Ev.e_mak, Ev.e_mth, Ev.e_omt, Ev.e_isi, Ev.e_cmpr, Ev.es_nil, Ev.es_cons, Ev.y_of, Ev.y_enum, Ev.y_zip, Ev.y_rng, Ev.y_rng2, Ev.y_items, Ev.y_vals, Ev.if_nil, Ev.if_cons, Ev.tg_nm, Ev.tg_tup, Ev.tg_idx, Ev.tg_fld, Ev.tgs_nil, Ev.tgs_cons, Ev.t_bl, Ev.t_int, Ev.t_tup, Ev.t_non, Ev.t_fl, Ev.r_val, Ev.r_new, Ev.o_lst, Ev.o_set, Ev.s_tup, Ev.s_fl, Ev.s_ref, Ev.l_fl, Ev.i_tup, Ev.a_0, Ev.a_1, Ev.a_2, Ev.a_3, Ev.a_4, Ev.a_nat, Ev.b_len, Ev.b_abs, Ev.b_max, Ev.b_min, Ev.b_int, Ev.b_inb, Ev.n_tup, Ev.d_add, Ev.d_sub, Ev.c_lt, Ev.c_le, Ev.c_gt, Ev.c_ge, Ev.w_lt, Ev.w_le, Ev.w_gt, Ev.w_ge, Ev.w_eqi, Ev.w_nei, Ev.w_neb, Ev.w_eqb, Ev.y_int, Ev.y_bl, Ev.y_tup, Ev.it_tup, Ev.z_slc2, Ev.mup_same, Ev.mup_mup, Ev.isPt, Ev.z_ii, Ev.z_bi, Ev.z_ib, Ev.z_ll, Ev.z_lt, Ev.z_tt, Ev.z_tl, Ev.z_cc, Ev.isiOk, Ev.Tgs.len, Ev.wipe])
    refine w_law_lets h (l_ref m1d) h1.toROk.wb rk.ne rk.al fun b1 Mc ec hb1 => ?_
    cases b1 with
    | true =>
      simp only [Ev.t_bl]
      refine w_law_lets h (l_ref (ec _ _ m2d)) h2.toROk.wb rk.ne rk.al fun z Md ed hb2 => ?_
      have hz : z = true ↔ Lets near row.1 row.2 ∧ Lets far row.1 row.2 := by rw [hb2, ← hb1]; simp
      have ex := ec.trans ed
      have dl := dd.lets row.1 row.2
      have dl6 := d6.lets row.1 row.2
      have m1f := ex _ _ m1d
      have m2f := ex _ _ m2d
      have mdf := ex _ _ mdd
      have k1f := (k1.keep eb pa).ext ex
      have k2f := (k2.keep eb pa).ext ex
      have k3f := (k3.keep eb pa).ext ex
      have k6f := (k6.keep eb pa).ext ex
      (rw [Ev.x_cons]; simp [Ev.x_nil, Ev.s_exp, Ev.s_asgn, Ev.s_par2, Ev.s_ret, Ev.s_retn, Ev.s_ifs, Ev.s_pas, Ev.s_brk, Ev.s_cnt, Ev.s_for, Ev.e_var, Ev.e_int, Ev.e_bl, Ev.e_non, Ev.e_str, Ev.e_gc, Ev.e_fn, Ev.e_bin, Ev.e_neg, Ev.e_not, Ev.e_and, Ev.e_or, Ev.e_ite, Ev.e_cmp, Ev.e_chain, Ev.e_tup, Ev.e_lst, Ev.e_dct0, Ev.e_dct1, Ev.e_idx, Ev.e_slc, Ev.e_rev, Ev.e_fld, Ev.e_call, Ev.e_calk, Ev.e_calv, Ev.e_blt, Ev.e_mak, Ev.e_mth, Ev.e_omt, Ev.e_isi, Ev.e_cmpr, Ev.es_nil, Ev.es_cons, Ev.y_of, Ev.y_enum, Ev.y_zip, Ev.y_rng, Ev.y_rng2, Ev.y_items, Ev.y_vals, Ev.if_nil, Ev.if_cons, Ev.tg_nm, Ev.tg_tup, Ev.tg_idx, Ev.tg_fld, Ev.tgs_nil, Ev.tgs_cons, Ev.t_bl, Ev.t_int, Ev.t_tup, Ev.t_non, Ev.t_fl, Ev.r_val, Ev.r_new, Ev.o_lst, Ev.o_set, Ev.s_tup, Ev.s_fl, Ev.s_ref, Ev.l_fl, Ev.i_tup, Ev.a_0, Ev.a_1, Ev.a_2, Ev.a_3, Ev.a_4, Ev.a_nat, Ev.b_len, Ev.b_abs, Ev.b_max, Ev.b_min, Ev.b_int, Ev.b_inb, Ev.n_tup, Ev.d_add, Ev.d_sub, Ev.c_lt, Ev.c_le, Ev.c_gt, Ev.c_ge, Ev.w_lt, Ev.w_le, Ev.w_gt, Ev.w_ge, Ev.w_eqi, Ev.w_nei, Ev.w_neb, Ev.w_eqb, Ev.y_int, Ev.y_bl, Ev.y_tup, Ev.it_tup, Ev.z_slc2, Ev.mup_same, Ev.mup_mup, Ev.isPt, Ev.z_ii, Ev.z_bi, Ev.z_ib, Ev.z_ll, Ev.z_lt, Ev.z_tt, Ev.z_tl, Ev.z_cc, Ev.isiOk, Ev.Tgs.len, Ev.wipe])
      refine w_law_lets h (l_ref mdf) dd.ok.wb rk.ne rk.al fun b3 M10 e10 hb3 => ?_
      have q3 : b3 = z := by rw [Bool.eq_iff_iff, hb3, hz, dl]
      subst q3
      simp only [Ev.w_neb, decide_true, Bool.not_true, Ev.t_bl]
      refine w_lets_by h t (k3f.ext e10) dd.ok rk fun b4 M11 e11 hb4 => ?_
      have q4 : b4 = b3 := by rw [Bool.eq_iff_iff, hb3, hb4]
      subst q4
      simp only [Ev.w_neb, decide_true, Bool.not_true, Ev.t_bl]
      refine w_lets_by h t ((k6f.ext e10).ext e11) d6.ok rk fun b5 M12 e12 hb5 => ?_
      have q5 : b5 = b4 := by rw [Bool.eq_iff_iff, hb5, hz, dl6, and_comm]
      subst q5
      simp only [Ev.w_neb, decide_true, Bool.not_true, Ev.t_bl, Ev.x_nil]
      have e012 := (e10.trans e11).trans e12
      have exx := ex.trans e012
      exact hk _ _ ⟨⟨_, _, _, rfl⟩, pb.ext exx, ea.trans (eb.trans (.of exx)), e012 _ _ m1f, e012 _ _ m2f, e012 _ _ mdf, k1f.ext e012, k2f.ext e012, k3f.ext e012, k6f.ext e012⟩
    | false =>
      simp only [Ev.t_bl]
      obtain ⟨z, hz0⟩ : ∃ z, z = false := ⟨_, rfl⟩
      rw [← hz0]
      have hz : z = true ↔ Lets near row.1 row.2 ∧ Lets far row.1 row.2 := by rw [hz0, ← hb1]; simp
      clear hz0
      have ex := ec
      have dl := dd.lets row.1 row.2
      have dl6 := d6.lets row.1 row.2
      have m1f := ex _ _ m1d
      have m2f := ex _ _ m2d
      have mdf := ex _ _ mdd
      have k1f := (k1.keep eb pa).ext ex
      have k2f := (k2.keep eb pa).ext ex
      have k3f := (k3.keep eb pa).ext ex
      have k6f := (k6.keep eb pa).ext ex
      (rw [Ev.x_cons]; simp [Ev.x_nil, Ev.s_exp, Ev.s_asgn, Ev.s_par2, Ev.s_ret, Ev.s_retn, Ev.s_ifs, Ev.s_pas, Ev.s_brk, Ev.s_cnt, Ev.s_for, Ev.e_var, Ev.e_int, Ev.e_bl, Ev.e_non, Ev.e_str, Ev.e_gc, Ev.e_fn, Ev.e_bin, Ev.e_neg, Ev.e_not, Ev.e_and, Ev.e_or, Ev.e_ite, Ev.e_cmp, Ev.e_chain, Ev.e_tup, Ev.e_lst, Ev.e_dct0, Ev.e_dct1, Ev.e_idx, Ev.e_slc, Ev.e_rev, Ev.e_fld, Ev.e_call, Ev.e_calk, Ev.e_calv, Ev.e_blt, Ev.e_mak, Ev.e_mth, Ev.e_omt, Ev.e_isi, Ev.e_cmpr, Ev.es_nil, Ev.es_cons, Ev.y_of, Ev.y_enum, Ev.y_zip, Ev.y_rng, Ev.y_rng2, Ev.y_items, Ev.y_vals, Ev.if_nil, Ev.if_cons, Ev.tg_nm, Ev.tg_tup, Ev.tg_idx, Ev.tg_fld, Ev.tgs_nil, Ev.tgs_cons, Ev.t_bl, Ev.t_int, Ev.t_tup, Ev.t_non, Ev.t_fl, Ev.r_val, Ev.r_new, Ev.o_lst, Ev.o_set, Ev.s_tup, Ev.s_fl, Ev.s_ref, Ev.l_fl, Ev.i_tup, Ev.a_0, Ev.a_1, Ev.a_2, Ev.a_3, Ev.a_4, Ev.a_nat, Ev.b_len, Ev.b_abs, Ev.b_max, Ev.b_min, Ev.b_int, Ev.b_inb, Ev.n_tup, Ev.d_add, Ev.d_sub, Ev.c_lt, Ev.c_le, Ev.c_gt, Ev.c_ge, Ev.w_lt, Ev.w_le, Ev.w_gt, Ev.w_ge, Ev.w_eqi, Ev.w_nei, Ev.w_neb, Ev.w_eqb, Ev.y_int, Ev.y_bl, Ev.y_tup, Ev.it_tup, Ev.z_slc2, Ev.mup_same, Ev.mup_mup, Ev.isPt, Ev.z_ii, Ev.z_bi, Ev.z_ib, Ev.z_ll, Ev.z_lt, Ev.z_tt, Ev.z_tl, Ev.z_cc, Ev.isiOk, Ev.Tgs.len, Ev.wipe])
      refine w_law_lets h (l_ref mdf) dd.ok.wb rk.ne rk.al fun b3 M10 e10 hb3 => ?_
      have q3 : b3 = z := by rw [Bool.eq_iff_iff, hb3, hz, dl]
      subst q3
      simp only [Ev.w_neb, decide_true, Bool.not_true, Ev.t_bl]
      refine w_lets_by h t (k3f.ext e10) dd.ok rk fun b4 M11 e11 hb4 => ?_
      have q4 : b4 = b3 := by rw [Bool.eq_iff_iff, hb3, hb4]
      subst q4
      simp only [Ev.w_neb, decide_true, Bool.not_true, Ev.t_bl]
      refine w_lets_by h t ((k6f.ext e10).ext e11) d6.ok rk fun b5 M12 e12 hb5 => ?_
      have q5 : b5 = b4 := by rw [Bool.eq_iff_iff, hb5, hz, dl6, and_comm]
      subst q5
      simp only [Ev.w_neb, decide_true, Bool.not_true, Ev.t_bl, Ev.x_nil]
      have e012 := (e10.trans e11).trans e12
      have exx := ex.trans e012
      exact hk _ _ ⟨⟨_, _, _, rfl⟩, pb.ext exx, ea.trans (eb.trans (.of exx)), e012 _ _ m1f, e012 _ _ m2f, e012 _ _ mdf, k1f.ext e012, k2f.ext e012, k3f.ext e012, k6f.ext e012⟩
  · obtain ⟨⟨a, b, c, rfl⟩, pa, ea, m1c, m2c, mdc, k1, k2, k3, k6⟩ := h1'
    have l4 : L ≤ 4 := by omega
    (rw [Ev.x_cons]; simp [Ev.x_nil, Ev.s_exp, Ev.s_asgn, Ev.s_par2, Ev.s_ret, Ev.s_retn, Ev.s_ifs, Ev.s_pas, Ev.s_brk, Ev.s_cnt, Ev.s_for, Ev.e_var, Ev.e_int, Ev.e_bl, Ev.e_non, Ev.e_str, Ev.e_gc, Ev.e_fn, Ev.e_bin, Ev.e_neg, Ev.e_not, Ev.e_and, Ev.e_or, Ev.e_ite, Ev.e_cmp, Ev.e_chain, Ev.e_tup, Ev.e_lst, Ev.e_dct0, Ev.e_dct1, Ev.e_idx, Ev.e_slc, Ev.e_rev, Ev.e_fld, Ev.e_call, Ev.e_calk, Ev.e_calv, Ev.e_blt, Ev.e_mak, Ev.e_mth, Ev.e_omt, Ev.e_isi, Ev.e_cmpr, Ev.es_nil, Ev.es_cons, Ev.y_of, Ev.y_enum, Ev.y_zip, Ev.y_rng, Ev.y_rng2, Ev.y_items, Ev.y_vals, Ev.if_nil, Ev.if_cons, Ev.tg_nm, Ev.tg_tup, Ev.tg_idx, Ev.tg_fld, Ev.tgs_nil, Ev.tgs_cons, Ev.t_bl, Ev.t_int, Ev.t_tup, Ev.t_non, Ev.t_fl, Ev.r_val, Ev.r_new, Ev.o_lst, Ev.o_set, Ev.s_tup, Ev.s_fl, Ev.s_ref, Ev.l_fl, Ev.i_tup, Ev.a_0, Ev.a_1, Ev.a_2, Ev.a_3, Ev.a_4, Ev.a_nat, Ev.b_len, Ev.b_abs, Ev.b_max, Ev.b_min, Ev.b_int, Ev.b_inb, Ev.n_tup, Ev.d_add, Ev.d_sub, Ev.c_lt, Ev.c_le, Ev.c_gt, Ev.c_ge, Ev.w_lt, Ev.w_le, Ev.w_gt, Ev.w_ge, Ev.w_eqi, Ev.w_nei, Ev.w_neb, Ev.w_eqb, Ev.y_int, Ev.y_bl, Ev.y_tup, Ev.it_tup, Ev.z_slc2, Ev.mup_same, Ev.mup_mup, Ev.isPt, Ev.z_ii, Ev.z_bi, Ev.z_ib, Ev.z_ll, Ev.z_lt, Ev.z_tt, Ev.z_tl, Ev.z_cc, Ev.isiOk, Ev.Tgs.len, Ev.wipe])
    refine w_is_single h t k1 l4 ?_
    by_cases c1 : near.length = L * R1
    · simp only [c1, decide_true, Ev.t_bl]
      refine w_is_single h t k2 l4 ?_
      (rw [Ev.x_cons]; simp [Ev.x_nil, Ev.s_exp, Ev.s_asgn, Ev.s_par2, Ev.s_ret, Ev.s_retn, Ev.s_ifs, Ev.s_pas, Ev.s_brk, Ev.s_cnt, Ev.s_for, Ev.e_var, Ev.e_int, Ev.e_bl, Ev.e_non, Ev.e_str, Ev.e_gc, Ev.e_fn, Ev.e_bin, Ev.e_neg, Ev.e_not, Ev.e_and, Ev.e_or, Ev.e_ite, Ev.e_cmp, Ev.e_chain, Ev.e_tup, Ev.e_lst, Ev.e_dct0, Ev.e_dct1, Ev.e_idx, Ev.e_slc, Ev.e_rev, Ev.e_fld, Ev.e_call, Ev.e_calk, Ev.e_calv, Ev.e_blt, Ev.e_mak, Ev.e_mth, Ev.e_omt, Ev.e_isi, Ev.e_cmpr, Ev.es_nil, Ev.es_cons, Ev.y_of, Ev.y_enum, Ev.y_zip, Ev.y_rng, Ev.y_rng2, Ev.y_items, Ev.y_vals, Ev.if_nil, Ev.if_cons, Ev.tg_nm, Ev.tg_tup, Ev.tg_idx, Ev.tg_fld, Ev.tgs_nil, Ev.tgs_cons, Ev.t_bl, Ev.t_int, Ev.t_tup, Ev.t_non, Ev.t_fl, Ev.r_val, Ev.r_new, Ev.o_lst, Ev.o_set, Ev.s_tup, Ev.s_fl, Ev.s_ref, Ev.l_fl, Ev.i_tup, Ev.a_0, Ev.a_1, Ev.a_2, Ev.a_3, Ev.a_4, Ev.a_nat, Ev.b_len, Ev.b_abs, Ev.b_max, Ev.b_min, Ev.b_int, Ev.b_inb, Ev.n_tup, Ev.d_add, Ev.d_sub, Ev.c_lt, Ev.c_le, Ev.c_gt, Ev.c_ge, Ev.w_lt, Ev.w_le, Ev.w_gt, Ev.w_ge, Ev.w_eqi, Ev.w_nei, Ev.w_neb, Ev.w_eqb, Ev.y_int, Ev.y_bl, Ev.y_tup, Ev.it_tup, Ev.z_slc2, Ev.mup_same, Ev.mup_mup, Ev.isPt, Ev.z_ii, Ev.z_bi, Ev.z_ib, Ev.z_ll, Ev.z_lt, Ev.z_tt, Ev.z_tl, Ev.z_cc, Ev.isiOk, Ev.Tgs.len, Ev.wipe])
      refine w_is_single h t k3 l4 ?_
      by_cases c2 : far.length = L * R2
      · have := dd.single c1 c2
        simp only [this, decide_true, Ev.t_bl]
        exact q _ pa ea
      · by_cases c3 : due.length = L * R
        · simp only [c3, decide_true, Ev.t_bl]
          exact q _ pa ea
        · simp only [c2, c3, decide_false, Ev.t_bl, Bool.not_false]
          exact q _ pa ea
    · simp only [c1, decide_false, Ev.t_bl]
      (rw [Ev.x_cons]; simp [Ev.x_nil, Ev.s_exp, Ev.s_asgn, Ev.s_par2, Ev.s_ret, Ev.s_retn, Ev.s_ifs, Ev.s_pas, Ev.s_brk, Ev.s_cnt, Ev.s_for, Ev.e_var, Ev.e_int, Ev.e_bl, Ev.e_non, Ev.e_str, Ev.e_gc, Ev.e_fn, Ev.e_bin, Ev.e_neg, Ev.e_not, Ev.e_and, Ev.e_or, Ev.e_ite, Ev.e_cmp, Ev.e_chain, Ev.e_tup, Ev.e_lst, Ev.e_dct0, Ev.e_dct1, Ev.e_idx, Ev.e_slc, Ev.e_rev, Ev.e_fld, Ev.e_call, Ev.e_calk, Ev.e_calv, Ev.e_blt, Ev.e_mak, Ev.e_mth, Ev.e_omt, Ev.e_isi, Ev.e_cmpr, Ev.es_nil, Ev.es_cons, Ev.y_of, Ev.y_enum, Ev.y_zip, Ev.y_rng, Ev.y_rng2, Ev.y_items, Ev.y_vals, Ev.if_nil, Ev.if_cons, Ev.tg_nm, Ev.tg_tup, Ev.tg_idx, Ev.tg_fld, Ev.tgs_nil, Ev.tgs_cons, Ev.t_bl, Ev.t_int, Ev.t_tup, Ev.t_non, Ev.t_fl, Ev.r_val, Ev.r_new, Ev.o_lst, Ev.o_set, Ev.s_tup, Ev.s_fl, Ev.s_ref, Ev.l_fl, Ev.i_tup, Ev.a_0, Ev.a_1, Ev.a_2, Ev.a_3, Ev.a_4, Ev.a_nat, Ev.b_len, Ev.b_abs, Ev.b_max, Ev.b_min, Ev.b_int, Ev.b_inb, Ev.n_tup, Ev.d_add, Ev.d_sub, Ev.c_lt, Ev.c_le, Ev.c_gt, Ev.c_ge, Ev.w_lt, Ev.w_le, Ev.w_gt, Ev.w_ge, Ev.w_eqi, Ev.w_nei, Ev.w_neb, Ev.w_eqb, Ev.y_int, Ev.y_bl, Ev.y_tup, Ev.it_tup, Ev.z_slc2, Ev.mup_same, Ev.mup_mup, Ev.isPt, Ev.z_ii, Ev.z_bi, Ev.z_ib, Ev.z_ll, Ev.z_lt, Ev.z_tt, Ev.z_tl, Ev.z_cc, Ev.isiOk, Ev.Tgs.len, Ev.wipe])
      refine w_is_single h t k3 l4 ?_
      by_cases c3 : due.length = L * R
      · simp only [c3, decide_true, Ev.t_bl]
        exact q _ pa ea
      · simp only [c3, decide_false, Ev.t_bl, Bool.not_false]
        exact q _ pa ea
end Rv
end

section
/-! Wk: the law. -/
namespace Rv
open PySem Ev
variable {T : Tab} {F : Nat → Option Fn} {k : Nat}
/-- a drawn one: rooms, its ways -/
abbrev Sm := Nat × Addr × List Way
def smP (s : Sm) : PV := .tup [.int s.1, .ref s.2.1]
structure SmOk (M : MH) (pot : Addr) (L : Nat) (s : Sm) : Prop where
  r2 : s.1 ≤ 2
  at_ : M s.2.1 = some (.lst (s.2.2.map wp))
  drn : Drn L s.1 s.2.2
theorem SmOk.keep {M M' : MH} {pot : Addr} {L : Nat} {s : Sm} (h : SmOk M pot L s) (e : ExtP pot M M') (hp : Pot M pot) : SmOk M' pot L s := ⟨h.r2, e.keep hp h.at_ (notP_ways _), h.drn⟩
theorem w_law (h : FOk F) (t : TOk T) {ns : List Int} {v : PV} {M : MH} (hv : lstOf M v = some (ns.map PV.int)) (hn : ns.length ≤ 63) : Cn T F (k + 11) i_law [v] M fun u _ => u = .bl true := by
  refine cn_z h.h_law rfl ?_
  simp only [f_law]
  have two : 2 ≤ sizeLine := by decide
  have three : 3 ≤ sizeLine := by decide
  have sz : 1000000 ≤ sizeLine := by decide
  (rw [Ev.x_cons]; simp [Ev.x_nil, Ev.s_exp, Ev.s_asgn, Ev.s_par2, Ev.s_ret, Ev.s_retn, Ev.s_ifs, Ev.s_pas, Ev.s_brk, Ev.s_cnt, Ev.s_for, Ev.e_var, Ev.e_int, Ev.e_bl, Ev.e_non, Ev.e_str, Ev.e_gc, Ev.e_fn, Ev.e_bin, Ev.e_neg, Ev.e_not, Ev.e_and, Ev.e_or, Ev.e_ite, Ev.e_cmp, Ev.e_chain, Ev.e_tup, Ev.e_lst, Ev.e_dct0, Ev.e_dct1, Ev.e_idx, Ev.e_slc, Ev.e_rev, Ev.e_fld, Ev.e_call, Ev.e_calk, Ev.e_calv, Ev.e_blt, Ev.e_mak, Ev.e_mth, Ev.e_omt, Ev.e_isi, Ev.e_cmpr, Ev.es_nil, Ev.es_cons, Ev.y_of, Ev.y_enum, Ev.y_zip, Ev.y_rng, Ev.y_rng2, Ev.y_items, Ev.y_vals, Ev.if_nil, Ev.if_cons, Ev.tg_nm, Ev.tg_tup, Ev.tg_idx, Ev.tg_fld, Ev.tgs_nil, Ev.tgs_cons, Ev.t_bl, Ev.t_int, Ev.t_tup, Ev.t_non, Ev.t_fl, Ev.r_val, Ev.r_new, Ev.o_lst, Ev.o_set, Ev.s_tup, Ev.s_fl, Ev.s_ref, Ev.l_fl, Ev.i_tup, Ev.a_0, Ev.a_1, Ev.a_2, Ev.a_3, Ev.a_4, Ev.a_nat, Ev.b_len, Ev.b_abs, Ev.b_max, Ev.b_min, Ev.b_int, Ev.b_inb, Ev.n_tup, Ev.d_add, Ev.d_sub, Ev.c_lt, Ev.c_le, Ev.c_gt, Ev.c_ge, Ev.w_lt, Ev.w_le, Ev.w_gt, Ev.w_ge, Ev.w_eqi, Ev.w_nei, Ev.w_neb, Ev.w_eqb, Ev.y_int, Ev.y_bl, Ev.y_tup, Ev.it_tup, Ev.z_slc2, Ev.mup_same, Ev.mup_mup, Ev.isPt, Ev.z_ii, Ev.z_bi, Ev.z_ib, Ev.z_ll, Ev.z_lt, Ev.z_tt, Ev.z_tl, Ev.z_cc, Ev.isiOk, Ev.Tgs.len, Ev.wipe])
  refine w_pot h hv hn fun pot M1 hpot e1 p1 => ?_
  (rw [Ev.x_cons]; simp [Ev.x_nil, Ev.s_exp, Ev.s_asgn, Ev.s_par2, Ev.s_ret, Ev.s_retn, Ev.s_ifs, Ev.s_pas, Ev.s_brk, Ev.s_cnt, Ev.s_for, Ev.e_var, Ev.e_int, Ev.e_bl, Ev.e_non, Ev.e_str, Ev.e_gc, Ev.e_fn, Ev.e_bin, Ev.e_neg, Ev.e_not, Ev.e_and, Ev.e_or, Ev.e_ite, Ev.e_cmp, Ev.e_chain, Ev.e_tup, Ev.e_lst, Ev.e_dct0, Ev.e_dct1, Ev.e_idx, Ev.e_slc, Ev.e_rev, Ev.e_fld, Ev.e_call, Ev.e_calk, Ev.e_calv, Ev.e_blt, Ev.e_mak, Ev.e_mth, Ev.e_omt, Ev.e_isi, Ev.e_cmpr, Ev.es_nil, Ev.es_cons, Ev.y_of, Ev.y_enum, Ev.y_zip, Ev.y_rng, Ev.y_rng2, Ev.y_items, Ev.y_vals, Ev.if_nil, Ev.if_cons, Ev.tg_nm, Ev.tg_tup, Ev.tg_idx, Ev.tg_fld, Ev.tgs_nil, Ev.tgs_cons, Ev.t_bl, Ev.t_int, Ev.t_tup, Ev.t_non, Ev.t_fl, Ev.r_val, Ev.r_new, Ev.o_lst, Ev.o_set, Ev.s_tup, Ev.s_fl, Ev.s_ref, Ev.l_fl, Ev.i_tup, Ev.a_0, Ev.a_1, Ev.a_2, Ev.a_3, Ev.a_4, Ev.a_nat, Ev.b_len, Ev.b_abs, Ev.b_max, Ev.b_min, Ev.b_int, Ev.b_inb, Ev.n_tup, Ev.d_add, Ev.d_sub, Ev.c_lt, Ev.c_le, Ev.c_gt, Ev.c_ge, Ev.w_lt, Ev.w_le, Ev.w_gt, Ev.w_ge, Ev.w_eqi, Ev.w_nei, Ev.w_neb, Ev.w_eqb, Ev.y_int, Ev.y_bl, Ev.y_tup, Ev.it_tup, Ev.z_slc2, Ev.mup_same, Ev.mup_mup, Ev.isPt, Ev.z_ii, Ev.z_bi, Ev.z_ib, Ev.z_ll, Ev.z_lt, Ev.z_tt, Ev.z_tl, Ev.z_cc, Ev.isiOk, Ev.Tgs.len, Ev.wipe])
  refine w_draw h (sz := 2) p1 (by decide) (by decide) fun l M2 hl p2 e2 => ?_
  obtain ⟨L, hL⟩ : ∃ L : Nat, (1 : Int) + l = L := ⟨1 + l, by omega⟩
  simp [Ev.x_nil, Ev.s_exp, Ev.s_asgn, Ev.s_par2, Ev.s_ret, Ev.s_retn, Ev.s_ifs, Ev.s_pas, Ev.s_brk, Ev.s_cnt, Ev.s_for, Ev.e_var, Ev.e_int, Ev.e_bl, Ev.e_non, Ev.e_str, Ev.e_gc, Ev.e_fn, Ev.e_bin, Ev.e_neg, Ev.e_not, Ev.e_and, Ev.e_or, Ev.e_ite, Ev.e_cmp, Ev.e_chain, Ev.e_tup, Ev.e_lst, Ev.e_dct0, Ev.e_dct1, Ev.e_idx, Ev.e_slc, Ev.e_rev, Ev.e_fld, Ev.e_call, Ev.e_calk, Ev.e_calv, Ev.e_blt, Ev.e_mak, Ev.e_mth, Ev.e_omt, Ev.e_isi, Ev.e_cmpr, Ev.es_nil, Ev.es_cons, Ev.y_of, Ev.y_enum, Ev.y_zip, Ev.y_rng, Ev.y_rng2, Ev.y_items, Ev.y_vals, Ev.if_nil, Ev.if_cons, Ev.tg_nm, Ev.tg_tup, Ev.tg_idx, Ev.tg_fld, Ev.tgs_nil, Ev.tgs_cons, Ev.t_bl, Ev.t_int, Ev.t_tup, Ev.t_non, Ev.t_fl, Ev.r_val, Ev.r_new, Ev.o_lst, Ev.o_set, Ev.s_tup, Ev.s_fl, Ev.s_ref, Ev.l_fl, Ev.i_tup, Ev.a_0, Ev.a_1, Ev.a_2, Ev.a_3, Ev.a_4, Ev.a_nat, Ev.b_len, Ev.b_abs, Ev.b_max, Ev.b_min, Ev.b_int, Ev.b_inb, Ev.n_tup, Ev.d_add, Ev.d_sub, Ev.c_lt, Ev.c_le, Ev.c_gt, Ev.c_ge, Ev.w_lt, Ev.w_le, Ev.w_gt, Ev.w_ge, Ev.w_eqi, Ev.w_nei, Ev.w_neb, Ev.w_eqb, Ev.y_int, Ev.y_bl, Ev.y_tup, Ev.it_tup, Ev.z_slc2, Ev.mup_same, Ev.mup_mup, Ev.isPt, Ev.z_ii, Ev.z_bi, Ev.z_ib, Ev.z_ll, Ev.z_lt, Ev.z_tt, Ev.z_tl, Ev.z_cc, Ev.isiOk, Ev.Tgs.len, Ev.wipe, hL]
  have hL0 : 0 < L := by omega
  have hL2 : L ≤ 2 := by omega
  (rw [Ev.x_cons]; simp [Ev.x_nil, Ev.s_exp, Ev.s_asgn, Ev.s_par2, Ev.s_ret, Ev.s_retn, Ev.s_ifs, Ev.s_pas, Ev.s_brk, Ev.s_cnt, Ev.s_for, Ev.e_var, Ev.e_int, Ev.e_bl, Ev.e_non, Ev.e_str, Ev.e_gc, Ev.e_fn, Ev.e_bin, Ev.e_neg, Ev.e_not, Ev.e_and, Ev.e_or, Ev.e_ite, Ev.e_cmp, Ev.e_chain, Ev.e_tup, Ev.e_lst, Ev.e_dct0, Ev.e_dct1, Ev.e_idx, Ev.e_slc, Ev.e_rev, Ev.e_fld, Ev.e_call, Ev.e_calk, Ev.e_calv, Ev.e_blt, Ev.e_mak, Ev.e_mth, Ev.e_omt, Ev.e_isi, Ev.e_cmpr, Ev.es_nil, Ev.es_cons, Ev.y_of, Ev.y_enum, Ev.y_zip, Ev.y_rng, Ev.y_rng2, Ev.y_items, Ev.y_vals, Ev.if_nil, Ev.if_cons, Ev.tg_nm, Ev.tg_tup, Ev.tg_idx, Ev.tg_fld, Ev.tgs_nil, Ev.tgs_cons, Ev.t_bl, Ev.t_int, Ev.t_tup, Ev.t_non, Ev.t_fl, Ev.r_val, Ev.r_new, Ev.o_lst, Ev.o_set, Ev.s_tup, Ev.s_fl, Ev.s_ref, Ev.l_fl, Ev.i_tup, Ev.a_0, Ev.a_1, Ev.a_2, Ev.a_3, Ev.a_4, Ev.a_nat, Ev.b_len, Ev.b_abs, Ev.b_max, Ev.b_min, Ev.b_int, Ev.b_inb, Ev.n_tup, Ev.d_add, Ev.d_sub, Ev.c_lt, Ev.c_le, Ev.c_gt, Ev.c_ge, Ev.w_lt, Ev.w_le, Ev.w_gt, Ev.w_ge, Ev.w_eqi, Ev.w_nei, Ev.w_neb, Ev.w_eqb, Ev.y_int, Ev.y_bl, Ev.y_tup, Ev.it_tup, Ev.z_slc2, Ev.mup_same, Ev.mup_mup, Ev.isPt, Ev.z_ii, Ev.z_bi, Ev.z_ib, Ev.z_ll, Ev.z_lt, Ev.z_tt, Ev.z_tl, Ev.z_cc, Ev.isiOk, Ev.Tgs.len, Ev.wipe])
  intro sd hsd
  have ns1 : sd ≠ pot := p2.ne hsd
  have p3 := p2.mup (o := .lst []) ns1
  have m3 : (mup M2 sd (.lst [])) sd = some (.lst (([] : List Sm).map smP)) := mup_same
  generalize mup M2 sd (.lst []) = M3 at *
  (rw [Ev.x_cons]; simp [Ev.x_nil, Ev.s_exp, Ev.s_asgn, Ev.s_par2, Ev.s_ret, Ev.s_retn, Ev.s_ifs, Ev.s_pas, Ev.s_brk, Ev.s_cnt, Ev.s_for, Ev.e_var, Ev.e_int, Ev.e_bl, Ev.e_non, Ev.e_str, Ev.e_gc, Ev.e_fn, Ev.e_bin, Ev.e_neg, Ev.e_not, Ev.e_and, Ev.e_or, Ev.e_ite, Ev.e_cmp, Ev.e_chain, Ev.e_tup, Ev.e_lst, Ev.e_dct0, Ev.e_dct1, Ev.e_idx, Ev.e_slc, Ev.e_rev, Ev.e_fld, Ev.e_call, Ev.e_calk, Ev.e_calv, Ev.e_blt, Ev.e_mak, Ev.e_mth, Ev.e_omt, Ev.e_isi, Ev.e_cmpr, Ev.es_nil, Ev.es_cons, Ev.y_of, Ev.y_enum, Ev.y_zip, Ev.y_rng, Ev.y_rng2, Ev.y_items, Ev.y_vals, Ev.if_nil, Ev.if_cons, Ev.tg_nm, Ev.tg_tup, Ev.tg_idx, Ev.tg_fld, Ev.tgs_nil, Ev.tgs_cons, Ev.t_bl, Ev.t_int, Ev.t_tup, Ev.t_non, Ev.t_fl, Ev.r_val, Ev.r_new, Ev.o_lst, Ev.o_set, Ev.s_tup, Ev.s_fl, Ev.s_ref, Ev.l_fl, Ev.i_tup, Ev.a_0, Ev.a_1, Ev.a_2, Ev.a_3, Ev.a_4, Ev.a_nat, Ev.b_len, Ev.b_abs, Ev.b_max, Ev.b_min, Ev.b_int, Ev.b_inb, Ev.n_tup, Ev.d_add, Ev.d_sub, Ev.c_lt, Ev.c_le, Ev.c_gt, Ev.c_ge, Ev.w_lt, Ev.w_le, Ev.w_gt, Ev.w_ge, Ev.w_eqi, Ev.w_nei, Ev.w_neb, Ev.w_eqb, Ev.y_int, Ev.y_bl, Ev.y_tup, Ev.it_tup, Ev.z_slc2, Ev.mup_same, Ev.mup_mup, Ev.isPt, Ev.z_ii, Ev.z_bi, Ev.z_ib, Ev.z_ll, Ev.z_lt, Ev.z_tt, Ev.z_tl, Ev.z_cc, Ev.isiOk, Ev.Tgs.len, Ev.wipe])
  rw [rngI (i := 2) (n := 2) rfl (by decide)]
  refine forL_ind (fun i σ M' => (∃ a b, σ = [some v, some (.ref pot), some (.int L), some (.ref sd), a, b, none, none, none]) ∧ Pot M' pot ∧ ∃ ts : List Sm, M' sd = some (.lst (ts.map smP)) ∧ ts.length = i ∧ ∀ s ∈ ts, SmOk M' pot L s) (fun i σ M1 _ h => trivial) (fun i x σ Ma K hx h1 hk => ?_) (fun σ Ma h1 => ?_) ⟨⟨_, _, rfl⟩, p3, [], m3, rfl, by simp⟩
  · obtain ⟨⟨a, b, rfl⟩, pa, ts, ms, tl, hs⟩ := h1
    have hi := (List.getElem?_eq_some_iff.mp hx).1
    rw [List.length_map, List.length_range] at hi
    unfold bdF
    simp [Ev.x_nil, Ev.s_exp, Ev.s_asgn, Ev.s_par2, Ev.s_ret, Ev.s_retn, Ev.s_ifs, Ev.s_pas, Ev.s_brk, Ev.s_cnt, Ev.s_for, Ev.e_var, Ev.e_int, Ev.e_bl, Ev.e_non, Ev.e_str, Ev.e_gc, Ev.e_fn, Ev.e_bin, Ev.e_neg, Ev.e_not, Ev.e_and, Ev.e_or, Ev.e_ite, Ev.e_cmp, Ev.e_chain, Ev.e_tup, Ev.e_lst, Ev.e_dct0, Ev.e_dct1, Ev.e_idx, Ev.e_slc, Ev.e_rev, Ev.e_fld, Ev.e_call, Ev.e_calk, Ev.e_calv, Ev.e_blt, Ev.e_mak, Ev.e_mth, Ev.e_omt, Ev.e_isi, Ev.e_cmpr, Ev.es_nil, Ev.es_cons, Ev.y_of, Ev.y_enum, Ev.y_zip, Ev.y_rng, Ev.y_rng2, Ev.y_items, Ev.y_vals, Ev.if_nil, Ev.if_cons, Ev.tg_nm, Ev.tg_tup, Ev.tg_idx, Ev.tg_fld, Ev.tgs_nil, Ev.tgs_cons, Ev.t_bl, Ev.t_int, Ev.t_tup, Ev.t_non, Ev.t_fl, Ev.r_val, Ev.r_new, Ev.o_lst, Ev.o_set, Ev.s_tup, Ev.s_fl, Ev.s_ref, Ev.l_fl, Ev.i_tup, Ev.a_0, Ev.a_1, Ev.a_2, Ev.a_3, Ev.a_4, Ev.a_nat, Ev.b_len, Ev.b_abs, Ev.b_max, Ev.b_min, Ev.b_int, Ev.b_inb, Ev.n_tup, Ev.d_add, Ev.d_sub, Ev.c_lt, Ev.c_le, Ev.c_gt, Ev.c_ge, Ev.w_lt, Ev.w_le, Ev.w_gt, Ev.w_ge, Ev.w_eqi, Ev.w_nei, Ev.w_neb, Ev.w_eqb, Ev.y_int, Ev.y_bl, Ev.y_tup, Ev.it_tup, Ev.z_slc2, Ev.mup_same, Ev.mup_mup, Ev.isPt, Ev.z_ii, Ev.z_bi, Ev.z_ib, Ev.z_ll, Ev.z_lt, Ev.z_tt, Ev.z_tl, Ev.z_cc, Ev.isiOk, Ev.Tgs.len, Ev.wipe]
    (rw [Ev.x_cons]; simp [Ev.x_nil, Ev.s_exp, Ev.s_asgn, Ev.s_par2, Ev.s_ret, Ev.s_retn, Ev.s_ifs, Ev.s_pas, Ev.s_brk, Ev.s_cnt, Ev.s_for, Ev.e_var, Ev.e_int, Ev.e_bl, Ev.e_non, Ev.e_str, Ev.e_gc, Ev.e_fn, Ev.e_bin, Ev.e_neg, Ev.e_not, Ev.e_and, Ev.e_or, Ev.e_ite, Ev.e_cmp, Ev.e_chain, Ev.e_tup, Ev.e_lst, Ev.e_dct0, Ev.e_dct1, Ev.e_idx, Ev.e_slc, Ev.e_rev, Ev.e_fld, Ev.e_call, Ev.e_calk, Ev.e_calv, Ev.e_blt, Ev.e_mak, Ev.e_mth, Ev.e_omt, Ev.e_isi, Ev.e_cmpr, Ev.es_nil, Ev.es_cons, Ev.y_of, Ev.y_enum, Ev.y_zip, Ev.y_rng, Ev.y_rng2, Ev.y_items, Ev.y_vals, Ev.if_nil, Ev.if_cons, Ev.tg_nm, Ev.tg_tup, Ev.tg_idx, Ev.tg_fld, Ev.tgs_nil, Ev.tgs_cons, Ev.t_bl, Ev.t_int, Ev.t_tup, Ev.t_non, Ev.t_fl, Ev.r_val, Ev.r_new, Ev.o_lst, Ev.o_set, Ev.s_tup, Ev.s_fl, Ev.s_ref, Ev.l_fl, Ev.i_tup, Ev.a_0, Ev.a_1, Ev.a_2, Ev.a_3, Ev.a_4, Ev.a_nat, Ev.b_len, Ev.b_abs, Ev.b_max, Ev.b_min, Ev.b_int, Ev.b_inb, Ev.n_tup, Ev.d_add, Ev.d_sub, Ev.c_lt, Ev.c_le, Ev.c_gt, Ev.c_ge, Ev.w_lt, Ev.w_le, Ev.w_gt, Ev.w_ge, Ev.w_eqi, Ev.w_nei, Ev.w_neb, Ev.w_eqb, Ev.y_int, Ev.y_bl, Ev.y_tup, Ev.it_tup, Ev.z_slc2, Ev.mup_same, Ev.mup_mup, Ev.isPt, Ev.z_ii, Ev.z_bi, Ev.z_ib, Ev.z_ll, Ev.z_lt, Ev.z_tt, Ev.z_tl, Ev.z_cc, Ev.isiOk, Ev.Tgs.len, Ev.wipe])
    refine w_draw h (sz := 2) pa (by decide) (by decide) fun r0 Mb hr0 pb eb => ?_
    obtain ⟨R, hR⟩ : ∃ R : Nat, (1 : Int) + r0 = R := ⟨1 + r0, by omega⟩
    have hR0 : 0 < R := by omega
    have hR2 : R ≤ 2 := by omega
    simp [Ev.x_nil, Ev.s_exp, Ev.s_asgn, Ev.s_par2, Ev.s_ret, Ev.s_retn, Ev.s_ifs, Ev.s_pas, Ev.s_brk, Ev.s_cnt, Ev.s_for, Ev.e_var, Ev.e_int, Ev.e_bl, Ev.e_non, Ev.e_str, Ev.e_gc, Ev.e_fn, Ev.e_bin, Ev.e_neg, Ev.e_not, Ev.e_and, Ev.e_or, Ev.e_ite, Ev.e_cmp, Ev.e_chain, Ev.e_tup, Ev.e_lst, Ev.e_dct0, Ev.e_dct1, Ev.e_idx, Ev.e_slc, Ev.e_rev, Ev.e_fld, Ev.e_call, Ev.e_calk, Ev.e_calv, Ev.e_blt, Ev.e_mak, Ev.e_mth, Ev.e_omt, Ev.e_isi, Ev.e_cmpr, Ev.es_nil, Ev.es_cons, Ev.y_of, Ev.y_enum, Ev.y_zip, Ev.y_rng, Ev.y_rng2, Ev.y_items, Ev.y_vals, Ev.if_nil, Ev.if_cons, Ev.tg_nm, Ev.tg_tup, Ev.tg_idx, Ev.tg_fld, Ev.tgs_nil, Ev.tgs_cons, Ev.t_bl, Ev.t_int, Ev.t_tup, Ev.t_non, Ev.t_fl, Ev.r_val, Ev.r_new, Ev.o_lst, Ev.o_set, Ev.s_tup, Ev.s_fl, Ev.s_ref, Ev.l_fl, Ev.i_tup, Ev.a_0, Ev.a_1, Ev.a_2, Ev.a_3, Ev.a_4, Ev.a_nat, Ev.b_len, Ev.b_abs, Ev.b_max, Ev.b_min, Ev.b_int, Ev.b_inb, Ev.n_tup, Ev.d_add, Ev.d_sub, Ev.c_lt, Ev.c_le, Ev.c_gt, Ev.c_ge, Ev.w_lt, Ev.w_le, Ev.w_gt, Ev.w_ge, Ev.w_eqi, Ev.w_nei, Ev.w_neb, Ev.w_eqb, Ev.y_int, Ev.y_bl, Ev.y_tup, Ev.it_tup, Ev.z_slc2, Ev.mup_same, Ev.mup_mup, Ev.isPt, Ev.z_ii, Ev.z_bi, Ev.z_ib, Ev.z_ll, Ev.z_lt, Ev.z_tt, Ev.z_tl, Ev.z_cc, Ev.isiOk, Ev.Tgs.len, Ev.wipe, hR]
    have msb := eb _ _ ns1 ms
    have hsb := fun s hs' => (hs s hs').keep eb pa
    (rw [Ev.x_cons]; simp [Ev.x_nil, Ev.s_exp, Ev.s_asgn, Ev.s_par2, Ev.s_ret, Ev.s_retn, Ev.s_ifs, Ev.s_pas, Ev.s_brk, Ev.s_cnt, Ev.s_for, Ev.e_var, Ev.e_int, Ev.e_bl, Ev.e_non, Ev.e_str, Ev.e_gc, Ev.e_fn, Ev.e_bin, Ev.e_neg, Ev.e_not, Ev.e_and, Ev.e_or, Ev.e_ite, Ev.e_cmp, Ev.e_chain, Ev.e_tup, Ev.e_lst, Ev.e_dct0, Ev.e_dct1, Ev.e_idx, Ev.e_slc, Ev.e_rev, Ev.e_fld, Ev.e_call, Ev.e_calk, Ev.e_calv, Ev.e_blt, Ev.e_mak, Ev.e_mth, Ev.e_omt, Ev.e_isi, Ev.e_cmpr, Ev.es_nil, Ev.es_cons, Ev.y_of, Ev.y_enum, Ev.y_zip, Ev.y_rng, Ev.y_rng2, Ev.y_items, Ev.y_vals, Ev.if_nil, Ev.if_cons, Ev.tg_nm, Ev.tg_tup, Ev.tg_idx, Ev.tg_fld, Ev.tgs_nil, Ev.tgs_cons, Ev.t_bl, Ev.t_int, Ev.t_tup, Ev.t_non, Ev.t_fl, Ev.r_val, Ev.r_new, Ev.o_lst, Ev.o_set, Ev.s_tup, Ev.s_fl, Ev.s_ref, Ev.l_fl, Ev.i_tup, Ev.a_0, Ev.a_1, Ev.a_2, Ev.a_3, Ev.a_4, Ev.a_nat, Ev.b_len, Ev.b_abs, Ev.b_max, Ev.b_min, Ev.b_int, Ev.b_inb, Ev.n_tup, Ev.d_add, Ev.d_sub, Ev.c_lt, Ev.c_le, Ev.c_gt, Ev.c_ge, Ev.w_lt, Ev.w_le, Ev.w_gt, Ev.w_ge, Ev.w_eqi, Ev.w_nei, Ev.w_neb, Ev.w_eqb, Ev.y_int, Ev.y_bl, Ev.y_tup, Ev.it_tup, Ev.z_slc2, Ev.mup_same, Ev.mup_mup, Ev.isPt, Ev.z_ii, Ev.z_bi, Ev.z_ib, Ev.z_ll, Ev.z_lt, Ev.z_tt, Ev.z_tl, Ev.z_cc, Ev.isiOk, Ev.Tgs.len, Ev.wipe, o_app msb])
    refine ⟨three, fun q1 hq1 => ?_⟩
    have nq : q1 ≠ pot := pb.ne hq1
    have pc := pb.mup (o := .lst [.int 0, .int 1, .int 2]) nq
    have ec : ExtP pot Mb (mup Mb q1 (.lst [.int 0, .int 1, .int 2])) := .of (Ext.new hq1)
    have mq : (mup Mb q1 (.lst [.int 0, .int 1, .int 2])) q1 = some (.lst [.int 0, .int 1, .int 2]) := mup_same
    generalize mup Mb q1 (.lst [.int 0, .int 1, .int 2]) = Mc at *
    refine w_pick3 h pc mq fun ch Md hch pd ed => ?_
    refine w_ways h pd hL0 hL2 hR0 hR2 fun wa ws Me hwa pe ee mw dw => ?_
    have ebe := (ec.trans ed).trans ee
    have mse := ebe _ _ ns1 msb
    have hse := fun s hs' => (hsb s hs').keep ebe pb
    have lt : ts.length < sizeLine := by omega
    simp [Ev.x_nil, Ev.s_exp, Ev.s_asgn, Ev.s_par2, Ev.s_ret, Ev.s_retn, Ev.s_ifs, Ev.s_pas, Ev.s_brk, Ev.s_cnt, Ev.s_for, Ev.e_var, Ev.e_int, Ev.e_bl, Ev.e_non, Ev.e_str, Ev.e_gc, Ev.e_fn, Ev.e_bin, Ev.e_neg, Ev.e_not, Ev.e_and, Ev.e_or, Ev.e_ite, Ev.e_cmp, Ev.e_chain, Ev.e_tup, Ev.e_lst, Ev.e_dct0, Ev.e_dct1, Ev.e_idx, Ev.e_slc, Ev.e_rev, Ev.e_fld, Ev.e_call, Ev.e_calk, Ev.e_calv, Ev.e_blt, Ev.e_mak, Ev.e_mth, Ev.e_omt, Ev.e_isi, Ev.e_cmpr, Ev.es_nil, Ev.es_cons, Ev.y_of, Ev.y_enum, Ev.y_zip, Ev.y_rng, Ev.y_rng2, Ev.y_items, Ev.y_vals, Ev.if_nil, Ev.if_cons, Ev.tg_nm, Ev.tg_tup, Ev.tg_idx, Ev.tg_fld, Ev.tgs_nil, Ev.tgs_cons, Ev.t_bl, Ev.t_int, Ev.t_tup, Ev.t_non, Ev.t_fl, Ev.r_val, Ev.r_new, Ev.o_lst, Ev.o_set, Ev.s_tup, Ev.s_fl, Ev.s_ref, Ev.l_fl, Ev.i_tup, Ev.a_0, Ev.a_1, Ev.a_2, Ev.a_3, Ev.a_4, Ev.a_nat, Ev.b_len, Ev.b_abs, Ev.b_max, Ev.b_min, Ev.b_int, Ev.b_inb, Ev.n_tup, Ev.d_add, Ev.d_sub, Ev.c_lt, Ev.c_le, Ev.c_gt, Ev.c_ge, Ev.w_lt, Ev.w_le, Ev.w_gt, Ev.w_ge, Ev.w_eqi, Ev.w_nei, Ev.w_neb, Ev.w_eqb, Ev.y_int, Ev.y_bl, Ev.y_tup, Ev.it_tup, Ev.z_slc2, Ev.mup_same, Ev.mup_mup, Ev.isPt, Ev.z_ii, Ev.z_bi, Ev.z_ib, Ev.z_ll, Ev.z_lt, Ev.z_tt, Ev.z_tl, Ev.z_cc, Ev.isiOk, Ev.Tgs.len, Ev.wipe, u_app mse, lt, two]
    refine hk _ _ ⟨⟨_, _, rfl⟩, pe.mup ns1, ts ++ [(R, wa, ws)], by rw [mup_same, List.map_append]; rfl, by simp [tl], fun s hs' => ?_⟩
    have keep : ∀ {s : Sm}, SmOk Me pot L s → SmOk (mup Me sd (.lst (ts.map smP ++ [.tup [.int R, .ref wa]]))) pot L s := fun {s} h => by
      refine ⟨h.r2, ?_, h.drn⟩
      rw [mup_ne]
      · exact h.at_
      · rintro e
        have := h.at_
        rw [e, mse] at this
        have h2 : ts.map smP = s.2.2.map wp := by simpa using this
        have h3 := h.drn.toROk.pos
        have h4 : s.2.2 ≠ [] := List.length_pos_iff.mp h3
        cases hc : s.2.2 with
        | nil => exact h4 hc
        | cons w r =>
          rw [hc] at h2
          cases ts with
          | nil => cases h2
          | cons t0 tr => simp [smP, wp] at h2
    rcases List.mem_append.mp hs' with hs' | hs'
    · exact keep (hse s hs')
    · rw [List.mem_singleton] at hs'
      subst hs'
      exact keep ⟨hR2, mw, dw⟩
  · obtain ⟨⟨a, b, rfl⟩, pa, ts, ms, tl, hs⟩ := h1
    rw [List.length_map, List.length_range] at tl
    match ts, tl with
    | [s1, s2], _ =>
      have k1 := hs s1 (by simp)
      have k2 := hs s2 (by simp)
      obtain ⟨R1, a1, w1⟩ := s1
      obtain ⟨R2, a2, w2⟩ := s2
      simp only [List.map_cons, List.map_nil, smP] at ms
      (rw [Ev.x_cons]; simp [Ev.x_nil, Ev.s_exp, Ev.s_asgn, Ev.s_par2, Ev.s_ret, Ev.s_retn, Ev.s_ifs, Ev.s_pas, Ev.s_brk, Ev.s_cnt, Ev.s_for, Ev.e_var, Ev.e_int, Ev.e_bl, Ev.e_non, Ev.e_str, Ev.e_gc, Ev.e_fn, Ev.e_bin, Ev.e_neg, Ev.e_not, Ev.e_and, Ev.e_or, Ev.e_ite, Ev.e_cmp, Ev.e_chain, Ev.e_tup, Ev.e_lst, Ev.e_dct0, Ev.e_dct1, Ev.e_idx, Ev.e_slc, Ev.e_rev, Ev.e_fld, Ev.e_call, Ev.e_calk, Ev.e_calv, Ev.e_blt, Ev.e_mak, Ev.e_mth, Ev.e_omt, Ev.e_isi, Ev.e_cmpr, Ev.es_nil, Ev.es_cons, Ev.y_of, Ev.y_enum, Ev.y_zip, Ev.y_rng, Ev.y_rng2, Ev.y_items, Ev.y_vals, Ev.if_nil, Ev.if_cons, Ev.tg_nm, Ev.tg_tup, Ev.tg_idx, Ev.tg_fld, Ev.tgs_nil, Ev.tgs_cons, Ev.t_bl, Ev.t_int, Ev.t_tup, Ev.t_non, Ev.t_fl, Ev.r_val, Ev.r_new, Ev.o_lst, Ev.o_set, Ev.s_tup, Ev.s_fl, Ev.s_ref, Ev.l_fl, Ev.i_tup, Ev.a_0, Ev.a_1, Ev.a_2, Ev.a_3, Ev.a_4, Ev.a_nat, Ev.b_len, Ev.b_abs, Ev.b_max, Ev.b_min, Ev.b_int, Ev.b_inb, Ev.n_tup, Ev.d_add, Ev.d_sub, Ev.c_lt, Ev.c_le, Ev.c_gt, Ev.c_ge, Ev.w_lt, Ev.w_le, Ev.w_gt, Ev.w_ge, Ev.w_eqi, Ev.w_nei, Ev.w_neb, Ev.w_eqb, Ev.y_int, Ev.y_bl, Ev.y_tup, Ev.it_tup, Ev.z_slc2, Ev.mup_same, Ev.mup_mup, Ev.isPt, Ev.z_ii, Ev.z_bi, Ev.z_ib, Ev.z_ll, Ev.z_lt, Ev.z_tt, Ev.z_tl, Ev.z_cc, Ev.isiOk, Ev.Tgs.len, Ev.wipe, i_lst ms])
      refine w_right h t k1.drn k2.drn hL2 k1.r2 k2.r2 pa k1.at_ k2.at_ fun Mb pb eb => ?_
      have msb := eb _ _ ns1 ms
      have k1b := k1.keep eb pa
      simp [Ev.x_nil, Ev.s_exp, Ev.s_asgn, Ev.s_par2, Ev.s_ret, Ev.s_retn, Ev.s_ifs, Ev.s_pas, Ev.s_brk, Ev.s_cnt, Ev.s_for, Ev.e_var, Ev.e_int, Ev.e_bl, Ev.e_non, Ev.e_str, Ev.e_gc, Ev.e_fn, Ev.e_bin, Ev.e_neg, Ev.e_not, Ev.e_and, Ev.e_or, Ev.e_ite, Ev.e_cmp, Ev.e_chain, Ev.e_tup, Ev.e_lst, Ev.e_dct0, Ev.e_dct1, Ev.e_idx, Ev.e_slc, Ev.e_rev, Ev.e_fld, Ev.e_call, Ev.e_calk, Ev.e_calv, Ev.e_blt, Ev.e_mak, Ev.e_mth, Ev.e_omt, Ev.e_isi, Ev.e_cmpr, Ev.es_nil, Ev.es_cons, Ev.y_of, Ev.y_enum, Ev.y_zip, Ev.y_rng, Ev.y_rng2, Ev.y_items, Ev.y_vals, Ev.if_nil, Ev.if_cons, Ev.tg_nm, Ev.tg_tup, Ev.tg_idx, Ev.tg_fld, Ev.tgs_nil, Ev.tgs_cons, Ev.t_bl, Ev.t_int, Ev.t_tup, Ev.t_non, Ev.t_fl, Ev.r_val, Ev.r_new, Ev.o_lst, Ev.o_set, Ev.s_tup, Ev.s_fl, Ev.s_ref, Ev.l_fl, Ev.i_tup, Ev.a_0, Ev.a_1, Ev.a_2, Ev.a_3, Ev.a_4, Ev.a_nat, Ev.b_len, Ev.b_abs, Ev.b_max, Ev.b_min, Ev.b_int, Ev.b_inb, Ev.n_tup, Ev.d_add, Ev.d_sub, Ev.c_lt, Ev.c_le, Ev.c_gt, Ev.c_ge, Ev.w_lt, Ev.w_le, Ev.w_gt, Ev.w_ge, Ev.w_eqi, Ev.w_nei, Ev.w_neb, Ev.w_eqb, Ev.y_int, Ev.y_bl, Ev.y_tup, Ev.it_tup, Ev.z_slc2, Ev.mup_same, Ev.mup_mup, Ev.isPt, Ev.z_ii, Ev.z_bi, Ev.z_ib, Ev.z_ll, Ev.z_lt, Ev.z_tt, Ev.z_tl, Ev.z_cc, Ev.isiOk, Ev.Tgs.len, Ev.wipe]
      (rw [Ev.x_cons]; simp [Ev.x_nil, Ev.s_exp, Ev.s_asgn, Ev.s_par2, Ev.s_ret, Ev.s_retn, Ev.s_ifs, Ev.s_pas, Ev.s_brk, Ev.s_cnt, Ev.s_for, Ev.e_var, Ev.e_int, Ev.e_bl, Ev.e_non, Ev.e_str, Ev.e_gc, Ev.e_fn, Ev.e_bin, Ev.e_neg, Ev.e_not, Ev.e_and, Ev.e_or, Ev.e_ite, Ev.e_cmp, Ev.e_chain, Ev.e_tup, Ev.e_lst, Ev.e_dct0, Ev.e_dct1, Ev.e_idx, Ev.e_slc, Ev.e_rev, Ev.e_fld, Ev.e_call, Ev.e_calk, Ev.e_calv, Ev.e_blt, Ev.e_mak, Ev.e_mth, Ev.e_omt, Ev.e_isi, Ev.e_cmpr, Ev.es_nil, Ev.es_cons, Ev.y_of, Ev.y_enum, Ev.y_zip, Ev.y_rng, Ev.y_rng2, Ev.y_items, Ev.y_vals, Ev.if_nil, Ev.if_cons, Ev.tg_nm, Ev.tg_tup, Ev.tg_idx, Ev.tg_fld, Ev.tgs_nil, Ev.tgs_cons, Ev.t_bl, Ev.t_int, Ev.t_tup, Ev.t_non, Ev.t_fl, Ev.r_val, Ev.r_new, Ev.o_lst, Ev.o_set, Ev.s_tup, Ev.s_fl, Ev.s_ref, Ev.l_fl, Ev.i_tup, Ev.a_0, Ev.a_1, Ev.a_2, Ev.a_3, Ev.a_4, Ev.a_nat, Ev.b_len, Ev.b_abs, Ev.b_max, Ev.b_min, Ev.b_int, Ev.b_inb, Ev.n_tup, Ev.d_add, Ev.d_sub, Ev.c_lt, Ev.c_le, Ev.c_gt, Ev.c_ge, Ev.w_lt, Ev.w_le, Ev.w_gt, Ev.w_ge, Ev.w_eqi, Ev.w_nei, Ev.w_neb, Ev.w_eqb, Ev.y_int, Ev.y_bl, Ev.y_tup, Ev.it_tup, Ev.z_slc2, Ev.mup_same, Ev.mup_mup, Ev.isPt, Ev.z_ii, Ev.z_bi, Ev.z_ib, Ev.z_ll, Ev.z_lt, Ev.z_tt, Ev.z_tl, Ev.z_cc, Ev.isiOk, Ev.Tgs.len, Ev.wipe, i_lst msb])
      have okd := k1.drn
      have r2 := k1.r2
      have m1 := k1b.at_
      dsimp only at okd r2 m1
      (rw [Ev.x_cons]; simp [Ev.x_nil, Ev.s_exp, Ev.s_asgn, Ev.s_par2, Ev.s_ret, Ev.s_retn, Ev.s_ifs, Ev.s_pas, Ev.s_brk, Ev.s_cnt, Ev.s_for, Ev.e_var, Ev.e_int, Ev.e_bl, Ev.e_non, Ev.e_str, Ev.e_gc, Ev.e_fn, Ev.e_bin, Ev.e_neg, Ev.e_not, Ev.e_and, Ev.e_or, Ev.e_ite, Ev.e_cmp, Ev.e_chain, Ev.e_tup, Ev.e_lst, Ev.e_dct0, Ev.e_dct1, Ev.e_idx, Ev.e_slc, Ev.e_rev, Ev.e_fld, Ev.e_call, Ev.e_calk, Ev.e_calv, Ev.e_blt, Ev.e_mak, Ev.e_mth, Ev.e_omt, Ev.e_isi, Ev.e_cmpr, Ev.es_nil, Ev.es_cons, Ev.y_of, Ev.y_enum, Ev.y_zip, Ev.y_rng, Ev.y_rng2, Ev.y_items, Ev.y_vals, Ev.if_nil, Ev.if_cons, Ev.tg_nm, Ev.tg_tup, Ev.tg_idx, Ev.tg_fld, Ev.tgs_nil, Ev.tgs_cons, Ev.t_bl, Ev.t_int, Ev.t_tup, Ev.t_non, Ev.t_fl, Ev.r_val, Ev.r_new, Ev.o_lst, Ev.o_set, Ev.s_tup, Ev.s_fl, Ev.s_ref, Ev.l_fl, Ev.i_tup, Ev.a_0, Ev.a_1, Ev.a_2, Ev.a_3, Ev.a_4, Ev.a_nat, Ev.b_len, Ev.b_abs, Ev.b_max, Ev.b_min, Ev.b_int, Ev.b_inb, Ev.n_tup, Ev.d_add, Ev.d_sub, Ev.c_lt, Ev.c_le, Ev.c_gt, Ev.c_ge, Ev.w_lt, Ev.w_le, Ev.w_gt, Ev.w_ge, Ev.w_eqi, Ev.w_nei, Ev.w_neb, Ev.w_eqb, Ev.y_int, Ev.y_bl, Ev.y_tup, Ev.it_tup, Ev.z_slc2, Ev.mup_same, Ev.mup_mup, Ev.isPt, Ev.z_ii, Ev.z_bi, Ev.z_ib, Ev.z_ll, Ev.z_lt, Ev.z_tt, Ev.z_tl, Ev.z_cc, Ev.isiOk, Ev.Tgs.len, Ev.wipe])
      refine w_mak h t (l_ref m1) okd.toROk fun v1 Mc ec hv1 => ?_
      rw [okd.srt] at hv1
      refine w_mak h t (l_ref (ec _ _ m1)) okd.toROk fun v2 Md ed hv2 => ?_
      rw [okd.srt] at hv2
      refine w_both_of h t okd okd hL2 r2 r2 (hv1.ext ed) hv2 fun v3 R3 due Me ee db hv3 => ?_
      have dd := db.due okd okd hL2 r2 r2
      have eme := (ec.trans ed).trans ee
      (rw [Ev.x_cons]; simp [Ev.x_nil, Ev.s_exp, Ev.s_asgn, Ev.s_par2, Ev.s_ret, Ev.s_retn, Ev.s_ifs, Ev.s_pas, Ev.s_brk, Ev.s_cnt, Ev.s_for, Ev.e_var, Ev.e_int, Ev.e_bl, Ev.e_non, Ev.e_str, Ev.e_gc, Ev.e_fn, Ev.e_bin, Ev.e_neg, Ev.e_not, Ev.e_and, Ev.e_or, Ev.e_ite, Ev.e_cmp, Ev.e_chain, Ev.e_tup, Ev.e_lst, Ev.e_dct0, Ev.e_dct1, Ev.e_idx, Ev.e_slc, Ev.e_rev, Ev.e_fld, Ev.e_call, Ev.e_calk, Ev.e_calv, Ev.e_blt, Ev.e_mak, Ev.e_mth, Ev.e_omt, Ev.e_isi, Ev.e_cmpr, Ev.es_nil, Ev.es_cons, Ev.y_of, Ev.y_enum, Ev.y_zip, Ev.y_rng, Ev.y_rng2, Ev.y_items, Ev.y_vals, Ev.if_nil, Ev.if_cons, Ev.tg_nm, Ev.tg_tup, Ev.tg_idx, Ev.tg_fld, Ev.tgs_nil, Ev.tgs_cons, Ev.t_bl, Ev.t_int, Ev.t_tup, Ev.t_non, Ev.t_fl, Ev.r_val, Ev.r_new, Ev.o_lst, Ev.o_set, Ev.s_tup, Ev.s_fl, Ev.s_ref, Ev.l_fl, Ev.i_tup, Ev.a_0, Ev.a_1, Ev.a_2, Ev.a_3, Ev.a_4, Ev.a_nat, Ev.b_len, Ev.b_abs, Ev.b_max, Ev.b_min, Ev.b_int, Ev.b_inb, Ev.n_tup, Ev.d_add, Ev.d_sub, Ev.c_lt, Ev.c_le, Ev.c_gt, Ev.c_ge, Ev.w_lt, Ev.w_le, Ev.w_gt, Ev.w_ge, Ev.w_eqi, Ev.w_nei, Ev.w_neb, Ev.w_eqb, Ev.y_int, Ev.y_bl, Ev.y_tup, Ev.it_tup, Ev.z_slc2, Ev.mup_same, Ev.mup_mup, Ev.isPt, Ev.z_ii, Ev.z_bi, Ev.z_ib, Ev.z_ll, Ev.z_lt, Ev.z_tt, Ev.z_tl, Ev.z_cc, Ev.isiOk, Ev.Tgs.len, Ev.wipe])
      rw [rngI (i := 3) (n := 3) rfl (by decide)]
      refine forL_ind (fun i σ M' => (∃ x y, σ = [some v, some (.ref pot), some (.int L), some (.ref sd), x, some (.int R1), some (.ref a1), some v3, y]) ∧ Pot M' pot ∧ M' a1 = some (.lst (w1.map wp)) ∧ Rdr M' v3 L R3 due) (fun i σ M1 _ h => trivial) (fun i x σ Mf K hx h1 hk => ?_) (fun σ Mf h1 => ?_) ⟨⟨_, _, rfl⟩, pb.ext eme, eme _ _ m1, hv3⟩
      · obtain ⟨⟨x, y, rfl⟩, pf, mf, kf⟩ := h1
        unfold bdF
        simp [Ev.x_nil, Ev.s_exp, Ev.s_asgn, Ev.s_par2, Ev.s_ret, Ev.s_retn, Ev.s_ifs, Ev.s_pas, Ev.s_brk, Ev.s_cnt, Ev.s_for, Ev.e_var, Ev.e_int, Ev.e_bl, Ev.e_non, Ev.e_str, Ev.e_gc, Ev.e_fn, Ev.e_bin, Ev.e_neg, Ev.e_not, Ev.e_and, Ev.e_or, Ev.e_ite, Ev.e_cmp, Ev.e_chain, Ev.e_tup, Ev.e_lst, Ev.e_dct0, Ev.e_dct1, Ev.e_idx, Ev.e_slc, Ev.e_rev, Ev.e_fld, Ev.e_call, Ev.e_calk, Ev.e_calv, Ev.e_blt, Ev.e_mak, Ev.e_mth, Ev.e_omt, Ev.e_isi, Ev.e_cmpr, Ev.es_nil, Ev.es_cons, Ev.y_of, Ev.y_enum, Ev.y_zip, Ev.y_rng, Ev.y_rng2, Ev.y_items, Ev.y_vals, Ev.if_nil, Ev.if_cons, Ev.tg_nm, Ev.tg_tup, Ev.tg_idx, Ev.tg_fld, Ev.tgs_nil, Ev.tgs_cons, Ev.t_bl, Ev.t_int, Ev.t_tup, Ev.t_non, Ev.t_fl, Ev.r_val, Ev.r_new, Ev.o_lst, Ev.o_set, Ev.s_tup, Ev.s_fl, Ev.s_ref, Ev.l_fl, Ev.i_tup, Ev.a_0, Ev.a_1, Ev.a_2, Ev.a_3, Ev.a_4, Ev.a_nat, Ev.b_len, Ev.b_abs, Ev.b_max, Ev.b_min, Ev.b_int, Ev.b_inb, Ev.n_tup, Ev.d_add, Ev.d_sub, Ev.c_lt, Ev.c_le, Ev.c_gt, Ev.c_ge, Ev.w_lt, Ev.w_le, Ev.w_gt, Ev.w_ge, Ev.w_eqi, Ev.w_nei, Ev.w_neb, Ev.w_eqb, Ev.y_int, Ev.y_bl, Ev.y_tup, Ev.it_tup, Ev.z_slc2, Ev.mup_same, Ev.mup_mup, Ev.isPt, Ev.z_ii, Ev.z_bi, Ev.z_ib, Ev.z_ll, Ev.z_lt, Ev.z_tt, Ev.z_tl, Ev.z_cc, Ev.isiOk, Ev.Tgs.len, Ev.wipe]
        (rw [Ev.x_cons]; simp [Ev.x_nil, Ev.s_exp, Ev.s_asgn, Ev.s_par2, Ev.s_ret, Ev.s_retn, Ev.s_ifs, Ev.s_pas, Ev.s_brk, Ev.s_cnt, Ev.s_for, Ev.e_var, Ev.e_int, Ev.e_bl, Ev.e_non, Ev.e_str, Ev.e_gc, Ev.e_fn, Ev.e_bin, Ev.e_neg, Ev.e_not, Ev.e_and, Ev.e_or, Ev.e_ite, Ev.e_cmp, Ev.e_chain, Ev.e_tup, Ev.e_lst, Ev.e_dct0, Ev.e_dct1, Ev.e_idx, Ev.e_slc, Ev.e_rev, Ev.e_fld, Ev.e_call, Ev.e_calk, Ev.e_calv, Ev.e_blt, Ev.e_mak, Ev.e_mth, Ev.e_omt, Ev.e_isi, Ev.e_cmpr, Ev.es_nil, Ev.es_cons, Ev.y_of, Ev.y_enum, Ev.y_zip, Ev.y_rng, Ev.y_rng2, Ev.y_items, Ev.y_vals, Ev.if_nil, Ev.if_cons, Ev.tg_nm, Ev.tg_tup, Ev.tg_idx, Ev.tg_fld, Ev.tgs_nil, Ev.tgs_cons, Ev.t_bl, Ev.t_int, Ev.t_tup, Ev.t_non, Ev.t_fl, Ev.r_val, Ev.r_new, Ev.o_lst, Ev.o_set, Ev.s_tup, Ev.s_fl, Ev.s_ref, Ev.l_fl, Ev.i_tup, Ev.a_0, Ev.a_1, Ev.a_2, Ev.a_3, Ev.a_4, Ev.a_nat, Ev.b_len, Ev.b_abs, Ev.b_max, Ev.b_min, Ev.b_int, Ev.b_inb, Ev.n_tup, Ev.d_add, Ev.d_sub, Ev.c_lt, Ev.c_le, Ev.c_gt, Ev.c_ge, Ev.w_lt, Ev.w_le, Ev.w_gt, Ev.w_ge, Ev.w_eqi, Ev.w_nei, Ev.w_neb, Ev.w_eqb, Ev.y_int, Ev.y_bl, Ev.y_tup, Ev.it_tup, Ev.z_slc2, Ev.mup_same, Ev.mup_mup, Ev.isPt, Ev.z_ii, Ev.z_bi, Ev.z_ib, Ev.z_ll, Ev.z_lt, Ev.z_tt, Ev.z_tl, Ev.z_cc, Ev.isiOk, Ev.Tgs.len, Ev.wipe])
        refine w_row h pf hL0 (by omega) fun row Mg pg eg rk => ?_
        (rw [Ev.x_cons]; simp [Ev.x_nil, Ev.s_exp, Ev.s_asgn, Ev.s_par2, Ev.s_ret, Ev.s_retn, Ev.s_ifs, Ev.s_pas, Ev.s_brk, Ev.s_cnt, Ev.s_for, Ev.e_var, Ev.e_int, Ev.e_bl, Ev.e_non, Ev.e_str, Ev.e_gc, Ev.e_fn, Ev.e_bin, Ev.e_neg, Ev.e_not, Ev.e_and, Ev.e_or, Ev.e_ite, Ev.e_cmp, Ev.e_chain, Ev.e_tup, Ev.e_lst, Ev.e_dct0, Ev.e_dct1, Ev.e_idx, Ev.e_slc, Ev.e_rev, Ev.e_fld, Ev.e_call, Ev.e_calk, Ev.e_calv, Ev.e_blt, Ev.e_mak, Ev.e_mth, Ev.e_omt, Ev.e_isi, Ev.e_cmpr, Ev.es_nil, Ev.es_cons, Ev.y_of, Ev.y_enum, Ev.y_zip, Ev.y_rng, Ev.y_rng2, Ev.y_items, Ev.y_vals, Ev.if_nil, Ev.if_cons, Ev.tg_nm, Ev.tg_tup, Ev.tg_idx, Ev.tg_fld, Ev.tgs_nil, Ev.tgs_cons, Ev.t_bl, Ev.t_int, Ev.t_tup, Ev.t_non, Ev.t_fl, Ev.r_val, Ev.r_new, Ev.o_lst, Ev.o_set, Ev.s_tup, Ev.s_fl, Ev.s_ref, Ev.l_fl, Ev.i_tup, Ev.a_0, Ev.a_1, Ev.a_2, Ev.a_3, Ev.a_4, Ev.a_nat, Ev.b_len, Ev.b_abs, Ev.b_max, Ev.b_min, Ev.b_int, Ev.b_inb, Ev.n_tup, Ev.d_add, Ev.d_sub, Ev.c_lt, Ev.c_le, Ev.c_gt, Ev.c_ge, Ev.w_lt, Ev.w_le, Ev.w_gt, Ev.w_ge, Ev.w_eqi, Ev.w_nei, Ev.w_neb, Ev.w_eqb, Ev.y_int, Ev.y_bl, Ev.y_tup, Ev.it_tup, Ev.z_slc2, Ev.mup_same, Ev.mup_mup, Ev.isPt, Ev.z_ii, Ev.z_bi, Ev.z_ib, Ev.z_ll, Ev.z_lt, Ev.z_tt, Ev.z_tl, Ev.z_cc, Ev.isiOk, Ev.Tgs.len, Ev.wipe])
        refine w_lets_by h t (kf.keep eg pf) dd.ok rk fun b1 Mh eh hb1 => ?_
        have mg := eg.keep pf mf (notP_ways _)
        refine w_law_lets h (l_ref (eh _ _ mg)) okd.toROk.wb rk.ne rk.al fun b2 Mi ei hb2 => ?_
        have q2 : b1 = b2 := by rw [Bool.eq_iff_iff, hb1, hb2, dd.lets, and_self]
        subst q2
        simp only [Ev.w_neb, decide_true, Bool.not_true, Ev.t_bl, Ev.x_nil]
        exact hk _ _ ⟨⟨_, _, rfl⟩, (pg.ext eh).ext ei, ei _ _ (eh _ _ mg), ((kf.keep eg pf).ext eh).ext ei⟩
      · obtain ⟨⟨x, y, rfl⟩, pf, mf, kf⟩ := h1
        (rw [Ev.x_cons]; simp [Ev.x_nil, Ev.s_exp, Ev.s_asgn, Ev.s_par2, Ev.s_ret, Ev.s_retn, Ev.s_ifs, Ev.s_pas, Ev.s_brk, Ev.s_cnt, Ev.s_for, Ev.e_var, Ev.e_int, Ev.e_bl, Ev.e_non, Ev.e_str, Ev.e_gc, Ev.e_fn, Ev.e_bin, Ev.e_neg, Ev.e_not, Ev.e_and, Ev.e_or, Ev.e_ite, Ev.e_cmp, Ev.e_chain, Ev.e_tup, Ev.e_lst, Ev.e_dct0, Ev.e_dct1, Ev.e_idx, Ev.e_slc, Ev.e_rev, Ev.e_fld, Ev.e_call, Ev.e_calk, Ev.e_calv, Ev.e_blt, Ev.e_mak, Ev.e_mth, Ev.e_omt, Ev.e_isi, Ev.e_cmpr, Ev.es_nil, Ev.es_cons, Ev.y_of, Ev.y_enum, Ev.y_zip, Ev.y_rng, Ev.y_rng2, Ev.y_items, Ev.y_vals, Ev.if_nil, Ev.if_cons, Ev.tg_nm, Ev.tg_tup, Ev.tg_idx, Ev.tg_fld, Ev.tgs_nil, Ev.tgs_cons, Ev.t_bl, Ev.t_int, Ev.t_tup, Ev.t_non, Ev.t_fl, Ev.r_val, Ev.r_new, Ev.o_lst, Ev.o_set, Ev.s_tup, Ev.s_fl, Ev.s_ref, Ev.l_fl, Ev.i_tup, Ev.a_0, Ev.a_1, Ev.a_2, Ev.a_3, Ev.a_4, Ev.a_nat, Ev.b_len, Ev.b_abs, Ev.b_max, Ev.b_min, Ev.b_int, Ev.b_inb, Ev.n_tup, Ev.d_add, Ev.d_sub, Ev.c_lt, Ev.c_le, Ev.c_gt, Ev.c_ge, Ev.w_lt, Ev.w_le, Ev.w_gt, Ev.w_ge, Ev.w_eqi, Ev.w_nei, Ev.w_neb, Ev.w_eqb, Ev.y_int, Ev.y_bl, Ev.y_tup, Ev.it_tup, Ev.z_slc2, Ev.mup_same, Ev.mup_mup, Ev.isPt, Ev.z_ii, Ev.z_bi, Ev.z_ib, Ev.z_ll, Ev.z_lt, Ev.z_tt, Ev.z_tl, Ev.z_cc, Ev.isiOk, Ev.Tgs.len, Ev.wipe])
end Rv
end

section
set_option maxHeartbeats 0
namespace HeadA
open PySem PySem.Spec PyProof.Rows L2
abbrev Pg : Program := PySem.Challenge.pw_tworivals_k86_whole_readers_of_both
def dat : Ev.Dat := ⟨Pg.main.body, [(18, 0, ["other", "reader"])], [("Reader", ["own_letters", "own_rooms", "own_ways", "own_by"])], [("Reader", "letters"), ("Reader", "rooms"), ("Reader", "many")], [("MOST_LETTERS", 4), ("MOST_ROOMS", 12), ("MOST_WAYS", 96), ("WAY_PARTS", 4), ("MOST_BEGIN", 40), ("SLIP", 1)]⟩
abbrev R : PySem.W.OpenRow := PySem.W.OpenLaw.row PySem.Challenge.rw_tworivals_k86_whole_readers_of_both
abbrev hk : PySem.W.Hook := Ev.hookY 6 dat
def ob (s : PySem.W.SharedT) : Ev.AlY := Ev.obsYG 6 dat (HandSHeadRun.getT s)
theorem ob_eq (s : PySem.W.SharedT) : ob s = hk.obs s.abs := Ev.obsYG_eq (HandSHeadRun.getT_eq s)
def loose : List PySem.Str := Pg.boundNames.filter (fun x => !(x == ("law" : PySem.Str) || x == ("__name__" : PySem.Str)))
theorem run (w : World) : HandSHeadRun.RunEq R (PySem.W.view R.prog [66]) hk ob 20000 loose w := by
  intro os
  kernel_rfl
end HeadA
end

section
set_option maxHeartbeats 0
namespace HeadA
open PySem
theorem fok : Rv.FOk (Ev.FT dat.g dat.dfs) where
  h_wall := by kernel_rfl
  h_is_integer := by kernel_rfl
  h_is_count := by kernel_rfl
  h_is_list := by kernel_rfl
  h_want_letters := by kernel_rfl
  h_want_at_most := by kernel_rfl
  h_is_way_of := by kernel_rfl
  h_are_ways := by kernel_rfl
  h_numbers_by := by kernel_rfl
  h_want_reader := by kernel_rfl
  h_want_two := by kernel_rfl
  h_want_way := by kernel_rfl
  h_reader_made := by kernel_rfl
  h_is_single := by kernel_rfl
  h_both_step := by kernel_rfl
  h_steps_from := by kernel_rfl
  h_joined_by := by kernel_rfl
  h_both_made := by kernel_rfl
  h_both_of := by kernel_rfl
  h_are_letters := by kernel_rfl
  h_is_row_of := by kernel_rfl
  h_want_row := by kernel_rfl
  h_rooms_by := by kernel_rfl
  h_clean_rooms_by := by kernel_rfl
  h_rooms_by_word := by kernel_rfl
  h_clean_by_word := by kernel_rfl
  h_rooms_at_rounds := by kernel_rfl
  h_comes_home := by kernel_rfl
  h_homes_of := by kernel_rfl
  h_is_let_by := by kernel_rfl
  h_lets_by := by kernel_rfl
  h_law_pot := by kernel_rfl
  h_law_draw := by kernel_rfl
  h_law_pick := by kernel_rfl
  h_law_ways := by kernel_rfl
  h_law_by := by kernel_rfl
  h_law_lets := by kernel_rfl
  h_law_row := by kernel_rfl
  h_law_joined := by kernel_rfl
  h_law_led_both := by kernel_rfl
  h_law_right := by kernel_rfl
  h_law := by kernel_rfl
  h_Reader___init__ := by kernel_rfl
  h_Reader_letters := by kernel_rfl
  h_Reader_rooms := by kernel_rfl
  h_Reader_many := by kernel_rfl
  h_Reader_ways := by kernel_rfl
  h_Reader_way := by kernel_rfl
  h_Reader_ways_by := by kernel_rfl
  h_Reader___eq__ := by kernel_rfl
theorem tok : Rv.TOk dat.tab where
  g_MOST_LETTERS := by kernel_rfl
  g_MOST_ROOMS := by kernel_rfl
  g_MOST_WAYS := by kernel_rfl
  g_WAY_PARTS := by kernel_rfl
  g_MOST_BEGIN := by kernel_rfl
  g_SLIP := by kernel_rfl
  init_Reader := by kernel_rfl
  fld_Reader_own_letters := by kernel_rfl
  fld_Reader_own_rooms := by kernel_rfl
  fld_Reader_own_ways := by kernel_rfl
  fld_Reader_own_by := by kernel_rfl
  eqm_Reader := by kernel_rfl
  prop_Reader_letters := by kernel_rfl
  prop_Reader_many := by kernel_rfl
  prop_Reader_rooms := by kernel_rfl
  meth_Reader_way := by kernel_rfl
  meth_Reader_ways := by kernel_rfl
  meth_Reader_ways_by := by kernel_rfl
end HeadA
end

section
set_option maxHeartbeats 0
namespace HeadA
open PySem PySem.Spec PyProof.Rows L2
def lawS : Stmt := Pg.main.body.getLast?.getD (.Pass ⟨0, 0, 0, 0⟩)
def lawL : List Ev.DefA := Ev.defA (.top "law") "law" lawS
theorem chk : dat.chk = true := by kernel_rfl
theorem law_at : dat.defs[41]? = lawL[0]? := by kernel_rfl
theorem law_one : lawL.length = 1 := by kernel_rfl
theorem law_ps : lawL.map (fun q => q.df.ps) = [[("_law_script" : PySem.Str)]] := by kernel_rfl
theorem law_atn : lawL.map (fun q => q.at_) = [Ev.At.top "law"] := by kernel_rfl
theorem KB (K : PySem.W.Frag) : ∀ i np ks, (i, np, ks) ∈ dat.kwl → ∀ p, Ev.permOf ((dat.g.fns.getD i ("", [])).2) np ks = some p → ∃ q, dat.defs[i]? = some q ∧ ∀ (a : Addr) (fd : FuncData), FunD K q.name q.qual q.params q.body q.scope [] [] a fd → KBn K fd q.df.ps np ks (Ev.perU p) (Ev.perV p) := by
  intro i np ks hm p hp
  have hm : (i, np, ks) = (18, 0, [("other" : PySem.Str), "reader"]) := List.mem_singleton.mp hm
  cases hm
  have e1 : Ev.permOf ((dat.g.fns.getD 18 ("", [])).2) 0 [("other" : PySem.Str), "reader"] = some [1, 0] := by kernel_rfl
  rw [e1] at hp
  cases hp
  have e2 : (dat.defs[18]?.map fun q => q.df.ps) = some [("reader" : PySem.Str), "other"] := by kernel_rfl
  obtain ⟨q, h1, h2⟩ := Option.map_eq_some_iff.mp e2
  obtain ⟨x, y, har, hx, hy⟩ := Ev.ar_two (ar := q.ar) h2
  refine ⟨q, h1, Ev.kb_of fun kV doc pm an cdv ct us ws hu hw => ?_⟩
  obtain ⟨x1, x2, x3⟩ := x
  obtain ⟨y1, y2, y3⟩ := y
  dsimp only at hx hy
  subst hx hy
  unfold Ev.DefA.params Ev.DefA.df
  rw [har]
  match us, ws, hu, hw with
  | [], [w1, w2], _, _ => rfl
/-- what is left: the law's wp -/
def LawOk (k : Nat) : Prop := ∀ (ns : List Int), ns.length ≤ 63 → ∀ M v, Ev.lstOf M v = some (ns.map Ev.PV.int) → Ev.Cn dat.tab (Ev.FT dat.g dat.dfs) k 41 [v] M fun u _ => u = .bl true
theorem facts (hl : LawOk 20) {P : Program} {w : World} {K : PySem.W.Frag} {h : Heap} {mg : Str → Option Value} {f : Addr} (X : K.In h) (G : h.Ns mainGlobals mg) (hfa : mg ("law" : Str) = some (.ref f)) (c : Ev.SaysY dat K) :
    ∃ fd : FuncData, (∀ (s : Shared) (v : Value), BindsTo s fd ⟨[v], []⟩ [("_law_script", v)]) ∧ ∃ sp : Sp, (∀ (H : Hp) (a : Addr) (ns : List Int), ns.length ≤ 63 → SqL K H a (ns.map V.int) → sp [.ref a] H (fun v _ => v = .bl true) fun _ _ _ => False) ∧ ∀ base : Heap, K.In base → base.Ns mainGlobals mg → FnOk P w K mg base C8.CX0 40 f fd ["_law_script"] sp := by
  have gd := Ev.good_of c
  obtain ⟨fd, hf, lv⟩ := Ev.lev (P := P) (w := w) X G gd chk (KB K)
  obtain ⟨q, hq⟩ : ∃ q, lawL = [q] := List.length_eq_one_iff.mp law_one
  have ha : dat.defs[41]? = some q := by rw [law_at, hq]; rfl
  have hps : q.df.ps = [("_law_script" : PySem.Str)] := by have := law_ps; rw [hq] at this; exact List.cons.inj this |>.1
  have hat : q.at_ = .top "law" := by have := law_atn; rw [hq] at this; exact List.cons.inj this |>.1
  have hd : dat.dfs[41]? = some q.df := by
    show (dat.defs.map Ev.DefA.df)[41]? = _
    rw [List.getElem?_map, ha]
    rfl
  have F := hf 41 q ha
  have gl : mg ("law" : Str) = some (.ref (He.ga K "law")) := by
    have b := (gd.df q (List.mem_of_getElem? ha)).1
    rw [hat] at b
    exact He.glo_ok X G b
  have ef : f = He.ga K "law" := by
    rw [gl] at hfa
    cases hfa
    rfl
  refine ⟨fd 41, fun s v => ?_, fun vs H Q E => ∃ a ns, vs = [V.ref a] ∧ ns.length ≤ 63 ∧ SqL K H a (ns.map V.int) ∧ ∀ H', Q (.bl true) H', fun H a ns hn hS => ⟨a, ns, rfl, hn, hS, fun _ => rfl⟩, fun base _ _ => ?_⟩
  · have := FunD.bindsA (ps := q.df.ps) F (fun kV doc pm an cdv ct us hl => Ev.bind_pos (by
      show q.df.ps.Nodup
      rw [hps]
      decide) hl) s [v] (by rw [hps]; rfl)
    rw [hps] at this
    exact this
  · have l := lv base 20 41 q.df hd
    rw [hps] at l
    rw [ef]
    have e4 : (dat.wd P w K mg base).fa 41 = He.ga K "law" := by
      rw [Ev.fa_at ha, hat]
      rfl
    rw [e4] at l
    refine FnOk.imp l fun vs H Q E ⟨a, ns, e, hn, hS, hQ⟩ => ?_
    subst e
    exact Ev.sp_law (W := dat.wd P w K mg base) hS hQ (hl ns hn) (Ev.Cn_mono _ _ _)
theorem law_ok : LawOk 20 := fun ns hn M v hv => Rv.w_law (k := 9) fok tok hv hn
end HeadA
open PySem PySem.W PySem.Calls PyProof.Rows
theorem PySem.Challenge.cw_tworivals_k86_whole_readers_of_both_holds : PySem.Challenge.rw_tworivals_k86_whole_readers_of_both.Holds := by
  w_on; o_law
  refine HandSHeadRun.head_any (r := OpenLaw.row PySem.Challenge.rw_tworivals_k86_whole_readers_of_both) (q := view (OpenLaw.row PySem.Challenge.rw_tworivals_k86_whole_readers_of_both).prog [66]) (H := HeadA.hk) (ob := HeadA.ob) (M := 20000) (loose := HeadA.loose) (d := HandSHeadRun.topDef (OpenLaw.row PySem.Challenge.rw_tworivals_k86_whole_readers_of_both).prog 66) (kwd := []) HeadA.ob_eq
    (by kernel_rfl) (fun s => by kernel_rfl) HeadA.run (by kernel_rfl) (by kernel_rfl) (by kernel_rfl) (by rfl) (by first | assumption | decide +kernel) (by decide +kernel) ⟨rfl, rfl, rfl, rfl, rfl, by decide +kernel⟩ ?hw ?hc
  case hw => w_witness2
  case hc =>
    refine L2.walk_ofE (l := PySem.Challenge.rw_tworivals_k86_whole_readers_of_both) (n := 63) (k := 40) (x := "_law_script") (CX := C8.CX0) rfl (by decide) (by kernel_rfl) ⟨rfl, by decide, by decide⟩ ?F (fun _ _ _ _ z => z)
    intro w mg fa h Y G hmg0
    obtain ⟨K, KX, c⟩ := Y
    have hmg : mg ("law" : PySem.Str) = some (.ref fa) := by
      have e : (HandSHeadRun.topDef (OpenLaw.row PySem.Challenge.rw_tworivals_k86_whole_readers_of_both).prog 66).name = ("law" : PySem.Str) := by kernel_rfl
      rw [← e]
      exact hmg0
    obtain ⟨fd, hb, sp, hsp, hF⟩ := HeadA.facts HeadA.law_ok (P := (PySem.Challenge.rw_tworivals_k86_whole_readers_of_both).prog) (w := w) KX G hmg c
    exact ⟨K, fd, sp, KX, hb, fun H a ns hn _ hS => hsp H a ns hn hS, hF⟩
end
