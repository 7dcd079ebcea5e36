import PyProof.Rows.All
import Wide.All
import OpenK.AllK
import Wide.FinOn
import HandS.ForMost
import HandS.ForExc
import HandS.SortInts
import HandS.Strs
import HandS.SetFor
import PyProof.Rows.SortShell
import HandS.AnyAll
import HandS.TupAny
import HandS.TupMul
import HandS.Conv
import KE.KDictPairs
import HandS.Style
import HandS.More
import HandS.Deep
import HandS.NoneIn
import HandS.IsInst
import HandS.Flow
import KE.GoesEnum
import HandS.Dict
import HandS.Comp
import HandS.DictComp
import HandS.GenList
import PyProof.TupleOfGen
import PyProof.SumWalk
import PyProof.WalksMore
import HandS.HeadWalk
import HandS.HeadHook4
import KE.KStateDown
import HandS.Head0
import HandS.Head1
import HandS.Head2
import PySem.Challenge.RW_courthouse_k58_pages_of_one_size
set_option Elab.async false
set_option linter.all false
set_option maxRecDepth 100000
set_option maxHeartbeats 0
/-! CA: values, store, the intermediate programs, their meaning in plain Lean. -/
namespace CH
open PySem PySem.Spec PyProof.Rows L2
theorem nr {α : Type} {a b : α} (h : a = b) : a = b := h
/-- a value: tuples are trees; lst: a list that nobody writes; ref: a handle into the store -/
inductive D where
  | non | bl (b : Bool) | int (i : Int) | str (x : Str) | tup (xs : List D) | lst (xs : List D) | ref (r : Nat)
/-- what stands in the store -/
inductive Cell where
  | lst (xs : List D) | dic (kvs : List (Key × D)) | set (xs : List Int) | frz (c : Cell)
abbrev Store := List Cell
abbrev Env := List (Option D)
/-- a value that an expression gives: one that can be held, or a new object that nothing names yet -/
inductive RV where
  | d (v : D) | o (c : Cell)
/-- an exception: its class, its fields -/
structure Exn where
  cls : Str
  fs : List (Str × D)
inductive R (α : Type) where
  | ok (a : α) (S : Store) | exc (x : Exn) (S : Store) | bad
def R.bind {α β : Type} (x : R α) (f : α → Store → R β) : R β := match x with
  | .ok a S => f a S
  | .exc e S => .exc e S
  | .bad => .bad
@[simp] theorem R.bind_ok {α β : Type} (a : α) (S : Store) (f : α → Store → R β) : (R.ok a S).bind f = f a S := nr rfl
@[simp] theorem R.bind_exc {α β : Type} (x : Exn) (S : Store) (f : α → Store → R β) : (R.exc x S).bind f = .exc x S := nr rfl
@[simp] theorem R.bind_bad {α β : Type} (f : α → Store → R β) : (R.bad : R α).bind f = .bad := nr rfl
/-- an option as a result -/
def R.of {α : Type} (o : Option α) (S : Store) : R α := match o with
  | some a => .ok a S
  | none => .bad
@[simp] theorem R.of_some {α : Type} (a : α) (S : Store) : R.of (some a) S = .ok a S := nr rfl
@[simp] theorem R.of_none {α : Type} (S : Store) : R.of (none : Option α) S = .bad := nr rfl
/-! ### the intermediate programs -/
inductive Bop where
  | add | sub | mul | fdiv | mod | pow
inductive Cop where
  | eq | ne | lt | le | gt | ge | is | isn | mem | nmem
inductive Ty where
  | int | bool | str | tuple | list | dict
/-- a built-in of one argument -/
inductive B1 where
  | len | int | tuple | list | sorted | set | dict | sum | max | min | any | all | bool | abs
/-- of two -/
inductive B2 where
  | max | min
/-- what takes a generator's items -/
inductive Gc where
  | tuple | list | sorted | set | any | all | sum | max | min | max0 | min0
/-- what is asked of a written table -/
inductive Kop where
  | idx | mem | nmem | get
/-- methods -/
inductive Me where
  | append | extend | pop | index | count | remove | get | add
inductive Tg where
  | nil | var (i : Nat) (r : Tg) | tup (t : Tg) (r : Tg)
mutual
inductive Ex where
  | var (i : Nat)
  | con (d : D)
  | tup (es : Exs)
  | lst (es : Exs)
  | dnew
  | bin (o : Bop) (a b : Ex)
  | neg (a : Ex)
  | not (a : Ex)
  | and (a b : Ex)
  | or (a b : Ex)
  | cmp (o : Cop) (a b : Ex)
  | chn (o p : Cop) (a b c : Ex)
  | ite (c : Tx) (a b : Ex)
  | idx (a i : Ex)
  | slc (a lo hi : Ex)
  | call (f : Str) (es : Exs)
  | b1 (f : B1) (a : Ex)
  | b2 (f : B2) (a b : Ex)
  | isi (a : Ex) (t : Ty)
  | rng (f : B1) (a b : Ex)
  | m0 (m : Me) (o : Ex)
  | m1 (m : Me) (o a : Ex)
  | m2 (m : Me) (o a b : Ex)
  | lc (vs : List Nat) (e : Ex) (t : Tg) (it : Ix) (ifs : Txs)
  | lc2 (vs vs1 : List Nat) (e : Ex) (t : Tg) (it : Ix) (ifs : Txs) (t1 : Tg) (it1 : Ix) (ifs1 : Txs)
  | dc (vs : List Nat) (k v : Ex) (t : Tg) (it : Ix) (ifs : Txs)
  | gen (c : Gc) (vs : List Nat) (t : Tg) (it : Ix) (ifs : Txs) (g : Gs)
  | srtk (a : Ex) (vs : List Nat) (p : Nat) (k : Ex)
  | sset (a : Ex)
  | dsp (ps : Eps)
  | kd (op : Kop) (nm : Str) (tb : List (Str × D)) (a d : Ex)
  | rev (a : Ex)
inductive Eps where
  | nil | cons (k v : Ex) (ps : Eps)
inductive Exs where
  | nil | cons (e : Ex) (es : Exs)
/-- what is walked -/
inductive Ix where
  | ex (e : Ex) | rng (a b : Ex) | rng3 (a b c : Ex) | enu (a : Ex) | zip (a b : Ex) | items (e : Ex) | vals (e : Ex)
/-- the further clauses of a generator, its element -/
inductive Gs where
  | elt (e : Ex) | cons (t : Tg) (it : Ix) (ifs : Txs) (g : Gs)
/-- tests -/
inductive Tx where
  | ex (e : Ex) | and (a b : Tx) | or (a b : Tx) | not (a : Tx)
inductive Txs where
  | nil | cons (c : Tx) (cs : Txs)
end
/-- targets of an assignment -/
inductive Tgt where
  | var (i : Nat) | tup (t : Tg) | sub (o i : Ex)
mutual
inductive St where
  | ex (e : Ex)
  | set (t : Tgt) (e : Ex)
  | aug (i : Nat) (o : Bop) (e : Ex)
  | augs (a i : Ex) (o : Bop) (e : Ex)
  | par (i j : Nat) (a b : Ex)
  | ret (e : Ex)
  | ite (c : Tx) (a b : Sts)
  | whl (c : Tx) (b : Sts)
  | for (t : Tg) (it : Ix) (b : Sts)
  | brk | cnt | pas
inductive Sts where
  | nil | cons (s : St) (ss : Sts)
end
end CH
/-! BA: sorted of a tuple of ints, sorted(set(..)). -/
namespace CH
open PySem PySem.Spec PyProof.Rows L2
section
variable {prog : Program} {w : World} {A : Around} {E : Value → Shared → Prop} {s : Shared}
/-- the items of a tuple, in a new list -/
theorem gather_tup {l : Addr} {its : List Value} {Q : List Value → Shared → Prop} (hl : s.heap.IsTuple l its.toArray) (hz : its.length ≤ sizeLine)
    (k : Q its { s with heap := (s.heap.push (seqObj "list" #[] 0)).update s.heap.objs.size (Obj.mapSeq (· ++ its.toArray)) }) : wpAny (model prog w) A (collect (.ref l)) Q E s := by
  obtain ⟨ob, e1, e2, m, e3⟩ := id hl
  have e4 : (s.heap.push (seqObj "list" #[] 0)).get? l = some ob := Heap.get?_push_of_some _ e1
  have new : (s.heap.push (seqObj "list" #[] 0)).get? s.heap.objs.size = some (seqObj "list" #[] 0) := Heap.get?_push_size _ rfl
  have tt : (Value.type "tuple" == Value.type "tuple") = true := rfl
  have all : (#[] ++ its.toArray).size ≤ sizeLine + 1 := by
    rw [Array.size_append, List.size_toArray]; show 0 + its.length ≤ _; omega
  unfold collect
  apply wpAny_bind; apply wpAny_runValue; apply codeAny_builtin entry_proto_collect'
  show wpAny _ _ (do
    again (.builtin "list.__iadd__" ⟨[← newList [], .ref l], []⟩)) _ _ s
  refine wpAny_bind (wpAny_newList (wpAny_pure ⟨Code.quiet_builtin _ (by decide +kernel), codeAny_builtin entry_list_iadd' ?goal⟩))
  case goal =>
    show wpAny _ _ (Builtin.List.listExtendWith (.ref s.heap.objs.size) (.ref l) (.ref s.heap.objs.size)) _ _
      { s with heap := s.heap.push (seqObj "list" #[] 0) }
    unfold Builtin.List.listExtendWith
    refine wpAny_bind (wpAny_typeOf (T := "tuple") (show ∃ o, (s.heap.push (seqObj "list" #[] 0)).get? l = some o ∧ o.cls = Value.type "tuple" from ⟨ob, e4, e2⟩) ?_)
    rw [if_pos (by rw [tt, Bool.or_true])]
    refine wpAny_bind (listItems_at e4 e3 ?_)
    refine wpAny_bind (listItems_at (xs := #[]) (n := 0) new rfl ?_)
    rw [if_neg (by simp)]
    refine wpAny_bind (listUpdate_at (xs := #[]) (n := 0) new rfl ?_ (Nat.zero_le _) all)
    apply wpAny_pure
    show wpAny (model prog w) A (do
        let o ← load s.heap.objs.size
        match o.data with | .seq xs _ => pure xs.toList | _ => unsupported "internal:collect") Q E
      { s with heap := (s.heap.push (seqObj "list" #[] 0)).update s.heap.objs.size (Obj.mapSeq (· ++ its.toArray)) }
    refine wpAny_bind (wpAny_load (get?_update_seq new _) ?_)
    have e5 : ((#[] : Array Value) ++ its.toArray).toList = its := by simp
    show wpAny _ _ (pure ((#[] : Array Value) ++ its.toArray).toList) Q E _
    rw [e5]; exact wpAny_pure k
theorem sorted_tup {l : Addr} {its : List Value} {ltv : Value → Value → Bool} {Q : Value → Shared → Prop} (O : SrtO.Swo ltv) (hl : s.heap.IsTuple l its.toArray) (hz : its.length ≤ sizeLine)
    (hS : 2 ≤ its.length → ∀ (h₁ : Heap) (a : Addr), SrtO.SortableO prog w A.in1.in1 { s with heap := h₁ } a its ltv)
    (k : ∀ out : List Value, SrtO.Srtd ltv out → SrtO.Stb ltv out its → Q (.ref (s.heap.objs.size + 1)) { s with heap := sortedAll s.heap its out.toArray }) :
    wpAny (model prog w) A (call (.builtin "sorted") [.ref l]) Q E s := by
  refine Calls.call_function_entry kind_sorted plain_sorted entry_sorted (args_sorted1 _) ?goal
  case goal =>
    unfold Builtin.«sorted»
    apply wpAny_bind (m := checkCount "sorted" 1 1 _); apply wpAny_pure
    apply wpAny_bind; apply gather_tup hl hz
    apply wpAny_bind; refine wpAny_newList ?_ hz
    have n1 : ((s.heap.push (seqObj "list" #[] 0)).update s.heap.objs.size (Obj.mapSeq (· ++ its.toArray))).objs.size = s.heap.objs.size + 1 := by rw [Heap.size_update, size_push']
    have n2 : (((s.heap.push (seqObj "list" #[] 0)).update s.heap.objs.size (Obj.mapSeq (· ++ its.toArray))).push (seqObj "list" its.toArray 0)).get? (s.heap.objs.size + 1) = some (seqObj "list" its.toArray 0) := n1 ▸ Heap.get?_push_size _ rfl
    show wpAny _ _ _ _ _ { s with heap := ((s.heap.push (seqObj "list" #[] 0)).update s.heap.objs.size (Obj.mapSeq (· ++ its.toArray))).push (seqObj "list" its.toArray 0) }
    rw [n1]
    apply wpAny_bind; apply wpAny_holding
    refine wpAny_call_entry slot_list_sort ⟨_, n2, rfl⟩ entry_list_sort (SrtO.list_sort_ord O n2 hz (fun h2 => hS h2 _ _) fun out o1 o2 => ⟨_, rfl, ?_⟩) (args_list_sort _)
    exact wpAny_pure ⟨_, rfl, k out o1 o2⟩
end
section
variable {X : Cx}
/-- sorted(xs), xs a tuple of ints -/
def rSortedTI (K : PySem.W.Frag) : List V → Hp → VK → Prop := fun vs H Q => ∃ (a : Addr) (ns : List Int), vs = [V.ref a] ∧ SqT K H a (ns.map V.int) ∧
  ∀ (js : List Int) (p : Addr), js.Perm ns → js.Pairwise (· ≤ ·) → H p = none → Q (.ref p) (upd H p (.lst (js.map V.int)))
theorem cr_sortedTI : CallR X (.builtin "sorted") (rSortedTI X.K) := by
  intro pins s σ H vs us Q I r ⟨a, ns, e0, hs, q⟩
  subst e0
  obtain ⟨its, rv, hl, hz⟩ := I.tuple hs
  rw [Vals.ref1 r]
  have hi := rv.ints
  have hz2 : its.length ≤ sizeLine := by rw [← rv.length]; exact hz
  refine sorted_tup SrtO.swo_int hl hz2 (fun h2 h₁ a' => SrtO.ints_sortable hi h2) fun out h1 h2 => ?_
  obtain ⟨k1, k2, k3⟩ := SrtO.ints_out hi h1 h2
  obtain ⟨ep, he⟩ := PyProof.Rows.sortedAll_at s.heap its out.toArray
  have hn : (ns.map V.int).length = ns.length := List.length_map _
  have hlen : ((out.map SrtO.iv).map V.int).length ≤ sizeLine := by rw [List.length_map, k2.length_eq, ← hn]; exact hz
  have J := I.laid (t' := s.toks) (fun _ _ => PyProof.Rows.sortedAll_old (vs := its) (out := out.toArray)) (Nat.le_succ _) (show ObjOk _ _ _ _ _ (.lst ((out.map SrtO.iv).map V.int)) from ⟨hlen, out, ep, vals_of_ints k1, he⟩)
  exact ⟨.ref _, _, J, rfl, q _ _ k2 k3 (I.hok.fresh (Nat.le_succ _))⟩
end
end CH
/-! BB: set of a list of ints; sorted(set(xs)) of a list. -/
namespace CH
open PySem PySem.Spec PyProof.Rows L2
section
variable {P : Program} {w : World} {A : Around} {E : Value → Shared → Prop} {s : Shared}
/-- a set with nothing in it -/
def eS (w : World) : Obj := { cls := .type "set", dict := none, data := .set #[] 0 (.fresh 0 0 (!w.params.followText "set-order")) }
theorem call_set_lstI {l : Addr} {items : Array Value} (ns : List Int) {Q : Value → Shared → Prop} (hh : A.handled = none) (hl : s.heap.IsList l items) (hit : IntsAre items.toList ns) (hb : ns.length + 1 < scanBound)
    (h : ∀ (h' : Heap) (tk c : Nat), SetR w h' s.heap.objs.size (fun j => decide (j ∈ ns)) c → c ≤ ns.length → (∀ b o, s.heap.get? b = some o → h'.get? b = some o) → Q (.ref s.heap.objs.size) { s with heap := h', toks := tk }) :
    wpAny (model P w) A (call (.type "set") [.ref l]) Q E s := by
  have len1 : items.size = ns.length := (Array.length_toList (xs := items)).symm.trans (IntsAre.length hit)
  have ⟨c, tl, hmro⟩ := F.called_set.mro
  have hmade := F.called_set.made; have hsub := F.called_set.sub
  apply wpAny_call; apply codeAny_of_tree
  show wpAny _ _ (callAny (.type "set") _) _ _ _; refine wpAny_pure ⟨Code.quiet_builtin _ (by decide +kernel), codeAny_builtin F.entry_type_call ?g0⟩
  case g0 =>
    rw [Around.under_plain (weight_type_call_type "set" [.ref l] []) rfl]
    have h1 := F.called_set.notType; have h2 := F.called_set.canCreate; have hct := F.typeCall_set_1 (.ref l)
    repeat (any_goals (first | assumption | wp_step))
    refine codeAny_mono (code_set_led1 (.ref l) (E := E) (Q₁ := fun obj s₁ => obj = .ref s.heap.objs.size ∧ s₁ = { s with heap := s.heap.push (eS w) }) ⟨rfl, rfl⟩) fun r s₁ hr => ?g1
    case g1 =>
      cases r with
      | error e => exact hr
      | ok fl => cases fl with
        | ret obj =>
          obtain ⟨rfl, rfl⟩ := hr
          have hS : (s.heap.push (eS w)).get? s.heap.objs.size = some (eS w) := Heap.get?_push_size _ rfl
          have hT : Shared.TypeIs { s with heap := s.heap.push (eS w) } (.ref s.heap.objs.size) "set" := ⟨_, hS, rfl⟩
          have hli := F.called_set.init.lookup; have hbi := F.called_set.init.bind (.ref s.heap.objs.size)
          repeat (any_goals (first | assumption | wp_step))
          refine codeAny_mono (codeAny_call_builtin (R := wants (fun r s₂ => r = .none ∧ ∃ h' tk c, s₂ = { s with heap := h', toks := tk } ∧ SetR w h' s.heap.objs.size (fun j => decide (j ∈ ns)) c ∧ c ≤ ns.length ∧ (∀ b o, s.heap.get? b = some o → h'.get? b = some o)) E)
            F.called_set.init.plain F.entry_set_init (check_set_init_1 hT ?g2)) fun r₂ s₂ hr₂ => ?g3
          case g2 =>
            have ⟨ol, hol, hcl, nl, hdl⟩ := hl
            have hol' : (s.heap.push (eS w)).get? l = some ol := Heap.get?_push_of_some _ hol
            have q1 := F.sub_list_set; have q2 := F.sub_list_frozenset
            have q3 : (Value.type "list" == Value.type "dict") = false := by decide
            have hl1 : (s.heap.push (eS w)).IsList l items := ⟨_, hol', hcl, nl, hdl⟩
            have up : l < s.heap.objs.size := Heap.lt_size hol
            have sz1 : (s.heap.push (eS w)).objs.size = s.heap.objs.size + 1 := Heap.size_push ..
            have hneI : l ≠ (s.heap.push (eS w)).objs.size := by rw [sz1]; exact Nat.ne_of_lt (Nat.lt_succ_of_lt up)
            have hSf : s.heap.objs.size ∉ [(s.heap.push (eS w)).objs.size, l] := by
              rw [sz1]; intro z
              rcases List.mem_cons.mp z with z | z
              · exact absurd z (Nat.ne_of_lt (Nat.lt_succ_self _))
              · exact absurd (List.mem_singleton.mp z) (Nat.ne_of_gt up)
            have hval : ∀ (i : Nat) (v : Value), items[i]? = some v → ∃ k t, ns[i]? = some k ∧ v = .int k t := fun i v hv => by
              have hi : i < ns.length := len1 ▸ (Array.getElem?_eq_some_iff.mp hv).1
              have ⟨t, e⟩ := PyProof.Rows.IntsAre.int_at hit i v (by rw [Array.getElem?_toList]; exact hv)
              have e2 : ns.getD i 0 = ns[i] := by rw [List.getD_eq_getElem?_getD, List.getElem?_eq_getElem hi]; rfl
              exact ⟨ns[i], t, List.getElem?_eq_getElem hi, by rw [e, e2]⟩
            have hh3 : A.in1.in1.in1.handled = none := by simp [hh]
            have hTl : Shared.TypeIs { s with heap := s.heap.push (eS w) } (.ref l) "list" := ⟨_, hol', hcl⟩
            unfold Builtin.«set.__init__» noKeywords Builtin.Frozenset.updateFrom
            generalize hPI : pyIter = PI
            wp_walk
            subst hPI
            refine wpAny_pyIter_list hl1 ?g4
            case g4 =>
              refine wpAny_bind (wpAny_runValue (set_update_ints ((Walks.list hh3 _ l hneI items).toS) s.heap.objs.size hSf ns len1 hb hval (items.size - 0) 0 _ (by omega) (Nat.zero_le _) ⟨⟨_, Heap.get?_push_size _ rfl, rfl, rfl⟩, (hl1.push _)⟩ ?g5 ?g6))
              case g5 =>
                have hget : ((s.heap.push (eS w)).push { cls := .type "list_iterator", data := .fields #[.ref l, .int 0 0] }).get? s.heap.objs.size = some (eS w) := Heap.get?_push_of_some _ hS
                exact ⟨0, Nat.le_refl 0, setR_new_at hget⟩
              case g6 =>
                rintro ⟨h', g2, d', tk', os'⟩ c' hm hc' hS'
                have eg : g2 = s.gens := hm.gens; have ed : d' = s.drawn := hm.drawn; have eo : os' = s.os := hm.os
                subst eg ed eo
                rw [len1] at hc'
                show wpAny _ _ _ _ _ _; refine wpAny_pure ?g7
                case g7 =>
                  show wpAny _ _ (ret Value.none) _ _ _; refine wpAny_pure ⟨rfl, h', tk', c', rfl, hS', hc', fun b o e => ?g8⟩
                  case g8 =>
                    have b0 : b < s.heap.objs.size := Heap.lt_size e
                    refine hm.heap b o (fun z => ?g9) (Heap.get?_push_of_some _ (Heap.get?_push_of_some _ e))
                    case g9 =>
                      rcases List.mem_cons.mp z with z | z
                      · exact absurd z (Nat.ne_of_lt b0)
                      · have z := List.mem_singleton.mp z
                        rw [sz1] at z
                        exact absurd z (Nat.ne_of_lt (Nat.lt_succ_of_lt b0))
          case g3 =>
            cases r₂ with
            | error e => exact hr₂
            | ok fl₂ => cases fl₂ with
              | ret r =>
                obtain ⟨rfl, h', tk, c', rfl, hS', hc', hk'⟩ := hr₂
                repeat (any_goals (first | assumption | wp_step))
                exact h _ _ _ hS' hc' hk'
              | _ => exact False.elim hr₂
        | _ => exact False.elim hr
end
section
variable {X : Cx}
/-- sorted(set(xs)), xs a list, a tuple of ints -/
def tSset (K : PySem.W.Frag) (ta : TE) : TE := fun σ H Q => ta σ H fun x H1 => ∃ (l : Addr) (ns : List Int), x = .ref l ∧ (SqL K H1 l (ns.map V.int) ∨ SqT K H1 l (ns.map V.int)) ∧ (ns.length < 4000 ∧ ∀ l : List Int, l.Nodup → (∀ z ∈ l, z ∈ ns) → l.length < 64) ∧
  ∀ (ys : List Int) (p : Addr), ys.Pairwise (· < ·) → (∀ k, k ∈ ys ↔ k ∈ ns) → H1 p = none → Q (.ref p) (upd H1 p (.lst (ys.map V.int)))
theorem pe_sset {a : Expr} {ta : TE} {p p2 q pos : Pos} (hc : X.calm = true) (hg : Gl X "sorted") (hm : X.mg "sorted" = none) (hg2 : Gl X "set") (hm2 : X.mg "set" = none) (ha : PE X a ta)
    (na : starEach [a] X.env = (false, eval a X.env) :: starEach [] X.env) : PE X (.Call (.Name "sorted" p) [.Call (.Name "set" p2) [a] [] q] [] pos) (tSset X.K ta) := by
  refine ⟨fun pins s σ H Q I h => Call_ (ld_blt I hg hm boot_sorted ?g1)⟩
  case g1 =>
    refine PyProof.Rows.callWith_builtin1 (PyProof.Rows.args_cons (Call_ (ld_blt I hg2 hm2 boot_set ?g2)) rfl) rfl rfl
    case g2 =>
      refine PyProof.Rows.callWith_type1 (PyProof.Rows.args_cons (thn (ha.run pins s σ H _ I h) fun v s1 ⟨x, H1, I1, r1, l, ns, e0, hq, h64, q1⟩ => PyProof.Rows.args_nil ?g3) na) na rfl
      case g3 =>
        subst e0
        cases r1
        have fin : ∀ (h' : Heap) (tk c : Nat), SetR X.w h' s1.heap.objs.size (fun j => decide (j ∈ ns)) c → c ≤ ns.length → (∀ b o, s1.heap.get? b = some o → h'.get? b = some o) →
            wpAny (model X.prog X.w) X.A (spliced (backTo pos (starEach [] X.env))) (fun vs s₂ => wpAny (model X.prog X.w) X.A (call (.builtin "sorted") (Value.ref s1.heap.objs.size :: vs)) (EP X pins σ Q) X.xe s₂) X.xe { s1 with heap := h', toks := tk } := fun h' tk c R hcn kp => PyProof.Rows.args_nil (by
          have up : s1.heap.objs.size < h'.objs.size := by
            obtain ⟨_, _, _, _, ho, _⟩ := id R
            exact Heap.lt_size ho
          have h64c := h64.1
          refine sorted_set R (I1.ok.hd hc) (by
            obtain ⟨o, es, ep, t, _, _, _, g, nd, hm, _, _, hsz, _⟩ := R
            have := h64.2 (es.toList.map keyOf) nd (fun z hz => by have := (hm z).mpr hz; simpa using this)
            rw [List.length_map, Array.length_toList, hsz] at this
            exact this) fun s' p0 out c' js k g o hp hgt hi hs hmem hln => ?g5
          case g5 =>
            have hp : s1.heap.objs.size ≤ p0 := Nat.le_trans (Nat.le_of_lt up) hp
            have k : ∀ b u, s1.heap.get? b = some u → s'.heap.get? b = some u := fun b u e => k b u (kp b u e)
            have hlen : (js.map V.int).length ≤ sizeLine := by rw [List.length_map, hln, sizeLine_eq]; omega
            have fresh : H1 p0 = none := I1.hok.fresh hp
            have J : Inv X pins σ (upd H1 p0 (.lst (js.map V.int))) { s1 with heap := s'.heap, gens := s'.gens, drawn := s'.drawn, toks := s'.toks } :=
              I1.call (ch := []) (Un.laid k hp fresh) (I1.hok.laid k hp ⟨hlen, out.toList, c', vals_of_ints hi, hgt⟩) (by rw [g]; exact I1.bare) fun _ z => nomatch z
            have e : s' = { s1 with heap := s'.heap, gens := s'.gens, drawn := s'.drawn, toks := s'.toks } := by
              cases s'; cases s1; cases o; rfl
            rw [e]
            exact ⟨.ref p0, _, J, rfl, q1 js p0 hs (fun k => by rw [hmem]; simp) fresh⟩)
        rcases hq with hq | hq
        · obtain ⟨its, rv, pl, hz⟩ := I1.list hq
          exact call_set_lstI ns (I1.ok.hd hc) pl.isList (ints_of_vals rv) (by have := h64.1; unfold scanBound; omega) fin
        · obtain ⟨its, rv, pl, hz⟩ := I1.tuple hq
          exact call_set_tupI ns (I1.ok.hd hc) pl (ints_of_vals rv) (by have := h64.1; unfold scanBound; omega) fin
end
end CH
/-! CB: what the intermediate programs do, in plain Lean. -/
namespace CH
open PySem PySem.Spec PyProof.Rows L2
open Classical in
noncomputable instance : DecidableEq Cell := fun a b => propDecidable (a = b)
/-! ### values -/
mutual
def D.pure : D → Bool
  | .ref _ => false
  | .tup xs => pures xs
  | .lst xs => pures xs
  | .non => true
  | .bl _ => true
  | .int _ => true
  | .str x => PyData.strOk x
def pures : List D → Bool
  | [] => true
  | x :: xs => x.pure && pures xs
end
mutual
def D.lo (n : Nat) : D → Bool
  | .ref r => decide (r < n)
  | .tup xs => los n xs
  | .lst xs => los n xs
  | .non => true
  | .bl _ => true
  | .int _ => true
  | .str _ => true
def los (n : Nat) : List D → Bool
  | [] => true
  | x :: xs => x.lo n && los n xs
end
mutual
def D.pd : D → PyData
  | .ref _ => .none
  | .tup xs => .tuple (pds xs)
  | .lst xs => .list (pds xs)
  | .non => .none
  | .bl b => .bool b
  | .int i => .int i
  | .str x => .str x
def pds : List D → List PyData
  | [] => []
  | x :: xs => x.pd :: pds xs
end
/-- may be compared: no handles, not too deep -/
def D.shp (d : D) : Bool := d.pure && decide (d.pd.depth ≤ 60)
def shps (ds : List D) : Bool := ds.all D.shp
def D.eqv (a b : D) : Bool := PyData.eqv a.pd b.pd
def D.flat : D → Bool
  | .ref _ => false
  | .tup _ => false
  | .lst _ => false
  | .non => true
  | .bl _ => true
  | .int _ => true
  | .str _ => true
def Cell.core : Cell → Cell
  | .frz c => c.core
  | .lst xs => .lst xs
  | .dic kvs => .dic kvs
  | .set xs => .set xs
def Cell.lo (n : Nat) : Cell → Bool
  | .frz c => c.lo n
  | .lst xs => los n xs
  | .dic kvs => kvs.all fun kv => kv.2.lo n
  | .set _ => true
def D.key : D → Option Key
  | .int i => some (.inl i)
  | .str x => some (.inr x)
  | _ => none
def keyD : Key → D
  | .inl i => .int i
  | .inr x => .str x
def asI : List D → Option (List Int)
  | [] => some []
  | .int i :: xs => (asI xs).map (i :: ·)
  | _ :: _ => none
def asB : List D → Option (List Bool)
  | [] => some []
  | .bl i :: xs => (asB xs).map (i :: ·)
  | _ :: _ => none
/-! ### dicts -/
section
variable {κ : Type} [DecidableEq κ]
def aval (kvs : List (κ × D)) (k : κ) : Option D := (kvs.find? fun kv => decide (kv.1 = k)).map (·.2)
def aput (kvs : List (κ × D)) (k : κ) (v : D) : List (κ × D) :=
  if (kvs.any fun kv => decide (kv.1 = k)) then kvs.map fun kv => if kv.1 = k then (kv.1, v) else kv else kvs ++ [(k, v)]
def adrop (kvs : List (κ × D)) (k : κ) : List (κ × D) := kvs.filter fun kv => decide (kv.1 ≠ k)
end
/-! ### views of what an expression gave -/
def cellOf (x : RV) (S : Store) : Option Cell := match x with
  | .o c => some c.core
  | .d (.ref r) => (S[r]?).map Cell.core
  | .d (.lst xs) => some (.lst xs)
  | .d _ => none
def lstv (x : RV) (S : Store) : Option (List D) := match cellOf x S with
  | some (.lst xs) => some xs
  | _ => none
/-- .. that may be written -/
def lstw (x : RV) (S : Store) : Option (List D) := match x with
  | .o (.lst xs) => some xs
  | .d (.ref r) => (match S[r]? with
    | some (.lst xs) => some xs
    | _ => none)
  | _ => none
def dicv (x : RV) (S : Store) : Option (List (Key × D)) := match cellOf x S with
  | some (.dic kvs) => some kvs
  | _ => none
def setv (x : RV) (S : Store) : Option (List Int) := match cellOf x S with
  | some (.set xs) => some xs
  | _ => none
def tupv (x : RV) : Option (List D) := match x with
  | .d (.tup xs) => some xs
  | _ => none
def seqv (x : RV) (S : Store) : Option (List D) := match tupv x with
  | some xs => some xs
  | none => lstv x S
/-- held: a new object gets a handle -/
def mat (x : RV) (S : Store) : R D := match x with
  | .d v => .ok v S
  | .o c => .ok (.ref S.length) (S ++ [c])
def truth (x : RV) (S : Store) : Option Bool := match x with
  | .d .non => some false
  | .d (.bl b) => some b
  | .d (.int i) => some (i != 0)
  | .d (.str z) => if z.length ≤ sizeLine then some (z.length != 0) else none
  | .d (.tup xs) => some (!xs.isEmpty)
  | _ => match cellOf x S with
    | some (.lst xs) => some (!xs.isEmpty)
    | some (.dic kvs) => some (!kvs.isEmpty)
    | _ => none
/-! ### operators -/
noncomputable instance (i j : Int) : Decidable (CMul i j) := Classical.propDecidable _
noncomputable instance (i j : Int) : Decidable (CDiv i j) := Classical.propDecidable _
noncomputable instance (i j : Int) : Decidable (CPow i j) := Classical.propDecidable _
noncomputable def binR (o : Bop) (x y : RV) (S : Store) : R RV := match o, x, y with
  | .add, .d (.int i), .d (.int j) => .ok (.d (.int (i + j))) S
  | .sub, .d (.int i), .d (.int j) => .ok (.d (.int (i - j))) S
  | .mul, .d (.int i), .d (.int j) => if CMul i j then .ok (.d (.int (i * j))) S else .bad
  | .fdiv, .d (.int i), .d (.int j) => if CDiv i j then .ok (.d (.int (i / j))) S else .bad
  | .mod, .d (.int i), .d (.int j) => if 0 < j then .ok (.d (.int (i % j))) S else .bad
  | .pow, .d (.int i), .d (.int j) => if CPow i j then .ok (.d (.int (i ^ j.toNat))) S else .bad
  | .add, .d (.str i), .d (.str j) => if i.length + j.length ≤ sizeLine then .ok (.d (.str (i ++ j))) S else .bad
  | .add, .d (.tup xs), .d (.tup ys) => if xs.length + ys.length ≤ sizeLine then .ok (.d (.tup (xs ++ ys))) S else .bad
  | .add, x, y => match lstw x S, lstw y S with
    | some xs, some ys => if xs.length + ys.length ≤ sizeLine then .ok (.o (.lst (xs ++ ys))) S else .bad
    | _, _ => .bad
  | .mul, .d (.tup xs), .d (.int k) => if 1 ≤ k ∧ k ≤ 1000 ∧ xs.length ≤ 1000 ∧ 0 < xs.length then .ok (.d (.tup (List.replicate k.toNat xs).flatten)) S else .bad
  | .mul, x, .d (.int k) => match lstw x S with
    | some xs => if -(2 ^ 63) ≤ k ∧ k < 2 ^ 63 ∧ xs.length * k.toNat ≤ sizeLine then .ok (.o (.lst (List.replicate k.toNat xs).flatten)) S else .bad
    | none => .bad
  | _, _, _ => .bad
/-- may be held against one another -/
def eqOk (u v : D) : Bool := (u.flat && v.flat) || (u.shp && v.shp)
def inOk (u : D) (xs : List D) : Bool := (u.flat && xs.all D.flat) || (u.shp && shps xs)
/-- == -/
def eqR (x y : RV) (S : Store) : Option Bool := match lstv x S, lstv y S with
  | some xs, some ys => if shps xs && shps ys then some (PyData.eqvAll (pds xs) (pds ys)) else none
  | none, none => match x, y with
    | .d u, .d v => if eqOk u v then some (u.eqv v) else none
    | _, _ => none
  | _, _ => none
def memR (x y : RV) (S : Store) : Option Bool := match x with
  | .d u => match seqv y S with
    | some xs => if inOk u xs then some (xs.any fun z => z.eqv u) else none
    | none => match dicv y S with
      | some kvs => match u.key with
        | some k => some (aval kvs k).isSome
        | none => if u.flat then (match u with
          | .non => some false
          | _ => none) else none
      | none => none
  | .o _ => none
def isR (x y : RV) : Option Bool := match x, y with
  | .o _, .d .non => some false
  | .d u, .d .non => some (match u with
    | .non => true
    | _ => false)
  | .d (.bl a), .d (.bl b) => some (a == b)
  | .d (.int _), .d (.bl _) => some false
  | .d .non, .d (.bl _) => some false
  | .d (.tup _), .d (.bl _) => some false
  | .d (.str _), .d (.bl _) => some false
  | .d (.lst _), .d (.bl _) => some false
  | _, _ => none
def ltI (f : Int → Int → Bool) (x y : RV) : Option Bool := match x, y with
  | .d (.int i), .d (.int j) => some (f i j)
  | _, _ => none
def cmpR (o : Cop) (x y : RV) (S : Store) : Option Bool := match o with
  | .eq => eqR x y S
  | .ne => (eqR x y S).map (!·)
  | .lt => ltI (fun i j => decide (i < j)) x y
  | .le => ltI (fun i j => decide (i ≤ j)) x y
  | .gt => ltI (fun i j => decide (j < i)) x y
  | .ge => ltI (fun i j => decide (j ≤ i)) x y
  | .is => isR x y
  | .isn => (isR x y).map (!·)
  | .mem => memR x y S
  | .nmem => (memR x y S).map (!·)
def isiR (x : RV) (t : Ty) (S : Store) : Option Bool := match x, t with
  | .d (.bl _), .bool => some true
  | .d (.bl _), .int => some true
  | .d (.int _), .int => some true
  | .d (.str _), .str => some true
  | .d (.tup _), .tuple => some true
  | .d (.lst _), .list => some true
  | .d (.ref _), _ => none
  | .d _, _ => some false
  | .o _, _ => none
/-- a part of a list -/
def cutD {α : Type} (xs : List α) (lo hi : Option Int) : List α := (xs.drop (HT.sIx xs.length 0 lo)).take (HT.sIx xs.length xs.length hi - HT.sIx xs.length 0 lo)
def partD : RV → Option (Option Int)
  | .d .non => some none
  | .d (.int i) => some (some i)
  | _ => none
def idxR (x i : RV) (S : Store) : Option RV := match i with
  | .d u => (match seqv x S with
    | some xs => (match u with
      | .int k => (atI xs k).map RV.d
      | _ => none)
    | none => match dicv x S with
      | some kvs => u.key.bind fun k => (aval kvs k).map RV.d
      | none => none)
  | .o _ => none
def slcR (x : RV) (l h : Option Int) (S : Store) : Option RV := match tupv x with
  | some xs => some (.d (.tup (cutD xs l h)))
  | none => (lstv x S).map fun xs => .o (.lst (cutD xs l h))
def srt (is : List Int) : List Int := is.mergeSort (fun a b => decide (a ≤ b))
def seti (is : List Int) : List Int := is.foldl (fun acc i => if i ∈ acc then acc else acc ++ [i]) []
def maxI : List Int → Option Int
  | [] => none
  | i :: r => some (r.foldl (fun a b => if b > a then b else a) i)
def minI : List Int → Option Int
  | [] => none
  | i :: r => some (r.foldl (fun a b => if b < a then b else a) i)
/-- ints of a list, a tuple, a set -/
def intsv (x : RV) (S : Store) : Option (List Int) := (seqv x S).bind asI
/-- the keys of a dict, ints -/
def keysI (kvs : List (Key × D)) : Option (List Int) := asI (kvs.map fun kv => keyD kv.1)
/-- small enough for the fast road of sum -/
def sumOk (is : List Int) : Prop := is.length ≤ 16777216 ∧ ∀ i ∈ is, -(2 ^ 32) ≤ i ∧ i ≤ 2 ^ 32
noncomputable instance (is : List Int) : Decidable (sumOk is) := Classical.propDecidable _
/-- the pairs of key and value -/
def kvsD : List D → Option (List (Key × D))
  | [] => some []
  | .tup [k, v] :: r => (match k.key, kvsD r with
    | some kk, some ps => some ((kk, v) :: ps)
    | _, _ => none)
  | _ :: _ => none
noncomputable def b1R (f : B1) (x : RV) (S : Store) : R RV := match f with
  | .len => (match x with
    | .d (.str z) => if z.length ≤ sizeLine then .ok (.d (.int z.length)) S else .bad
    | _ => match seqv x S with
      | some xs => .ok (.d (.int xs.length)) S
      | none => match dicv x S with
        | some kvs => .ok (.d (.int kvs.length)) S
        | none => .bad)
  | .int => (match x with
    | .d (.int i) => .ok (.d (.int i)) S
    | .d (.bl b) => .ok (.d (.int (if b then 1 else 0))) S
    | _ => .bad)
  | .bool => (match x with
    | .d (.int i) => .ok (.d (.bl (i != 0))) S
    | .d (.bl b) => .ok (.d (.bl b)) S
    | _ => .bad)
  | .abs => (match x with
    | .d (.int i) => .ok (.d (.int (if i < 0 then -i else i))) S
    | _ => .bad)
  | .tuple => (match seqv x S with
    | some xs => .ok (.d (.tup xs)) S
    | none => .bad)
  | .list => (match seqv x S with
    | some xs => .ok (.o (.lst xs)) S
    | none => .bad)
  | .sorted => (match (seqv x S).bind asI with
    | some is => .ok (.o (.lst ((srt is).map D.int))) S
    | none => match (dicv x S).bind keysI with
      | some is => if is.length < 64 then .ok (.o (.lst ((srt is).map D.int))) S else .bad
      | none => .bad)
  | .set => .bad
  | .dict => (match dicv x S with
    | some kvs => .ok (.o (.dic kvs)) S
    | none => (match (seqv x S).bind kvsD with
      | some kvs => .ok (.o (.dic (kvs.foldl (fun acc kv => aput acc kv.1 kv.2) []))) S
      | none => .bad))
  | .sum => (match intsv x S with
    | some is => if sumOk is then .ok (.d (.int is.sum)) S else .bad
    | none => .bad)
  | .max => R.of (((lstv x S).bind asI).bind maxI |>.map fun i => .d (.int i)) S
  | .min => R.of (((lstv x S).bind asI).bind minI |>.map fun i => .d (.int i)) S
  | .any => (match (lstv x S).bind asB with
    | some bs => .ok (.d (.bl (bs.any id))) S
    | none => .bad)
  | .all => (match (lstv x S).bind asB with
    | some bs => .ok (.d (.bl (bs.all id))) S
    | none => .bad)
/-- .. of a written table -/
def kdR (op : Kop) (tb : List (Str × D)) (x : RV) (y : D) : Option RV := match x with
  | .d (.str z) => (match op with
    | .idx => (tb.lookup z).map RV.d
    | .mem => some (.d (.bl (tb.lookup z).isSome))
    | .nmem => some (.d (.bl (!(tb.lookup z).isSome)))
    | .get => some (.d ((tb.lookup z).getD y)))
  | _ => none
/-- x[::-1] -/
def revR (x : RV) (S : Store) : Option RV := (lstv x S).map fun xs => .o (.lst xs.reverse)
/-- sorted(set(x)), ints -/
def ssetR (x : RV) (S : Store) : R RV := match (seqv x S).bind asI with
  | some is => if is.length < 4000 ∧ (seti is).length < 64 then .ok (.o (.lst ((srt (seti is)).map D.int))) S else .bad
  | none => .bad
def b2R (f : B2) (x y : RV) (S : Store) : R RV := match f, x, y with
  | .max, .d (.int i), .d (.int j) => .ok (.d (.int (if j > i then j else i))) S
  | .min, .d (.int i), .d (.int j) => .ok (.d (.int (if j < i then j else i))) S
  | _, _, _ => .bad
/-- the ints of a range -/
def rngD (a b : Int) : List D := (List.range (b - a).toNat).map fun i => D.int (a + (i : Nat))
def rngOk (a b : Int) : Prop := -(2 ^ 62) ≤ a ∧ a < 2 ^ 62 ∧ -(2 ^ 62) ≤ b ∧ b < 2 ^ 62 ∧ (b - a).toNat ≤ 16777216
noncomputable instance : Decidable (rngOk a b) := Classical.propDecidable _
noncomputable def rngR (f : B1) (x y : RV) (S : Store) : R RV := match f, x, y with
  | .list, .d (.int i), .d (.int j) => if rngOk i j then .ok (.o (.lst (rngD i j))) S else .bad
  | .tuple, .d (.int i), .d (.int j) => if rngOk i j then .ok (.d (.tup (rngD i j))) S else .bad
  | _, _, _ => .bad
/-! ### methods -/
inductive Knd where
  | lst | tup | dic | str
def knd (x : RV) (S : Store) : Option Knd := match x with
  | .d (.tup _) => some .tup
  | .d (.str _) => some .str
  | x => match cellOf x S with
    | some (.lst _) => some .lst
    | some (.dic _) => some .dic
    | _ => none
/-- .. that has this method -/
def kndM (m : Me) (x : RV) (S : Store) : Option Knd := match knd x S, m with
  | some .lst, .append => some .lst
  | some .lst, .extend => some .lst
  | some .lst, .index => some .lst
  | some .lst, .count => some .lst
  | some .lst, .pop => some .lst
  | some .dic, .get => some .dic
  | some .tup, .index => some .tup
  | _, _ => none
def m0R (k : Knd) (m : Me) (x : RV) (S : Store) : R RV := match k, m, x with
  | .lst, .pop, .d (.ref r) => (match S[r]? with
    | some (.lst xs) => (match xs[xs.length - 1]? with
      | some y => .ok (.d y) (S.set r (.lst xs.dropLast))
      | none => .bad)
    | _ => .bad)
  | _, _, _ => .bad
def idxOf (u : D) (xs : List D) : Option Nat := xs.findIdx? fun z => z.eqv u
def m1R (k : Knd) (m : Me) (x : RV) (y : D) (S : Store) : R RV := match k, m with
  | .lst, .append => (match x with
    | .d (.ref r) => (match S[r]? with
      | some (.lst xs) => if xs.length < sizeLine then .ok (.d .non) (S.set r (.lst (xs ++ [y]))) else .bad
      | _ => .bad)
    | _ => .bad)
  | .lst, .index => (match lstv x S with
    | some xs => if inOk y xs then (match idxOf y xs with
        | some j => .ok (.d (.int j)) S
        | none => .bad) else .bad
    | none => .bad)
  | .tup, .index => (match tupv x with
    | some xs => if y.flat && xs.all D.flat then (match idxOf y xs with
        | some j => .ok (.d (.int j)) S
        | none => .bad) else .bad
    | none => .bad)
  | .lst, .count => (match (lstv x S).bind asI, y with
    | some is, .int i => .ok (.d (.int (is.count i))) S
    | _, _ => .bad)
  | .dic, .get => (match dicv x S, y.key with
    | some kvs, some k => .ok (.d ((aval kvs k).getD .non)) S
    | _, _ => .bad)
  | .lst, .pop => (match x, y with
    | .d (.ref r), .int i => (match S[r]? with
      | some (.lst xs) => (match seqIndex? i xs.length with
        | some k => (match xs[k]? with
          | some z => if -(2 ^ 63) ≤ i ∧ i < 2 ^ 63 then .ok (.d z) (S.set r (.lst (xs.eraseIdx k))) else .bad
          | none => .bad)
        | none => .bad)
      | _ => .bad)
    | _, _ => .bad)
  | _, _ => .bad
/-- xs.extend(y) -/
def extR (k : Knd) (x y : RV) (S : Store) : R RV := match k, x with
  | .lst, .d (.ref r) => (match S[r]?, lstw y S with
    | some (.lst xs), some ys => if xs.length + ys.length ≤ sizeLine then .ok (.d .non) (S.set r (.lst (xs ++ ys))) else .bad
    | _, _ => .bad)
  | _, _ => .bad
def m2R (k : Knd) (m : Me) (x : RV) (y z : D) (S : Store) : R RV := match k, m, dicv x S, y.key with
  | .dic, .get, some kvs, some k => .ok (.d ((aval kvs k).getD z)) S
  | _, _, _, _ => .bad
/-- o[i] = v -/
def setR (o : RV) (i v : D) (S : Store) : R Unit := match o with
  | .d (.ref r) => (match S[r]? with
    | some (.lst xs) => (match i with
      | .int k => (match ixN xs.length k with
        | some j => .ok () (S.set r (.lst (xs.set j v)))
        | none => .bad)
      | _ => .bad)
    | some (.dic kvs) => (match i.key with
      | some k => if kvs.length < sizeLine then .ok () (S.set r (.dic (aput kvs k v))) else .bad
      | none => .bad)
    | _ => .bad)
  | _ => .bad
/-! ### targets of a loop -/
def wipeD (ρ : Env) : List Nat → Env
  | [] => ρ
  | v :: vs => (wipeD ρ vs).set v none
mutual
/-- one value to the first target of the list -/
def bindT : Tg → List D → Env → Option Env
  | .nil, [], ρ => some ρ
  | .nil, _ :: _, _ => none
  | .var _ _, [], _ => none
  | .var i r, x :: xs, ρ => bindT r xs (ρ.set i (some x))
  | .tup _ _, [], _ => none
  | .tup t r, x :: xs, ρ => match x with
    | .tup ys => (bindT t ys ρ).bind (bindT r xs)
    | _ => none
end
/-! ### loops -/
/-- what must stand, turn by turn -/
inductive Grd where
  | no | at (r : Nat) (c : Cell)
def Grd.ok (S : Store) : Grd → Prop
  | .no => True
  | .at r c => S[r]? = some c
open Classical in
noncomputable instance (S : Store) (g : Grd) : Decidable (g.ok S) := propDecidable _
inductive RS where
  | nx (ρ : Env) (S : Store) | rt (x : RV) (S : Store) | bk (ρ : Env) (S : Store) | ct (ρ : Env) (S : Store) | ex (x : Exn) (S : Store) | bad
def R.bindS {α : Type} (x : R α) (f : α → Store → RS) : RS := match x with
  | .ok a S => f a S
  | .exc e S => .ex e S
  | .bad => .bad
@[simp] theorem R.bindS_ok {α : Type} (a : α) (S : Store) (f : α → Store → RS) : (R.ok a S).bindS f = f a S := nr rfl
@[simp] theorem R.bindS_exc {α : Type} (x : Exn) (S : Store) (f : α → Store → RS) : (R.exc x S : R α).bindS f = .ex x S := nr rfl
@[simp] theorem R.bindS_bad {α : Type} (f : α → Store → RS) : (R.bad : R α).bindS f = .bad := nr rfl
def RS.andThen (x : RS) (f : Env → Store → RS) : RS := match x with
  | .nx ρ S => f ρ S
  | y => y
@[simp] theorem RS.andThen_nx (ρ : Env) (S : Store) (f : Env → Store → RS) : (RS.nx ρ S).andThen f = f ρ S := nr rfl
@[simp] theorem RS.andThen_rt (x : RV) (S : Store) (f : Env → Store → RS) : (RS.rt x S).andThen f = .rt x S := nr rfl
@[simp] theorem RS.andThen_bk (ρ : Env) (S : Store) (f : Env → Store → RS) : (RS.bk ρ S).andThen f = .bk ρ S := nr rfl
@[simp] theorem RS.andThen_ct (ρ : Env) (S : Store) (f : Env → Store → RS) : (RS.ct ρ S).andThen f = .ct ρ S := nr rfl
@[simp] theorem RS.andThen_ex (x : Exn) (S : Store) (f : Env → Store → RS) : (RS.ex x S).andThen f = .ex x S := nr rfl
@[simp] theorem RS.andThen_bad (f : Env → Store → RS) : (RS.bad).andThen f = .bad := nr rfl
/-- a while loop, at most n turns -/
def whileN (c : Env → Store → R Bool) (b : Env → Store → RS) : Nat → Env → Store → RS
  | 0, _, _ => .bad
  | n + 1, ρ, S => (c ρ S).bindS fun t S1 => if t = true then (match b ρ S1 with
      | .nx ρ2 S2 => whileN c b n ρ2 S2
      | .ct ρ2 S2 => whileN c b n ρ2 S2
      | .bk ρ2 S2 => .nx ρ2 S2
      | .rt x S2 => .rt x S2
      | .ex x S2 => .ex x S2
      | .bad => .bad) else .nx ρ S1
/-- a for loop over these -/
noncomputable def forL (g : Grd) (t : Tg) (b : Env → Store → RS) : List D → Env → Store → RS
  | [], ρ, S => if g.ok S then .nx ρ S else .bad
  | x :: xs, ρ, S => if g.ok S then (match bindT t [x] ρ with
      | none => .bad
      | some ρ1 => match b ρ1 S with
        | .nx ρ2 S2 => forL g t b xs ρ2 S2
        | .ct ρ2 S2 => forL g t b xs ρ2 S2
        | .bk ρ2 S2 => .nx ρ2 S2
        | .rt x S2 => .rt x S2
        | .ex x S2 => .ex x S2
        | .bad => .bad) else .bad
/-- a comprehension's loop: what a turn hands on is put behind what stands -/
noncomputable def compL {α : Type} (g : Grd) (t : Tg) (ρ : Env) (ifs : Env → Store → R Bool) (b : Env → Store → α → R α) : List D → Store → α → R α
  | [], S, acc => if g.ok S then .ok acc S else .bad
  | x :: xs, S, acc => if g.ok S then (match bindT t [x] ρ with
      | none => .bad
      | some ρ1 => (ifs ρ1 S).bind fun k S1 => if k = true then (b ρ1 S1 acc).bind fun acc2 S2 => compL g t ρ ifs b xs S2 acc2 else compL g t ρ ifs b xs S1 acc) else .bad
end CH
/-! CC: the interpreter. -/
namespace CH
open PySem PySem.Spec PyProof.Rows L2
def R.noex {α : Type} : R α → R α
  | .ok a S => .ok a S
  | _ => .bad
@[simp] theorem R.noex_ok {α : Type} (a : α) (S : Store) : (R.ok a S).noex = .ok a S := nr rfl
@[simp] theorem R.noex_bad {α : Type} : (R.bad : R α).noex = .bad := nr rfl
/-- a dict is locked while it is walked -/
noncomputable def lockR {α : Type} (k : Option (Nat × Cell)) (f : Store → R α) (S : Store) : R α := match k with
  | none => f S
  | some (r, c) => match f (S.set r (.frz c)) with
    | .ok a S' => if S'[r]? = some (.frz c) then .ok a (S'.set r c) else .bad
    | _ => .bad
noncomputable def lockS (k : Option (Nat × Cell)) (f : Store → RS) (S : Store) : RS := match k with
  | none => f S
  | some (r, c) => match f (S.set r (.frz c)) with
    | .nx ρ S' => if S'[r]? = some (.frz c) then .nx ρ (S'.set r c) else .bad
    | .rt x S' => if S'[r]? = some (.frz c) then .rt x (S'.set r c) else .bad
    | .bk ρ S' => if S'[r]? = some (.frz c) then .bk ρ (S'.set r c) else .bad
    | .ct ρ S' => if S'[r]? = some (.frz c) then .ct ρ (S'.set r c) else .bad
    | _ => .bad
def lockV (e : Ex) (ρ : Env) (S : Store) : Option (Nat × Cell) := match e with
  | .var i => (match ρ[i]? with
    | some (some (.ref r)) => (match S[r]? with
      | some (.dic kvs) => some (r, .dic kvs)
      | _ => none)
    | _ => none)
  | _ => none
def lockI (it : Ix) (ρ : Env) (S : Store) : Option (Nat × Cell) := match it with
  | .ex e => lockV e ρ S
  | .items e => lockV e ρ S
  | .vals e => lockV e ρ S
  | _ => none
/-- what a for loop or a comprehension walks -/
def walkR (x : RV) (S : Store) : R (List D × Grd) := match x with
  | .d (.tup xs) => .ok (xs, .no) S
  | .d (.lst xs) => .ok (xs, .no) S
  | .d (.ref r) => (match S[r]? with
    | some (.lst xs) => .ok (xs, .at r (.lst xs)) S
    | some (.frz (.dic kvs)) => .ok (kvs.map fun kv => keyD kv.1, .no) S
    | _ => .bad)
  | .o (.lst xs) => .ok (xs, .no) S
  | .d (.str z) => if z.cps.size ≤ sizeLine then .ok (z.cps.toList.map fun c => D.str ⟨#[c]⟩, .no) S else .bad
  | _ => .bad
def enuD (xs : List D) : List D := (List.range xs.length).zipWith (fun i x => D.tup [.int (i : Nat), x]) xs
def zipD (xs ys : List D) : List D := xs.zipWith (fun x y => D.tup [x, y]) ys
def rng3Ok (i j k : Int) : Prop := k ≠ 0 ∧ k.natAbs < 1073741824 ∧ Builtin.Range.small i j k = true ∧ (Builtin.Range.rangeSize i j k).toNat ≤ 16777216
noncomputable instance (i j k : Int) : Decidable (rng3Ok i j k) := Classical.propDecidable _
/-- .. whose items are told in pairs -/
def walkS (x : RV) (S : Store) : Option (List D × Grd) := match x with
  | .d (.tup xs) => some (xs, .no)
  | .d (.lst xs) => some (xs, .no)
  | .d (.ref r) => (match S[r]? with
    | some (.lst xs) => some (xs, .at r (.lst xs))
    | _ => none)
  | .o (.lst xs) => some (xs, .no)
  | _ => none
def allO {α : Type} : List (Option α) → Option (List α)
  | [] => some []
  | none :: _ => none
  | some x :: r => (allO r).map (x :: ·)
def anyG : List (Option D) → Option Bool
  | [] => some false
  | some (.bl true) :: _ => some true
  | some (.bl false) :: r => anyG r
  | _ :: _ => none
def allG : List (Option D) → Option Bool
  | [] => some true
  | some (.bl true) :: r => allG r
  | some (.bl false) :: _ => some false
  | _ :: _ => none
def genR (c : Gc) (ys : List (Option D)) (S : Store) : R RV := match c with
  | .any => R.of ((anyG ys).map fun b => .d (.bl b)) S
  | .all => R.of ((allG ys).map fun b => .d (.bl b)) S
  | c => match allO ys with
    | none => .bad
    | some xs => if xs.length ≤ sizeLine then (match c with
      | .tuple => .ok (.d (.tup xs)) S
      | .list => .ok (.o (.lst xs)) S
      | .sorted => (match asI xs with
        | some is => .ok (.o (.lst ((srt is).map D.int))) S
        | none => .bad)
      | .set => (match asI xs with
        | some is => .ok (.o (.set (seti is))) S
        | none => .bad)
      | .sum => (match asI xs with
        | some is => .ok (.d (.int is.sum)) S
        | none => .bad)
      | .max => R.of ((asI xs).bind maxI |>.map fun i => .d (.int i)) S
      | .min => R.of ((asI xs).bind minI |>.map fun i => .d (.int i)) S
      | .max0 => R.of ((asI xs).map fun is => .d (.int ((maxI is).getD 0))) S
      | .min0 => R.of ((asI xs).map fun is => .d (.int ((minI is).getD 0))) S
      | .any => .bad
      | .all => .bad) else .bad
def matB (x : R RV) : R D := x.bind mat
/-- a held value that leaves the store as it is -/
noncomputable def pureV (x : R RV) (S : Store) : Option D := match x with
  | .ok (.d v) S' => if S' = S then some v else none
  | _ => none
noncomputable def pureB (x : R Bool) (S : Store) : Option Bool := match x with
  | .ok b S' => if S' = S then some b else none
  | _ => none
noncomputable def pureI (x : R (List D × Grd)) (S : Store) : Option (List D) := match x with
  | .ok (xs, g) S' => if S' = S ∧ g.ok S then some xs else none
  | _ => none
/-- one turn of a generator's clause -/
def turnG (o : Option Env) (t : Env → Option Bool) (f : Env → List (Option D)) : List (Option D) := match o with
  | none => [none]
  | some ρ1 => match t ρ1 with
    | some true => f ρ1
    | some false => []
    | none => [none]
/-- a key -/
def keyR (x : RV) : Option Key := match x with
  | .d u => u.key
  | _ => none
/-- a list in the store gets one more -/
def pushR (r : Nat) (y : D) (S : Store) : R Unit := match S[r]? with
  | some (.lst xs) => if xs.length < sizeLine then .ok () (S.set r (.lst (xs ++ [y]))) else .bad
  | _ => .bad
abbrev CF := Str → List D → Store → R RV
mutual
noncomputable def ev (cf : CF) : Ex → Env → Store → R RV
  | .var i, ρ, S => (match ρ[i]? with
    | some (some d) => .ok (.d d) S
    | _ => .bad)
  | .con d, _, S => .ok (.d d) S
  | .tup es, ρ, S => (evs cf es ρ S).bind fun ds S => .ok (.d (.tup ds)) S
  | .lst es, ρ, S => (evs cf es ρ S).bind fun ds S => .ok (.o (.lst ds)) S
  | .dnew, _, S => .ok (.o (.dic [])) S
  | .bin o a b, ρ, S => (ev cf a ρ S).bind fun x S => (ev cf b ρ S).bind fun y S => binR o x y S
  | .neg a, ρ, S => (ev cf a ρ S).bind fun x S => (match x with
    | .d (.int i) => .ok (.d (.int (-i))) S
    | _ => .bad)
  | .not a, ρ, S => (ev cf a ρ S).bind fun x S => R.of ((truth x S).map fun k => .d (.bl (!k))) S
  | .and a b, ρ, S => (ev cf a ρ S).bind fun x S => (match truth x S with
    | some true => ev cf b ρ S
    | some false => .ok x S
    | none => .bad)
  | .or a b, ρ, S => (ev cf a ρ S).bind fun x S => (match truth x S with
    | some true => .ok x S
    | some false => ev cf b ρ S
    | none => .bad)
  | .cmp o a b, ρ, S => (ev cf a ρ S).bind fun x S => (ev cf b ρ S).bind fun y S => R.of ((cmpR o x y S).map fun k => .d (.bl k)) S
  | .chn o p a b c, ρ, S => (ev cf a ρ S).bind fun x S => (ev cf b ρ S).bind fun y S => (R.of (cmpR o x y S) S).bind fun k S =>
      if k = true then (ev cf c ρ S).bind fun z S => R.of ((cmpR p y z S).map fun k => .d (.bl k)) S else .ok (.d (.bl false)) S
  | .ite c a b, ρ, S => (tt cf c ρ S).bind fun k S => if k = true then ev cf a ρ S else ev cf b ρ S
  | .idx a i, ρ, S => (ev cf a ρ S).bind fun x S => (ev cf i ρ S).bind fun y S => R.of (idxR x y S) S
  | .slc a l h, ρ, S => (ev cf a ρ S).bind fun x S => (ev cf l ρ S).bind fun y S => (R.of (partD y) S).bind fun lo S => (ev cf h ρ S).bind fun z S => (R.of (partD z) S).bind fun hi S => R.of (slcR x lo hi S) S
  | .call f es, ρ, S => (evs cf es ρ S).bind fun ds S => cf f ds S
  | .b1 f a, ρ, S => (ev cf a ρ S).bind fun x S => b1R f x S
  | .b2 f a b, ρ, S => (ev cf a ρ S).bind fun x S => (ev cf b ρ S).bind fun y S => b2R f x y S
  | .isi a t, ρ, S => (ev cf a ρ S).bind fun x S => R.of ((isiR x t S).map fun k => .d (.bl k)) S
  | .rng f a b, ρ, S => (ev cf a ρ S).bind fun x S => (ev cf b ρ S).bind fun y S => rngR f x y S
  | .m0 m o, ρ, S => (ev cf o ρ S).bind fun x S => (R.of (kndM m x S) S).bind fun k S => m0R k m x S
  | .m1 m o a, ρ, S => (ev cf o ρ S).bind fun x S => (R.of (kndM m x S) S).bind fun k S => (match m with
    | .extend => (ev cf a ρ S).bind fun y S => extR k x y S
    | m => (matB (ev cf a ρ S)).bind fun y S => m1R k m x y S)
  | .m2 m o a b, ρ, S => (ev cf o ρ S).bind fun x S => (R.of (kndM m x S) S).bind fun k S => (matB (ev cf a ρ S)).bind fun y S => (matB (ev cf b ρ S)).bind fun z S => m2R k m x y z S
  | .lc vs e t it ifs, ρ, S => lockR (lockI it ρ S) (fun S => (evI cf it ρ S).bind fun w S =>
      (compL w.2 t (wipeD ρ vs) (fun ρ S => tst cf ifs ρ S) (fun ρ S acc => (matB (ev cf e ρ S)).bind fun y S => .ok (acc ++ [y]) S) w.1 S []).noex.bind fun ys S => .ok (.o (.lst ys)) S) S
  | .lc2 vs vs1 e t it ifs t1 it1 ifs1, ρ, S => lockR (lockI it ρ S) (fun S => (evI cf it ρ S).bind fun w S =>
      (compL w.2 t (wipeD ρ vs) (fun ρ S => tst cf ifs ρ S) (fun ρ S' (_ : Unit) => (evI cf it1 ρ S').bind fun w1 S' =>
        compL w1.2 t1 (wipeD ρ vs1) (fun ρ S' => tst cf ifs1 ρ S') (fun ρ S' (_ : Unit) => (matB (ev cf e ρ S')).bind fun y S' => pushR S.length y S') w1.1 S' ()) w.1 (S ++ [.lst []]) ()).noex.bind fun _ S' => .ok (.d (.ref S.length)) S') S
  | .dc vs k v t it ifs, ρ, S => lockR (lockI it ρ S) (fun S => (evI cf it ρ S).bind fun w S =>
      (compL w.2 t (wipeD ρ vs) (fun ρ S => tst cf ifs ρ S) (fun ρ S acc => (matB (ev cf k ρ S)).bind fun y S => (matB (ev cf v ρ S)).bind fun z S => (match y.key with
        | some kk => .ok (aput acc kk z) S
        | none => .bad)) w.1 S []).noex.bind fun kvs S => .ok (.o (.dic kvs)) S) S
  | .gen c vs t it ifs g, ρ, S => lockR (lockI it ρ S) (fun S => (evI cf it ρ S).bind fun w S =>
      if w.2.ok S then genR c (w.1.flatMap fun x => turnG (bindT t [x] (wipeD ρ vs)) (fun ρ => pureB (tst cf ifs ρ S) S) (fun ρ => strm cf g ρ S)) S else .bad) S
  | .srtk _ _ _ _, _, _ => .bad
  | .sset a, ρ, S => (ev cf a ρ S).bind fun x S => ssetR x S
  | .dsp ps, ρ, S => (evp cf ps ρ S).bind fun kvs S => .ok (.o (.dic (kvs.foldl (fun acc kv => aput acc kv.1 kv.2) []))) S
  | .kd op _ tb a d, ρ, S => (ev cf a ρ S).bind fun x S => (matB (ev cf d ρ S)).bind fun y S => R.of (kdR op tb x y) S
  | .rev a, ρ, S => (ev cf a ρ S).bind fun x S => R.of (revR x S) S
noncomputable def tt (cf : CF) : Tx → Env → Store → R Bool
  | .ex e, ρ, S => (ev cf e ρ S).bind fun x S => R.of (truth x S) S
  | .and a b, ρ, S => (tt cf a ρ S).bind fun k S => if k = true then tt cf b ρ S else .ok false S
  | .or a b, ρ, S => (tt cf a ρ S).bind fun k S => if k = true then .ok true S else tt cf b ρ S
  | .not a, ρ, S => (tt cf a ρ S).bind fun k S => .ok (!k) S
noncomputable def evp (cf : CF) : Eps → Env → Store → R (List (Key × D))
  | .nil, _, S => .ok [] S
  | .cons k v ps, ρ, S => (ev cf k ρ S).bind fun x S => (matB (ev cf v ρ S)).bind fun z S => (R.of (keyR x) S).bind fun kk S => (evp cf ps ρ S).bind fun r S => .ok ((kk, z) :: r) S
noncomputable def evs (cf : CF) : Exs → Env → Store → R (List D)
  | .nil, _, S => .ok [] S
  | .cons e es, ρ, S => (matB (ev cf e ρ S)).bind fun d S => (evs cf es ρ S).bind fun ds S => .ok (d :: ds) S
/-- the tests of a clause -/
noncomputable def tst (cf : CF) : Txs → Env → Store → R Bool
  | .nil, _, S => .ok true S
  | .cons e es, ρ, S => (tt cf e ρ S).bind fun k S => if k = true then tst cf es ρ S else .ok false S
noncomputable def evI (cf : CF) : Ix → Env → Store → R (List D × Grd)
  | .ex e, ρ, S => (ev cf e ρ S).bind fun x S => walkR x S
  | .rng a b, ρ, S => (ev cf a ρ S).bind fun x S => (ev cf b ρ S).bind fun y S => (match x, y with
    | .d (.int i), .d (.int j) => if rngOk i j then .ok (rngD i j, .no) S else .bad
    | _, _ => .bad)
  | .rng3 a b c, ρ, S => (ev cf a ρ S).bind fun x S => (ev cf b ρ S).bind fun y S => (ev cf c ρ S).bind fun z S => (match x, y, z with
    | .d (.int i), .d (.int j), .d (.int k) => if rng3Ok i j k then .ok ((List.range (Builtin.Range.rangeSize i j k).toNat).map (fun n => D.int (i + (n : Nat) * k)), .no) S else .bad
    | _, _, _ => .bad)
  | .enu a, ρ, S => (ev cf a ρ S).bind fun x S => R.of ((walkS x S).map fun w => (enuD w.1, w.2)) S
  | .zip a b, ρ, S => (ev cf a ρ S).bind fun x S => (ev cf b ρ S).bind fun y S => (match walkS x S, walkS y S with
    | some (xs, .no), some (ys, g) => .ok (zipD xs ys, g) S
    | some (xs, g), some (ys, .no) => .ok (zipD xs ys, g) S
    | _, _ => .bad)
  | .items e, ρ, S => (ev cf e ρ S).bind fun x S => (match x with
    | .d (.ref r) => (match S[r]? with
      | some (.frz (.dic kvs)) => .ok (kvs.map fun kv => .tup [keyD kv.1, kv.2], .no) S
      | _ => .bad)
    | _ => .bad)
  | .vals e, ρ, S => (ev cf e ρ S).bind fun x S => (match x with
    | .d (.ref r) => (match S[r]? with
      | some (.frz (.dic kvs)) => .ok (kvs.map fun kv => kv.2, .no) S
      | _ => .bad)
    | _ => .bad)
/-- what a generator's further clauses hand out -/
noncomputable def strm (cf : CF) : Gs → Env → Store → List (Option D)
  | .elt e, ρ, S => [pureV (ev cf e ρ S) S]
  | .cons t it ifs g, ρ, S => (match pureI (evI cf it ρ S) S with
    | some xs => xs.flatMap fun x => turnG (bindT t [x] ρ) (fun ρ => pureB (tst cf ifs ρ S) S) (fun ρ => strm cf g ρ S)
    | none => [none])
end
/-- name op= y -/
def augR (o : Bop) (d : D) (y : RV) (S : Store) : R D := match o, d, y with
  | .add, .int i, .d (.int j) => .ok (.int (i + j)) S
  | .sub, .int i, .d (.int j) => .ok (.int (i - j)) S
  | _, _, _ => .bad
def FU : Nat := 1000000000
mutual
noncomputable def ex (cf : CF) : St → Env → Store → RS
  | .ex e, ρ, S => (ev cf e ρ S).bindS fun _ S => .nx ρ S
  | .set t e, ρ, S => (match t with
    | .var i => (matB (ev cf e ρ S)).bindS fun v S => .nx (ρ.set i (some v)) S
    | .tup t => (ev cf e ρ S).bindS fun x S => (match tupv x with
      | some xs => (match bindT t xs ρ with
        | some ρ1 => .nx ρ1 S
        | none => .bad)
      | none => .bad)
    | .sub o i => (matB (ev cf e ρ S)).bindS fun v S => (ev cf o ρ S).bindS fun x S => (matB (ev cf i ρ S)).bindS fun y S => (setR x y v S).bindS fun _ S => .nx ρ S)
  | .aug i o e, ρ, S => (match ρ[i]? with
    | some (some d) => (ev cf e ρ S).bindS fun y S => (augR o d y S).bindS fun v S => .nx (ρ.set i (some v)) S
    | _ => .bad)
  | .augs o i b e, ρ, S => (ev cf o ρ S).bindS fun x S => (ev cf i ρ S).bindS fun y S => (R.of (idxR x y S) S).bindS fun z S => (match z, y with
    | .d z, .d y => (ev cf e ρ S).bindS fun u S => (augR b z u S).bindS fun v S => (setR x y v S).bindS fun _ S => .nx ρ S
    | _, _ => .bad)
  | .par i j a b, ρ, S => (matB (ev cf a ρ S)).bindS fun x S => (matB (ev cf b ρ S)).bindS fun y S => .nx ((ρ.set i (some x)).set j (some y)) S
  | .ret e, ρ, S => (ev cf e ρ S).bindS fun x S => .rt x S
  | .ite c a b, ρ, S => (tt cf c ρ S).bindS fun k S => if k = true then exs cf a ρ S else exs cf b ρ S
  | .whl c b, ρ, S => whileN (fun ρ S => tt cf c ρ S) (fun ρ S => exs cf b ρ S) FU ρ S
  | .for t it b, ρ, S => lockS (lockI it ρ S) (fun S => (evI cf it ρ S).bindS fun w S => forL w.2 t (fun ρ S => exs cf b ρ S) w.1 ρ S) S
  | .brk, ρ, S => .bk ρ S
  | .cnt, ρ, S => .ct ρ S
  | .pas, ρ, S => .nx ρ S
noncomputable def exs (cf : CF) : Sts → Env → Store → RS
  | .nil, ρ, S => .nx ρ S
  | .cons s ss, ρ, S => (ex cf s ρ S).andThen fun ρ S => exs cf ss ρ S
end
/-! ### defs -/
structure Fn where
  ps : Nat
  n : Nat
  body : Sts
/-- what stood is as it was, or speaks of what stood alone -/
def oldOk (S0 S : Store) : Prop := S0.length ≤ S.length ∧ ∀ i < S0.length, S[i]? = S0[i]? ∨ ∃ c, S[i]? = some c ∧ c.lo S0.length = true
def rvLo (n : Nat) : RV → Bool
  | .d v => v.lo n
  | .o c => c.lo n
/-- behind a call: what the def has made and nothing names is forgotten -/
def out (n : Nat) (x : RV) (S : Store) : RV := match x with
  | .d (.ref r) => if r < n then x else (match S[r]? with
    | some (.frz _) => x
    | some c => .o c
    | none => x)
  | x => x
open Classical in
noncomputable def leave (S0 : Store) (x : RV) (S : Store) : R RV :=
  if oldOk S0 S ∧ rvLo S0.length (out S0.length x S) = true then .ok (out S0.length x S) (S.take S0.length) else .ok x S
noncomputable def fin (S0 : Store) (r : RS) : R RV := match r with
  | .nx _ S => leave S0 (.d .non) S
  | .rt x S => leave S0 x S
  | .ex x S => .exc x S
  | _ => .bad
noncomputable def callF (T : List (Str × Fn)) : Nat → CF
  | 0, _, _, _ => .bad
  | k + 1, f, ds, S => match T.lookup f with
    | some F => if ds.length = F.ps then fin S (exs (callF T k) F.body (ds.map some ++ List.replicate (F.n - F.ps) none) S) else .bad
    | none => .bad
end CH
/-! CD: what it means that values, environments and stores stand in a heap of the layer. -/
namespace CH
open PySem PySem.Spec PyProof.Rows L2
/-- a list that nobody writes -/
def FrL (K : PySem.W.Frag) (H : Hp) (a : Addr) (xs : List V) : Prop :=
  (∃ o, H a = some (.frz o (.lst xs))) ∨
    ∃ (o : Obj) (its : Array Value) (n : Nat), K.lookup a = some o ∧ o.cls = .type "list" ∧ o.dict = none ∧ o.data = .seq its n ∧ its.size ≤ sizeLine ∧ Vals xs its.toList
theorem FrL.sq {K : PySem.W.Frag} {H : Hp} {a : Addr} {xs : List V} (h : FrL K H a xs) : SqL K H a xs := by
  rcases h with h | h
  · exact .inl (.inr h)
  · exact .inr h
/-- a tuple whose object is known to have no dict -/
def PlT (K : PySem.W.Frag) (H : Hp) (a : Addr) (xs : List V) : Prop :=
  (∃ o : Obj, o.dict = none ∧ H a = some (.frz o (.tup xs))) ∨
    ∃ (o : Obj) (its : Array Value) (n : Nat), o.dict = none ∧ K.lookup a = some o ∧ o.cls = .type "tuple" ∧ o.data = .seq its n ∧ its.size ≤ sizeLine ∧ Vals xs its.toList
theorem PlT.sq {K : PySem.W.Frag} {H : Hp} {a : Addr} {xs : List V} (h : PlT K H a xs) : SqT K H a xs := by
  rcases h with ⟨o, _, h⟩ | ⟨o, its, n, _, h⟩
  · exact .inl (.inr ⟨o, h⟩)
  · exact .inr ⟨o, its, n, h⟩
mutual
inductive DV (K : PySem.W.Frag) (w : List Addr) (H : Hp) : D → V → Prop
  | non : DV K w H .non .non
  | bl (b : Bool) : DV K w H (.bl b) (.bl b)
  | int (i : Int) : DV K w H (.int i) (.int i)
  | str (x : Str) : DV K w H (.str x) (.str x)
  | tup {a : Addr} {vs : List V} {ds : List D} : PlT K H a vs → DVs K w H ds vs → DV K w H (.tup ds) (.ref a)
  | lst {a : Addr} {vs : List V} {ds : List D} : FrL K H a vs → DVs K w H ds vs → DV K w H (.lst ds) (.ref a)
  | ref {r : Nat} {a : Addr} : w[r]? = some a → DV K w H (.ref r) (.ref a)
inductive DVs (K : PySem.W.Frag) (w : List Addr) (H : Hp) : List D → List V → Prop
  | nil : DVs K w H [] []
  | cons {d : D} {v : V} {ds : List D} {vs : List V} : DV K w H d v → DVs K w H ds vs → DVs K w H (d :: ds) (v :: vs)
end
section
variable {K : PySem.W.Frag} {w w' : List Addr} {H H' : Hp}
mutual
theorem DV.mono (h1 : ∀ a xs, PlT K H a xs → PlT K H' a xs) (h2 : ∀ a xs, FrL K H a xs → FrL K H' a xs) (h3 : ∀ r a : Nat, w[r]? = some a → w'[r]? = some a) :
    ∀ {d : D} {v : V}, DV K w H d v → DV K w' H' d v
  | _, _, .non => .non
  | _, _, .bl b => .bl b
  | _, _, .int i => .int i
  | _, _, .str x => .str x
  | _, _, .tup s t => .tup (h1 _ _ s) (DVs.mono h1 h2 h3 t)
  | _, _, .lst s t => .lst (h2 _ _ s) (DVs.mono h1 h2 h3 t)
  | _, _, .ref e => .ref (h3 _ _ e)
theorem DVs.mono (h1 : ∀ a xs, PlT K H a xs → PlT K H' a xs) (h2 : ∀ a xs, FrL K H a xs → FrL K H' a xs) (h3 : ∀ r a : Nat, w[r]? = some a → w'[r]? = some a) :
    ∀ {d : List D} {v : List V}, DVs K w H d v → DVs K w' H' d v
  | _, _, .nil => .nil
  | _, _, .cons a b => .cons (DV.mono h1 h2 h3 a) (DVs.mono h1 h2 h3 b)
end
mutual
/-- no handles beyond n -/
theorem DV.lo {n : Nat} (h3 : ∀ r a : Nat, r < n → w[r]? = some a → w'[r]? = some a) : ∀ {d : D} {v : V}, d.lo n = true → DV K w H d v → DV K w' H d v
  | _, _, _, .non => .non
  | _, _, _, .bl b => .bl b
  | _, _, _, .int i => .int i
  | _, _, _, .str x => .str x
  | _, _, l, .tup s t => .tup s (DVs.lo h3 (by simpa [D.lo] using l) t)
  | _, _, l, .lst s t => .lst s (DVs.lo h3 (by simpa [D.lo] using l) t)
  | _, _, l, .ref e => .ref (h3 _ _ (by simpa [D.lo] using l) e)
theorem DVs.lo {n : Nat} (h3 : ∀ r a : Nat, r < n → w[r]? = some a → w'[r]? = some a) : ∀ {d : List D} {v : List V}, los n d = true → DVs K w H d v → DVs K w' H d v
  | _, _, _, .nil => .nil
  | _, _, l, .cons a b => by
    simp only [los, Bool.and_eq_true] at l
    exact .cons (DV.lo h3 l.1 a) (DVs.lo h3 l.2 b)
end
theorem DVs.length : ∀ {ds : List D} {vs : List V}, DVs K w H ds vs → ds.length = vs.length
  | _, _, .nil => rfl
  | _, _, .cons _ t => by simp [DVs.length t]
theorem DVs.append : ∀ {ds es : List D} {vs us : List V}, DVs K w H ds vs → DVs K w H es us → DVs K w H (ds ++ es) (vs ++ us)
  | _, _, _, _, .nil, s => s
  | _, _, _, _, .cons a t, s => .cons a (DVs.append t s)
theorem DVs.get : ∀ {ds : List D} {vs : List V} {i : Nat} {d : D}, DVs K w H ds vs → ds[i]? = some d → ∃ v, vs[i]? = some v ∧ DV K w H d v
  | _, _, _, _, .nil, e => by simp at e
  | _, _, 0, _, .cons a _, e => by simp at e; subst e; exact ⟨_, rfl, a⟩
  | _, _, i + 1, _, .cons _ t, e => by
    obtain ⟨v, h1, h2⟩ := DVs.get (i := i) t (by simpa using e)
    exact ⟨v, by simpa using h1, h2⟩
theorem DVs.get' : ∀ {ds : List D} {vs : List V} {i : Nat} {v : V}, DVs K w H ds vs → vs[i]? = some v → ∃ d, ds[i]? = some d ∧ DV K w H d v
  | _, _, _, _, .nil, e => by simp at e
  | _, _, 0, _, .cons a _, e => by simp at e; subst e; exact ⟨_, rfl, a⟩
  | _, _, i + 1, _, .cons _ t, e => by
    obtain ⟨v, h1, h2⟩ := DVs.get' (i := i) t (by simpa using e)
    exact ⟨v, by simpa using h1, h2⟩
theorem DVs.set {d : D} {v : V} (r : DV K w H d v) : ∀ {ds : List D} {vs : List V} (i : Nat), DVs K w H ds vs → DVs K w H (ds.set i d) (vs.set i v)
  | _, _, _, .nil => .nil
  | _, _, 0, .cons _ t => .cons r t
  | _, _, i + 1, .cons a t => .cons a (DVs.set r i t)
theorem DVs.take : ∀ {ds : List D} {vs : List V} (n : Nat), DVs K w H ds vs → DVs K w H (ds.take n) (vs.take n)
  | _, _, 0, _ => by simp; exact .nil
  | _, _, _ + 1, .nil => by simp; exact .nil
  | _, _, n + 1, .cons a t => by simpa using .cons a (DVs.take n t)
theorem DVs.drop : ∀ {ds : List D} {vs : List V} (n : Nat), DVs K w H ds vs → DVs K w H (ds.drop n) (vs.drop n)
  | _, _, 0, h => by simpa using h
  | _, _, _ + 1, .nil => by simp; exact .nil
  | _, _, n + 1, .cons _ t => by simpa using DVs.drop n t
theorem DVs.dropLast {ds : List D} {vs : List V} (h : DVs K w H ds vs) : DVs K w H ds.dropLast vs.dropLast := by
  rw [List.dropLast_eq_take, List.dropLast_eq_take, h.length]
  exact h.take _
theorem DVs.eraseIdx : ∀ {ds : List D} {vs : List V} (i : Nat), DVs K w H ds vs → DVs K w H (ds.eraseIdx i) (vs.eraseIdx i)
  | _, _, _, .nil => by simp; exact .nil
  | _, _, 0, .cons _ t => by simpa using t
  | _, _, i + 1, .cons a t => by simpa using .cons a (DVs.eraseIdx i t)
theorem DVs.rep {ds : List D} {vs : List V} (h : DVs K w H ds vs) : ∀ k : Nat, DVs K w H (List.replicate k ds).flatten (List.replicate k vs).flatten
  | 0 => by simp; exact .nil
  | k + 1 => by
    rw [List.replicate_succ, List.replicate_succ, List.flatten_cons, List.flatten_cons]
    exact h.append (DVs.rep h k)
/-- ints -/
theorem DVs.ints : ∀ {ds : List D} {vs : List V} {is : List Int}, DVs K w H ds vs → asI ds = some is → vs = is.map V.int
  | _, _, _, .nil, e => by simp [asI] at e; subst e; rfl
  | _, _, _, .cons (d := d) a t, e => by
    cases a with
    | int i =>
      simp only [asI, Option.map_eq_some_iff] at e
      obtain ⟨is, e1, e2⟩ := e
      subst e2
      rw [DVs.ints t e1]; rfl
    | _ => simp [asI] at e
theorem DVs.bools : ∀ {ds : List D} {vs : List V} {is : List Bool}, DVs K w H ds vs → asB ds = some is → vs = is.map V.bl
  | _, _, _, .nil, e => by simp [asB] at e; subst e; rfl
  | _, _, _, .cons (d := d) a t, e => by
    cases a with
    | bl i =>
      simp only [asB, Option.map_eq_some_iff] at e
      obtain ⟨is, e1, e2⟩ := e
      subst e2
      rw [DVs.bools t e1]; rfl
    | _ => simp [asB] at e
theorem DVs.ofInts : ∀ (is : List Int), DVs K w H (is.map D.int) (is.map V.int)
  | [] => .nil
  | i :: is => .cons (.int i) (DVs.ofInts is)
mutual
theorem DV.dp : ∀ {d : D} {v : V}, DV K w H d v → d.pure = true → Dp K H v d.pd
  | _, _, .non, _ => .non
  | _, _, .bl b, _ => .bl b
  | _, _, .int i, _ => .int i
  | _, _, .str x, _ => .str x
  | _, _, .tup s t, p => by rw [D.pd]; exact .tup s.sq (DVs.dp t (by simpa [D.pure] using p))
  | _, _, .lst s t, p => by rw [D.pd]; exact .lst s.sq (DVs.dp t (by simpa [D.pure] using p))
  | _, _, .ref e, p => by simp [D.pure] at p
theorem DVs.dp : ∀ {d : List D} {v : List V}, DVs K w H d v → pures d = true → DpAll K H v (pds d)
  | _, _, .nil, _ => by rw [pds]; exact .nil
  | _, _, .cons a b, p => by
    simp only [pures, Bool.and_eq_true] at p
    rw [pds]
    exact .cons (DV.dp a p.1) (DVs.dp b p.2)
end
end
mutual
theorem D.lay : ∀ d : D, d.pure = true → d.pd.canLay0 = true
  | .non, _ => rfl
  | .bl _, _ => rfl
  | .int _, _ => rfl
  | .str x, h => by simpa [D.pd, PyData.canLay0, D.pure] using h
  | .tup xs, h => by simp only [D.pd, PyData.canLay0]; exact pds_lay xs (by simpa [D.pure] using h)
  | .lst xs, h => by simp only [D.pd, PyData.canLay0]; exact pds_lay xs (by simpa [D.pure] using h)
  | .ref _, h => by simp [D.pure] at h
theorem pds_lay : ∀ ds : List D, pures ds = true → PyData.canLayAll0 (pds ds) = true
  | [], _ => by simp [pds, PyData.canLayAll0]
  | d :: ds, h => by
    simp only [pures, Bool.and_eq_true] at h
    simp only [pds, PyData.canLayAll0, Bool.and_eq_true]
    exact ⟨D.lay d h.1, pds_lay ds h.2⟩
end
end CH
/-! BT: tuples that are made, their objects known. -/
namespace CH
open PySem PySem.Spec PyProof.Rows L2
open AutoSeq1 (wpAny_loadPart')
/-- a new tuple's object -/
def plO (its : Array Value) : PySem.Obj := { cls := .type "tuple", data := .seq its }
/-- what follows a new tuple -/
def NewT (H : Hp) (vs : List V) (Q : VK) : Prop := ∀ (p : Addr) (o : PySem.Obj), o.dict = none → H p = none → Q (.ref p) (upd H p (.frz o (.tup vs)))
section
variable {X : Cx} {pins : List (Addr × PySem.Obj)} {σ : L2.St} {H : Hp} {s : Shared}
theorem lay_pl {vs : List V} {its : List Value} {g : Heap} {t : Nat} {Q : VK} (I : Inv X pins σ H s) (k : ∀ b o, s.heap.get? b = some o → g.get? b = some o) (r : Vals vs its) (hl : vs.length ≤ sizeLine) (q : NewT H vs Q) :
    EP X pins σ Q (.ref g.objs.size) { s with heap := g.push (plO its.toArray), toks := t } := by
  have J : Inv X pins σ H { s with heap := g, toks := t } := I.kept (t' := t) k
  have e : (g.push (plO its.toArray)).get? g.objs.size = some (plO its.toArray) := Heap.get?_push_size _ rfl
  have z := J.laid (t' := t) (a := g.objs.size) (o := .frz (plO its.toArray) (.tup vs)) (h' := g.push (plO its.toArray)) (fun b u e => Heap.get?_push_of_some _ e) (Nat.le_refl _) ⟨e, hl, its, r, _, e, rfl, _, rfl⟩
  exact ⟨.ref g.objs.size, _, z, rfl, q _ _ rfl (J.hok.fresh (Nat.le_refl _))⟩
theorem plt_at {a : Addr} {xs : List V} (I : Inv X pins σ H s) (h : PlT X.K H a xs) : ∃ (o : PySem.Obj) (its : List Value) (n : Nat), Vals xs its ∧ s.heap.get? a = some o ∧ o.cls = .type "tuple" ∧ o.dict = none ∧ o.data = .seq its.toArray n ∧ xs.length ≤ sizeLine := by
  rcases h with ⟨o, q1, q2⟩ | ⟨o, its, n, q1, q2, q3, q4, q5, q6⟩
  · obtain ⟨e1, e2⟩ := I.hok a _ q2
    obtain ⟨hl, its, r, o2, e3, e4, n, e5⟩ := e2
    rw [e1] at e3
    cases e3
    exact ⟨o, its, n, r, e1, e4, q1, e5, hl⟩
  · refine ⟨o, its.toList, n, q6, I.kIn a o q2, q3, q1, by simpa using q4, ?_⟩
    rw [q6.length, Array.length_toList]; exact q5
end
section
variable {X : Cx}
/-- t + u -/
theorem add_pl : OpR X (binaryOp .Add) (fun x y H Q => ∃ a b xs ys, x = .ref a ∧ y = .ref b ∧ SqT X.K H a xs ∧ SqT X.K H b ys ∧ xs.length + ys.length ≤ sizeLine ∧ (xs = [] → Q (.ref b) H) ∧ (xs ≠ [] → ys = [] → Q (.ref a) H) ∧ (xs ≠ [] → ys ≠ [] → NewT H (xs ++ ys) Q)) := by
  intro pins s σ H x y v u Q I rx ry h
  obtain ⟨a, b, xs, ys, rfl, rfl, ha, hb, hz, q0, q1, q2⟩ := h
  cases rx
  cases ry
  obtain ⟨i1, r1, p1, _⟩ := I.tuple ha
  obtain ⟨i2, r2, p2, _⟩ := I.tuple hb
  by_cases hx : xs = []
  · subst hx
    cases r1
    exact cat_tup0 p1 p2 ⟨.ref b, H, I, rfl, q0 rfl⟩
  · exact HT.cat_tup p1 p2 (fun z => hx (r1.nil_iff.mp z)) (fun z => ⟨.ref a, H, I, rfl, q1 hx (r2.nil_iff.mp z)⟩)
      (fun z => lay_pl (t := s.toks) I (fun _ _ e => e) (r1.append r2) (by rw [List.length_append]; exact hz) (q2 hx fun e => z (r2.nil_iff.mpr e))) (by rw [← r1.length, ← r2.length]; exact hz)
/-- t[lo:hi] -/
def rSlP (K : PySem.W.Frag) (x : V) (lo hi : Option Int) (H : Hp) (Q : VK) : Prop := ∃ a xs, x = .ref a ∧ SqT K H a xs ∧ (HT.sIx xs.length 0 lo = 0 ∧ HT.sIx xs.length xs.length hi = xs.length → Q (.ref a) H) ∧
    (¬ (HT.sIx xs.length 0 lo = 0 ∧ HT.sIx xs.length xs.length hi = xs.length) → NewT H (cutV xs lo hi) Q)
theorem slc_pl : SlR X (rSlP X.K) := by
  intro pins s σ H x v vl vu lo hi sl Q I rx hs pl pu h
  obtain ⟨a, xs, rfl, hx, q1, q2⟩ := h
  cases rx
  obtain ⟨its, r, ht, hz⟩ := I.tuple hx
  have el : its.toArray.size = xs.length := by rw [List.size_toArray]; exact r.length.symm
  refine ⟨"tuple", _, PyProof.Rows.slot_tuple_getitem.lookup, ht.typeIs, ?_⟩
  by_cases hw : HT.sIx xs.length 0 lo = 0 ∧ HT.sIx xs.length xs.length hi = xs.length
  · exact getItem_tuple_whole ht hs pl pu (by rw [el]; exact hw) ⟨.ref a, H, I, rfl, q1 hw⟩
  · refine HT.getItem_tuple_cut ht hs pl pu (by rw [el]; exact hw) ?_ (by rw [el]; exact hz)
    rw [el]
    exact lay_pl (t := s.toks) I (fun _ _ e => e) ((r.drop (HT.sIx xs.length 0 lo)).take (HT.sIx xs.length xs.length hi - HT.sIx xs.length 0 lo)) (Nat.le_trans (cutV_length xs lo hi) hz) (q2 hw)
theorem mul_one_w (l : Addr) (its : Array Value) (n : Nat) (dd : Option Addr) (sl : Array (Option Value)) (u : Tok) :
    Meets (Builtin.«tuple.__mul__» ⟨[.ref l, .int 1 u], []⟩) (fun _ R z => z.heap.get? l = some { cls := .type "tuple", dict := dd, data := .seq its n, slots := sl } ∧ R (.ok (.ret (Value.ref l))) z) :=
  Meets.of_wp fun pr wo ar R z hz => by
    obtain ⟨hp, gn, dr, tk, oz⟩ := z
    obtain ⟨hl, hz⟩ := hz
    have one := AutoSeq1.idx_int
    have c0 : (decide ((1 : Int) < -(2 ^ 63)) || decide ((1 : Int) ≥ 2 ^ 63)) = false := by decide
    have c1 : (its.isEmpty || (1 : Int) == 1) = true := by simp
    wp_walk using wpAny_loadPart' hl
    repeat (first
      | (refine wpAny_ite_false (decide_eq_false (by rw [c0]; exact Bool.false_ne_true)) ?_; wp_walk using wpAny_loadPart' hl)
      | (refine wpAny_ite_true (decide_eq_true c1) ?_; wp_walk using wpAny_loadPart' hl))
    exact ⟨_, rfl, hz⟩
/-- t * k -/
theorem mul_pl : OpR X (binaryOp .Mult) (fun x y H Q => ∃ l k xs, x = .ref l ∧ y = .int k ∧ SqT X.K H l xs ∧ xs ≠ [] ∧ 1 ≤ k ∧ k ≤ 1000 ∧ xs.length ≤ 1000 ∧ (k = 1 → Q (.ref l) H) ∧ (k ≠ 1 → NewT H (List.replicate k.toNat xs).flatten Q)) := by
  intro pins s σ H x y v u Q I rx ry h
  obtain ⟨l, k, xs, rfl, rfl, ht, hne, h1, h2, hz, q1, q2⟩ := h
  cases rx
  obtain ⟨t, rfl⟩ := ry
  obtain ⟨its, r, ⟨⟨cls, dd, data, sl⟩, ho, hc, n, hd⟩, _⟩ := I.tuple ht
  simp only at hc hd
  subst hc hd
  have el : its.length = xs.length := r.length.symm
  have ne : its ≠ [] := fun e => hne (by rw [e] at el; exact List.eq_nil_of_length_eq_zero el.symm)
  have ie : its.toArray.isEmpty = false := by
    cases its with
    | nil => exact absurd rfl ne
    | cons a b => rfl
  have sz : its.toArray.size = xs.length := by rw [List.size_toArray, el]
  have bnd : ((xs.length : Nat) : Int) * k ≤ 1000 * k := Int.mul_le_mul_of_nonneg_right (by omega) (by omega)
  have ml : k.toNat * xs.length ≤ 1000 * 1000 := Nat.mul_le_mul (by omega) hz
  refine wpAny_binaryOp_repeat_ref (T := "tuple") (U := "int") (by decide) ⟨_, ho, rfl⟩ (fun z => typeIs_int z k t) noFill_tuple_mul PySem.F.fills_int_mul PySem.F.slot_int_rmul repeat_tuple PySem.F.slot_int_index.lookup
    (call_meets PySem.F.slot_int_rmul (typeIs_int s k t) PySem.F.entry_int_rmul (PySem.F.args_int_rmul_2 _ _) (int_rmul_tuple k t l its.toArray n dd sl) ⟨ho, rfl, ⟨_, ho, rfl⟩, ?_⟩)
  by_cases hk : k = 1
  · subst hk
    exact call_meets PySem.F.slot_tuple_mul ⟨_, ho, rfl⟩ PySem.F.entry_tuple_mul (PySem.F.args_tuple_mul_2 _ _) (mul_one_w l its.toArray n dd sl t) ⟨ho, ⟨.ref l, H, I, rfl, q1 rfl⟩⟩
  · have d0 : (decide (k < -(2 ^ 63)) || decide (k ≥ 2 ^ 63)) = false := by
      rw [decide_eq_false (by omega), decide_eq_false (by omega)] <;> rfl
    have d1 : (its.toArray.isEmpty || k == 1) = false := by
      rw [ie, Bool.false_or]
      exact beq_eq_false_iff_ne.mpr hk
    have d2 : (decide (k ≤ 0) || its.toArray.isEmpty) = false := by
      rw [ie, Bool.or_false]
      exact decide_eq_false (by omega)
    have d4 : Builtin.Tuple.tupleTooMany (((its.toArray.size : Nat) : Int) * k) = false := by
      unfold Builtin.Tuple.tupleTooMany
      rw [sizeLine_eq, sz]
      exact decide_eq_false (by omega)
    refine call_meets PySem.F.slot_tuple_mul ⟨_, ho, rfl⟩ PySem.F.entry_tuple_mul (PySem.F.args_tuple_mul_2 _ _) (tuple_mulW l its.toArray n dd sl k t d0 d1 d2 (by rw [sz]; omega) d4 (by rw [size_rep, List.size_toArray, PyProof.Rows.lm_len_rep_flat, el, sizeLine_eq]; omega)) ⟨ho, ?_⟩
    rw [size_rep]
    exact lay_pl (t := s.toks) I (fun _ _ e => e) (r.rep k.toNat) (by rw [PyProof.Rows.lm_len_rep_flat, sizeLine_eq]; omega) (q2 hk)
/-- tuple(x) -/
theorem tuple_pl (pins : List (Addr × PySem.Obj)) (s : Shared) (σ : L2.St) (H : Hp) (x : V) (v : Value) (Q : VK) (I : Inv X pins σ H s) (rx : RelV x v) (h : (∃ p xs, x = .ref p ∧ SqL X.K H p xs ∧ NewT H xs Q) ∨ (∃ p xs, x = .ref p ∧ SqT X.K H p xs ∧ Q (.ref p) H)) :
    wpAny (model X.prog X.w) X.A (call (.type "tuple") [v]) (EP X pins σ Q) X.xe s := by
  rcases h with ⟨p, xs, rfl, hq, q⟩ | ⟨p, xs, rfl, hq, q⟩ <;> obtain rfl : v = .ref p := rx
  · obtain ⟨its, r, pl, hz⟩ := I.list hq
    exact call_tuple_list pl.isList (fun g hk => lay_pl (t := s.toks) I hk r hz q) (by rw [List.size_toArray, ← r.length]; exact hz)
  · obtain ⟨its, r, pl, _⟩ := I.tuple hq
    exact call_tuple_tup pl ⟨.ref p, H, I, rfl, q⟩
/-- a display -/
theorem tup_pl {es : List Expr} {k : Nat} {pos : Pos} {ta : TA} (h : PA X es ta) : PE X (.Tuple es k pos) (fun σ H Q => ta σ H fun xs H1 => xs.length ≤ sizeLine ∧ NewT H1 xs Q) := by
  refine ⟨fun pins s σ H Q I hq => wpAny_Tuple_spliced (thn (h.run pos pins s σ H _ I hq) fun us s1 ⟨xs, H1, I1, r, z, q⟩ => ⟨by rw [← r.length]; exact z, ?_⟩)⟩
  have y := lay_pl (t := s1.toks) I1 (fun _ _ e => e) r z q
  simpa [plO] using y
end
end CH
/-! BU: tuple.index; dict of a tuple of pairs. -/
namespace CH
open PySem PySem.Spec PyProof.Rows L2
section
variable {X : Cx} {pins : List (Addr × PySem.Obj)} {σ : L2.St} {H : Hp} {s : Shared}
/-- t.index(y), the first place -/
theorem idx_pl {a : Addr} {ys : List V} {y z : V} {uy : Value} {j : Nat} {Q : VK} (I : Inv X pins σ H s) (hq : SqT X.K H a ys) (ry : RelV y uy) (fy : flatV y = true) (fys : ys.all flatV = true) (hz : ys[j]? = some z) (hzj : eqV z y = true)
    (hno : ∀ m z', m < j → ys[m]? = some z' → eqV z' y = false) (q : Q (.int (j : Nat)) H) : wpAny (model X.prog X.w) X.A (call (.builtin "tuple.index") [.ref a, uy]) (EP X pins σ Q) X.xe s := by
  obtain ⟨its, r, ⟨⟨cls, dd, data, sl⟩, ho, hc, n, hd⟩, _⟩ := I.tuple hq
  simp only at hc hd
  subst hc hd
  have val : ∀ {m : Nat} {x : V}, ys[m]? = some x → ∃ (h : m < its.toArray.size), eqU y its.toArray[m] = eqV x y := fun {m x} e => by
    obtain ⟨u, hu, ru⟩ := r.get e
    obtain ⟨l1, l2⟩ := List.getElem?_eq_some_iff.mp hu
    refine ⟨by simpa using l1, ?_⟩
    have e1 : its.toArray[m]'(by simpa using l1) = u := by simpa using l2
    rw [e1, eqU_of ru (flat_at fys e)]
  obtain ⟨hj, ej⟩ := val hz
  refine call_meets PySem.F.slot_tuple_index ⟨_, ho, rfl⟩ PySem.F.entry_tuple_index (PySem.F.args_tuple_index_2 _ _) (TI.tuple_indexAt a its.toArray n dd sl uy (eqU y) j hj (by rw [ej]; exact hzj) fun m hm hmj => ?_)
    ⟨ho, fun u hu => mem_eqAt ry fy r fys u (by simpa using hu), ⟨.int (j : Nat), H, I.tok _, ⟨_, rfl⟩, q⟩⟩
  have hl : m < ys.length := by
    have := r.length
    have e : its.toArray.size = its.length := by simp
    omega
  obtain ⟨_, em⟩ := val (List.getElem?_eq_getElem hl)
  rw [em]
  exact hno m _ hmj (List.getElem?_eq_getElem hl)
/-- the pairs, as the library tells them -/
theorem prs_at (I : Inv X pins σ H s) : ∀ {ps : List Addr} {kvs : List (Key × V)}, Paired (fun p kv => SqT X.K H p [kV kv.1, kv.2]) ps kvs →
    ∃ (prs : List (Key × Value)) (us : List (Value × Value)), KV kvs prs ∧ prs.length = ps.length ∧ us.length = ps.length ∧ (∀ (j : Nat) (u : Value × Value), us[j]? = some u → ∃ b, ps[j]? = some b ∧ IsTup s.heap b #[u.1, u.2]) ∧
      ∀ (j : Nat) (u : Value × Value), us[j]? = some u → ∃ k, prs[j]? = some (k, u.2) ∧ keyIs k u.1 = true
  | _, _, .nil => ⟨[], [], .nil, rfl, rfl, fun j u e => by simp at e, fun j u e => by simp at e⟩
  | _, _, .cons (a := p) (b := kv) h t => by
    obtain ⟨prs, us, r, l1, l2, h1, h2⟩ := prs_at I t
    obtain ⟨its, rv, tp, _⟩ := I.tuple h
    obtain ⟨u, y, ei, ru, ry⟩ := vals2 rv
    subst ei
    refine ⟨(kv.1, y) :: prs, (u, y) :: us, .cons ⟨rfl, ry⟩ r, by simp [l1], by simp [l2], fun j z e => ?_, fun j z e => ?_⟩
    · cases j with
      | zero => simp at e; subst e; exact ⟨p, rfl, tp⟩
      | succ j => obtain ⟨b, e1, e2⟩ := h1 j z (by simpa using e); exact ⟨b, by simpa using e1, e2⟩
    · cases j with
      | zero => simp at e; subst e; exact ⟨kv.1, rfl, kV_is (P := X.prog) (w := X.w) ru⟩
      | succ j => obtain ⟨k, e1, e2⟩ := h2 j z (by simpa using e); exact ⟨k, by simpa using e1, e2⟩
/-- dict(t) -/
theorem dict_pl (hc : X.calm = true) {a : Addr} {ps : List Addr} {kvs : List (Key × V)} {Q : VK} (I : Inv X pins σ H s) (hq : PlT X.K H a (ps.map V.ref)) (hp : Paired (fun p kv => SqT X.K H p [kV kv.1, kv.2]) ps kvs)
    (q : ∀ p, H p = none → Q (.ref p) (upd H p (.dK (mergeK [] kvs)))) : wpAny (model X.prog X.w) X.A (call (.type "dict") [.ref a]) (EP X pins σ Q) X.xe s := by
  obtain ⟨o, its, n, rv, e1, e2, e3, e4, hz⟩ := plt_at I hq
  have ei := refs_at rv
  subst ei
  rw [List.length_map] at hz
  obtain ⟨prs, us, rel, l1, l2, h1, h2⟩ := prs_at I hp
  have it : PairItems s.heap (ps.map Value.ref).toArray (fun j => ps.getD j 0) us := by
    refine ⟨by simp [l2], fun j k v e => ?_⟩
    obtain ⟨b, f1, f2⟩ := h1 j (k, v) e
    have f3 : ps.getD j 0 = b := by rw [List.getD_eq_getElem?_getD, f1]; rfl
    show (ps.map Value.ref).toArray[j]? = some (Value.ref (ps.getD j 0)) ∧ PairAt s.heap (ps.getD j 0) k v
    rw [f3]
    exact ⟨by simp [f1], .inl f2⟩
  refine PySem.call_dict_pairs (knd := mixKind X.prog X.w) (kvs := prs) (PairArg.tuple a (ps.map Value.ref).toArray (fun j => ps.getD j 0) us) (I.ok.hd hc) ⟨⟨o, n, e1, e2, e3, e4⟩, it⟩ ⟨by rw [l1, l2], fun i k v e => h2 i (k, v) e⟩ (by rw [l2]; exact hz) fun g tk hd hk => ?_
  have hm : (s.heap.objs.size == sysModules) = false := beq_eq_false_iff_ne.mpr (Nat.ne_of_gt I.big)
  have hlen : (mergeK [] kvs).length ≤ sizeLine := by
    refine Nat.le_trans (length_mergeK kvs []) ?_
    rw [List.length_nil, Nat.zero_add, rel.length, l1]
    exact hz
  exact ⟨.ref s.heap.objs.size, upd H s.heap.objs.size (.dK (mergeK [] kvs)), I.laid (t' := tk) (fun b o z => hk b o (by simp) z) (Nat.le_refl _) (show ObjOk X.prog X.w _ _ _ (.dK (mergeK [] kvs)) from ⟨hlen, hm, merged [] prs, KV.merge rel .nil, hd⟩), rfl, q _ (I.hok.fresh (Nat.le_refl _))⟩
end
end CH
/-! CE: stores in heaps, steps, readings. -/
namespace CH
open PySem PySem.Spec PyProof.Rows L2
/-- the pairs of a dict -/
def KVs (K : PySem.W.Frag) (w : List Addr) (H : Hp) (kvs : List (Key × D)) (us : List (Key × V)) : Prop :=
  kvs.map (·.1) = us.map (·.1) ∧ DVs K w H (kvs.map (·.2)) (us.map (·.2))
inductive CV (K : PySem.W.Frag) (w : List Addr) (H : Hp) : Cell → HO → Prop
  | lst {ds : List D} {vs : List V} : DVs K w H ds vs → CV K w H (.lst ds) (.lst vs)
  | dic {kvs : List (Key × D)} {us : List (Key × V)} : KVs K w H kvs us → CV K w H (.dic kvs) (.dK us)
  | set {is : List Int} {S : Int → Bool} {n : Nat} : (∀ i, S i = decide (i ∈ is)) → is.Nodup → n = is.length → CV K w H (.set is) (.set S n)
  | frz {kvs : List (Key × D)} {us : List (Key × V)} {o : PySem.Obj} : KVs K w H kvs us → CV K w H (.frz (.dic kvs)) (.frz o (.dK us))
section
variable {K : PySem.W.Frag} {w w' : List Addr} {H H' : Hp}
theorem CV.mono (h1 : ∀ a xs, PlT K H a xs → PlT K H' a xs) (h2 : ∀ a xs, FrL K H a xs → FrL K H' a xs) (h3 : ∀ r a : Nat, w[r]? = some a → w'[r]? = some a)
    {c : Cell} {o : HO} (h : CV K w H c o) : CV K w' H' c o := by
  cases h with
  | lst t => exact .lst (t.mono h1 h2 h3)
  | dic t => exact .dic ⟨t.1, t.2.mono h1 h2 h3⟩
  | set a b c => exact .set a b c
  | frz t => exact .frz ⟨t.1, t.2.mono h1 h2 h3⟩
theorem los_vals {n : Nat} : ∀ kvs : List (Key × D), (kvs.all fun kv => kv.2.lo n) = los n (kvs.map (·.2))
  | [] => rfl
  | kv :: r => by simp [los, los_vals r]
theorem CV.lo {n : Nat} (h3 : ∀ r a : Nat, r < n → w[r]? = some a → w'[r]? = some a) {c : Cell} {o : HO} (l : c.lo n = true) (h : CV K w H c o) : CV K w' H c o := by
  cases h with
  | lst t => exact .lst (t.lo h3 (by simpa [Cell.lo] using l))
  | dic t =>
    rw [Cell.lo, los_vals] at l
    exact .dic ⟨t.1, t.2.lo h3 l⟩
  | set a b c => exact .set a b c
  | frz t =>
    rw [Cell.lo, Cell.lo, los_vals] at l
    exact .frz ⟨t.1, t.2.lo h3 l⟩
/-- no tuple, no frozen list, no table stands at the address of a cell -/
theorem CV.noTup {c : Cell} {o : HO} (h : CV K w H c o) : (∀ xs, o ≠ .tup xs) ∧ (∀ q xs, o ≠ .frz q (.tup xs)) ∧ (∀ q xs, o ≠ .frz q (.lst xs)) ∧ ∀ ps, o ≠ .tbl ps := by
  cases h <;> refine ⟨fun _ z => ?_, fun _ _ z => ?_, fun _ _ z => ?_, fun _ z => ?_⟩ <;> cases z
end
/-- what stood and is no cell stands (tables may grow) -/
def Ext (w : List Addr) (H H' : Hp) : Prop := ∀ a o, H a = some o → a ∉ w → H' a = some o ∨ ∃ ps qs, o = .tbl ps ∧ H' a = some (.tbl qs)
structure SR (K : PySem.W.Frag) (tb : List Addr) (w : List Addr) (H : Hp) (S : Store) : Prop where
  len : w.length = S.length
  nd : w.Nodup
  at_ : ∀ (r : Nat) (c : Cell), S[r]? = some c → ∃ a ho, w[r]? = some a ∧ H a = some ho ∧ CV K w H c ho
  tab : ∀ P ∈ tb, GxR.TabG H P
structure Step (K : PySem.W.Frag) (tb : List Addr) (w : List Addr) (H : Hp) (w' : List Addr) (H' : Hp) (S' : Store) : Prop where
  grow : ∃ t, w' = w ++ t ∧ ∀ b ∈ t, H b = none
  ext : Ext w H H'
  sr : SR K tb w' H' S'
  frz : ∀ b o u, H b = some (.frz o u) → H' b = some (.frz o u)
section
variable {K : PySem.W.Frag} {tb w w1 w2 w' : List Addr} {H H0 H1 H2 H' : Hp} {S S1 S2 S' : Store}
theorem SR.mem (h : SR K tb w H S) {b : Addr} (hb : b ∈ w) : ∃ (r : Nat) (c : Cell) (ho : HO), w[r]? = some b ∧ S[r]? = some c ∧ H b = some ho ∧ CV K w H c ho := by
  obtain ⟨r, hr, e⟩ := List.getElem_of_mem hb
  have hr' : r < S.length := by rw [← h.len]; exact hr
  have hw : w[r]? = some b := by rw [List.getElem?_eq_getElem hr, e]
  obtain ⟨a, ho, e1, e2, e3⟩ := h.at_ r _ (List.getElem?_eq_getElem hr')
  rw [hw] at e1; cases e1
  exact ⟨r, _, ho, hw, List.getElem?_eq_getElem hr', e2, e3⟩
theorem SR.out_tup (h : SR K tb w H S) {a : Addr} {xs : List V} (e : Rd H a (.tup xs)) : a ∉ w := fun z => by
  obtain ⟨r, c, ho, _, _, e2, e3⟩ := h.mem z
  obtain ⟨n1, n2, _⟩ := e3.noTup
  rcases e with e | ⟨q, e⟩ <;> rw [e2] at e <;> cases e
  · exact n1 _ rfl
  · exact n2 _ _ rfl
theorem SR.out_frl (h : SR K tb w H S) {a : Addr} {q : PySem.Obj} {xs : List V} (e : H a = some (.frz q (.lst xs))) : a ∉ w := fun z => by
  obtain ⟨r, c, ho, _, _, e2, e3⟩ := h.mem z
  obtain ⟨_, _, n3, _⟩ := e3.noTup
  rw [e2] at e; cases e
  exact n3 _ _ rfl
theorem Ext.sqt (h : SR K tb w H S) (e : Ext w H H') : ∀ a xs, SqT K H a xs → SqT K H' a xs := fun a xs q => by
  rcases q with q | q
  · have hn := h.out_tup q
    rcases q with q | ⟨o, q⟩
    · rcases e _ _ q hn with z | ⟨ps, qs, z, _⟩
      · exact .inl (.inl z)
      · cases z
    · rcases e _ _ q hn with z | ⟨ps, qs, z, _⟩
      · exact .inl (.inr ⟨o, z⟩)
      · cases z
  · exact .inr q
theorem Ext.plt (h : SR K tb w H S) (e : Ext w H H') : ∀ a xs, PlT K H a xs → PlT K H' a xs := fun a xs q => by
  rcases q with ⟨o, q1, q2⟩ | q
  · rcases e _ _ q2 (h.out_tup (.inr ⟨o, q2⟩)) with z | ⟨ps, qs, z, _⟩
    · exact .inl ⟨o, q1, z⟩
    · cases z
  · exact .inr q
theorem Ext.frl (h : SR K tb w H S) (e : Ext w H H') : ∀ a xs, FrL K H a xs → FrL K H' a xs := fun a xs q => by
  rcases q with ⟨o, q⟩ | q
  · rcases e _ _ q (h.out_frl q) with z | ⟨ps, qs, z, _⟩
    · exact .inl ⟨o, z⟩
    · cases z
  · exact .inr q
theorem Step.refl (h : SR K tb w H S) : Step K tb w H w H S := ⟨⟨[], by simp, by simp⟩, fun _ _ e _ => .inl e, h, fun _ _ _ e => e⟩
theorem Step.at (st : Step K tb w H w' H' S') : ∀ r a : Nat, w[r]? = some a → w'[r]? = some a := fun r a e => by
  obtain ⟨t, e1, _⟩ := st.grow
  rw [e1, List.getElem?_append_left (List.getElem?_eq_some_iff.mp e).1]; exact e
theorem Step.mem (st : Step K tb w H w' H' S') {b : Addr} (hb : b ∈ w) : b ∈ w' := by
  obtain ⟨t, e1, _⟩ := st.grow
  rw [e1]; exact List.mem_append_left _ hb
/-- free behind the step: free ahead of it -/
theorem Step.free0 (h : SR K tb w H S) (st : Step K tb w H w' H' S') {b : Addr} (hb : H' b = none) : H b = none := by
  cases q : H b with
  | none => rfl
  | some o =>
    by_cases hw : b ∈ w
    · obtain ⟨_, _, ho, _, _, e, _⟩ := st.sr.mem (st.mem hw)
      rw [hb] at e; cases e
    · rcases st.ext b o q hw with z | ⟨ps, qs, _, z⟩ <;> rw [hb] at z <;> cases z
theorem Step.trans (h : SR K tb w H S) (a : Step K tb w H w1 H1 S1) (b : Step K tb w1 H1 w2 H2 S2) : Step K tb w H w2 H2 S2 := by
  obtain ⟨t1, e1, n1⟩ := id a.grow
  obtain ⟨t2, e2, n2⟩ := id b.grow
  refine ⟨⟨t1 ++ t2, by rw [e2, e1, List.append_assoc], fun x hx => ?_⟩, fun x o e hx => ?_, b.sr, fun x o u e => b.frz x o u (a.frz x o u e)⟩
  · rcases List.mem_append.mp hx with hx | hx
    · exact n1 x hx
    · exact a.free0 h (n2 x hx)
  · have hx1 : x ∉ w1 := by
      rw [e1]
      intro z
      rcases List.mem_append.mp z with z | z
      · exact hx z
      · rw [n1 x z] at e; cases e
    rcases a.ext x o e hx with z | ⟨ps, qs, z1, z2⟩
    · exact b.ext x o z hx1
    · subst z1
      rcases b.ext x _ z2 hx1 with z | ⟨ps', qs', z3, z4⟩
      · exact .inr ⟨ps, qs, rfl, z⟩
      · exact .inr ⟨ps, qs', rfl, z4⟩
theorem DV.step (h : SR K tb w H S) (st : Step K tb w H w' H' S') {d : D} {v : V} (r : DV K w H d v) : DV K w' H' d v := r.mono (st.ext.plt h) (st.ext.frl h) st.at
theorem DVs.step (h : SR K tb w H S) (st : Step K tb w H w' H' S') {d : List D} {v : List V} (r : DVs K w H d v) : DVs K w' H' d v := r.mono (st.ext.plt h) (st.ext.frl h) st.at
theorem CV.step (h : SR K tb w H S) (st : Step K tb w H w' H' S') {d : Cell} {v : HO} (r : CV K w H d v) : CV K w' H' d v := r.mono (st.ext.plt h) (st.ext.frl h) st.at
end
/-- what an expression gave, from the heap H0 on -/
def RVr (K : PySem.W.Frag) (w : List Addr) (H0 H : Hp) : RV → V → Prop
  | .d d, v => DV K w H d v
  | .o c, v => ∃ a ho, v = .ref a ∧ H a = some ho ∧ CV K w H c ho ∧ a ∉ w ∧ H0 a = none ∧ ∀ c', c ≠ .frz c'
section
variable {K : PySem.W.Frag} {tb w w1 w2 w' : List Addr} {H H0 H1 H2 H' : Hp} {S S1 S2 S' : Store}
theorem RVr.step (h : SR K tb w H S) (st : Step K tb w H w' H' S') {x : RV} {v : V} (r : RVr K w H0 H x v) : RVr K w' H0 H' x v := by
  cases x with
  | d d => exact DV.step h st r
  | o c =>
    obtain ⟨a, ho, e, e1, cv, na, n0, nf⟩ := r
    refine ⟨a, ho, e, ?_, cv.step h st, fun z => ?_, n0, nf⟩
    · rcases st.ext a ho e1 na with z | ⟨ps, qs, z, _⟩
      · exact z
      · exact absurd z (cv.noTup.2.2.2 ps)
    · obtain ⟨t, e2, n2⟩ := st.grow
      rw [e2] at z
      rcases List.mem_append.mp z with z | z
      · exact na z
      · rw [n2 a z] at e1; cases e1
theorem RVr.base (h : SR K tb w H S) (st : Step K tb w H w1 H1 S1) {x : RV} {v : V} (r : RVr K w' H1 H' x v) : RVr K w' H H' x v := by
  cases x with
  | d d => exact r
  | o c =>
    obtain ⟨a, ho, e, e1, cv, na, n0, nf⟩ := r
    exact ⟨a, ho, e, e1, cv, na, st.free0 h n0, nf⟩
/-- a value gets its handle -/
theorem mat_step (h : SR K tb w H S) (st : Step K tb w H w1 H1 S1) {x : RV} {v : V} (r : RVr K w1 H H1 x v) : ∃ d S2 w2, mat x S1 = .ok d S2 ∧ Step K tb w H w2 H1 S2 ∧ DV K w2 H1 d v := by
  cases x with
  | d d => exact ⟨d, S1, w1, rfl, st, r⟩
  | o c =>
    obtain ⟨a, ho, rfl, e1, cv, na, n0, nf⟩ := r
    obtain ⟨t, e2, n2⟩ := id st.grow
    have up : ∀ r b : Nat, w1[r]? = some b → (w1 ++ [a])[r]? = some b := fun r b e => by
      rw [List.getElem?_append_left (List.getElem?_eq_some_iff.mp e).1]; exact e
    refine ⟨.ref S1.length, S1 ++ [c], w1 ++ [a], rfl, ⟨⟨t ++ [a], by rw [e2, List.append_assoc], fun b hb => ?_⟩, st.ext, ⟨?_, ?_, fun i c' hc => ?_, st.sr.tab⟩, st.frz⟩, ?_⟩
    · rcases List.mem_append.mp hb with hb | hb
      · exact n2 b hb
      · rw [List.mem_singleton.mp hb]; exact n0
    · simp [st.sr.len]
    · rw [List.nodup_append]
      refine ⟨st.sr.nd, by simp, fun x hx y hy => ?_⟩
      rw [List.mem_singleton.mp hy]
      intro z; exact na (z ▸ hx)
    · by_cases hi : i < S1.length
      · rw [List.getElem?_append_left hi] at hc
        obtain ⟨b, ho', f1, f2, f3⟩ := st.sr.at_ i c' hc
        exact ⟨b, ho', up _ _ f1, f2, f3.mono (fun _ _ z => z) (fun _ _ z => z) up⟩
      · rw [List.getElem?_append_right (by omega)] at hc
        have hi2 : i - S1.length = 0 := by
          rcases Nat.eq_zero_or_pos (i - S1.length) with z | z
          · exact z
          · rw [List.getElem?_eq_none (by simp only [List.length_singleton]; omega)] at hc; cases hc
        rw [hi2] at hc
        cases hc
        have hi3 : i = w1.length := by rw [st.sr.len]; omega
        subst hi3
        exact ⟨a, ho, by simp, e1, cv.mono (fun _ _ z => z) (fun _ _ z => z) up⟩
    · refine .ref ?_
      rw [← st.sr.len]; simp
end
/-- the names' values -/
structure ER (K : PySem.W.Frag) (w : List Addr) (H : Hp) (ρ : Env) (σ : L2.St) : Prop where
  len : ρ.length = σ.length
  at_ : ∀ (i : Nat) (d : D), ρ[i]? = some (some d) → ∃ v, σ[i]? = some (some v) ∧ DV K w H d v
section
variable {K : PySem.W.Frag} {tb w w1 w2 w' : List Addr} {H H0 H1 H2 H' : Hp} {S S1 S2 S' : Store} {ρ : Env} {σ : L2.St}
theorem ER.step (h : SR K tb w H S) (st : Step K tb w H w' H' S') (e : ER K w H ρ σ) : ER K w' H' ρ σ :=
  ⟨e.len, fun i d q => let ⟨v, a, b⟩ := e.at_ i d q; ⟨v, a, b.step h st⟩⟩
theorem ER.set (e : ER K w H ρ σ) (i : Nat) {d : D} {v : V} (r : DV K w H d v) : ER K w H (ρ.set i (some d)) (σ.set i (some v)) := by
  refine ⟨by simp [e.len], fun j d' q => ?_⟩
  by_cases hj : i = j
  · subst hj
    have hi : i < ρ.length := by
      have := (List.getElem?_eq_some_iff.mp q).1
      simpa using this
    rw [List.getElem?_set_self hi] at q
    cases q
    exact ⟨v, by rw [List.getElem?_set_self (by rw [← e.len]; exact hi)], r⟩
  · rw [List.getElem?_set_ne hj] at q
    obtain ⟨v', a, b⟩ := e.at_ j d' q
    exact ⟨v', by rw [List.getElem?_set_ne hj]; exact a, b⟩
theorem wipeD_length (ρ : Env) : ∀ vs, (wipeD ρ vs).length = ρ.length
  | [] => rfl
  | v :: vs => by rw [wipeD, List.length_set, wipeD_length ρ vs]
theorem wipeD_some {ρ : Env} {i : Nat} {d : D} : ∀ {vs : List Nat}, (wipeD ρ vs)[i]? = some (some d) → ρ[i]? = some (some d) ∧ i ∉ vs
  | [], h => ⟨h, by simp⟩
  | v :: vs, h => by
    unfold wipeD at h
    by_cases hi : v = i
    · subst hi
      by_cases hv : v < (wipeD ρ vs).length
      · rw [List.getElem?_set_self hv] at h; cases h
      · rw [List.getElem?_eq_none (by simpa using hv)] at h; cases h
    · rw [List.getElem?_set_ne hi] at h
      obtain ⟨h1, h2⟩ := wipeD_some h
      exact ⟨h1, by simp only [List.mem_cons, not_or]; exact ⟨fun e => hi e.symm, h2⟩⟩
theorem wipe_out {σ : L2.St} {i : Nat} {o : Option V} : ∀ {vs : List Nat}, i ∉ vs → σ[i]? = some o → (wipe σ vs)[i]? = some o
  | [], _, h => h
  | v :: vs, hi, h => by
    simp only [List.mem_cons, not_or] at hi
    unfold wipe
    rw [List.getElem?_set_ne (fun e => hi.1 e.symm)]
    exact wipe_out hi.2 h
theorem ER.wipe (e : ER K w H ρ σ) (vs : List Nat) : ER K w H (wipeD ρ vs) (wipe σ vs) := by
  refine ⟨by rw [wipeD_length, wipe_length, e.len], fun i d q => ?_⟩
  obtain ⟨h1, h2⟩ := wipeD_some q
  obtain ⟨v, a, b⟩ := e.at_ i d h1
  exact ⟨v, wipe_out h2 a, b⟩
end
/-! ### readings -/
/-- an exception stands as the layer tells it: its class, its own dict -/
def XV (K : PySem.W.Frag) (xc : Str → Option Addr) (w : List Addr) (H : Hp) (x : Exn) (cls : Value) (d : Option Addr) : Prop :=
  ∃ C, xc x.cls = some C ∧ cls = .ref C ∧ ∃ a vs, d = some a ∧ H a = some (.xd vs) ∧ x.fs.map (·.1) = vs.map (·.1) ∧ DVs K w H (x.fs.map (·.2)) (vs.map (·.2))
/-- what is fixed: the written part, the tables, the classes of exceptions, what is wanted of an exception -/
structure Fx where
  K : PySem.W.Frag
  tb : List Addr
  xc : Str → Option Addr
section
variable (F : Fx) (E : XK)
def FinE (r : R RV) (w : List Addr) (H : Hp) (Q : VK) : Prop := match r with
  | .ok x S' => ∀ w' H' v, Step F.K F.tb w H w' H' S' → RVr F.K w' H H' x v → Q v H'
  | .exc x S' => ∀ w' H' cls d, Step F.K F.tb w H w' H' S' → XV F.K F.xc w' H' x cls d → E cls d H'
  | .bad => False
def FinB (r : R Bool) (w : List Addr) (H : Hp) (Q : Bool → Hp → Prop) : Prop := match r with
  | .ok b S' => ∀ w' H', Step F.K F.tb w H w' H' S' → Q b H'
  | .exc x S' => ∀ w' H' cls d, Step F.K F.tb w H w' H' S' → XV F.K F.xc w' H' x cls d → E cls d H'
  | .bad => False
def FinA (r : R (List D)) (w : List Addr) (H : Hp) (Q : List V → Hp → Prop) : Prop := match r with
  | .ok xs S' => ∀ w' H' vs, Step F.K F.tb w H w' H' S' → DVs F.K w' H' xs vs → Q vs H'
  | .exc x S' => ∀ w' H' cls d, Step F.K F.tb w H w' H' S' → XV F.K F.xc w' H' x cls d → E cls d H'
  | .bad => False
def FinS (r : RS) (w : List Addr) (H : Hp) (D : Ends) : Prop := match r with
  | .nx ρ S' => ∀ w' H' σ', Step F.K F.tb w H w' H' S' → ER F.K w' H' ρ σ' → D.nx σ' H'
  | .rt x S' => ∀ w' H' v, Step F.K F.tb w H w' H' S' → RVr F.K w' H H' x v → D.rt v H'
  | .bk ρ S' => ∀ w' H' σ', Step F.K F.tb w H w' H' S' → ER F.K w' H' ρ σ' → D.bk σ' H'
  | .ct ρ S' => ∀ w' H' σ', Step F.K F.tb w H w' H' S' → ER F.K w' H' ρ σ' → D.ct σ' H'
  | .ex x S' => ∀ w' H' cls d, Step F.K F.tb w H w' H' S' → XV F.K F.xc w' H' x cls d → E cls d H'
  | .bad => False
def TX (f : Env → Store → R RV) : TE := fun σ H Q => ∃ w ρ S, SR F.K F.tb w H S ∧ ER F.K w H ρ σ ∧ FinE F E (f ρ S) w H Q
def TTX (f : Env → Store → R Bool) : TT := fun σ H Q => ∃ w ρ S, SR F.K F.tb w H S ∧ ER F.K w H ρ σ ∧ FinB F E (f ρ S) w H Q
def TAX (f : Env → Store → R (List D)) : TA := fun σ H Q => ∃ w ρ S, SR F.K F.tb w H S ∧ ER F.K w H ρ σ ∧ FinA F E (f ρ S) w H Q
def TSX (f : Env → Store → RS) : TS := fun D σ H => ∃ w ρ S, SR F.K F.tb w H S ∧ ER F.K w H ρ σ ∧ FinS F E (f ρ S) w H D
end
/-- a def's promise -/
def spF (F : Fx) (cf : CF) (f : Str) (n : Nat) : Sp := fun vs H Q E => vs.length = n ∧ ∃ w S ds, SR F.K F.tb w H S ∧ DVs F.K w H ds vs ∧ FinE F E (cf f ds S) w H Q
end CH
/-! CF: contexts, the way through an expression. -/
namespace CH
open PySem PySem.Spec PyProof.Rows L2
/-- the program as it is known: defs with the number of their parameters, constants, names that are built-ins -/
structure Prg where
  fns : List (Str × Nat)
  con : List (Str × D)
  blt : List Str
  dcs : List (Str × List (Str × D)) := []
/-- where a piece of the text stands: the names by slot, the scope, the names whose cells are its own -/
structure Cs where
  N : List Str
  sc : Scope
  fn : Str → Bool
  tab : Bool
/-- a dict of the module that nobody writes, with text keys -/
def KTab (K : PySem.W.Frag) (wd : World) (mg : Str → Option Value) (nm : Str) (tb : List (Str × D)) : Prop := ∃ (a : Addr) (es : Array DictEntry) (n : Nat), mg nm = some (.ref a) ∧ KDict K wd a es n ∧
  ∀ z : Str, (match tb.lookup z with
    | some d => ∃ u v, PySem.W.nsIn K a z = some (some u) ∧ RelV v u ∧ ∀ w H, DV K w H d v
    | none => PySem.W.nsIn K a z = some none)
structure Good (F : Fx) (P : Prg) (cf : CF) (lv j : Nat) (E : XK) (c : Cs) (X : Cx) : Prop where
  K : X.K = F.K
  N : X.N = c.N
  nd : c.N.Nodup
  sc : X.env.scope = c.sc
  fn : ∀ x, c.fn x = true → X.fn x = true
  calm : X.calm = true
  room : Room (lv + j) X.A
  con : ∀ x d, (x, d) ∈ P.con → ∃ u v, X.mg x = some u ∧ RelV v u ∧ ∀ w H, DV F.K w H d v
  blt : ∀ x ∈ P.blt, X.mg x = none
  dcs : ∀ x tb, (x, tb) ∈ P.dcs → KTab F.K X.w X.mg x tb
  fns : ∀ f n, (f, n) ∈ P.fns → ∃ fa fd ps, ps.length = n ∧ X.mg f = some (.ref fa) ∧ PySem.W.keepIn X.K (.ref fa) = true ∧ L2.Binds X.K fd ps [] ∧ FnOk X.prog X.w X.K X.mg X.base (L2.CX X.prog X.w) lv fa fd ps (spF F cf f n)
  pass : Passes (L2.CX X.prog X.w) X E
  tab : c.tab = true → 4 ≤ j ∧ ∃ cc P, X.env.code = .ref cc ∧ P ∈ F.tb ∧ GxR.TabB X.base X.mg cc P
section
variable {F : Fx} {E : XK}
/-- what is left behind a piece -/
def FinG {α : Type} (F : Fx) (E : XK) (r : R α) (w : List Addr) (H : Hp) (k : α → Store → Prop) : Prop := match r with
  | .ok a S' => k a S'
  | .exc x S' => ∀ w' H' cls d, Step F.K F.tb w H w' H' S' → XV F.K F.xc w' H' x cls d → E cls d H'
  | .bad => False
theorem FinG.bind {α β : Type} {r : R α} {g : α → Store → R β} {w : List Addr} {H : Hp} {k : β → Store → Prop} (h : FinG F E (r.bind g) w H k) : FinG F E r w H fun a S' => FinG F E (g a S') w H k := by
  cases r with
  | ok a S => exact h
  | exc x S => exact h
  | bad => exact h
theorem FinG.of {α : Type} {o : Option α} {S : Store} {w : List Addr} {H : Hp} {k : α → Store → Prop} (h : FinG F E (R.of o S) w H k) : ∃ a, o = some a ∧ k a S := by
  cases o with
  | some a => exact ⟨a, rfl, h⟩
  | none => exact h.elim
theorem finE_iff {r : R RV} {w : List Addr} {H : Hp} {Q : VK} : FinE F E r w H Q ↔ FinG F E r w H (fun x S' => ∀ w' H' v, Step F.K F.tb w H w' H' S' → RVr F.K w' H H' x v → Q v H') := by
  cases r <;> exact Iff.rfl
theorem finB_iff {r : R Bool} {w : List Addr} {H : Hp} {Q : Bool → Hp → Prop} : FinB F E r w H Q ↔ FinG F E r w H (fun b S' => ∀ w' H', Step F.K F.tb w H w' H' S' → Q b H') := by
  cases r <;> exact Iff.rfl
theorem finA_iff {r : R (List D)} {w : List Addr} {H : Hp} {Q : List V → Hp → Prop} : FinA F E r w H Q ↔ FinG F E r w H (fun xs S' => ∀ w' H' vs, Step F.K F.tb w H w' H' S' → DVs F.K w' H' xs vs → Q vs H') := by
  cases r <;> exact Iff.rfl
theorem finS_bind {α : Type} {r : R α} {g : α → Store → RS} {w : List Addr} {H : Hp} {D : Ends} (h : FinS F E (r.bindS g) w H D) : FinG F E r w H fun a S' => FinS F E (g a S') w H D := by
  cases r with
  | ok a S => exact h
  | exc x S => exact h
  | bad => exact h
variable {X : Cx} {pins : List (Addr × PySem.Obj)} {s : Shared} {σ : L2.St} {H H1 : Hp} {w w1 : List Addr} {ρ : Env} {S S1 : Store}
theorem FinG.toE {r : R RV} {k : RV → Store → Prop} (hS : SR F.K F.tb w H S) (st : Step F.K F.tb w H w1 H1 S1) (h : FinG F E r w H k) :
    FinE F E r w1 H1 (fun v H2 => ∃ x S2 w2, r = .ok x S2 ∧ Step F.K F.tb w H w2 H2 S2 ∧ Step F.K F.tb w1 H1 w2 H2 S2 ∧ RVr F.K w2 H H2 x v ∧ k x S2) := by
  cases r with
  | ok x S2 => exact fun w2 H2 v st2 rv => ⟨x, S2, w2, rfl, st.trans hS st2, st2, rv.base hS st, h⟩
  | exc x S2 => exact fun w2 H2 cls d st2 xv => h w2 H2 cls d (st.trans hS st2) xv
  | bad => exact h
theorem FinG.toB {r : R Bool} {k : Bool → Store → Prop} (hS : SR F.K F.tb w H S) (st : Step F.K F.tb w H w1 H1 S1) (h : FinG F E r w H k) :
    FinB F E r w1 H1 (fun b H2 => ∃ S2 w2, r = .ok b S2 ∧ Step F.K F.tb w H w2 H2 S2 ∧ Step F.K F.tb w1 H1 w2 H2 S2 ∧ k b S2) := by
  cases r with
  | ok x S2 => exact fun w2 H2 st2 => ⟨S2, w2, rfl, st.trans hS st2, st2, h⟩
  | exc x S2 => exact fun w2 H2 cls d st2 xv => h w2 H2 cls d (st.trans hS st2) xv
  | bad => exact h
theorem FinG.toA {r : R (List D)} {k : List D → Store → Prop} (hS : SR F.K F.tb w H S) (st : Step F.K F.tb w H w1 H1 S1) (h : FinG F E r w H k) :
    FinA F E r w1 H1 (fun vs H2 => ∃ xs S2 w2, r = .ok xs S2 ∧ Step F.K F.tb w H w2 H2 S2 ∧ Step F.K F.tb w1 H1 w2 H2 S2 ∧ DVs F.K w2 H2 xs vs ∧ k xs S2) := by
  cases r with
  | ok x S2 => exact fun w2 H2 v st2 rv => ⟨x, S2, w2, rfl, st.trans hS st2, st2, rv, h⟩
  | exc x S2 => exact fun w2 H2 cls d st2 xv => h w2 H2 cls d (st.trans hS st2) xv
  | bad => exact h
theorem FinS.step {r : RS} {D : Ends} (hS : SR F.K F.tb w H S) (st : Step F.K F.tb w H w1 H1 S1) (h : FinS F E r w H D) : FinS F E r w1 H1 D := by
  cases r with
  | nx ρ S2 => exact fun w2 H2 σ2 st2 er => h w2 H2 σ2 (st.trans hS st2) er
  | rt x S2 => exact fun w2 H2 v st2 rv => h w2 H2 v (st.trans hS st2) (rv.base hS st)
  | bk ρ S2 => exact fun w2 H2 σ2 st2 er => h w2 H2 σ2 (st.trans hS st2) er
  | ct ρ S2 => exact fun w2 H2 σ2 st2 er => h w2 H2 σ2 (st.trans hS st2) er
  | ex x S2 => exact fun w2 H2 cls d st2 xv => h w2 H2 cls d (st.trans hS st2) xv
  | bad => exact h
theorem FinG.mono {α : Type} {r : R α} {k k' : α → Store → Prop} (h : FinG F E r w H k) (hk : ∀ a S, r = .ok a S → k a S → k' a S) : FinG F E r w H k' := by
  cases r with
  | ok a S => exact hk a S rfl h
  | exc x S => exact h
  | bad => exact h
variable {e : Expr} {f : Env → Store → R RV}
/-- through an expression -/
theorem go (h : PE X e (TX F E f)) {k : RV → Store → Prop} {Post : Value → Shared → Prop} (I : Inv X pins σ H1 s) (hS : SR F.K F.tb w H S) (st : Step F.K F.tb w H w1 H1 S1) (hE : ER F.K w1 H1 ρ σ) (hf : FinG F E (f ρ S1) w H k)
    (hQ : ∀ u s' v H2 x S2 w2, f ρ S1 = .ok x S2 → Inv X pins σ H2 s' → RelV v u → Step F.K F.tb w H w2 H2 S2 → Step F.K F.tb w1 H1 w2 H2 S2 → RVr F.K w2 H H2 x v → k x S2 → Post u s') :
    wpAny (model X.prog X.w) X.A (eval e X.env) Post X.xe s := by
  refine thn (h.run pins s σ H1 _ I ⟨w1, ρ, S1, st.sr, hE, hf.toE hS st⟩) fun u s' ⟨v, H2, I2, r2, x, S2, w2, e0, st2, st12, rv, hk⟩ => ?_
  exact hQ u s' v H2 x S2 w2 e0 I2 r2 st2 st12 rv hk
/-- through an expression whose value gets its handle -/
theorem goM (h : PE X e (TX F E f)) {k : D → Store → Prop} {Post : Value → Shared → Prop} (I : Inv X pins σ H1 s) (hS : SR F.K F.tb w H S) (st : Step F.K F.tb w H w1 H1 S1) (hE : ER F.K w1 H1 ρ σ) (hf : FinG F E (matB (f ρ S1)) w H k)
    (hQ : ∀ u s' v H2 d S2 w2, Inv X pins σ H2 s' → RelV v u → Step F.K F.tb w H w2 H2 S2 → Step F.K F.tb w1 H1 w2 H2 S2 → DV F.K w2 H2 d v → k d S2 → Post u s') :
    wpAny (model X.prog X.w) X.A (eval e X.env) Post X.xe s := by
  refine thn (h.run pins s σ H1 (fun v H2 => ∃ d S2 w2, Step F.K F.tb w H w2 H2 S2 ∧ Step F.K F.tb w1 H1 w2 H2 S2 ∧ DV F.K w2 H2 d v ∧ k d S2) I ⟨w1, ρ, S1, st.sr, hE, ?_⟩) fun u s' ⟨v, H2, I2, r2, d, S2, w2, st2, st12, dv, hk⟩ => hQ u s' v H2 d S2 w2 I2 r2 st2 st12 dv hk
  have hf := hf.bind
  revert hf
  cases f ρ S1 with
  | ok x S2 =>
    intro hf w2 H2 v st2 rv
    obtain ⟨d, S3, w3, e1, st3, dv⟩ := mat_step st.sr st2 rv
    have hf : FinG F E (mat x S2) w H k := hf
    rw [e1] at hf
    exact ⟨d, S3, w3, st.trans hS st3, st3, dv, hf⟩
  | exc x S2 => intro hf w2 H2 cls d st2 xv; exact hf w2 H2 cls d (st.trans hS st2) xv
  | bad => exact fun hf => hf
/-- through a test -/
theorem goT {g : Env → Store → R Bool} (h : PT X e (TTX F E g)) {k : Bool → Store → Prop} {Post : Bool → Shared → Prop} (I : Inv X pins σ H1 s) (hS : SR F.K F.tb w H S) (st : Step F.K F.tb w H w1 H1 S1) (hE : ER F.K w1 H1 ρ σ) (hf : FinG F E (g ρ S1) w H k)
    (hQ : ∀ b s' H2 S2 w2, Inv X pins σ H2 s' → Step F.K F.tb w H w2 H2 S2 → Step F.K F.tb w1 H1 w2 H2 S2 → k b S2 → Post b s') :
    wpAny (model X.prog X.w) X.A (isTrue e X.env (eval e X.env)) Post X.xe s := by
  refine thn (h.run pins s σ H1 _ I ⟨w1, ρ, S1, st.sr, hE, hf.toB hS st⟩) fun b s' ⟨H2, I2, S2, w2, e0, st2, st12, hk⟩ => ?_
  exact hQ b s' H2 S2 w2 I2 st2 st12 hk
/-- the end: a value -/
theorem endE {Q : VK} {x : RV} {S' : Store} {u : Value} {v : V} {H' : Hp} {w' : List Addr} (hf : ∀ w' H' v, Step F.K F.tb w H w' H' S' → RVr F.K w' H H' x v → Q v H') (I : Inv X pins σ H' s) (r : RelV v u) (st : Step F.K F.tb w H w' H' S') (rv : RVr F.K w' H H' x v) : EP X pins σ Q u s :=
  ⟨v, H', I, r, hf w' H' v st rv⟩
end
section
variable {F : Fx} {E : XK} {X : Cx} {σ : L2.St} {H H1 H2 : Hp} {w w1 w2 : List Addr} {S S1 S2 : Store}
/-- a new object that nothing names -/
theorem Step.fresh (hS : SR F.K F.tb w H S) (st : Step F.K F.tb w H w1 H1 S1) {p : Addr} {o : HO} (hp : H1 p = none) : Step F.K F.tb w H w1 (upd H1 p o) S1 := by
  have ne : ∀ b u, H1 b = some u → b ≠ p := fun b u e z => by rw [z, hp] at e; cases e
  have ext : Ext w1 H1 (upd H1 p o) := fun a u e _ => .inl (by rw [upd_ne (ne a u e)]; exact e)
  have one : Step F.K F.tb w1 H1 w1 (upd H1 p o) S1 := by
    refine ⟨⟨[], by simp, by simp⟩, ext, ⟨st.sr.len, st.sr.nd, fun r c e => ?_, fun P hP => ?_⟩, fun b o' u e => by rw [upd_ne (ne b _ e)]; exact e⟩
    · obtain ⟨a, ho, e1, e2, e3⟩ := st.sr.at_ r c e
      exact ⟨a, ho, e1, by rw [upd_ne (ne a ho e2)]; exact e2, e3.mono (ext.plt st.sr) (ext.frl st.sr) fun _ _ z => z⟩
    · obtain ⟨ps, e1, e2⟩ := st.sr.tab P hP
      exact ⟨ps, by rw [upd_ne (ne P _ e1)]; exact e1, e2⟩
  exact st.trans hS one
theorem Step.fresh1 (st : SR F.K F.tb w1 H1 S1) {p : Addr} {o : HO} (hp : H1 p = none) : Step F.K F.tb w1 H1 w1 (upd H1 p o) S1 := Step.fresh st (Step.refl st) hp
theorem not_mem_new (st : SR F.K F.tb w1 H1 S1) {p : Addr} (hp : H1 p = none) : p ∉ w1 := fun z => by
  obtain ⟨_, _, ho, _, _, e, _⟩ := st.mem z
  rw [hp] at e; cases e
/-- a new tuple -/
theorem new_tup (hS : SR F.K F.tb w H S) (st : Step F.K F.tb w H w1 H1 S1) {p : Addr} {ob : PySem.Obj} {ds : List D} {vs : List V} (ho : ob.dict = none) (hp : H1 p = none) (r : DVs F.K w1 H1 ds vs) :
    Step F.K F.tb w H w1 (upd H1 p (.frz ob (.tup vs))) S1 ∧ RVr F.K w1 H (upd H1 p (.frz ob (.tup vs))) (.d (.tup ds)) (.ref p) :=
  ⟨st.fresh hS hp, .tup (.inl ⟨ob, ho, upd_same⟩) (r.step st.sr (Step.fresh1 st.sr hp))⟩
/-- a new list -/
theorem new_lst (hS : SR F.K F.tb w H S) (st : Step F.K F.tb w H w1 H1 S1) {p : Addr} {ds : List D} {vs : List V} (hp : H1 p = none) (r : DVs F.K w1 H1 ds vs) :
    Step F.K F.tb w H w1 (upd H1 p (.lst vs)) S1 ∧ RVr F.K w1 H (upd H1 p (.lst vs)) (.o (.lst ds)) (.ref p) :=
  ⟨st.fresh hS hp, p, _, rfl, upd_same, .lst (r.step st.sr (Step.fresh1 st.sr hp)), not_mem_new st.sr hp, st.free0 hS hp, fun c z => by cases z⟩
/-- a new dict -/
theorem new_dic (hS : SR F.K F.tb w H S) (st : Step F.K F.tb w H w1 H1 S1) {p : Addr} {kvs : List (Key × D)} {us : List (Key × V)} (hp : H1 p = none) (r : KVs F.K w1 H1 kvs us) :
    Step F.K F.tb w H w1 (upd H1 p (.dK us)) S1 ∧ RVr F.K w1 H (upd H1 p (.dK us)) (.o (.dic kvs)) (.ref p) :=
  ⟨st.fresh hS hp, p, _, rfl, upd_same, .dic ⟨r.1, r.2.step st.sr (Step.fresh1 st.sr hp)⟩, not_mem_new st.sr hp, st.free0 hS hp, fun c z => by cases z⟩
/-- a cell is written -/
theorem write (hS : SR F.K F.tb w H S) (st : Step F.K F.tb w H w1 H1 S1) {r : Nat} {a : Addr} {c c' : Cell} {o o' : HO} (hr : w1[r]? = some a) (hc : S1[r]? = some c) (ho : H1 a = some o) (nf : ∀ c0, c ≠ .frz c0) (cv : CV F.K w1 (upd H1 a o') c' o') :
    Step F.K F.tb w H w1 (upd H1 a o') (S1.set r c') := by
  have am : a ∈ w1 := List.mem_of_getElem? hr
  have ext : Ext w1 H1 (upd H1 a o') := fun b u e hb => .inl (by rw [upd_ne (fun z => hb (by rw [z]; exact am))]; exact e)
  have hrl : r < S1.length := (List.getElem?_eq_some_iff.mp hc).1
  have one : Step F.K F.tb w1 H1 w1 (upd H1 a o') (S1.set r c') := by
    have fr : ∀ b o2 u, H1 b = some (.frz o2 u) → upd H1 a o' b = some (.frz o2 u) := fun b o2 u e => by
      refine (upd_ne (fun z => ?_)).trans e
      subst z
      obtain ⟨b, ho2, e1, e2, e3⟩ := st.sr.at_ r c hc
      rw [hr] at e1; cases e1
      rw [e] at e2; cases e2
      cases e3
      exact nf _ rfl
    refine ⟨⟨[], by simp, by simp⟩, ext, ⟨by simp [st.sr.len], st.sr.nd, fun i c2 e => ?_, fun P hP => ?_⟩, fr⟩
    · by_cases hi : r = i
      · subst hi
        rw [List.getElem?_set_self hrl] at e
        cases e
        exact ⟨a, o', hr, upd_same, cv⟩
      · rw [List.getElem?_set_ne hi] at e
        obtain ⟨b, ho2, e1, e2, e3⟩ := st.sr.at_ i c2 e
        have hb : b ≠ a := fun z => by
          subst z
          obtain ⟨l1, m1⟩ := List.getElem?_eq_some_iff.mp hr
          obtain ⟨l2, m2⟩ := List.getElem?_eq_some_iff.mp e1
          exact hi ((List.getElem_inj st.sr.nd).mp (m1.trans m2.symm))
        exact ⟨b, ho2, e1, by rw [upd_ne hb]; exact e2, e3.mono (ext.plt st.sr) (ext.frl st.sr) fun _ _ z => z⟩
    · obtain ⟨ps, e1, e2⟩ := st.sr.tab P hP
      have hb : P ≠ a := fun z => by
        subst z
        obtain ⟨_, _, ho3, _, _, e4, e5⟩ := st.sr.mem am
        rw [e1] at e4; cases e4
        exact e5.noTup.2.2.2 ps rfl
      exact ⟨ps, by rw [upd_ne hb]; exact e1, e2⟩
  exact st.trans hS one
/-- the address of a handle -/
theorem ref_at (sr : SR F.K F.tb w1 H1 S1) {r : Nat} {v : V} {c : Cell} (dv : DV F.K w1 H1 (.ref r) v) (hc : S1[r]? = some c) : ∃ a o, v = .ref a ∧ w1[r]? = some a ∧ H1 a = some o ∧ CV F.K w1 H1 c o := by
  cases dv with
  | ref e =>
    obtain ⟨a, o, e1, e2, e3⟩ := sr.at_ r c hc
    rw [e] at e1; cases e1
    exact ⟨_, o, rfl, e, e2, e3⟩
/-- a list's view -/
theorem lst_at (sr : SR F.K F.tb w1 H1 S1) {x : RV} {v : V} {xs : List D} (rv : RVr F.K w1 H H1 x v) (h : lstv x S1 = some xs) : ∃ a vs, v = .ref a ∧ SqL F.K H1 a vs ∧ DVs F.K w1 H1 xs vs := by
  unfold lstv cellOf at h
  cases x with
  | o c =>
    obtain ⟨a, ho, rfl, e1, cv, _, _, nf⟩ := rv
    cases cv with
    | lst t => simp [Cell.core] at h; subst h; exact ⟨a, _, rfl, SqL.of e1, t⟩
    | dic t => simp [Cell.core] at h
    | set _ _ _ => simp [Cell.core] at h
    | frz t => exact absurd rfl (nf _)
  | d d =>
    cases d with
    | lst ys =>
      simp at h
      subst h
      cases rv with
      | lst s t => exact ⟨_, _, rfl, s.sq, t⟩
    | ref r =>
      simp only at h
      cases hc : S1[r]? with
      | none => rw [hc] at h; simp at h
      | some c =>
        rw [hc] at h
        obtain ⟨a, o, rfl, e1, e2, e3⟩ := ref_at sr rv hc
        cases e3 with
        | lst t => simp [Cell.core] at h; subst h; exact ⟨a, _, rfl, SqL.of e2, t⟩
        | dic t => simp [Cell.core] at h
        | set _ _ _ => simp [Cell.core] at h
        | frz t => simp [Cell.core] at h
    | _ => simp at h
theorem dic_at (sr : SR F.K F.tb w1 H1 S1) {x : RV} {v : V} {kvs : List (Key × D)} (rv : RVr F.K w1 H H1 x v) (h : dicv x S1 = some kvs) : ∃ a us, v = .ref a ∧ Rd H1 a (.dK us) ∧ KVs F.K w1 H1 kvs us := by
  unfold dicv cellOf at h
  cases x with
  | o c =>
    obtain ⟨a, ho, rfl, e1, cv, _, _, nf⟩ := rv
    cases cv with
    | dic t => simp [Cell.core] at h; subst h; exact ⟨a, _, rfl, .inl e1, t⟩
    | lst t => simp [Cell.core] at h
    | set _ _ _ => simp [Cell.core] at h
    | frz t => exact absurd rfl (nf _)
  | d d =>
    cases d with
    | ref r =>
      simp only at h
      cases hc : S1[r]? with
      | none => rw [hc] at h; simp at h
      | some c =>
        rw [hc] at h
        obtain ⟨a, o, rfl, e1, e2, e3⟩ := ref_at sr rv hc
        cases e3 with
        | dic t => simp [Cell.core] at h; subst h; exact ⟨a, _, rfl, .inl e2, t⟩
        | lst t => simp [Cell.core] at h
        | set _ _ _ => simp [Cell.core] at h
        | frz t => simp [Cell.core] at h; subst h; exact ⟨a, _, rfl, .inr ⟨_, e2⟩, t⟩
    | _ => simp at h
theorem set_at (sr : SR F.K F.tb w1 H1 S1) {x : RV} {v : V} {is : List Int} (rv : RVr F.K w1 H H1 x v) (h : setv x S1 = some is) : ∃ a Z n, v = .ref a ∧ H1 a = some (.set Z n) ∧ (∀ i, Z i = decide (i ∈ is)) ∧ is.Nodup ∧ n = is.length := by
  unfold setv cellOf at h
  cases x with
  | o c =>
    obtain ⟨a, ho, rfl, e1, cv, _, _, nf⟩ := rv
    cases cv with
    | set z1 z2 z3 => simp [Cell.core] at h; subst h; exact ⟨a, _, _, rfl, e1, z1, z2, z3⟩
    | lst t => simp [Cell.core] at h
    | dic _ => simp [Cell.core] at h
    | frz t => exact absurd rfl (nf _)
  | d d =>
    cases d with
    | ref r =>
      simp only at h
      cases hc : S1[r]? with
      | none => rw [hc] at h; simp at h
      | some c =>
        rw [hc] at h
        obtain ⟨a, o, rfl, e1, e2, e3⟩ := ref_at sr rv hc
        cases e3 with
        | set z1 z2 z3 => simp [Cell.core] at h; subst h; exact ⟨a, _, _, rfl, e2, z1, z2, z3⟩
        | lst t => simp [Cell.core] at h
        | dic _ => simp [Cell.core] at h
        | frz t => simp [Cell.core] at h
    | _ => simp at h
theorem tup_at {x : RV} {v : V} {xs : List D} (rv : RVr F.K w1 H H1 x v) (h : tupv x = some xs) : ∃ a vs, v = .ref a ∧ PlT F.K H1 a vs ∧ DVs F.K w1 H1 xs vs := by
  unfold tupv at h
  cases x with
  | o c => simp at h
  | d d =>
    cases d with
    | tup ys =>
      simp at h
      subst h
      cases rv with
      | tup s t => exact ⟨_, _, rfl, s, t⟩
    | _ => simp at h
theorem seq_at (sr : SR F.K F.tb w1 H1 S1) {x : RV} {v : V} {xs : List D} (rv : RVr F.K w1 H H1 x v) (h : seqv x S1 = some xs) : ∃ a vs, v = .ref a ∧ (SqL F.K H1 a vs ∨ SqT F.K H1 a vs) ∧ DVs F.K w1 H1 xs vs := by
  unfold seqv at h
  cases e : tupv x with
  | some ys =>
    rw [e] at h
    cases h
    obtain ⟨a, vs, h1, h2, h3⟩ := tup_at rv e
    exact ⟨a, vs, h1, .inr h2.sq, h3⟩
  | none =>
    rw [e] at h
    obtain ⟨a, vs, h1, h2, h3⟩ := lst_at sr rv h
    exact ⟨a, vs, h1, .inl h2, h3⟩
theorem seq_pl (sr : SR F.K F.tb w1 H1 S1) {x : RV} {v : V} {xs : List D} (rv : RVr F.K w1 H H1 x v) (h : seqv x S1 = some xs) : ∃ a vs, v = .ref a ∧ (SqL F.K H1 a vs ∨ PlT F.K H1 a vs) ∧ DVs F.K w1 H1 xs vs := by
  unfold seqv at h
  cases e : tupv x with
  | some ys =>
    rw [e] at h
    cases h
    obtain ⟨a, vs, h1, h2, h3⟩ := tup_at rv e
    exact ⟨a, vs, h1, .inr h2, h3⟩
  | none =>
    rw [e] at h
    obtain ⟨a, vs, h1, h2, h3⟩ := lst_at sr rv h
    exact ⟨a, vs, h1, .inl h2, h3⟩
end
end CH
/-! CG: operators, by values. -/
namespace CH
open PySem PySem.Spec PyProof.Rows L2
section
variable {F : Fx} {E : XK} {X : Cx} {pins : List (Addr × PySem.Obj)} {s : Shared} {σ : L2.St} {H H2 : Hp} {w w2 : List Addr} {S S2 : Store} {x y : RV} {v1 v2 : V} {u1 u2 : Value} {Q : VK}
theorem lstw_at (sr : SR F.K F.tb w2 H2 S2) {x : RV} {v : V} {xs : List D} (rv : RVr F.K w2 H H2 x v) (h : lstw x S2 = some xs) : ∃ a vs, v = .ref a ∧ H2 a = some (.lst vs) ∧ DVs F.K w2 H2 xs vs := by
  unfold lstw at h
  cases x with
  | o c =>
    cases c with
    | lst ys =>
      simp at h
      subst h
      obtain ⟨a, ho, rfl, e1, cv, _, _, nf⟩ := rv
      cases cv with
      | lst t => exact ⟨a, _, rfl, e1, t⟩
    | _ => simp at h
  | d d =>
    cases d with
    | ref r =>
      simp only at h
      cases hc : S2[r]? with
      | none => rw [hc] at h; simp at h
      | some c =>
        rw [hc] at h
        obtain ⟨a, o, rfl, e1, e2, e3⟩ := ref_at sr rv hc
        cases e3 with
        | lst t => simp at h; subst h; exact ⟨a, _, rfl, e2, t⟩
        | dic t => simp at h
        | set _ _ _ => simp at h
        | frz t => simp at h
    | _ => simp at h
def opOf : Bop → Operator
  | .add => .Add | .sub => .Sub | .mul => .Mult | .fdiv => .FloorDiv | .mod => .Mod | .pow => .Pow
/-- the value is told: what is wanted holds of it -/
theorem fin_ok {x : RV} {S2 : Store} (hf : FinE F E (.ok x S2) w H Q) (st : Step F.K F.tb w H w2 H2 S2) {v : V} (rv : RVr F.K w2 H H2 x v) : Q v H2 := hf w2 H2 v st rv
theorem rv_int {i : Int} {v : V} (h : RVr F.K w2 H H2 (.d (.int i)) v) : v = .int i := by cases h; rfl
theorem rv_bl {b : Bool} {v : V} (h : RVr F.K w2 H H2 (.d (.bl b)) v) : v = .bl b := by cases h; rfl
theorem rv_str {z : Str} {v : V} (h : RVr F.K w2 H H2 (.d (.str z)) v) : v = .str z := by cases h; rfl
theorem rv_non {v : V} (h : RVr F.K w2 H H2 (.d .non) v) : v = .non := by cases h; rfl
theorem rv_tup {ds : List D} {v : V} (h : RVr F.K w2 H H2 (.d (.tup ds)) v) : ∃ a vs, v = .ref a ∧ SqT F.K H2 a vs ∧ DVs F.K w2 H2 ds vs := by cases h with | tup s t => exact ⟨_, _, rfl, s.sq, t⟩
theorem bin_ok (hK : X.K = F.K) (o : Bop) (hS : SR F.K F.tb w H S) (I : Inv X pins σ H2 s) (r1 : RelV v1 u1) (r2 : RelV v2 u2) (st : Step F.K F.tb w H w2 H2 S2)
    (rv1 : RVr F.K w2 H H2 x v1) (rv2 : RVr F.K w2 H H2 y v2) (hf : FinE F E (binR o x y S2) w H Q) :
    wpAny (model X.prog X.w) X.A (binaryOp (opOf o) u1 u2) (EP X pins σ Q) X.xe s := by
  have hI : ∀ {i j : Int}, x = .d (.int i) → y = .d (.int j) → v1 = .int i ∧ v2 = .int j := fun e1 e2 => by subst e1; subst e2; exact ⟨rv_int rv1, rv_int rv2⟩
  have intv : ∀ i : Int, RVr F.K w2 H H2 (.d (.int i)) (.int i) := fun i => .int i
  have lists : o = .add → ∀ xs ys, lstw x S2 = some xs → lstw y S2 = some ys → xs.length + ys.length ≤ sizeLine → FinE F E (.ok (.o (.lst (xs ++ ys))) S2) w H Q →
      wpAny (model X.prog X.w) X.A (binaryOp .Add u1 u2) (EP X pins σ Q) X.xe s := fun _ xs ys e1 e2 hz hq => by
    obtain ⟨a, vs, rfl, ha, da⟩ := lstw_at st.sr rv1 e1
    obtain ⟨b, us, rfl, hb, db⟩ := lstw_at st.sr rv2 e2
    refine op_cat pins s σ H2 _ _ u1 u2 Q I r1 r2 ⟨a, b, vs, us, rfl, rfl, ha, hb, by rw [← da.length, ← db.length]; exact hz, fun p hp => ?_⟩
    obtain ⟨st3, rv3⟩ := new_lst hS st hp (da.append db)
    exact fin_ok hq st3 rv3
  unfold binR at hf
  split at hf
  · obtain ⟨rfl, rfl⟩ := hI rfl rfl
    exact op_add pins s σ H2 _ _ u1 u2 Q I r1 r2 ⟨_, _, rfl, rfl, fin_ok hf st (intv _)⟩
  · obtain ⟨rfl, rfl⟩ := hI rfl rfl
    exact op_sub pins s σ H2 _ _ u1 u2 Q I r1 r2 ⟨_, _, rfl, rfl, fin_ok hf st (intv _)⟩
  · obtain ⟨rfl, rfl⟩ := hI rfl rfl
    split at hf
    · rename_i hc
      exact op_mul pins s σ H2 _ _ u1 u2 Q I r1 r2 ⟨_, _, rfl, rfl, hc, fin_ok hf st (intv _)⟩
    · exact hf.elim
  · obtain ⟨rfl, rfl⟩ := hI rfl rfl
    split at hf
    · rename_i hc
      exact op_fdiv pins s σ H2 _ _ u1 u2 Q I r1 r2 ⟨_, _, rfl, rfl, hc, fin_ok hf st (intv _)⟩
    · exact hf.elim
  · obtain ⟨rfl, rfl⟩ := hI rfl rfl
    split at hf
    · rename_i hc
      exact op_mod pins s σ H2 _ _ u1 u2 Q I r1 r2 ⟨_, _, rfl, rfl, hc, fin_ok hf st (intv _)⟩
    · exact hf.elim
  · obtain ⟨rfl, rfl⟩ := hI rfl rfl
    split at hf
    · rename_i hc
      exact op_pow pins s σ H2 _ _ u1 u2 Q I r1 r2 ⟨_, _, rfl, rfl, hc, fin_ok hf st (intv _)⟩
    · exact hf.elim
  · obtain rfl := rv_str rv1
    obtain rfl := rv_str rv2
    split at hf
    · rename_i hc
      exact op_add_str pins s σ H2 _ _ u1 u2 Q I r1 r2 ⟨_, _, rfl, rfl, hc, fin_ok hf st (show RVr F.K w2 H H2 _ _ from .str _)⟩
    · exact hf.elim
  · obtain ⟨a, vs, rfl, ha, da⟩ := rv_tup rv1
    obtain ⟨b, us, rfl, hb, db⟩ := rv_tup rv2
    split at hf
    · rename_i hc
      refine add_pl pins s σ H2 _ _ u1 u2 Q I r1 r2 ⟨a, b, vs, us, rfl, rfl, hK ▸ ha, hK ▸ hb, by rw [← da.length, ← db.length]; exact hc, fun e => ?_, fun _ e => ?_, fun _ _ p ob ho hp => ?_⟩
      · subst e
        cases da
        exact fin_ok hf st rv2
      · subst e
        cases db
        rw [List.append_nil] at hf
        exact fin_ok hf st rv1
      · obtain ⟨st3, rv3⟩ := new_tup hS st ho hp (da.append db)
        exact fin_ok hf st3 rv3
    · exact hf.elim
  · split at hf
    · split at hf
      · rename_i e1 e2 hz
        exact lists rfl _ _ e1 e2 hz hf
      · exact hf.elim
    · exact hf.elim
  · obtain ⟨a, vs, rfl, ha, da⟩ := rv_tup rv1
    obtain rfl := rv_int rv2
    split at hf
    · rename_i hc
      refine mul_pl pins s σ H2 _ _ u1 u2 Q I r1 r2 ⟨a, _, vs, rfl, rfl, hK ▸ ha, fun e => ?_, hc.1, hc.2.1, by rw [← da.length]; exact hc.2.2.1, fun e => ?_, fun _ p ob ho hp => ?_⟩
      · have := da.length
        rw [e] at this
        have h0 := hc.2.2.2
        simp only [List.length_nil] at this
        omega
      · subst e
        have e1 : ∀ xs : List D, (List.replicate (Int.toNat 1) xs).flatten = xs := fun xs => by simp
        rw [e1] at hf
        exact fin_ok hf st rv1
      · obtain ⟨st3, rv3⟩ := new_tup hS st ho hp (da.rep _)
        exact fin_ok hf st3 rv3
    · exact hf.elim
  · obtain rfl := rv_int rv2
    split at hf
    · rename_i e1
      split at hf
      · rename_i hz
        obtain ⟨a, vs, rfl, ha, da⟩ := lstw_at st.sr rv1 e1
        refine op_rep pins s σ H2 _ _ u1 u2 Q I r1 r2 ⟨a, _, vs, rfl, rfl, ha, hz.1, hz.2.1, by rw [← da.length]; exact hz.2.2, fun p hp => ?_⟩
        obtain ⟨st3, rv3⟩ := new_lst hS st hp (da.rep _)
        exact fin_ok hf st3 rv3
      · exact hf.elim
    · exact hf.elim
  · exact hf.elim
/-! ### comparisons -/
theorem shaped_of {d : D} (h : d.shp = true) : SeqAt.shaped d.pd = true := by
  unfold D.shp at h
  rw [Bool.and_eq_true] at h
  unfold SeqAt.shaped
  rw [Bool.and_eq_true]
  have h2 := of_decide_eq_true h.2
  exact ⟨D.lay d h.1, decide_eq_true (by omega)⟩
theorem shp_pure {d : D} (h : d.shp = true) : d.pure = true := by
  unfold D.shp at h
  rw [Bool.and_eq_true] at h
  exact h.1
theorem shps_pure : ∀ {ds : List D}, shps ds = true → pures ds = true
  | [], _ => rfl
  | d :: ds, h => by
    unfold shps at h
    rw [List.all_cons, Bool.and_eq_true] at h
    rw [pures, shp_pure h.1, shps_pure (ds := ds) h.2]; rfl
theorem shps_depth : ∀ {ds : List D}, shps ds = true → PyData.depthAll (pds ds) ≤ 60
  | [], _ => by simp [pds, PyData.depthAll]
  | d :: ds, h => by
    unfold shps at h
    rw [List.all_cons, Bool.and_eq_true] at h
    have h1 : d.pd.depth ≤ 60 := by
      have := h.1
      unfold D.shp at this
      rw [Bool.and_eq_true] at this
      exact of_decide_eq_true this.2
    have h2 := shps_depth (ds := ds) h.2
    simp only [pds, PyData.depthAll]
    omega
theorem shaped_list {ds : List D} (h : shps ds = true) : SeqAt.shaped (.list (pds ds)) = true := by
  have h2 := shps_depth h
  have h3 : PyData.depth (.list (pds ds)) ≤ 64 := by simp only [PyData.depth]; omega
  unfold SeqAt.shaped
  rw [Bool.and_eq_true]
  exact ⟨by simp only [PyData.canLay0]; exact pds_lay ds (shps_pure h), decide_eq_true h3⟩
theorem flat_v {d : D} {v : V} (h : DV F.K w2 H2 d v) (hf : d.flat = true) : flatV v = true := by
  cases h <;> first | rfl | cases hf
theorem flat_shp {d : D} (h : d.flat = true) (hs : ∀ z, d ≠ .str z) : d.shp = true := by
  cases d with
  | str z => exact absurd rfl (hs z)
  | tup _ => cases h
  | lst _ => cases h
  | ref _ => cases h
  | _ => simp [D.shp, D.pure, D.pd, PyData.depth]
/-- == by data -/
theorem eq_dp (hK : X.K = F.K) (hu : X.A.units + 64 < cLine) (I : Inv X pins σ H2 s) (r1 : RelV v1 u1) (r2 : RelV v2 u2) {d e : PyData} (h1 : Dp F.K H2 v1 d) (h2 : Dp F.K H2 v2 e) (s1 : SeqAt.shaped d = true) (s2 : SeqAt.shaped e = true)
    (q : Q (.bl (PyData.eqv d e)) H2) : wpAny (model X.prog X.w) X.A (compareOp .Eq u1 u2) (EP X pins σ Q) X.xe s :=
  op_eqD hu pins s σ H2 v1 v2 u1 u2 Q I r1 r2 ⟨d, e, hK ▸ h1, hK ▸ h2, s1, s2, q⟩
theorem ne_dp (hK : X.K = F.K) (hu : X.A.units + 64 < cLine) (I : Inv X pins σ H2 s) (r1 : RelV v1 u1) (r2 : RelV v2 u2) {d e : PyData} (h1 : Dp F.K H2 v1 d) (h2 : Dp F.K H2 v2 e) (s1 : SeqAt.shaped d = true) (s2 : SeqAt.shaped e = true)
    (q : Q (.bl (!PyData.eqv d e)) H2) : wpAny (model X.prog X.w) X.A (compareOp .NotEq u1 u2) (EP X pins σ Q) X.xe s :=
  op_neD hu pins s σ H2 v1 v2 u1 u2 Q I r1 r2 ⟨d, e, hK ▸ h1, hK ▸ h2, s1, s2, q⟩
theorem eqv_int_flat (a b : D) (ha : a.flat = true) (hb : b.flat = true) {va vb : V} (da : DV F.K w2 H2 a va) (db : DV F.K w2 H2 b vb) : (scal va vb = true ∧ a.eqv b = decide (va = vb)) ∨ (a.shp = true ∧ b.shp = true) := by
  cases da with
  | non => cases db with
    | non => exact .inl ⟨rfl, by simp [D.eqv, D.pd, PyData.eqv]⟩
    | bl _ => exact .inl ⟨rfl, by simp [D.eqv, D.pd, PyData.eqv]⟩
    | int _ => exact .inl ⟨rfl, by simp [D.eqv, D.pd, PyData.eqv]⟩
    | str _ => exact .inl ⟨rfl, by simp [D.eqv, D.pd, PyData.eqv]⟩
    | _ => cases hb
  | bl p => cases db with
    | non => exact .inl ⟨rfl, by simp [D.eqv, D.pd, PyData.eqv]⟩
    | bl q => exact .inl ⟨rfl, by simp only [D.eqv, D.pd, PyData.eqv, dec_bl]⟩
    | int q => exact .inr ⟨flat_shp rfl (fun _ z => by cases z), flat_shp rfl (fun _ z => by cases z)⟩
    | str _ => exact .inl ⟨rfl, by simp [D.eqv, D.pd, PyData.eqv]⟩
    | _ => cases hb
  | int p => cases db with
    | non => exact .inl ⟨rfl, by simp [D.eqv, D.pd, PyData.eqv]⟩
    | bl q => exact .inr ⟨flat_shp rfl (fun _ z => by cases z), flat_shp rfl (fun _ z => by cases z)⟩
    | int q => exact .inl ⟨rfl, by simp only [D.eqv, D.pd, PyData.eqv, dec_int]⟩
    | str _ => exact .inl ⟨rfl, by simp [D.eqv, D.pd, PyData.eqv]⟩
    | _ => cases hb
  | str p => cases db with
    | non => exact .inl ⟨rfl, by simp [D.eqv, D.pd, PyData.eqv]⟩
    | bl q => exact .inl ⟨rfl, by simp [D.eqv, D.pd, PyData.eqv]⟩
    | int q => exact .inl ⟨rfl, by simp [D.eqv, D.pd, PyData.eqv]⟩
    | str q => exact .inl ⟨rfl, by simp only [D.eqv, D.pd, PyData.eqv, dec_str]⟩
    | _ => cases hb
  | _ => cases ha
theorem eq_ok (hK : X.K = F.K) (hu : X.A.units + 64 < cLine) (I : Inv X pins σ H2 s) (r1 : RelV v1 u1) (r2 : RelV v2 u2) (sr : SR F.K F.tb w2 H2 S2)
    (rv1 : RVr F.K w2 H H2 x v1) (rv2 : RVr F.K w2 H H2 y v2) {b : Bool} (hb : eqR x y S2 = some b) :
    (∀ Q : VK, Q (.bl b) H2 → wpAny (model X.prog X.w) X.A (compareOp .Eq u1 u2) (EP X pins σ Q) X.xe s) ∧ (∀ Q : VK, Q (.bl (!b)) H2 → wpAny (model X.prog X.w) X.A (compareOp .NotEq u1 u2) (EP X pins σ Q) X.xe s) := by
  have fin : ∀ {d e : PyData}, Dp F.K H2 v1 d → Dp F.K H2 v2 e → SeqAt.shaped d = true → SeqAt.shaped e = true → PyData.eqv d e = b →
      (∀ Q : VK, Q (.bl b) H2 → wpAny (model X.prog X.w) X.A (compareOp .Eq u1 u2) (EP X pins σ Q) X.xe s) ∧ (∀ Q : VK, Q (.bl (!b)) H2 → wpAny (model X.prog X.w) X.A (compareOp .NotEq u1 u2) (EP X pins σ Q) X.xe s) :=
    fun {d e} h1 h2 s1 s2 he => ⟨fun Q q => eq_dp hK hu I r1 r2 h1 h2 s1 s2 (by rw [he]; exact q), fun Q q => ne_dp hK hu I r1 r2 h1 h2 s1 s2 (by rw [he]; exact q)⟩
  unfold eqR at hb
  split at hb
  · rename_i xs ys e1 e2
    split at hb
    · rename_i hp
      rw [Bool.and_eq_true] at hp
      obtain ⟨a, vs, rfl, ha, da⟩ := lst_at sr rv1 e1
      obtain ⟨c, us, rfl, hc, dc⟩ := lst_at sr rv2 e2
      refine fin (.lst ha (da.dp (shps_pure hp.1))) (.lst hc (dc.dp (shps_pure hp.2))) (shaped_list hp.1) (shaped_list hp.2) ?_
      rw [← Option.some.inj hb]
      simp only [PyData.eqv]
    · cases hb
  · split at hb
    · rename_i a c _ _
      split at hb
      · rename_i ho
        have hb' := Option.some.inj hb
        have byShp : a.shp = true → c.shp = true → _ := fun h1 h2 => fin (DV.dp rv1 (shp_pure h1)) (DV.dp rv2 (shp_pure h2)) (shaped_of h1) (shaped_of h2) hb'
        unfold eqOk at ho
        rw [Bool.or_eq_true, Bool.and_eq_true, Bool.and_eq_true] at ho
        rcases ho with ⟨f1, f2⟩ | ⟨h1, h2⟩
        · rcases eqv_int_flat a c f1 f2 rv1 rv2 with ⟨z1, z2⟩ | ⟨h1, h2⟩
          · rw [z2] at hb'
            exact ⟨fun Q q => op_eq pins s σ H2 v1 v2 u1 u2 Q I r1 r2 ⟨z1, by rw [hb']; exact q⟩, fun Q q => op_ne pins s σ H2 v1 v2 u1 u2 Q I r1 r2 ⟨z1, by rw [hb']; exact q⟩⟩
          · exact byShp h1 h2
        · exact byShp h1 h2
      · cases hb
    · cases hb
  · cases hb
end
end CH
/-! CI: operators, built-ins, methods, by values. -/
namespace CH
open PySem PySem.Spec PyProof.Rows L2
theorem map_some_of {α β : Type} {o : Option α} {f : α → β} {b : β} (h : o.map f = some b) : ∃ a, o = some a ∧ f a = b := by simpa using h
section
variable {F : Fx} {E : XK} {X : Cx} {pins : List (Addr × PySem.Obj)} {s : Shared} {σ : L2.St} {H H2 : Hp} {w w2 : List Addr} {S S2 : Store} {x y : RV} {v1 v2 : V} {u1 u2 : Value} {Q : VK}
/-! ### in -/
theorem eqV_eqv {a b : D} (ha : a.flat = true) (hb : b.flat = true) {va vb : V} (da : DV F.K w2 H2 a va) (db : DV F.K w2 H2 b vb) : eqV va vb = a.eqv b := by
  cases da with
  | non => cases db <;> first | (simp [eqV, D.eqv, D.pd, PyData.eqv]; done) | cases hb
  | bl p => cases db <;> first | (simp [eqV, D.eqv, D.pd, PyData.eqv]; done) | cases hb
  | int p => cases db <;> first | (simp [eqV, D.eqv, D.pd, PyData.eqv]; done) | cases hb
  | str p => cases db <;> first | (simp [eqV, D.eqv, D.pd, PyData.eqv]; done) | cases hb
  | _ => cases ha
theorem flats_v : ∀ {ds : List D} {vs : List V}, DVs F.K w2 H2 ds vs → ds.all D.flat = true → vs.all flatV = true
  | _, _, .nil, _ => rfl
  | _, _, .cons a t, h => by
    rw [List.all_cons, Bool.and_eq_true] at h ⊢
    exact ⟨flat_v a h.1, flats_v t h.2⟩
theorem inV_any {u : D} {vu : V} (hu : u.flat = true) (du : DV F.K w2 H2 u vu) : ∀ {ds : List D} {vs : List V}, DVs F.K w2 H2 ds vs → ds.all D.flat = true → inV vu vs = ds.any fun z => z.eqv u
  | _, _, .nil, _ => rfl
  | _, _, .cons a t, h => by
    rw [List.all_cons, Bool.and_eq_true] at h
    have ih := inV_any hu du t h.2
    unfold inV at ih ⊢
    rw [List.any_cons, List.any_cons, ih, eqV_eqv h.1 hu a du]
theorem any_pds (u : D) : ∀ ds : List D, ((pds ds).any fun z => PyData.eqv z u.pd) = ds.any fun z => z.eqv u
  | [] => rfl
  | d :: ds => by rw [pds, List.any_cons, List.any_cons, any_pds u ds]; rfl
theorem KVs.val {kvs : List (Key × D)} {us : List (Key × V)} (h : KVs F.K w2 H2 kvs us) (k : Key) : match aval kvs k, valV us k with
    | some d, some v => DV F.K w2 H2 d v
    | none, none => True
    | _, _ => False := by
  obtain ⟨h1, h2⟩ := h
  induction kvs generalizing us with
  | nil =>
    cases us with
    | nil => simp [aval, valV]
    | cons _ _ => simp at h1
  | cons kv r ih =>
    cases us with
    | nil => simp at h1
    | cons ku ru =>
      simp only [List.map_cons, List.cons.injEq] at h1
      simp only [List.map_cons] at h2
      cases h2 with
      | cons a t =>
        have e := ih h1.2 t
        by_cases hk : kv.1 = k
        · have hk2 : ku.1 = k := h1.1 ▸ hk
          simp [aval, valV, hk, hk2]
          exact a
        · have hk2 : ¬ ku.1 = k := h1.1 ▸ hk
          have e1 : aval (kv :: r) k = aval r k := by simp [aval, List.find?_cons, hk]
          have e2 : valV (ku :: ru) k = valV ru k := valV_neg hk2
          rw [e1, e2]
          exact e
theorem KVs.isSome {kvs : List (Key × D)} {us : List (Key × V)} (h : KVs F.K w2 H2 kvs us) (k : Key) : (aval kvs k).isSome = (valV us k).isSome := by
  have := h.val k
  revert this
  cases aval kvs k <;> cases valV us k <;> simp
theorem key_v {d : D} {v : V} {k : Key} (h : DV F.K w2 H2 d v) (e : d.key = some k) : v = kV k := by
  cases h <;> simp [D.key] at e <;> subst e <;> rfl
theorem KVs.length {kvs : List (Key × D)} {us : List (Key × V)} (h : KVs F.K w2 H2 kvs us) : kvs.length = us.length := by
  have := congrArg List.length h.1
  simpa using this
theorem KVs.mapPut {K : PySem.W.Frag} {w : List Addr} {H : Hp} (k : Key) {d : D} {v : V} (dv : DV K w H d v) : ∀ {kvs : List (Key × D)} {us : List (Key × V)}, KVs K w H kvs us →
    KVs K w H (kvs.map fun kv => if kv.1 = k then (kv.1, d) else kv) (us.map fun kv => if kv.1 = k then (kv.1, v) else kv)
  | [], [], _ => ⟨rfl, .nil⟩
  | [], _ :: _, h => by cases h.1
  | _ :: _, [], h => by cases h.1
  | (k1, d1) :: r, (k2, v1) :: r2, h => by
    obtain ⟨h1, h2⟩ := h
    simp only [List.map_cons, List.cons.injEq] at h1
    obtain ⟨rfl, h1⟩ := h1
    cases h2 with
    | cons a b =>
      obtain ⟨q1, q2⟩ := KVs.mapPut k dv (kvs := r) (us := r2) ⟨h1, b⟩
      by_cases e : k1 = k
      · simp only [List.map_cons, if_pos e]
        exact ⟨by simpa using q1, .cons dv q2⟩
      · simp only [List.map_cons, if_neg e]
        exact ⟨by simpa using q1, .cons a q2⟩
theorem KVs.any {K : PySem.W.Frag} {w : List Addr} {H : Hp} {kvs : List (Key × D)} {us : List (Key × V)} (h : KVs K w H kvs us) (k : Key) : (kvs.any fun kv => decide (kv.1 = k)) = (us.any fun kv => decide (kv.1 = k)) := by
  have e1 : (kvs.any fun kv => decide (kv.1 = k)) = (kvs.map (·.1)).any fun x => decide (x = k) := by rw [List.any_map]; rfl
  have e2 : (us.any fun kv => decide (kv.1 = k)) = (us.map (·.1)).any fun x => decide (x = k) := by rw [List.any_map]; rfl
  rw [e1, e2, h.1]
theorem KVs.put {K : PySem.W.Frag} {w : List Addr} {H : Hp} {kvs : List (Key × D)} {us : List (Key × V)} (h : KVs K w H kvs us) (k : Key) {d : D} {v : V} (dv : DV K w H d v) : KVs K w H (aput kvs k d) (putK us k v) := by
  unfold aput putK
  rw [h.any k]
  by_cases e : (us.any fun kv => decide (kv.1 = k)) = true
  · rw [if_pos e, if_pos e]
    exact h.mapPut k dv
  · rw [if_neg e, if_neg e]
    refine ⟨by simp [h.1], ?_⟩
    rw [List.map_append, List.map_append]
    exact h.2.append (.cons dv .nil)
theorem kvs_at : ∀ {ds : List D} {vs : List V} {kvs : List (Key × D)}, DVs F.K w2 H2 ds vs → kvsD ds = some kvs → ∃ (ps : List Addr) (us : List (Key × V)), vs = ps.map V.ref ∧ Paired (fun p kv => SqT F.K H2 p [kV kv.1, kv.2]) ps us ∧ KVs F.K w2 H2 kvs us
  | _, _, _, .nil, e => by cases e; exact ⟨[], [], rfl, .nil, rfl, .nil⟩
  | _, _, _, .cons (d := d) dv t, e => by
    unfold kvsD at e
    split at e
    · rename_i e0; cases e0
    · rename_i k v r e0
      cases e0
      split at e
      · rename_i kk ps e1 e2
        cases e
        obtain ⟨as, us, rfl, h1, h2⟩ := kvs_at t e2
        cases dv with
        | tup sq d2 =>
          rename_i a _
          cases d2 with
          | cons dk d3 => cases d3 with
            | cons dv d4 => cases d4; exact ⟨a :: as, (kk, _) :: us, rfl, .cons (by rw [← key_v dk e1]; exact sq.sq) h1, by simp [h2.1], .cons dv h2.2⟩
      · cases e
    · cases e
theorem kvs_merge : ∀ {more : List (Key × D)} {mus : List (Key × V)} {kvs : List (Key × D)} {us : List (Key × V)}, KVs F.K w2 H2 more mus → KVs F.K w2 H2 kvs us → KVs F.K w2 H2 (more.foldl (fun acc kv => aput acc kv.1 kv.2) kvs) (mergeK us mus)
  | [], [], _, _, _, h => h
  | [], _ :: _, _, _, h, _ => by cases h.1
  | _ :: _, [], _, _, h, _ => by cases h.1
  | (k, d) :: r, (k2, v) :: r2, kvs, us, h, g => by
    obtain ⟨h1, h2⟩ := h
    simp only [List.map_cons, List.cons.injEq] at h1 h2
    obtain ⟨rfl, h1⟩ := h1
    cases h2 with
    | cons dv t => exact kvs_merge (more := r) (mus := r2) ⟨h1, t⟩ (g.put k dv)
/-- in, not in -/
theorem mem_ok (hK : X.K = F.K) (hu : X.A.units + 65 < cLine) (I : Inv X pins σ H2 s) (r1 : RelV v1 u1) (r2 : RelV v2 u2) (sr : SR F.K F.tb w2 H2 S2)
    (rv1 : RVr F.K w2 H H2 x v1) (rv2 : RVr F.K w2 H H2 y v2) {b : Bool} (hb : memR x y S2 = some b) :
    (∀ Q : VK, Q (.bl b) H2 → wpAny (model X.prog X.w) X.A (compareOp .In u1 u2) (EP X pins σ Q) X.xe s) ∧ (∀ Q : VK, Q (.bl (!b)) H2 → wpAny (model X.prog X.w) X.A (compareOp .NotIn u1 u2) (EP X pins σ Q) X.xe s) := by
  unfold memR at hb
  split at hb
  · rename_i u
    split at hb
    · rename_i xs e1
      split at hb
      · rename_i ho
        obtain ⟨a, vs, rfl, ha, da⟩ := seq_at sr rv2 e1
        have rv1 : DV F.K w2 H2 u v1 := rv1
        have hb' := Option.some.inj hb
        unfold inOk at ho
        rw [Bool.or_eq_true, Bool.and_eq_true, Bool.and_eq_true] at ho
        rcases ho with ⟨f1, f2⟩ | ⟨h1, h2⟩
        · have hi := inV_any f1 rv1 da f2
          rw [hb'] at hi
          exact ⟨fun Q q => op_in_seq pins s σ H2 v1 (.ref a) u1 u2 Q I r1 r2 ⟨a, vs, rfl, hK ▸ ha, flat_v rv1 f1, flats_v da f2, by rw [hi]; exact q⟩,
            fun Q q => op_notIn_seq pins s σ H2 v1 (.ref a) u1 u2 Q I r1 r2 ⟨a, vs, rfl, hK ▸ ha, flat_v rv1 f1, flats_v da f2, by rw [hi]; exact q⟩⟩
        · have dd : Dp X.K H2 v1 u.pd := hK ▸ DV.dp rv1 (shp_pure h1)
          have dl := shaped_list h2
          obtain ⟨bs, q1⟩ := Dp.reads I u.pd v1 u1 dd r1
          have hdl : PyData.canLayAll0 (pds xs) = true := pds_lay xs (shps_pure h2)
          have room := room_in_shaped (xs := pds xs) (shaped_of h1) hu
          have ea : ((pds xs).any fun z => PyData.eqv z u.pd) = b := by rw [any_pds]; exact hb'
          rcases ha with ha | ha
          · obtain ⟨as, q2⟩ := Dp.reads I (.list (pds xs)) (.ref a) u2 (hK ▸ .lst ha (da.dp (shps_pure h2))) r2
            exact ⟨fun Q q => SeqAt.in_list_reads q2 q1 hdl (SeqAt.canLay_of_shaped (shaped_of h1)) room ⟨.bl b, H2, I, by rw [ea]; rfl, q⟩,
              fun Q q => SeqAt.notIn_list_reads q2 q1 hdl (SeqAt.canLay_of_shaped (shaped_of h1)) room ⟨.bl (!b), H2, I, by rw [ea]; rfl, q⟩⟩
          · obtain ⟨as, q2⟩ := Dp.reads I (.tuple (pds xs)) (.ref a) u2 (hK ▸ .tup ha (da.dp (shps_pure h2))) r2
            exact ⟨fun Q q => SeqAt.in_tuple_reads q2 q1 hdl (SeqAt.canLay_of_shaped (shaped_of h1)) room ⟨.bl b, H2, I, by rw [ea]; rfl, q⟩,
              fun Q q => SeqAt.notIn_tuple_reads q2 q1 hdl (SeqAt.canLay_of_shaped (shaped_of h1)) room ⟨.bl (!b), H2, I, by rw [ea]; rfl, q⟩⟩
      · cases hb
    · split at hb
      · rename_i kvs e2
        obtain ⟨a, us, rfl, ha, da⟩ := dic_at sr rv2 e2
        obtain rfl : u2 = Value.ref a := r2
        split at hb
        · rename_i k ek
          have hb' := Option.some.inj hb
          rw [da.isSome k] at hb'
          obtain rfl := key_v rv1 ek
          have g : DGet H2 a (kV k) (valV us k) := .inl ⟨us, k, ha, rfl, rfl⟩
          refine ⟨fun Q q => d_in (by omega) I g r1 fun s' I' => ⟨.bl b, H2, I', by rw [hb']; rfl, q⟩, fun Q q => d_notIn (by omega) I g r1 fun s' I' => ⟨.bl (!b), H2, I', by rw [hb']; rfl, q⟩⟩
        · split at hb
          · split at hb
            · cases hb
              cases rv1
              obtain rfl : u1 = Value.none := r1
              exact ⟨fun Q q => d_inNone I ha fun s' I' => ⟨.bl false, H2, I', rfl, q⟩, fun Q q => d_notInNone I ha fun s' I' => ⟨.bl true, H2, I', rfl, q⟩⟩
            · cases hb
          · cases hb
      · cases hb
  · cases hb
/-! ### subscripts -/
theorem atI_dvs {ds : List D} {vs : List V} (h : DVs F.K w2 H2 ds vs) {i : Int} {d : D} (e : atI ds i = some d) : ∃ v, atI vs i = some v ∧ DV F.K w2 H2 d v := by
  unfold atI at e ⊢
  rw [h.length] at e
  cases q : ixN vs.length i with
  | none => rw [q] at e; cases e
  | some j =>
    rw [q] at e
    exact h.get e
theorem idx_ok (hK : X.K = F.K) (hu : X.A.units + 1 < cLine) (value slice : Expr) (I : Inv X pins σ H2 s) (r1 : RelV v1 u1) (r2 : RelV v2 u2) (sr : SR F.K F.tb w2 H2 S2)
    (rv1 : RVr F.K w2 H H2 x v1) (rv2 : RVr F.K w2 H H2 y v2) {z : RV} (hz : idxR x y S2 = some z) (hs : subscripted slice false u1 u2 = operate [u1, u2] (getItem u1 u2))
    (hq : ∀ v, RVr F.K w2 H H2 z v → Q v H2) : wpAny (model X.prog X.w) X.A (subscriptTail value slice u1 u2) (EP X pins σ Q) X.xe s := by
  unfold idxR at hz
  split at hz
  · rename_i u
    split at hz
    · rename_i xs e1
      split at hz
      · rename_i k
        obtain ⟨d, e2, rfl⟩ := map_some_of hz
        obtain ⟨a, vs, rfl, ha, da⟩ := seq_at sr rv1 e1
        obtain rfl := rv_int rv2
        obtain ⟨v, e3, dv⟩ := atI_dvs da e2
        rcases ha with ha | ha
        · exact ix_list value slice pins s σ H2 _ _ u1 u2 Q I r1 r2 ⟨a, vs, k, v, rfl, rfl, hK ▸ ha, e3, hq v dv⟩ hs
        · exact ix_tup value slice pins s σ H2 _ _ u1 u2 Q I r1 r2 ⟨a, vs, k, v, rfl, rfl, hK ▸ ha, e3, hq v dv⟩ hs
      · cases hz
    · split at hz
      · rename_i kvs e2
        obtain ⟨a, us, rfl, ha, da⟩ := dic_at sr rv1 e2
        obtain rfl : u1 = Value.ref a := r1
        cases ek : u.key with
        | none => rw [ek] at hz; cases hz
        | some k =>
          rw [ek] at hz
          obtain ⟨d, e3, rfl⟩ := map_some_of hz
          obtain rfl := key_v rv2 ek
          have hv := da.val k
          rw [e3] at hv
          cases ev : valV us k with
          | none => rw [ev] at hv; exact hv.elim
          | some v =>
            rw [ev] at hv
            have g : DGet H2 a (kV k) (some v) := .inl ⟨us, k, ha, rfl, ev.symm⟩
            have hg : s.TypeIs (.ref a) "dict" := dict_typeIs I g
            exact tail_any (ops := [Value.ref a, u2]) hg PySem.F.slot_dict_getitem.lookup (d_getItem hu I g r2 fun w' s3 I3 rw' => ⟨v, H2, I3, rw', hq v hv⟩) hs
      · cases hz
  · cases hz
/-! ### slices -/
theorem cut_dvs {ds : List D} {vs : List V} (h : DVs F.K w2 H2 ds vs) (l u : Option Int) : DVs F.K w2 H2 (cutD ds l u) (cutV vs l u) := by
  unfold cutD cutV
  rw [h.length]
  exact (h.drop _).take _
theorem cut_whole {ds : List D} {l u : Option Int} (h : HT.sIx ds.length 0 l = 0 ∧ HT.sIx ds.length ds.length u = ds.length) : cutD ds l u = ds := by
  unfold cutD
  rw [h.1, h.2]
  simp
theorem slc_ok (hK : X.K = F.K) (hS : SR F.K F.tb w H S) (st : Step F.K F.tb w H w2 H2 S2) (rv1 : RVr F.K w2 H H2 x v1) {l u : Option Int} {z : RV}
    (hz : slcR x l u S2 = some z) (hf : ∀ w' H' v, Step F.K F.tb w H w' H' S2 → RVr F.K w' H H' z v → Q v H') :
    rSlP F.K v1 l u H2 Q ∨ rSlL F.K v1 l u H2 Q := by
  unfold slcR at hz
  split at hz
  · rename_i xs e1
    obtain ⟨a, vs, rfl, ha, da⟩ := tup_at rv1 e1
    cases hz
    refine .inl ⟨a, vs, rfl, ha.sq, fun hw => ?_, fun _ p ob ho hp => ?_⟩
    · refine hf w2 H2 _ st ?_
      rw [cut_whole (by rw [da.length]; exact hw)]
      exact .tup ha da
    · obtain ⟨st3, rv3⟩ := new_tup hS st ho hp (cut_dvs da l u)
      exact hf _ _ _ st3 rv3
  · obtain ⟨xs, e1, rfl⟩ := map_some_of hz
    obtain ⟨a, vs, rfl, ha, da⟩ := lst_at st.sr rv1 e1
    refine .inr ⟨a, vs, rfl, ha, fun p hp => ?_⟩
    obtain ⟨st3, rv3⟩ := new_lst hS st hp (cut_dvs da l u)
    exact hf _ _ _ st3 rv3
/-! ### truth -/
theorem isEmpty_dvs {ds : List D} {vs : List V} (h : DVs F.K w2 H2 ds vs) : vs.isEmpty = ds.isEmpty := by cases h <;> rfl
theorem truth_ok (hK : X.K = F.K) (I : Inv X pins σ H2 s) (r1 : RelV v1 u1) (sr : SR F.K F.tb w2 H2 S2) (rv1 : RVr F.K w2 H H2 x v1) {b : Bool} (hb : truth x S2 = some b) {Q : Bool → Hp → Prop} (q : Q b H2) :
    wpAny (model X.prog X.w) X.A (truthy u1) (TP X pins σ Q) X.xe s := by
  have one : TruV X.K v1 H2 b → wpAny (model X.prog X.w) X.A (truthy u1) (TP X pins σ Q) X.xe s := fun h => tru_ok pins s σ H2 v1 u1 Q I r1 ⟨b, h, q⟩
  unfold truth at hb
  split at hb
  · cases hb
    obtain rfl := rv_non rv1
    exact one rfl
  · cases hb
    obtain rfl := rv_bl rv1
    exact one rfl
  · cases hb
    obtain rfl := rv_int rv1
    exact one rfl
  · split at hb
    · rename_i hz
      cases hb
      obtain rfl := rv_str rv1
      have e : ∀ n : Nat, (n != 0) = ((n : Int) != 0) := fun n => by rw [Bool.eq_iff_iff]; simp
      exact one ⟨hz, e _⟩
    · cases hb
  · cases hb
    obtain ⟨a, vs, rfl, ha, da⟩ := rv_tup rv1
    exact one (.inr (.inl ⟨vs, hK ▸ ha, by rw [isEmpty_dvs da]⟩))
  · split at hb
    · rename_i xs e1
      cases hb
      obtain ⟨a, vs, rfl, ha, da⟩ := lst_at (xs := xs) sr rv1 (by unfold lstv; rw [e1])
      exact one (.inl ⟨vs, hK ▸ ha, by rw [isEmpty_dvs da]⟩)
    · rename_i kvs e1
      cases hb
      obtain ⟨a, us, rfl, ha, da⟩ := dic_at (kvs := kvs) sr rv1 (by unfold dicv; rw [e1])
      obtain rfl : u1 = Value.ref a := r1
      refine d_truth I ha fun s' I' => ⟨H2, I', ?_⟩
      have e : (!us.isEmpty) = !kvs.isEmpty := by
        have := da.length
        cases us <;> cases kvs <;> first | rfl | (simp at this)
      rw [e]; exact q
    · cases hb
/-! ### built-ins of one argument -/
theorem srt_eq {is js : List Int} (hp : js.Perm is) (ho : js.Pairwise (· ≤ ·)) : js = srt is := by
  have h1 : (srt is).Perm is := List.mergeSort_perm _ _
  have h2 : (srt is).Pairwise (fun a b => decide (a ≤ b) = true) := by
    have := List.pairwise_mergeSort (le := fun a b : Int => decide (a ≤ b)) (fun a b c h1 h2 => by
      have := of_decide_eq_true h1; have := of_decide_eq_true h2; exact decide_eq_true (by omega)) (fun a b => by
      rcases Int.le_total a b with h | h
      · simp [h]
      · simp [h]) is
    simpa [srt] using this
  refine List.Perm.eq_of_pairwise (le := fun a b : Int => a ≤ b) ?_ ho (h2.imp fun h => of_decide_eq_true h) (hp.trans h1.symm)
  intro a b _ _ h1 h2
  omega
theorem max_is {i : Int} {r : List Int} {m : Int} (hm : m ∈ i :: r) (hu : ∀ y, y ∈ i :: r → y ≤ m) : maxI (i :: r) = some m := by
  have key : ∀ (r : List Int) (i : Int), (r.foldl (fun a b => if b > a then b else a) i) ∈ i :: r ∧ ∀ y, y ∈ i :: r → y ≤ r.foldl (fun a b => if b > a then b else a) i := by
    intro r
    induction r with
    | nil => intro i; simp
    | cons j r ih =>
      intro i
      rw [List.foldl_cons]
      by_cases h : j > i
      · rw [if_pos h]
        obtain ⟨h1, h2⟩ := ih j
        refine ⟨List.mem_cons_of_mem _ h1, fun y hy => ?_⟩
        rcases List.mem_cons.mp hy with rfl | hy
        · have := h2 j List.mem_cons_self; omega
        · exact h2 y hy
      · rw [if_neg h]
        obtain ⟨h1, h2⟩ := ih i
        refine ⟨?_, fun y hy => ?_⟩
        · rcases List.mem_cons.mp h1 with h1 | h1
          · rw [h1]; exact List.mem_cons_self
          · exact List.mem_cons_of_mem _ (List.mem_cons_of_mem _ h1)
        · rcases List.mem_cons.mp hy with rfl | hy
          · exact h2 y List.mem_cons_self
          · rcases List.mem_cons.mp hy with rfl | hy
            · have := h2 i List.mem_cons_self; omega
            · exact h2 y (List.mem_cons_of_mem _ hy)
  obtain ⟨h1, h2⟩ := key r i
  exact congrArg some (Int.le_antisymm (hu _ h1) (h2 _ hm))
theorem min_is {i : Int} {r : List Int} {m : Int} (hm : m ∈ i :: r) (hu : ∀ y, y ∈ i :: r → m ≤ y) : minI (i :: r) = some m := by
  have key : ∀ (r : List Int) (i : Int), (r.foldl (fun a b => if b < a then b else a) i) ∈ i :: r ∧ ∀ y, y ∈ i :: r → r.foldl (fun a b => if b < a then b else a) i ≤ y := by
    intro r
    induction r with
    | nil => intro i; simp
    | cons j r ih =>
      intro i
      rw [List.foldl_cons]
      by_cases h : j < i
      · rw [if_pos h]
        obtain ⟨h1, h2⟩ := ih j
        refine ⟨List.mem_cons_of_mem _ h1, fun y hy => ?_⟩
        rcases List.mem_cons.mp hy with rfl | hy
        · have := h2 j List.mem_cons_self; omega
        · exact h2 y hy
      · rw [if_neg h]
        obtain ⟨h1, h2⟩ := ih i
        refine ⟨?_, fun y hy => ?_⟩
        · rcases List.mem_cons.mp h1 with h1 | h1
          · rw [h1]; exact List.mem_cons_self
          · exact List.mem_cons_of_mem _ (List.mem_cons_of_mem _ h1)
        · rcases List.mem_cons.mp hy with rfl | hy
          · exact h2 y List.mem_cons_self
          · rcases List.mem_cons.mp hy with rfl | hy
            · have := h2 i List.mem_cons_self; omega
            · exact h2 y (List.mem_cons_of_mem _ hy)
  obtain ⟨h1, h2⟩ := key r i
  exact congrArg some (Int.le_antisymm (h2 _ hm) (hu _ h1))
theorem keysI_inl : ∀ {kvs : List (Key × D)} {is : List Int}, keysI kvs = some is → kvs.map (·.1) = is.map Sum.inl
  | [], is, h => by cases h; rfl
  | (.inl i, d) :: r, is, h => by
    have h : (keysI r).map (i :: ·) = some is := h
    cases e : keysI r with
    | none => rw [e] at h; cases h
    | some js =>
      rw [e] at h
      cases h
      rw [List.map_cons, List.map_cons, keysI_inl e]
  | (.inr z, d) :: r, is, h => by cases h
/-- the built-in's value -/
def b1V : B1 → Value
  | .len => .builtin "len" | .int => .type "int" | .tuple => .type "tuple" | .list => .type "list" | .sorted => .builtin "sorted" | .set => .type "set" | .dict => .type "dict"
  | .sum => .builtin "sum" | .max => .builtin "max" | .min => .builtin "min" | .any => .builtin "any" | .all => .builtin "all" | .bool => .type "bool" | .abs => .builtin "abs"
theorem vals1' {v : V} {u : Value} (r : RelV v u) : Vals [v] [u] := .cons r .nil
/-- sum of a tuple of ints -/
def SumTup (X : Cx) : Prop := ∀ (pins : List (Addr × PySem.Obj)) (s : Shared) (σ : L2.St) (H : Hp) (a : Addr) (ns : List Int) (Q : VK), Inv X pins σ H s → SqT X.K H a (ns.map V.int) → sumOk ns → Q (.int ns.sum) H →
  wpAny (model X.prog X.w) X.A (call (.builtin "sum") [.ref a]) (EP X pins σ Q) X.xe s
theorem b1_ok (hK : X.K = F.K) (hc : X.calm = true) (hST : SumTup X) (f : B1) (hS : SR F.K F.tb w H S) (I : Inv X pins σ H2 s) (r1 : RelV v1 u1) (st : Step F.K F.tb w H w2 H2 S2)
    (rv1 : RVr F.K w2 H H2 x v1) (hf : FinE F E (b1R f x S2) w H Q) : wpAny (model X.prog X.w) X.A (call (b1V f) [u1]) (EP X pins σ Q) X.xe s := by
  have rv := vals1' r1
  have intv : ∀ i : Int, RVr F.K w2 H H2 (.d (.int i)) (.int i) := fun i => .int i
  have blv : ∀ b : Bool, RVr F.K w2 H H2 (.d (.bl b)) (.bl b) := fun b => .bl b
  have sints : ∀ {is : List Int}, intsv x S2 = some is → ∃ a, v1 = .ref a ∧ (SqL F.K H2 a (is.map V.int) ∨ SqT F.K H2 a (is.map V.int)) := fun {is} e => by
    unfold intsv at e
    cases e1 : seqv x S2 with
    | none => rw [e1] at e; cases e
    | some xs =>
      rw [e1] at e
      obtain ⟨a, vs, rfl, ha, da⟩ := seq_at st.sr rv1 e1
      have := da.ints e
      rw [this] at ha
      exact ⟨a, rfl, ha⟩
  have lints : ∀ {is : List Int}, (lstv x S2).bind asI = some is → ∃ a, v1 = .ref a ∧ SqL F.K H2 a (is.map V.int) := fun {is} e => by
    cases e1 : lstv x S2 with
    | none => rw [e1] at e; cases e
    | some xs =>
      rw [e1] at e
      obtain ⟨a, vs, rfl, ha, da⟩ := lst_at st.sr rv1 e1
      rw [da.ints e] at ha
      exact ⟨a, rfl, ha⟩
  have lbools : ∀ {is : List Bool}, (lstv x S2).bind asB = some is → ∃ a, v1 = .ref a ∧ SqL F.K H2 a (is.map V.bl) := fun {is} e => by
    cases e1 : lstv x S2 with
    | none => rw [e1] at e; cases e
    | some xs =>
      rw [e1] at e
      obtain ⟨a, vs, rfl, ha, da⟩ := lst_at st.sr rv1 e1
      rw [da.bools e] at ha
      exact ⟨a, rfl, ha⟩
  unfold b1R at hf
  split at hf
  · -- len
    split at hf
    · split at hf
      · rename_i hz
        obtain rfl := rv_str rv1
        exact call_len pins s σ H2 [_] [u1] Q I rv ⟨_, _, rfl, ⟨hz, rfl⟩, fin_ok hf st (intv _)⟩
      · exact hf.elim
    · split at hf
      · rename_i xs e1
        obtain ⟨a, vs, rfl, ha, da⟩ := seq_at st.sr rv1 e1
        refine call_len pins s σ H2 [_] [u1] Q I rv ⟨_, _, rfl, ?_, fin_ok hf st (intv _)⟩
        rcases ha with ha | ha
        · exact .inl ⟨vs, hK ▸ ha, da.length⟩
        · exact .inr ⟨vs, hK ▸ ha, da.length⟩
      · split at hf
        · rename_i kvs e2
          obtain ⟨a, us, rfl, ha, da⟩ := dic_at st.sr rv1 e2
          obtain rfl : u1 = Value.ref a := r1
          exact d_len I ha fun t s' I' => ⟨.int kvs.length, H2, I', ⟨t, by rw [da.length]⟩, fin_ok hf st (intv _)⟩
        · exact hf.elim
  · -- int
    split at hf
    · obtain rfl := rv_int rv1
      exact call_int1 pins s σ H2 [_] [u1] Q I rv (.inl ⟨_, rfl, fin_ok hf st (intv _)⟩)
    · obtain rfl := rv_bl rv1
      exact call_int1 pins s σ H2 [_] [u1] Q I rv (.inr ⟨_, rfl, fin_ok hf st (intv _)⟩)
    · exact hf.elim
  · -- bool
    split at hf
    · obtain rfl := rv_int rv1
      exact call_bool1 pins s σ H2 [_] [u1] Q I rv (.inl ⟨_, rfl, fin_ok hf st (blv _)⟩)
    · obtain rfl := rv_bl rv1
      exact call_bool1 pins s σ H2 [_] [u1] Q I rv (.inr ⟨_, rfl, fin_ok hf st (blv _)⟩)
    · exact hf.elim
  · -- abs
    split at hf
    · obtain rfl := rv_int rv1
      exact call_abs pins s σ H2 [_] [u1] Q I rv ⟨_, rfl, fin_ok hf st (intv _)⟩
    · exact hf.elim
  · -- tuple
    split at hf
    · rename_i xs e1
      obtain ⟨a, vs, rfl, ha, da⟩ := seq_pl st.sr rv1 e1
      rcases ha with ha | ha
      · refine tuple_pl pins s σ H2 _ u1 Q I r1 (.inl ⟨a, vs, rfl, hK ▸ ha, fun p ob ho hp => ?_⟩)
        obtain ⟨st3, rv3⟩ := new_tup hS st ho hp da
        exact fin_ok hf st3 rv3
      · exact tuple_pl pins s σ H2 _ u1 Q I r1 (.inr ⟨a, vs, rfl, hK ▸ ha.sq, fin_ok hf st (show RVr F.K w2 H H2 _ _ from .tup ha da)⟩)
    · exact hf.elim
  · -- list
    split at hf
    · rename_i xs e1
      obtain ⟨a, vs, rfl, ha, da⟩ := seq_at st.sr rv1 e1
      refine call_list_of pins s σ H2 [_] [u1] Q I rv ⟨a, vs, rfl, hK ▸ ha, fun p hp => ?_⟩
      obtain ⟨st3, rv3⟩ := new_lst hS st hp da
      exact fin_ok hf st3 rv3
    · exact hf.elim
  · -- sorted
    split at hf
    · rename_i is e1
      obtain ⟨a, rfl, ha⟩ := sints e1
      rcases ha with ha | ha
      · refine cr_sortedI pins s σ H2 [_] [u1] Q I rv ⟨a, is, rfl, hK ▸ ha, fun js p hp ho hn => ?_⟩
        rw [srt_eq hp ho]
        obtain ⟨st3, rv3⟩ := new_lst (ds := (srt is).map D.int) hS st hn (DVs.ofInts _)
        exact fin_ok hf st3 rv3
      · refine cr_sortedTI pins s σ H2 [_] [u1] Q I rv ⟨a, is, rfl, hK ▸ ha, fun js p hp ho hn => ?_⟩
        rw [srt_eq hp ho]
        obtain ⟨st3, rv3⟩ := new_lst (ds := (srt is).map D.int) hS st hn (DVs.ofInts _)
        exact fin_ok hf st3 rv3
    · split at hf
      · rename_i is e1
        split at hf
        · rename_i h64
          cases e2 : dicv x S2 with
          | none => rw [e2] at e1; cases e1
          | some kvs =>
            rw [e2] at e1
            obtain ⟨a, us, rfl, ha, da⟩ := dic_at st.sr rv1 e2
            have ek : us.map (·.1) = is.map Sum.inl := by rw [← da.1]; exact keysI_inl e1
            refine call_sortedDI hc pins s σ H2 [_] [u1] Q I rv ⟨a, us, is, rfl, ha, ek, h64, fun js p hp ho hn => ?_⟩
            rw [srt_eq hp ho]
            obtain ⟨st3, rv3⟩ := new_lst (ds := (srt is).map D.int) hS st hn (DVs.ofInts _)
            exact fin_ok hf st3 rv3
        · exact hf.elim
      · exact hf.elim
  · exact hf.elim
  · -- dict
    split at hf
    · rename_i kvs e2
      obtain ⟨a, us, rfl, ha, da⟩ := dic_at st.sr rv1 e2
      obtain rfl : u1 = Value.ref a := r1
      refine d_copyOf I ha fun p s' hp I' => ⟨.ref p, _, I', rfl, ?_⟩
      obtain ⟨st3, rv3⟩ := new_dic hS st hp da
      exact fin_ok hf st3 rv3
    · split at hf
      · rename_i kvs e2
        cases e3 : seqv x S2 with
        | none => rw [e3] at e2; cases e2
        | some xs =>
          rw [e3] at e2
          obtain ⟨a, vs, rfl, ha, da⟩ := seq_pl st.sr rv1 e3
          obtain ⟨ps, us, ev, hp, kv⟩ := kvs_at da e2
          subst ev
          obtain rfl : u1 = Value.ref a := r1
          have fin : ∀ p, H2 p = none → Q (.ref p) (upd H2 p (.dK (mergeK [] us))) := fun p hn => by
            obtain ⟨st3, rv3⟩ := new_dic hS st hn (kvs_merge (kvs := []) (us := []) kv ⟨rfl, .nil⟩)
            exact fin_ok hf st3 rv3
          rcases ha with ha | ha
          · exact call_dictP hc pins s σ H2 [_] [_] Q I rv ⟨a, ps, us, rfl, hK ▸ ha, hK ▸ hp, fin⟩
          · exact dict_pl hc I (hK ▸ ha) (hK ▸ hp) fin
      · exact hf.elim
  · -- sum
    split at hf
    · rename_i is e1
      split at hf
      · rename_i ok
        obtain ⟨a, rfl, ha⟩ := sints e1
        rcases ha with ha | ha
        · exact cr_sum hc pins s σ H2 [_] [u1] Q I rv ⟨a, is, rfl, hK ▸ ha, fin_ok hf st (intv _)⟩
        · obtain rfl : u1 = Value.ref a := r1
          exact hST pins s σ H2 a is Q I (hK ▸ ha) ok (fin_ok hf st (intv _))
      · exact hf.elim
    · exact hf.elim
  · -- max
    obtain ⟨z, hz, hf⟩ := FinG.of (finE_iff.mp hf)
    obtain ⟨m, e2, rfl⟩ := map_some_of hz
    cases e1 : (lstv x S2).bind asI with
    | none => rw [e1] at e2; cases e2
    | some is =>
      rw [e1] at e2
      obtain ⟨a, rfl, ha⟩ := lints e1
      cases is with
      | nil => cases e2
      | cons i r =>
        refine cr_max hc pins s σ H2 [_] [u1] Q I rv ⟨a, i :: r, rfl, hK ▸ ha, by simp, fun m' h1 h2 => ?_⟩
        have e3 := max_is h1 h2
        have e4 : maxI (i :: r) = some m := e2
        rw [e3] at e4
        cases e4
        exact hf w2 H2 _ st (intv _)
  · obtain ⟨z, hz, hf⟩ := FinG.of (finE_iff.mp hf)
    obtain ⟨m, e2, rfl⟩ := map_some_of hz
    cases e1 : (lstv x S2).bind asI with
    | none => rw [e1] at e2; cases e2
    | some is =>
      rw [e1] at e2
      obtain ⟨a, rfl, ha⟩ := lints e1
      cases is with
      | nil => cases e2
      | cons i r =>
        refine cr_min hc pins s σ H2 [_] [u1] Q I rv ⟨a, i :: r, rfl, hK ▸ ha, by simp, fun m' h1 h2 => ?_⟩
        have e3 := min_is h1 h2
        have e4 : minI (i :: r) = some m := e2
        rw [e3] at e4
        cases e4
        exact hf w2 H2 _ st (intv _)
  · split at hf
    · rename_i bs e1
      obtain ⟨a, rfl, ha⟩ := lbools e1
      exact cr_any hc pins s σ H2 [_] [u1] Q I rv ⟨a, bs, rfl, hK ▸ ha, fin_ok hf st (blv _)⟩
    · exact hf.elim
  · split at hf
    · rename_i bs e1
      obtain ⟨a, rfl, ha⟩ := lbools e1
      exact cr_all hc pins s σ H2 [_] [u1] Q I rv ⟨a, bs, rfl, hK ▸ ha, fin_ok hf st (blv _)⟩
    · exact hf.elim
/-! ### methods -/
def tyOf : Knd → String
  | .lst => "list" | .tup => "tuple" | .dic => "dict" | .str => "str"
theorem knd_ty (hK : X.K = F.K) (I : Inv X pins σ H2 s) (r1 : RelV v1 u1) (sr : SR F.K F.tb w2 H2 S2) (rv1 : RVr F.K w2 H H2 x v1) {k : Knd} (hk : knd x S2 = some k) :
    s.TypeIs u1 (tyOf k) ∧ ∀ a, u1 = .ref a → ∃ ob, s.heap.get? a = some ob ∧ ob.dict = none := by
  unfold knd at hk
  split at hk
  · rename_i xs
    cases hk
    obtain ⟨a, vs, rfl, ha, _⟩ := tup_at (xs := xs) rv1 rfl
    obtain rfl : u1 = Value.ref a := r1
    obtain ⟨o, its, n, _, e1, e2, e3, _⟩ := plt_at I (hK ▸ ha)
    exact ⟨⟨o, e1, e2⟩, fun b z => by cases z; exact ⟨o, e1, e3⟩⟩
  · cases hk
    obtain rfl := rv_str rv1
    exact tyV_is (T := "str") I r1 rfl
  · split at hk
    · rename_i xs e1
      cases hk
      obtain ⟨a, vs, rfl, ha, da⟩ := lst_at (xs := xs) sr rv1 (by unfold lstv; rw [e1])
      exact tyV_is (T := "list") I r1 (.inl ⟨rfl, vs, hK ▸ ha⟩)
    · rename_i kvs e1
      cases hk
      obtain ⟨a, us, rfl, ha, da⟩ := dic_at (kvs := kvs) sr rv1 (by unfold dicv; rw [e1])
      obtain rfl : u1 = Value.ref a := r1
      obtain ⟨q1, q2, _⟩ := isD_at I (.inl ⟨us, ha⟩)
      exact ⟨q1, q2⟩
    · cases hk
theorem m0_ok (hS : SR F.K F.tb w H S) (I : Inv X pins σ H2 s) (r1 : RelV v1 u1) (st : Step F.K F.tb w H w2 H2 S2) (rv1 : RVr F.K w2 H H2 x v1) (hf : FinE F E (m0R .lst .pop x S2) w H Q) :
    wpAny (model X.prog X.w) X.A (call (.builtin "list.pop") [u1]) (EP X pins σ Q) X.xe s := by
  unfold m0R at hf
  split at hf <;> try exact hf.elim
  rename_i r _
  split at hf
  · rename_i xs e1
    split at hf
    · rename_i y e2
      obtain ⟨a, o, rfl, e3, e4, e5⟩ := ref_at st.sr rv1 e1
      cases e5 with
      | lst t =>
        rename_i vs
        obtain ⟨v, e6, dv⟩ := t.get e2
        rw [t.length] at e6
        refine mt_pop pins s σ H2 _ [] u1 [] Q I r1 .nil ⟨a, vs, v, rfl, rfl, e4, e6, ?_⟩
        have cv : ∀ {H3}, Ext w2 H2 H3 → CV F.K w2 H3 (.lst xs.dropLast) (.lst vs.dropLast) := fun e => .lst (t.dropLast.mono (e.plt st.sr) (e.frl st.sr) fun _ _ z => z)
        have am : a ∈ w2 := List.mem_of_getElem? e3
        have ext : Ext w2 H2 (upd H2 a (.lst vs.dropLast)) := fun b u e hb => .inl (by rw [upd_ne (fun z => hb (by rw [z]; exact am))]; exact e)
        have st3 := write hS st e3 e1 e4 (fun _ z => by cases z) (cv ext)
        exact fin_ok hf st3 (show RVr F.K w2 H _ (.d y) v from dv.mono (ext.plt st.sr) (ext.frl st.sr) fun _ _ z => z)
    · exact hf.elim
  · exact hf.elim
/-- writing a list's cell -/
theorem write_lst (hS : SR F.K F.tb w H S) (st : Step F.K F.tb w H w2 H2 S2) {r : Nat} {a : Addr} {xs ys : List D} {us vs : List V} (e3 : w2[r]? = some a) (e1 : S2[r]? = some (.lst xs)) (e4 : H2 a = some (.lst us)) (t : DVs F.K w2 H2 ys vs) :
    Step F.K F.tb w H w2 (upd H2 a (.lst vs)) (S2.set r (.lst ys)) ∧ Ext w2 H2 (upd H2 a (.lst vs)) := by
  have am : a ∈ w2 := List.mem_of_getElem? e3
  have ext : Ext w2 H2 (upd H2 a (.lst vs)) := fun b u e hb => .inl (by rw [upd_ne (fun z => hb (by rw [z]; exact am))]; exact e)
  exact ⟨write hS st e3 e1 e4 (fun _ z => by cases z) (.lst (t.mono (ext.plt st.sr) (ext.frl st.sr) fun _ _ z => z)), ext⟩
theorem findIdx_dvs {u : D} {p : V → Bool} : ∀ {ds : List D} {vs : List V} {j : Nat}, DVs F.K w2 H2 ds vs → (∀ d v, d ∈ ds → DV F.K w2 H2 d v → p v = d.eqv u) → ds.findIdx? (fun z => z.eqv u) = some j → vs.findIdx? p = some j
  | _, _, _, .nil, _, e => by simp at e
  | _, _, j, .cons (d := d) (v := v) (ds := ds) (vs := vs) a t, hp, e => by
    rw [List.findIdx?_cons] at e ⊢
    rw [hp d v List.mem_cons_self a]
    split at e
    · rename_i h
      rw [if_pos h]; exact e
    · rename_i h
      rw [if_neg h]
      obtain ⟨i, e1, e2⟩ := map_some_of e
      rw [findIdx_dvs t (fun d' v' hd => hp d' v' (List.mem_cons_of_mem _ hd)) e1]
      simp [e2]
theorem findIdx_get {α : Type} {p : α → Bool} : ∀ {xs : List α} {j : Nat}, xs.findIdx? p = some j → ∃ z, xs[j]? = some z ∧ p z = true ∧ ∀ (m : Nat) (z' : α), m < j → xs[m]? = some z' → p z' = false
  | [], _, e => by simp at e
  | x :: xs, j, e => by
    rw [List.findIdx?_cons] at e
    split at e
    · rename_i h
      cases e
      exact ⟨x, rfl, h, fun m _ hm _ => absurd hm (Nat.not_lt_zero _)⟩
    · rename_i h
      obtain ⟨i, e1, rfl⟩ := map_some_of e
      obtain ⟨z, h1, h2, h3⟩ := findIdx_get e1
      refine ⟨z, by simpa using h1, h2, fun m z' hm hz => ?_⟩
      cases m with
      | zero => simp at hz; subst hz; simpa using h
      | succ m => exact h3 m z' (by omega) (by simpa using hz)
def m1Id : Knd → Me → String
  | .lst, .append => "list.append"
  | .lst, .index => "list.index"
  | .tup, .index => "tuple.index"
  | .lst, .count => "list.count"
  | .lst, .pop => "list.pop"
  | .dic, .get => "dict.get"
  | _, _ => ""
theorem m1_ok (hK : X.K = F.K) (hu : X.A.units + 65 < cLine) {k : Knd} {m : Me} {d : D} (hS : SR F.K F.tb w H S) (I : Inv X pins σ H2 s) (r1 : RelV v1 u1) (r2 : RelV v2 u2) (st : Step F.K F.tb w H w2 H2 S2) (rv1 : RVr F.K w2 H H2 x v1) (dv2 : DV F.K w2 H2 d v2) (hf : FinE F E (m1R k m x d S2) w H Q) :
    wpAny (model X.prog X.w) X.A (call (.builtin (m1Id k m)) [u1, u2]) (EP X pins σ Q) X.xe s := by
  have intv : ∀ i : Int, RVr F.K w2 H H2 (.d (.int i)) (.int i) := fun i => .int i
  have rv2' := vals1' r2
  unfold m1R at hf
  split at hf <;> try exact hf.elim
  · -- append
    split at hf <;> try exact hf.elim
    rename_i r _
    split at hf <;> try exact hf.elim
    rename_i xs e1
    split at hf <;> try exact hf.elim
    rename_i hz
    obtain ⟨a, o, rfl, e3, e4, e5⟩ := ref_at st.sr rv1 e1
    cases e5 with
    | lst t =>
      rename_i vs
      obtain ⟨st3, ext⟩ := write_lst hS st e3 e1 e4 (t.append (.cons dv2 .nil))
      exact mt_append pins s σ H2 _ [v2] u1 [u2] Q I r1 rv2' ⟨a, vs, v2, rfl, rfl, e4, by rw [← t.length]; exact hz, fin_ok hf st3 (show RVr F.K w2 H _ (.d .non) .non from .non)⟩
  · -- index
    split at hf <;> try exact hf.elim
    rename_i xs e1
    split at hf <;> try exact hf.elim
    rename_i ho
    split at hf <;> try exact hf.elim
    rename_i j ej
    obtain ⟨a, vs, rfl, ha, da⟩ := lst_at st.sr rv1 e1
    unfold inOk at ho
    rw [Bool.or_eq_true, Bool.and_eq_true, Bool.and_eq_true] at ho
    rcases ho with ⟨f1, f2⟩ | ⟨h1, h2⟩
    · have ej2 := findIdx_dvs (p := fun z => eqV z v2) da (fun d' v' hd hv => eqV_eqv (List.all_eq_true.mp f2 d' hd) f1 hv dv2) ej
      obtain ⟨z, z1, z2, z3⟩ := findIdx_get ej2
      exact mt_index pins s σ H2 _ [v2] u1 [u2] Q I r1 rv2' ⟨a, vs, v2, j, z, rfl, rfl, hK ▸ ha, flat_v dv2 f1, flats_v da f2, z1, z2, z3, fin_ok hf st (intv _)⟩
    · have ej3 : (pds xs).findIdx? (fun z => PyData.eqv z d.pd) = some j := by
        have gen : ∀ (xs : List D) (j : Nat), xs.findIdx? (fun z => z.eqv d) = some j → (pds xs).findIdx? (fun z => PyData.eqv z d.pd) = some j := by
          intro xs
          induction xs with
          | nil => intro j e; simp at e
          | cons y ys ih =>
            intro j e
            rw [pds, List.findIdx?_cons]
            rw [List.findIdx?_cons] at e
            by_cases hp : y.eqv d = true
            · rw [if_pos hp] at e
              rw [if_pos (show PyData.eqv y.pd d.pd = true from hp)]; exact e
            · rw [if_neg hp] at e
              rw [if_neg (show ¬ PyData.eqv y.pd d.pd = true from hp)]
              obtain ⟨i, e1, e2⟩ := map_some_of e
              rw [ih i e1]; simp [e2]
        exact gen xs j ej
      obtain ⟨z, z1, z2, z3⟩ := findIdx_get ej3
      exact mt_indexD hu pins s σ H2 _ [v2] u1 [u2] Q I r1 rv2' ⟨a, v2, d.pd, pds xs, j, z, rfl, rfl, hK ▸ .lst ha (da.dp (shps_pure h2)), hK ▸ DV.dp dv2 (shp_pure h1), shaped_list h2, shaped_of h1, z1, z2, z3, fin_ok hf st (intv _)⟩
  · -- index of a tuple
    split at hf <;> try exact hf.elim
    rename_i xs e1
    split at hf <;> try exact hf.elim
    rename_i ho
    split at hf <;> try exact hf.elim
    rename_i j ej
    obtain ⟨a, vs, rfl, ha, da⟩ := tup_at rv1 e1
    rw [Bool.and_eq_true] at ho
    obtain ⟨f1, f2⟩ := ho
    have ej2 := findIdx_dvs (p := fun z => eqV z v2) da (fun d' v' hd hv => eqV_eqv (List.all_eq_true.mp f2 d' hd) f1 hv dv2) ej
    obtain ⟨z, z1, z2, z3⟩ := findIdx_get ej2
    obtain rfl : u1 = Value.ref a := r1
    exact idx_pl I (hK ▸ ha.sq) r2 (flat_v dv2 f1) (flats_v da f2) z1 z2 z3 (fin_ok hf st (intv _))
  · -- count
    split at hf <;> try exact hf.elim
    rename_i is i e1
    cases e2 : lstv x S2 with
    | none => rw [e2] at e1; cases e1
    | some xs =>
      rw [e2] at e1
      obtain ⟨a, vs, rfl, ha, da⟩ := lst_at st.sr rv1 e2
      rw [da.ints e1] at ha
      cases dv2
      exact mt_lcount pins s σ H2 _ [_] u1 [u2] Q I r1 rv2' ⟨a, is, i, rfl, rfl, hK ▸ ha, fin_ok hf st (intv _)⟩
  · -- get
    split at hf <;> try exact hf.elim
    rename_i kvs kk e1 e2
    obtain ⟨a, us, rfl, ha, da⟩ := dic_at st.sr rv1 e1
    obtain rfl : u1 = Value.ref a := r1
    obtain rfl := key_v dv2 e2
    have g : DGet H2 a (kV kk) (valV us kk) := .inl ⟨us, kk, ha, rfl, rfl⟩
    refine d_get1 (by omega) I g r2 fun w' s' I' rw' => ⟨_, H2, I', rw', fin_ok hf st ?_⟩
    have hv := da.val kk
    revert hv
    cases aval kvs kk with
    | none => cases valV us kk with
      | none => exact fun _ => show DV F.K w2 H2 _ _ from .non
      | some v => exact fun hv => hv.elim
    | some d' => cases valV us kk with
      | none => exact fun hv => hv.elim
      | some v => exact fun hv => hv
  · -- pop
    split at hf <;> try exact hf.elim
    rename_i r i
    split at hf <;> try exact hf.elim
    rename_i xs e1
    split at hf <;> try exact hf.elim
    rename_i kk ek
    split at hf <;> try exact hf.elim
    rename_i z ez
    split at hf <;> try exact hf.elim
    rename_i hb
    obtain ⟨a, o, rfl, e3, e4, e5⟩ := ref_at st.sr rv1 e1
    cases e5 with
    | lst t =>
      rename_i vs
      obtain ⟨v, e6, dv⟩ := t.get ez
      obtain ⟨st3, ext⟩ := write_lst hS st e3 e1 e4 (t.eraseIdx kk)
      cases dv2
      exact mt_popAt pins s σ H2 _ [_] u1 [u2] Q I r1 rv2' ⟨a, vs, i, kk, v, rfl, rfl, e4, hb.1, hb.2, by rw [← t.length]; exact ek, e6, fin_ok hf st3 (show RVr F.K w2 H _ (.d z) v from dv.mono (ext.plt st.sr) (ext.frl st.sr) fun _ _ q => q)⟩
theorem ext_ok (hK : X.K = F.K) {k : Knd} (hS : SR F.K F.tb w H S) (I : Inv X pins σ H2 s) (r1 : RelV v1 u1) (r2 : RelV v2 u2) (st : Step F.K F.tb w H w2 H2 S2) (rv1 : RVr F.K w2 H H2 x v1) (rv2 : RVr F.K w2 H H2 y v2) (hf : FinE F E (extR k x y S2) w H Q) :
    k = .lst ∧ wpAny (model X.prog X.w) X.A (call (.builtin "list.extend") [u1, u2]) (EP X pins σ Q) X.xe s := by
  unfold extR at hf
  split at hf <;> try exact hf.elim
  rename_i r
  refine ⟨rfl, ?_⟩
  split at hf <;> try exact hf.elim
  rename_i xs ys e1 e2
  split at hf <;> try exact hf.elim
  rename_i hz
  obtain ⟨a, o, rfl, e3, e4, e5⟩ := ref_at st.sr rv1 e1
  obtain ⟨b, us, rfl, hb, db⟩ := lstw_at st.sr rv2 e2
  cases e5 with
  | lst t =>
    rename_i vs
    obtain ⟨st3, ext⟩ := write_lst hS st e3 e1 e4 (t.append db)
    exact mt_extend pins s σ H2 _ [_] u1 [u2] Q I r1 (vals1' r2) ⟨a, b, vs, us, rfl, rfl, e4, hb, by rw [← t.length, ← db.length]; exact hz, fin_ok hf st3 (show RVr F.K w2 H _ (.d .non) .non from .non)⟩
theorem m2_ok (hu : X.A.units + 65 < cLine) {k : Knd} {m : Me} {d e : D} {v3 : V} {u3 : Value} (I : Inv X pins σ H2 s) (r1 : RelV v1 u1) (r2 : RelV v2 u2) (r3 : RelV v3 u3) (st : Step F.K F.tb w H w2 H2 S2) (rv1 : RVr F.K w2 H H2 x v1) (dv2 : DV F.K w2 H2 d v2) (dv3 : DV F.K w2 H2 e v3)
    (hf : FinE F E (m2R k m x d e S2) w H Q) : k = .dic ∧ m = .get ∧ wpAny (model X.prog X.w) X.A (call (.builtin "dict.get") [u1, u2, u3]) (EP X pins σ Q) X.xe s := by
  unfold m2R at hf
  split at hf <;> try exact hf.elim
  rename_i kvs kk e1 e2
  refine ⟨rfl, rfl, ?_⟩
  obtain ⟨a, us, rfl, ha, da⟩ := dic_at st.sr rv1 e1
  obtain rfl : u1 = Value.ref a := r1
  obtain rfl := key_v dv2 e2
  have g : DGet H2 a (kV kk) (valV us kk) := .inl ⟨us, kk, ha, rfl, rfl⟩
  refine d_get2 (by omega) I g r2 r3 fun w' s' I' rw' => ⟨_, H2, I', rw', fin_ok hf st ?_⟩
  have hv := da.val kk
  revert hv
  cases aval kvs kk with
  | none => cases valV us kk with
    | none => exact fun _ => dv3
    | some v => exact fun hv => hv.elim
  | some d' => cases valV us kk with
    | none => exact fun hv => hv.elim
    | some v => exact fun hv => hv
end
end CH
/-! CJ: comparisons and the rules for each piece of an expression. -/
namespace CH
open PySem PySem.Spec PyProof.Rows L2
section
variable {F : Fx} {E : XK} {X : Cx} {pins : List (Addr × PySem.Obj)} {s : Shared} {σ : L2.St} {H H2 : Hp} {w w2 : List Addr} {S S2 : Store} {x y : RV} {v1 v2 : V} {u1 u2 : Value} {Q : VK}
def copOf : Cop → CmpOp
  | .eq => .Eq | .ne => .NotEq | .lt => .Lt | .le => .LtE | .gt => .Gt | .ge => .GtE | .is => .Is | .isn => .IsNot | .mem => .In | .nmem => .NotIn
theorem is_ok (I : Inv X pins σ H2 s) (r1 : RelV v1 u1) (r2 : RelV v2 u2) (rv1 : RVr F.K w2 H H2 x v1) (rv2 : RVr F.K w2 H H2 y v2) {b : Bool} (hb : isR x y = some b) :
    (∀ Q : VK, Q (.bl b) H2 → wpAny (model X.prog X.w) X.A (compareOp .Is u1 u2) (EP X pins σ Q) X.xe s) ∧ (∀ Q : VK, Q (.bl (!b)) H2 → wpAny (model X.prog X.w) X.A (compareOp .IsNot u1 u2) (EP X pins σ Q) X.xe s) := by
  have other : plainIs u1 u2 = true → u1 ≠ u2 → b = false →
      (∀ Q : VK, Q (.bl b) H2 → wpAny (model X.prog X.w) X.A (compareOp .Is u1 u2) (EP X pins σ Q) X.xe s) ∧ (∀ Q : VK, Q (.bl (!b)) H2 → wpAny (model X.prog X.w) X.A (compareOp .IsNot u1 u2) (EP X pins σ Q) X.xe s) := fun h1 h2 h3 => by
    subst h3
    exact ⟨fun Q q => wpAny_is_other h1 h2 ⟨.bl false, H2, I, rfl, q⟩, fun Q q => wpAny_isNot_other h1 h2 ⟨.bl true, H2, I, rfl, q⟩⟩
  unfold isR at hb
  split at hb
  · cases hb
    obtain ⟨a, ho, rfl, e1, _⟩ := rv1
    obtain rfl := rv_non rv2
    exact ⟨fun Q q => op_isN pins s σ H2 _ _ u1 u2 Q I r1 r2 ⟨rfl, by simpa using q⟩, fun Q q => op_notN pins s σ H2 _ _ u1 u2 Q I r1 r2 ⟨rfl, by simpa using q⟩⟩
  · rename_i u
    obtain rfl := rv_non rv2
    have hb' := Option.some.inj hb
    have e : decide (v1 = .non) = b := by
      rw [← hb']
      have rv1 : DV F.K w2 H2 u v1 := rv1
      cases rv1 <;> simp
    exact ⟨fun Q q => op_isN pins s σ H2 _ _ u1 u2 Q I r1 r2 ⟨rfl, by rw [e]; exact q⟩, fun Q q => op_notN pins s σ H2 _ _ u1 u2 Q I r1 r2 ⟨rfl, by rw [e]; exact q⟩⟩
  · rename_i p q'
    obtain rfl := rv_bl rv1
    obtain rfl := rv_bl rv2
    have hb' := Option.some.inj hb
    have e : decide (p = q') = b := by rw [← hb', Bool.beq_eq_decide_eq]
    exact ⟨fun Q q => op_isBl pins s σ H2 _ _ u1 u2 Q I r1 r2 ⟨_, _, rfl, rfl, by rw [e]; exact q⟩, fun Q q => op_notBl pins s σ H2 _ _ u1 u2 Q I r1 r2 ⟨_, _, rfl, rfl, by rw [e]; exact q⟩⟩
  · cases hb
    obtain rfl := rv_int rv1
    obtain rfl := rv_bl rv2
    obtain ⟨t, rfl⟩ := r1
    obtain rfl : u2 = Value.bool _ := r2
    exact other (by rfl) (by intro z; cases z) rfl
  · cases hb
    obtain rfl := rv_non rv1
    obtain rfl := rv_bl rv2
    obtain rfl : u1 = Value.none := r1
    obtain rfl : u2 = Value.bool _ := r2
    exact other (by rfl) (by intro z; cases z) rfl
  · cases hb
    obtain ⟨a, vs, rfl, _⟩ := rv_tup rv1
    obtain rfl := rv_bl rv2
    obtain rfl : u1 = Value.ref a := r1
    obtain rfl : u2 = Value.bool _ := r2
    exact other (by rfl) (by intro z; cases z) rfl
  · cases hb
    obtain rfl := rv_str rv1
    obtain rfl := rv_bl rv2
    obtain ⟨t, rfl⟩ := r1
    obtain rfl : u2 = Value.bool _ := r2
    exact other (by rfl) (by intro z; cases z) rfl
  · cases hb
    have rv1 : DV F.K w2 H2 (.lst _) v1 := rv1
    cases rv1
    obtain rfl := rv_bl rv2
    obtain rfl : u1 = Value.ref _ := r1
    obtain rfl : u2 = Value.bool _ := r2
    exact other (by rfl) (by intro z; cases z) rfl
  · cases hb
theorem ltI_at {f : Int → Int → Bool} {b : Bool} (rv1 : RVr F.K w2 H H2 x v1) (rv2 : RVr F.K w2 H H2 y v2) (h : ltI f x y = some b) : ∃ i j, v1 = .int i ∧ v2 = .int j ∧ f i j = b := by
  unfold ltI at h
  split at h
  · exact ⟨_, _, rv_int rv1, rv_int rv2, Option.some.inj h⟩
  · cases h
theorem cmp_ok (hK : X.K = F.K) (hu : X.A.units + 65 < cLine) (o : Cop) (I : Inv X pins σ H2 s) (r1 : RelV v1 u1) (r2 : RelV v2 u2) (sr : SR F.K F.tb w2 H2 S2)
    (rv1 : RVr F.K w2 H H2 x v1) (rv2 : RVr F.K w2 H H2 y v2) {b : Bool} (hb : cmpR o x y S2 = some b) (q : Q (.bl b) H2) :
    wpAny (model X.prog X.w) X.A (compareOp (copOf o) u1 u2) (EP X pins σ Q) X.xe s := by
  cases o with
  | eq => exact (eq_ok hK (by omega) I r1 r2 sr rv1 rv2 hb).1 Q q
  | ne =>
    obtain ⟨c, hc, rfl⟩ := map_some_of hb
    exact (eq_ok hK (by omega) I r1 r2 sr rv1 rv2 hc).2 Q q
  | lt =>
    obtain ⟨i, j, rfl, rfl, e⟩ := ltI_at rv1 rv2 hb
    exact op_lt pins s σ H2 _ _ u1 u2 Q I r1 r2 ⟨i, j, rfl, rfl, by subst e; exact q⟩
  | le =>
    obtain ⟨i, j, rfl, rfl, e⟩ := ltI_at rv1 rv2 hb
    exact op_le pins s σ H2 _ _ u1 u2 Q I r1 r2 ⟨i, j, rfl, rfl, by subst e; exact q⟩
  | gt =>
    obtain ⟨i, j, rfl, rfl, e⟩ := ltI_at rv1 rv2 hb
    exact op_gt pins s σ H2 _ _ u1 u2 Q I r1 r2 ⟨i, j, rfl, rfl, by subst e; exact q⟩
  | ge =>
    obtain ⟨i, j, rfl, rfl, e⟩ := ltI_at rv1 rv2 hb
    exact op_ge pins s σ H2 _ _ u1 u2 Q I r1 r2 ⟨i, j, rfl, rfl, by subst e; exact q⟩
  | is => exact (is_ok I r1 r2 rv1 rv2 hb).1 Q q
  | isn =>
    obtain ⟨c, hc, rfl⟩ := map_some_of hb
    exact (is_ok I r1 r2 rv1 rv2 hc).2 Q q
  | mem => exact (mem_ok hK hu I r1 r2 sr rv1 rv2 hb).1 Q q
  | nmem =>
    obtain ⟨c, hc, rfl⟩ := map_some_of hb
    exact (mem_ok hK hu I r1 r2 sr rv1 rv2 hc).2 Q q
def tyN : Ty → String
  | .int => "int" | .bool => "bool" | .str => "str" | .tuple => "tuple" | .list => "list" | .dict => "dict"
theorem isi_ok (hK : X.K = F.K) (t : Ty) (I : Inv X pins σ H2 s) (r1 : RelV v1 u1) (sr : SR F.K F.tb w2 H2 S2) (rv1 : RVr F.K w2 H H2 x v1) {b : Bool} (hb : isiR x t S2 = some b) (q : Q (.bl b) H2) :
    wpAny (model X.prog X.w) X.A (call (.builtin "isinstance") [u1, .type (tyN t)]) (EP X pins σ Q) X.xe s := by
  have fin : ∀ tk, EP X pins σ Q (.bool b) { s with toks := tk } := fun tk => ⟨.bl b, H2, I.tok tk, rfl, q⟩
  unfold isiR at hb
  have flat : ∀ (d : D) (T : String), x = .d d → (∀ b', kitB T (tyN t) = some b' → b' = b → wpAny (model X.prog X.w) X.A (call (.builtin "isinstance") [u1, .type (tyN t)]) (EP X pins σ Q) X.xe s) → kitB T (tyN t) = some b →
      wpAny (model X.prog X.w) X.A (call (.builtin "isinstance") [u1, .type (tyN t)]) (EP X pins σ Q) X.xe s := fun d T _ h e => h b e rfl
  have tup : ∀ ds, x = .d (.tup ds) → kitB "tuple" (tyN t) = some b → wpAny (model X.prog X.w) X.A (call (.builtin "isinstance") [u1, .type (tyN t)]) (EP X pins σ Q) X.xe s := fun ds e hk => by
    subst e
    obtain ⟨a, vs, rfl, ha, _⟩ := rv_tup rv1
    obtain rfl : u1 = Value.ref a := r1
    obtain ⟨its, _, ⟨o, h1, h2, _⟩, _⟩ := I.tuple (hK ▸ ha)
    exact PySem.W.kia_one PySem.W.kitx_tuple I.kIn ⟨o, h1, h2⟩ (kit_ty hk) (fun z => nomatch z) fin
  have lst : ∀ ds, x = .d (.lst ds) → kitB "list" (tyN t) = some b → wpAny (model X.prog X.w) X.A (call (.builtin "isinstance") [u1, .type (tyN t)]) (EP X pins σ Q) X.xe s := fun ds e hk => by
    subst e
    have rv1 : DV F.K w2 H2 (.lst ds) v1 := rv1
    cases rv1 with
    | lst ha _ =>
      obtain rfl : u1 = Value.ref _ := r1
      obtain ⟨its, _, ⟨o, n, h1, h2, _⟩, _⟩ := I.list (hK ▸ ha.sq)
      exact PySem.W.kia_one PySem.W.kitx_list I.kIn ⟨o, h1, h2⟩ (kit_ty hk) (fun z => nomatch z) fin
  have bl : ∀ c, x = .d (.bl c) → kitB "bool" (tyN t) = some b → wpAny (model X.prog X.w) X.A (call (.builtin "isinstance") [u1, .type (tyN t)]) (EP X pins σ Q) X.xe s := fun c e hk => by
    subst e
    obtain rfl := rv_bl rv1
    obtain rfl : u1 = Value.bool c := r1
    exact PySem.W.kia_one PySem.W.kitx_bool I.kIn True.intro (kit_ty hk) (fun z => nomatch z) fin
  have int : ∀ c, x = .d (.int c) → kitB "int" (tyN t) = some b → wpAny (model X.prog X.w) X.A (call (.builtin "isinstance") [u1, .type (tyN t)]) (EP X pins σ Q) X.xe s := fun c e hk => by
    subst e
    obtain rfl := rv_int rv1
    obtain ⟨tk, rfl⟩ := r1
    exact PySem.W.kia_one PySem.W.kitx_int I.kIn True.intro (kit_ty hk) (fun z => nomatch z) fin
  have str : ∀ c, x = .d (.str c) → kitB "str" (tyN t) = some b → wpAny (model X.prog X.w) X.A (call (.builtin "isinstance") [u1, .type (tyN t)]) (EP X pins σ Q) X.xe s := fun c e hk => by
    subst e
    obtain rfl := rv_str rv1
    obtain ⟨tk, rfl⟩ := r1
    exact PySem.W.kia_one PySem.W.kitx_str I.kIn True.intro (kit_ty hk) (fun z => nomatch z) fin
  have non : x = .d .non → kitB "NoneType" (tyN t) = some b → wpAny (model X.prog X.w) X.A (call (.builtin "isinstance") [u1, .type (tyN t)]) (EP X pins σ Q) X.xe s := fun e hk => by
    subst e
    obtain rfl := rv_non rv1
    obtain rfl : u1 = Value.none := r1
    exact PySem.W.kia_one PySem.W.kitx_none I.kIn True.intro (kit_ty hk) (fun z => nomatch z) fin
  split at hb
  · cases hb; exact bl _ rfl (by decide +kernel)
  · cases hb; exact bl _ rfl (by decide +kernel)
  · cases hb; exact int _ rfl (by decide +kernel)
  · cases hb; exact str _ rfl (by decide +kernel)
  · cases hb; exact tup _ rfl (by decide +kernel)
  · cases hb; exact lst _ rfl (by decide +kernel)
  · cases hb
  · cases hb
    rename_i d n1 n2 n3 n4 n5 n6 n7
    cases d with
    | non => cases t <;> exact non rfl (by decide +kernel)
    | bl c =>
      cases t with
      | int => exact (by first | exact n1 _ rfl rfl | exact n2 _ rfl rfl | exact n3 _ rfl rfl | exact n4 _ rfl rfl | exact n5 _ rfl rfl | exact n6 _ rfl rfl | exact n7 _ rfl rfl : False).elim
      | bool => exact (by first | exact n1 _ rfl rfl | exact n2 _ rfl rfl | exact n3 _ rfl rfl | exact n4 _ rfl rfl | exact n5 _ rfl rfl | exact n6 _ rfl rfl | exact n7 _ rfl rfl : False).elim
      | str => exact bl c rfl (by decide +kernel)
      | tuple => exact bl c rfl (by decide +kernel)
      | list => exact bl c rfl (by decide +kernel)
      | dict => exact bl c rfl (by decide +kernel)
    | int c =>
      cases t with
      | int => exact (by first | exact n1 _ rfl rfl | exact n2 _ rfl rfl | exact n3 _ rfl rfl | exact n4 _ rfl rfl | exact n5 _ rfl rfl | exact n6 _ rfl rfl | exact n7 _ rfl rfl : False).elim
      | bool => exact int c rfl (by decide +kernel)
      | str => exact int c rfl (by decide +kernel)
      | tuple => exact int c rfl (by decide +kernel)
      | list => exact int c rfl (by decide +kernel)
      | dict => exact int c rfl (by decide +kernel)
    | str c =>
      cases t with
      | int => exact str c rfl (by decide +kernel)
      | bool => exact str c rfl (by decide +kernel)
      | str => exact (by first | exact n1 _ rfl rfl | exact n2 _ rfl rfl | exact n3 _ rfl rfl | exact n4 _ rfl rfl | exact n5 _ rfl rfl | exact n6 _ rfl rfl | exact n7 _ rfl rfl : False).elim
      | tuple => exact str c rfl (by decide +kernel)
      | list => exact str c rfl (by decide +kernel)
      | dict => exact str c rfl (by decide +kernel)
    | tup c =>
      cases t with
      | int => exact tup c rfl (by decide +kernel)
      | bool => exact tup c rfl (by decide +kernel)
      | str => exact tup c rfl (by decide +kernel)
      | tuple => exact (by first | exact n1 _ rfl rfl | exact n2 _ rfl rfl | exact n3 _ rfl rfl | exact n4 _ rfl rfl | exact n5 _ rfl rfl | exact n6 _ rfl rfl | exact n7 _ rfl rfl : False).elim
      | list => exact tup c rfl (by decide +kernel)
      | dict => exact tup c rfl (by decide +kernel)
    | lst c =>
      cases t with
      | int => exact lst c rfl (by decide +kernel)
      | bool => exact lst c rfl (by decide +kernel)
      | str => exact lst c rfl (by decide +kernel)
      | tuple => exact lst c rfl (by decide +kernel)
      | list => exact (by first | exact n1 _ rfl rfl | exact n2 _ rfl rfl | exact n3 _ rfl rfl | exact n4 _ rfl rfl | exact n5 _ rfl rfl | exact n6 _ rfl rfl | exact n7 _ rfl rfl : False).elim
      | dict => exact lst c rfl (by decide +kernel)
    | ref c => exact (by first | exact n1 _ rfl | exact n2 _ rfl | exact n7 _ rfl : False).elim
  · cases hb
end
end CH
/-! CK: the rules for each piece of an expression. -/
namespace CH
open PySem PySem.Spec PyProof.Rows L2
/-! ### what must be seen of the text -/
def notStar : Expr → Bool
  | .Starred _ _ => false
  | _ => true
theorem star_cons {e : Expr} (h : notStar e = true) (es : List Expr) (env : PySem.Env) : starEach (e :: es) env = (false, eval e env) :: starEach es env := by
  cases e <;> first | rfl | cases h
theorem star_plain : ∀ {es : List Expr} (env : PySem.Env) (pos : Pos), es.all notStar = true → (backTo pos (starEach es env)).any (·.1) = false
  | [], _, _, _ => rfl
  | e :: es, env, pos, h => by
    rw [List.all_cons, Bool.and_eq_true] at h
    rw [star_cons h.1]
    have ih := star_plain (es := es) env pos h.2
    show (false || (backTo pos (starEach es env)).any (·.1)) = false
    rw [ih]; rfl
def baseOk : Expr → Bool
  | .Call (.Name id _) [] [] _ => id != ("super" : Str)
  | _ => true
theorem base_ok {o : Expr} (h : baseOk o = true) (m : Str) (env : PySem.Env) : attributeBase o m env (eval o env) = eval o env := by
  unfold attributeBase
  split
  · rename_i id p pos
    have h' : (id != ("super" : Str)) = true := h
    rw [if_pos (by rw [h']; simp)]
  · rfl
section
variable {F : Fx} {E : XK} {X : Cx} {a b c e o : Expr} {es : List Expr} {fa fb fc : Env → Store → R RV} {fs : Env → Store → R (List D)} {pos : Pos}
/-! ### names, constants -/
theorem snd_var {i : Nat} {x : Str} (hN : X.N[i]? = some x) (hv : Vis X.env.scope x) (hd : (x == ("__debug__" : Str)) = false) (hcd : (x == ("__classdict__" : Str)) = false) :
    PE X (.Name x pos) (TX F E fun ρ S => match ρ[i]? with
      | some (some d) => .ok (.d d) S
      | _ => .bad) := by
  refine ⟨fun pins s σ H Q I h => ?_⟩
  obtain ⟨w, ρ, S, hS, hE, hf⟩ := h
  dsimp only at hf
  split at hf
  · rename_i d e1
    obtain ⟨v, e2, dv⟩ := hE.at_ i d e1
    exact (pe_var (i := i) hN hv hd hcd).run pins s σ H Q I ⟨v, e2, fin_ok hf (Step.refl hS) (show RVr F.K w H H (.d d) v from dv)⟩
  · exact hf.elim
theorem snd_con {d : D} {v : V} (h : PE X e (tC v)) (hv : ∀ w H, DV F.K w H d v) : PE X e (TX F E fun _ S => .ok (.d d) S) := by
  refine ⟨fun pins s σ H Q I ⟨w, ρ, S, hS, hE, hf⟩ => ?_⟩
  exact h.run pins s σ H Q I (fin_ok hf (Step.refl hS) (show RVr F.K w H H (.d d) v from hv w H))
/-! ### argument lists -/
theorem snd_nil : PA X [] (TAX F E fun _ S => .ok [] S) := by
  refine ⟨fun pos pins s σ H Q I ⟨w, ρ, S, hS, hE, hf⟩ => ?_⟩
  exact Calls.spliced_nil ⟨[], H, I, .nil, hf w H [] (Step.refl hS) .nil⟩
theorem snd_cons (ha : PE X a (TX F E fa)) (hr : PA X es (TAX F E fs)) (hs : notStar a = true) :
    PA X (a :: es) (TAX F E fun ρ S => (matB (fa ρ S)).bind fun d S => (fs ρ S).bind fun ds S => .ok (d :: ds) S) := by
  refine ⟨fun pos pins s σ H Q I ⟨w, ρ, S, hS, hE, hf⟩ => ?_⟩
  rw [star_cons hs]
  show wpAny _ _ (spliced ((false, eval a X.env) :: backTo pos (starEach es X.env))) _ _ s
  refine Calls.spliced_cons (goM ha I hS (Step.refl hS) hE (finA_iff.mp hf).bind fun u s1 v H1 d S1 w1 I1 r1 st1 _ dv k1 => ?_)
  refine thn (hr.run pos pins s1 σ H1 _ I1 ⟨w1, ρ, S1, st1.sr, hE.step hS st1, k1.bind.toA hS st1⟩) fun us s2 ⟨vs, H2, I2, r2, ds, S2, w2, _, st2, st12, dvs, k2⟩ => ?_
  exact ⟨v :: vs, H2, I2, .cons r1 r2, k2 w2 H2 (v :: vs) st2 (.cons (dv.step st1.sr st12) dvs)⟩
theorem snd_tup {k : Nat} (h : PA X es (TAX F E fs)) (hl : ∀ ρ S ds S', fs ρ S = .ok ds S' → ds.length ≤ sizeLine) : PE X (.Tuple es k pos) (TX F E fun ρ S => (fs ρ S).bind fun ds S => .ok (.d (.tup ds)) S) := by
  refine ⟨fun pins s σ H Q I ⟨w, ρ, S, hS, hE, hf⟩ => ?_⟩
  refine (tup_pl h).run pins s σ H Q I ⟨w, ρ, S, hS, hE, ?_⟩
  refine finA_iff.mpr ((finE_iff.mp hf).bind.mono fun ds S1 e1 k1 w1 H1 vs st dv => ⟨by rw [← dv.length]; exact hl _ _ _ _ e1, fun p ob ho hp => ?_⟩)
  obtain ⟨st3, rv3⟩ := new_tup hS st ho hp dv
  exact k1 _ _ _ st3 rv3
theorem snd_lst (h : PA X es (TAX F E fs)) (hl : ∀ ρ S ds S', fs ρ S = .ok ds S' → ds.length ≤ sizeLine) : PE X (.List es pos) (TX F E fun ρ S => (fs ρ S).bind fun ds S => .ok (.o (.lst ds)) S) := by
  refine ⟨fun pins s σ H Q I ⟨w, ρ, S, hS, hE, hf⟩ => ?_⟩
  refine (pe_lst h).run pins s σ H Q I ⟨w, ρ, S, hS, hE, ?_⟩
  refine finA_iff.mpr ((finE_iff.mp hf).bind.mono fun ds S1 e1 k1 w1 H1 vs st dv => ⟨by rw [← dv.length]; exact hl _ _ _ _ e1, fun p hp => ?_⟩)
  obtain ⟨st3, rv3⟩ := new_lst hS st hp dv
  exact k1 _ _ _ st3 rv3
theorem snd_dnew : PE X (.Dict [] [] pos) (TX F E fun _ S => .ok (.o (.dic [])) S) := by
  refine ⟨fun pins s σ H Q I ⟨w, ρ, S, hS, hE, hf⟩ => ?_⟩
  refine pe_dnewK.run pins s σ H Q I fun p hp => ?_
  exact hf w _ _ ((Step.refl hS).fresh hS hp) ⟨p, _, rfl, upd_same, .dic ⟨rfl, .nil⟩, not_mem_new hS hp, hp, fun c z => by cases z⟩
/-! ### operators -/
theorem snd_bin (hK : X.K = F.K) (o : Bop) (ha : PE X a (TX F E fa)) (hb : PE X b (TX F E fb)) :
    PE X (.BinOp a (opOf o) b pos) (TX F E fun ρ S => (fa ρ S).bind fun x S => (fb ρ S).bind fun y S => binR o x y S) := by
  refine ⟨fun pins s σ H Q I ⟨w, ρ, S, hS, hE, hf⟩ => ?_⟩
  refine wpAny_BinOp (go ha I hS (Step.refl hS) hE (finE_iff.mp hf).bind fun u1 s1 v1 H1 x S1 w1 _ I1 r1 st1 _ rv1 k1 => ?_)
  refine go hb I1 hS st1 (hE.step hS st1) k1.bind fun u2 s2 v2 H2 y S2 w2 _ I2 r2 st2 st12 rv2 k2 => ?_
  exact bin_ok hK o hS I2 r1 r2 st2 (rv1.step st1.sr st12) rv2 (finE_iff.mpr k2)
theorem snd_neg (ha : PE X a (TX F E fa)) : PE X (.UnaryOp .USub a pos) (TX F E fun ρ S => (fa ρ S).bind fun x S => match x with
    | .d (.int i) => .ok (.d (.int (-i))) S
    | _ => .bad) := by
  refine ⟨fun pins s σ H Q I ⟨w, ρ, S, hS, hE, hf⟩ => ?_⟩
  refine (pe_un un_neg ha).run pins s σ H Q I ⟨w, ρ, S, hS, hE, ?_⟩
  refine finE_iff.mpr ((finE_iff.mp hf).bind.mono fun x S1 e1 k1 w1 H1 v st rv => ?_)
  split at k1
  · obtain rfl := rv_int rv
    exact ⟨_, rfl, k1 w1 H1 _ st (show RVr F.K w1 H H1 _ _ from .int _)⟩
  · exact k1.elim
theorem snd_cmp (hK : X.K = F.K) (hu : X.A.units + 65 < cLine) (o : Cop) (ha : PE X a (TX F E fa)) (hb : PE X b (TX F E fb)) (hm : behindInMarks (copOf o) b = false) :
    PE X (.Compare a [copOf o] [b] pos) (TX F E fun ρ S => (fa ρ S).bind fun x S => (fb ρ S).bind fun y S => R.of ((cmpR o x y S).map fun k => .d (.bl k)) S) := by
  refine ⟨fun pins s σ H Q I ⟨w, ρ, S, hS, hE, hf⟩ => ?_⟩
  refine wpAny_Compare1 (go ha I hS (Step.refl hS) hE (finE_iff.mp hf).bind fun u1 s1 v1 H1 x S1 w1 _ I1 r1 st1 _ rv1 k1 => ?_) hm
  refine go hb I1 hS st1 (hE.step hS st1) k1.bind fun u2 s2 v2 H2 y S2 w2 _ I2 r2 st2 st12 rv2 k2 => ?_
  obtain ⟨z, hz, k3⟩ := k2.of
  obtain ⟨k, hk, rfl⟩ := map_some_of hz
  exact cmp_ok hK hu o I2 r1 r2 st2.sr (rv1.step st1.sr st12) rv2 hk (k3 w2 H2 _ st2 (show RVr F.K w2 H H2 _ _ from .bl k))
theorem snd_idx (hK : X.K = F.K) (hu : X.A.units + 1 < cLine) (ha : PE X a (TX F E fa)) (hb : PE X b (TX F E fb)) (hs : PlainIx b) :
    PE X (.Subscript a b pos) (TX F E fun ρ S => (fa ρ S).bind fun x S => (fb ρ S).bind fun y S => R.of (idxR x y S) S) := by
  refine ⟨fun pins s σ H Q I ⟨w, ρ, S, hS, hE, hf⟩ => ?_⟩
  refine Subscript_ (go ha I hS (Step.refl hS) hE (finE_iff.mp hf).bind fun u1 s1 v1 H1 x S1 w1 _ I1 r1 st1 _ rv1 k1 => ?_)
  refine go hb I1 hS st1 (hE.step hS st1) k1.bind fun u2 s2 v2 H2 y S2 w2 _ I2 r2 st2 st12 rv2 k2 => ?_
  obtain ⟨z, hz, k3⟩ := k2.of
  exact idx_ok hK hu a b I2 r1 r2 st2.sr (rv1.step st1.sr st12) rv2 hz (hs _ _) fun v rv => k3 w2 H2 v st2 rv
/-- a part of a slice -/
theorem part_con {w2 : List Addr} {H H2 : Hp} {x : RV} {v : V} {o : Option Int} (rv : RVr F.K w2 H H2 x v) (h : partD x = some o) : (o = none ∧ v = .non) ∨ ∃ i, o = some i ∧ v = .int i := by
  unfold partD at h
  split at h
  · cases h; exact .inl ⟨rfl, rv_non rv⟩
  · cases h; exact .inr ⟨_, rfl, rv_int rv⟩
  · cases h
/-- a lower or an upper end, left out or an expression -/
def SndP (X : Cx) (F : Fx) (E : XK) (e : Option Expr) (f : Env → Store → R RV) : Prop :=
  (e = none ∧ f = fun _ S => .ok (.d .non) S) ∨ ∃ e', e = some e' ∧ PE X e' (TX F E f)
theorem goP {o : Option Expr} {f : Env → Store → R RV} (h : SndP X F E o f) {k : Option Int → Store → Prop} {Post : Value → Shared → Prop} {pins : List (Addr × PySem.Obj)} {s : Shared} {σ : L2.St} {H H1 : Hp} {w w1 : List Addr} {ρ : Env} {S S1 : Store}
    (I : Inv X pins σ H1 s) (hS : SR F.K F.tb w H S) (st : Step F.K F.tb w H w1 H1 S1) (hE : ER F.K w1 H1 ρ σ) (hf : FinG F E ((f ρ S1).bind fun y S => R.of (partD y) S) w H k)
    (hQ : ∀ u s' H2 S2 w2 l, Inv X pins σ H2 s' → IsPart u l → Step F.K F.tb w H w2 H2 S2 → Step F.K F.tb w1 H1 w2 H2 S2 → k l S2 → Post u s') :
    wpAny (model X.prog X.w) X.A (evalPart o X.env) Post X.xe s := by
  rcases h with ⟨rfl, rfl⟩ | ⟨e', rfl, he⟩
  · rw [evalPart_none]
    exact wpAny_pure (hQ _ _ _ _ _ none I .none st (Step.refl st.sr) hf)
  · rw [evalPart_some]
    refine go he I hS st hE hf.bind fun u s' v H2 x S2 w2 _ I2 r2 st2 st12 rv2 k2 => ?_
    obtain ⟨l, hl, k3⟩ := k2.of
    rcases part_con rv2 hl with ⟨rfl, rfl⟩ | ⟨i, rfl, rfl⟩
    · obtain rfl : u = Value.none := r2
      exact hQ _ _ _ _ _ none I2 .none st2 st12 k3
    · obtain ⟨t, rfl⟩ := r2
      exact hQ _ _ _ _ _ (some i) I2 (.int i t) st2 st12 k3
theorem FinG.assoc {α β γ : Type} {r : R α} {f : α → Store → R β} {g : β → Store → R γ} {w : List Addr} {H : Hp} {k : γ → Store → Prop} (h : FinG F E (r.bind fun a S => (f a S).bind g) w H k) : FinG F E ((r.bind f).bind g) w H k := by
  cases r <;> exact h
theorem snd_slc (hK : X.K = F.K) {lo hi : Option Expr} {fl fh : Env → Store → R RV} {p2 : Pos} (ha : PE X a (TX F E fa)) (hl : SndP X F E lo fl) (hh : SndP X F E hi fh) :
    PE X (.Subscript a (.Slice lo hi none p2) pos) (TX F E fun ρ S => (fa ρ S).bind fun x S => (fl ρ S).bind fun y S => (R.of (partD y) S).bind fun lo S => (fh ρ S).bind fun z S => (R.of (partD z) S).bind fun hi S => R.of (slcR x lo hi S) S) := by
  refine ⟨fun pins s σ H Q I ⟨w, ρ, S, hS, hE, hf⟩ => ?_⟩
  refine Subscript_ (go ha I hS (Step.refl hS) hE (finE_iff.mp hf).bind fun u1 s1 v1 H1 x S1 w1 _ I1 r1 st1 _ rv1 k1 => ?_)
  refine wpAny_Slice (goP hl I1 hS st1 (hE.step hS st1) k1.assoc.bind fun vl s2 H2 S2 w2 l I2 pl st2 st12 k2 => ?_)
  refine goP hh I2 hS st2 (hE.step hS st2) k2.assoc.bind fun vu s3 H3 S3 w3 u I3 pu st3 st23 k3 => ?_
  rw [evalPart_none]
  refine wpAny_pure ?_
  have I4 : Inv X pins σ H3 { s3 with heap := s3.heap.push { cls := .type "slice", data := .fields #[vl, vu, .none] } } := I3.kept (t' := s3.toks) fun b ob q => Heap.get?_push_of_some _ q
  obtain ⟨z, hz, k4⟩ := k3.of
  have rv3 := (rv1.step st1.sr st12).step st2.sr st23
  have hr : ∃ T id, typeLookup (.type T) "__getitem__" = pure (some (.builtin id)) ∧ ({ s3 with heap := s3.heap.push { cls := .type "slice", data := .fields #[vl, vu, .none] } } : Shared).TypeIs u1 T ∧
      wpAny (model X.prog X.w) X.A (getItem u1 (.ref s3.heap.objs.size)) (EP X pins σ Q) X.xe { s3 with heap := s3.heap.push { cls := .type "slice", data := .fields #[vl, vu, .none] } } := by
    rcases slc_ok hK hS st3 rv3 hz k4 with h | h
    · exact slc_pl pins _ σ H3 v1 u1 vl vu l u s3.heap.objs.size Q I4 r1 (Heap.IsSliceOf.new ..) pl pu (hK ▸ h)
    · exact sl_list pins _ σ H3 v1 u1 vl vu l u s3.heap.objs.size Q I4 r1 (Heap.IsSliceOf.new ..) pl pu (hK ▸ h)
  obtain ⟨T, id, hT, ht, hg⟩ := hr
  show wpAny (model X.prog X.w) X.A (subscriptTail a (.Slice lo hi none p2) u1 (.ref s3.heap.objs.size)) (EP X pins σ Q) X.xe { s3 with heap := s3.heap.push { cls := .type "slice", data := .fields #[vl, vu, .none] } }
  exact tail_any (ops := [.ref s3.heap.objs.size, u1]) ht hT hg (by with_unfolding_all rfl)
end
end CH
/-! CL: tests, truth, calls. -/
namespace CH
open PySem PySem.Spec PyProof.Rows L2
theorem PT.imp {X : Cx} {e : Expr} {t t' : TT} (h : PT X e t) (hi : ∀ σ H Q, t' σ H Q → t σ H Q) : PT X e t' := ⟨fun pins s σ H Q I q => h.run pins s σ H Q I (hi σ H Q q)⟩
theorem PW.imp {X : Cx} {e : Expr} {t t' : TT} (h : PW X e t) (hi : ∀ σ H Q, t' σ H Q → t σ H Q) : PW X e t' := ⟨fun wh pins s σ H Q I q => h.run wh pins s σ H Q I (hi σ H Q q)⟩
theorem PE.imp {X : Cx} {e : Expr} {t t' : TE} (h : PE X e t) (hi : ∀ σ H Q, t' σ H Q → t σ H Q) : PE X e t' := ⟨fun pins s σ H Q I q => h.run pins s σ H Q I (hi σ H Q q)⟩
/-- a test whose truth is its value's -/
def plainT : Expr → Bool
  | .UnaryOp .Not _ _ => false
  | .BoolOp _ _ _ => false
  | .IfExp _ _ _ _ => false
  | .Compare _ _ _ _ => false
  | _ => true
theorem plain_isTrue {e : Expr} (h : plainT e = true) (env : PySem.Env) (whole : Sem Value) : isTrue e env whole = (do let v ← whole; standAt e.pos; holding [v] (truthy v)) := by
  cases e with
  | UnaryOp op x p => cases op <;> first | rfl | cases h
  | BoolOp _ _ _ => cases h
  | IfExp _ _ _ _ => cases h
  | Compare _ _ _ _ => cases h
  | _ => rfl
section
variable {F : Fx} {E : XK} {X : Cx} {a b c e o : Expr} {es rest : List Expr} {fa fb fc : Env → Store → R RV} {ga gb : Env → Store → R Bool} {fs : Env → Store → R (List D)} {pos : Pos}
/-! ### tests -/
theorem snd_tex (hK : X.K = F.K) (h : PE X e (TX F E fa)) (hp : plainT e = true) : PT X e (TTX F E fun ρ S => (fa ρ S).bind fun x S => R.of (truth x S) S) := by
  refine ⟨fun pins s σ H Q I ⟨w, ρ, S, hS, hE, hf⟩ => ?_⟩
  refine isTrue_plain (go h I hS (Step.refl hS) hE (finB_iff.mp hf).bind fun u s1 v H1 x S1 w1 _ I1 r1 st1 _ rv1 k1 => ?_) (plain_isTrue hp _ _)
  obtain ⟨k, hk, k2⟩ := k1.of
  exact truth_ok hK I1 r1 st1.sr rv1 hk (k2 w1 H1 st1)
theorem snd_tcmp (hK : X.K = F.K) (hu : X.A.units + 65 < cLine) (o : Cop) (ha : PE X a (TX F E fa)) (hb : PE X b (TX F E fb)) (hm : behindInMarks (copOf o) b = false) :
    PT X (.Compare a [copOf o] [b] pos) (TTX F E fun ρ S => ((fa ρ S).bind fun x S => (fb ρ S).bind fun y S => R.of ((cmpR o x y S).map fun k => .d (.bl k)) S).bind fun x S => R.of (truth x S) S) := by
  refine ⟨fun pins s σ H Q I ⟨w, ρ, S, hS, hE, hf⟩ => ?_⟩
  refine wpAny_isTrue_Compare1 (go ha I hS (Step.refl hS) hE (finB_iff.mp hf).bind.bind fun u1 s1 v1 H1 x S1 w1 _ I1 r1 st1 _ rv1 k1 => ?_) hm
  refine go hb I1 hS st1 (hE.step hS st1) k1.bind fun u2 s2 v2 H2 y S2 w2 _ I2 r2 st2 st12 rv2 k2 => ?_
  obtain ⟨z, hz, k3⟩ := k2.of
  obtain ⟨k, hk, rfl⟩ := map_some_of hz
  have k3 : ∀ w' H', Step F.K F.tb w H w' H' S2 → Q k H' := k3
  refine thn (cmp_ok (Q := fun v H' => v = .bl k ∧ Q k H') hK hu o I2 r1 r2 st2.sr (rv1.step st1.sr st12) rv2 hk ⟨rfl, k3 w2 H2 st2⟩) fun u3 s3 ⟨v3, H3, I3, r3, e3, q3⟩ => ?_
  subst e3
  obtain rfl : u3 = Value.bool k := r3
  exact wpAny_truthy_bool ⟨H3, I3, q3⟩
theorem snd_chn (hK : X.K = F.K) (hu : X.A.units + 65 < cLine) (o p : Cop) (ha : PE X a (TX F E fa)) (hb : PE X b (TX F E fb)) (hc : PE X c (TX F E fc)) (hm : lastMarks [copOf o, copOf p] [b, c] = false) :
    PE X (.Compare a [copOf o, copOf p] [b, c] pos) (TX F E fun ρ S => (fa ρ S).bind fun x S => (fb ρ S).bind fun y S => (R.of (cmpR o x y S) S).bind fun k S =>
      if k = true then (fc ρ S).bind fun z S => R.of ((cmpR p y z S).map fun k => .d (.bl k)) S else .ok (.d (.bl false)) S) := by
  refine ⟨fun pins s σ H Q I ⟨w, ρ, S, hS, hE, hf⟩ => ?_⟩
  refine Compare_chain (go ha I hS (Step.refl hS) hE (finE_iff.mp hf).bind fun u1 s1 v1 H1 x S1 w1 _ I1 r1 st1 _ rv1 k1 => chain_link (go hb I1 hS st1 (hE.step hS st1) k1.bind fun u2 s2 v2 H2 y S2 w2 _ I2 r2 st2 st12 rv2 k2 => ?_)) hm
  obtain ⟨k, hk, k3⟩ := k2.bind.of
  refine thn (cmp_ok (Q := fun v H' => v = .bl k ∧ H' = H2) hK hu o I2 r1 r2 st2.sr (rv1.step st1.sr st12) rv2 hk ⟨rfl, rfl⟩) fun u3 s3 ⟨v3, H3, I3, r3, e3, e4⟩ => ?_
  subst e3 e4
  obtain rfl : u3 = Value.bool k := r3
  refine wpAny_truthy_bool ?_
  cases k with
  | false => exact ite_ff ⟨.bl false, H3, I3, rfl, k3 w2 H3 _ st2 (show RVr F.K w2 H H3 _ _ from .bl false)⟩
  | true =>
    refine ite_tt (chain_last (go hc I3 hS st2 (hE.step hS st2) k3.bind fun u4 s4 v4 H4 z S4 w4 _ I4 r4 st4 st24 rv4 k4 => ?_))
    obtain ⟨z', hz, k5⟩ := k4.of
    obtain ⟨m, hm', rfl⟩ := map_some_of hz
    exact cmp_ok hK hu p I4 r2 r4 st4.sr (rv2.step st2.sr st24) rv4 hm' (k5 w4 H4 _ st4 (show RVr F.K w4 H H4 _ _ from .bl m))
theorem snd_tchn (hK : X.K = F.K) (hu : X.A.units + 65 < cLine) (o p : Cop) (ha : PE X a (TX F E fa)) (hb : PE X b (TX F E fb)) (hc : PE X c (TX F E fc)) (hm : lastMarks [copOf o, copOf p] [b, c] = false) :
    PT X (.Compare a [copOf o, copOf p] [b, c] pos) (TTX F E fun ρ S => ((fa ρ S).bind fun x S => (fb ρ S).bind fun y S => (R.of (cmpR o x y S) S).bind fun k S =>
      if k = true then (fc ρ S).bind fun z S => R.of ((cmpR p y z S).map fun k => .d (.bl k)) S else .ok (.d (.bl false)) S).bind fun x S => R.of (truth x S) S) := by
  refine ⟨fun pins s σ H Q I ⟨w, ρ, S, hS, hE, hf⟩ => ?_⟩
  refine isTrue_chain (go ha I hS (Step.refl hS) hE (finB_iff.mp hf).bind.bind fun u1 s1 v1 H1 x S1 w1 _ I1 r1 st1 _ rv1 k1 => test_link (go hb I1 hS st1 (hE.step hS st1) k1.bind fun u2 s2 v2 H2 y S2 w2 _ I2 r2 st2 st12 rv2 k2 => ?_)) hm
  obtain ⟨k, hk, k3⟩ := k2.bind.of
  refine thn (cmp_ok (Q := fun v H' => v = .bl k ∧ H' = H2) hK hu o I2 r1 r2 st2.sr (rv1.step st1.sr st12) rv2 hk ⟨rfl, rfl⟩) fun u3 s3 ⟨v3, H3, I3, r3, e3, e4⟩ => ?_
  subst e3 e4
  obtain rfl : u3 = Value.bool k := r3
  refine wpAny_truthy_bool ?_
  cases k with
  | false => exact ite_ff ⟨H3, I3, (show ∀ w' H', Step F.K F.tb w H w' H' S2 → Q false H' from k3) w2 H3 st2⟩
  | true =>
    refine ite_tt (test_last (go hc I3 hS st2 (hE.step hS st2) k3.bind fun u4 s4 v4 H4 z S4 w4 _ I4 r4 st4 st24 rv4 k4 => ?_))
    obtain ⟨z', hz, k5⟩ := k4.of
    obtain ⟨m, hm', rfl⟩ := map_some_of hz
    have k5 : ∀ w' H', Step F.K F.tb w H w' H' S4 → Q m H' := k5
    refine thn (cmp_ok (Q := fun v H' => v = .bl m ∧ Q m H') hK hu p I4 r2 r4 st4.sr (rv2.step st2.sr st24) rv4 hm' ⟨rfl, k5 w4 H4 st4⟩) fun u5 s5 ⟨v5, H5, I5, r5, e5, q5⟩ => ?_
    subst e5
    obtain rfl : u5 = Value.bool m := r5
    exact wpAny_truthy_bool ⟨H5, I5, q5⟩
theorem snd_tnot (ha : PT X a (TTX F E ga)) : PT X (.UnaryOp .Not a pos) (TTX F E fun ρ S => (ga ρ S).bind fun k S => .ok (!k) S) :=
  PT.imp (pt_not ha) fun σ H Q ⟨w, ρ, S, hS, hE, hf⟩ => ⟨w, ρ, S, hS, hE, finB_iff.mpr ((finB_iff.mp hf).bind.mono fun b S1 e1 k1 w1 H1 st => k1 w1 H1 st)⟩
theorem snd_tand (ha : PT X a (TTX F E ga)) (hb : PW X (.BoolOp .And (b :: rest) pos) (TTX F E gb)) : PW X (.BoolOp .And (a :: b :: rest) pos) (TTX F E fun ρ S => (ga ρ S).bind fun k S => if k = true then gb ρ S else .ok false S) :=
  PW.imp (pw_and ha hb) fun σ H Q ⟨w, ρ, S, hS, hE, hf⟩ => ⟨w, ρ, S, hS, hE, finB_iff.mpr ((finB_iff.mp hf).bind.mono fun k S1 e1 k1 w1 H1 st => by
    cases k with
    | false => exact (show ∀ w' H', Step F.K F.tb w H w' H' S1 → Q false H' from k1) w1 H1 st
    | true =>
      refine ⟨w1, ρ, S1, st.sr, hE.step hS st, ?_⟩
      have k1 : FinG F E (gb ρ S1) w H fun b S' => ∀ w' H', Step F.K F.tb w H w' H' S' → Q b H' := k1
      have := k1.toB hS st
      revert this
      cases gb ρ S1 with
      | ok b S2 => exact fun h w2 H2 st2 => (h w2 H2 st2).elim fun S3 ⟨w3, e, s1, _, hk⟩ => hk w3 _ s1
      | exc x S2 => exact fun h => h
      | bad => exact fun h => h)⟩
theorem snd_tor (ha : PT X a (TTX F E ga)) (hb : PW X (.BoolOp .Or (b :: rest) pos) (TTX F E gb)) : PW X (.BoolOp .Or (a :: b :: rest) pos) (TTX F E fun ρ S => (ga ρ S).bind fun k S => if k = true then .ok true S else gb ρ S) :=
  PW.imp (pw_or ha hb) fun σ H Q ⟨w, ρ, S, hS, hE, hf⟩ => ⟨w, ρ, S, hS, hE, finB_iff.mpr ((finB_iff.mp hf).bind.mono fun k S1 e1 k1 w1 H1 st => by
    cases k with
    | true => exact (show ∀ w' H', Step F.K F.tb w H w' H' S1 → Q true H' from k1) w1 H1 st
    | false =>
      refine ⟨w1, ρ, S1, st.sr, hE.step hS st, ?_⟩
      have k1 : FinG F E (gb ρ S1) w H fun b S' => ∀ w' H', Step F.K F.tb w H w' H' S' → Q b H' := k1
      have := k1.toB hS st
      revert this
      cases gb ρ S1 with
      | ok b S2 => exact fun h w2 H2 st2 => (h w2 H2 st2).elim fun S3 ⟨w3, e, s1, _, hk⟩ => hk w3 _ s1
      | exc x S2 => exact fun h => h
      | bad => exact fun h => h)⟩
/-! ### truth as a value -/
theorem snd_not (hK : X.K = F.K) (ha : PE X a (TX F E fa)) : PE X (.UnaryOp .Not a pos) (TX F E fun ρ S => (fa ρ S).bind fun x S => R.of ((truth x S).map fun k => .d (.bl (!k))) S) := by
  refine ⟨fun pins s σ H Q I ⟨w, ρ, S, hS, hE, hf⟩ => ?_⟩
  refine UnaryOp_ (go ha I hS (Step.refl hS) hE (finE_iff.mp hf).bind fun u1 s1 v1 H1 x S1 w1 _ I1 r1 st1 _ rv1 k1 => ?_)
  obtain ⟨z, hz, k2⟩ := k1.of
  obtain ⟨k, hk, rfl⟩ := map_some_of hz
  exact not_of (thn (truth_ok (Q := fun c H2 => c = k ∧ H2 = H1) hK I1 r1 st1.sr rv1 hk ⟨rfl, rfl⟩) fun c s2 ⟨H2, I2, e1, e2⟩ => by
    subst e1 e2
    exact ⟨.bl (!c), H2, I2, rfl, k2 w1 H2 _ st1 (show RVr F.K w1 H H2 _ _ from .bl (!c))⟩)
theorem snd_and (hK : X.K = F.K) (ha : PE X a (TX F E fa)) (hb : PE X (.BoolOp .And (b :: rest) pos) (TX F E fb)) : PE X (.BoolOp .And (a :: b :: rest) pos) (TX F E fun ρ S => (fa ρ S).bind fun x S => match truth x S with
    | some true => fb ρ S
    | some false => .ok x S
    | none => .bad) := by
  refine ⟨fun pins s σ H Q I ⟨w, ρ, S, hS, hE, hf⟩ => ?_⟩
  refine BoolOp_and (go ha I hS (Step.refl hS) hE (finE_iff.mp hf).bind fun u1 s1 v1 H1 x S1 w1 _ I1 r1 st1 _ rv1 k1 => ?_)
  cases ht : truth x S1 with
  | none => rw [ht] at k1; exact k1.elim
  | some k =>
    rw [ht] at k1
    refine thn (truth_ok (Q := fun c H2 => c = k ∧ H2 = H1) hK I1 r1 st1.sr rv1 ht ⟨rfl, rfl⟩) fun c s2 ⟨H2, I2, e1, e2⟩ => ?_
    subst e1 e2
    cases c with
    | true =>
      have k1 : FinG F E (fb ρ S1) w H _ := k1
      exact thn (hb.run pins s2 σ H2 _ I2 ⟨w1, ρ, S1, st1.sr, hE.step hS st1, k1.toE hS st1⟩) fun u s3 ⟨v, H3, I3, r3, x3, S3, w3, _, st3, _, rv3, hk⟩ => ⟨v, H3, I3, r3, hk w3 H3 v st3 rv3⟩
    | false => exact ⟨v1, H2, I2, r1, (show ∀ w' H' v, Step F.K F.tb w H w' H' S1 → RVr F.K w' H H' x v → Q v H' from k1) w1 H2 v1 st1 rv1⟩
theorem snd_or (hK : X.K = F.K) (ha : PE X a (TX F E fa)) (hb : PE X (.BoolOp .Or (b :: rest) pos) (TX F E fb)) : PE X (.BoolOp .Or (a :: b :: rest) pos) (TX F E fun ρ S => (fa ρ S).bind fun x S => match truth x S with
    | some true => .ok x S
    | some false => fb ρ S
    | none => .bad) := by
  refine ⟨fun pins s σ H Q I ⟨w, ρ, S, hS, hE, hf⟩ => ?_⟩
  refine BoolOp_or (go ha I hS (Step.refl hS) hE (finE_iff.mp hf).bind fun u1 s1 v1 H1 x S1 w1 _ I1 r1 st1 _ rv1 k1 => ?_)
  cases ht : truth x S1 with
  | none => rw [ht] at k1; exact k1.elim
  | some k =>
    rw [ht] at k1
    refine thn (truth_ok (Q := fun c H2 => c = k ∧ H2 = H1) hK I1 r1 st1.sr rv1 ht ⟨rfl, rfl⟩) fun c s2 ⟨H2, I2, e1, e2⟩ => ?_
    subst e1 e2
    cases c with
    | false =>
      have k1 : FinG F E (fb ρ S1) w H _ := k1
      exact thn (hb.run pins s2 σ H2 _ I2 ⟨w1, ρ, S1, st1.sr, hE.step hS st1, k1.toE hS st1⟩) fun u s3 ⟨v, H3, I3, r3, x3, S3, w3, _, st3, _, rv3, hk⟩ => ⟨v, H3, I3, r3, hk w3 H3 v st3 rv3⟩
    | true => exact ⟨v1, H2, I2, r1, (show ∀ w' H' v, Step F.K F.tb w H w' H' S1 → RVr F.K w' H H' x v → Q v H' from k1) w1 H2 v1 st1 rv1⟩
theorem snd_ite (hc : PT X c (TTX F E ga)) (ha : PE X a (TX F E fa)) (hb : PE X b (TX F E fb)) : PE X (.IfExp c a b pos) (TX F E fun ρ S => (ga ρ S).bind fun k S => if k = true then fa ρ S else fb ρ S) := by
  refine ⟨fun pins s σ H Q I ⟨w, ρ, S, hS, hE, hf⟩ => ?_⟩
  refine wpAny_IfExp (goT hc I hS (Step.refl hS) hE (finE_iff.mp hf).bind fun k s1 H1 S1 w1 I1 st1 _ k1 => ?_)
  cases k with
  | true =>
    have k1 : FinG F E (fa ρ S1) w H _ := k1
    exact go ha I1 hS st1 (hE.step hS st1) k1 fun u s2 v H2 x S2 w2 _ I2 r2 st2 _ rv2 hk => ⟨v, H2, I2, r2, hk w2 H2 v st2 rv2⟩
  | false =>
    have k1 : FinG F E (fb ρ S1) w H _ := k1
    exact go hb I1 hS st1 (hE.step hS st1) k1 fun u s2 v H2 x S2 w2 _ I2 r2 st2 _ rv2 hk => ⟨v, H2, I2, r2, hk w2 H2 v st2 rv2⟩
/-! ### calls -/
theorem snd_callB {id : String} {x : Str} {p : Pos} (hg : Gl X x) (hm : X.mg x = none) (hv : bootBuiltins x = some (.builtin id)) (hn : x ≠ "__name__") (hdb : (x == ("__debug__" : Str)) = false) (ha : PE X a (TX F E fa)) (hs : notStar a = true) {f : RV → Store → R RV}
    (rule : ∀ (pins : List (Addr × PySem.Obj)) (s : Shared) (σ : L2.St) (H H2 : Hp) (w w2 : List Addr) (S S2 : Store) (x : RV) (v : V) (u : Value) (Q : VK), SR F.K F.tb w H S → Inv X pins σ H2 s → RelV v u → Step F.K F.tb w H w2 H2 S2 → RVr F.K w2 H H2 x v → FinE F E (f x S2) w H Q →
      wpAny (model X.prog X.w) X.A (call (.builtin id) [u]) (EP X pins σ Q) X.xe s) :
    PE X (.Call (.Name x p) [a] [] pos) (TX F E fun ρ S => (fa ρ S).bind fun x S => f x S) := by
  refine ⟨fun pins s σ H Q I ⟨w, ρ, S, hS, hE, hf⟩ => ?_⟩
  refine wpAny_Call_Name_kw (ld_blt I hg hm hv ?_ hn hdb)
  refine PyProof.Rows.callWith_builtin1 (args_cons (go ha I hS (Step.refl hS) hE (finE_iff.mp hf).bind fun u1 s1 v1 H1 x S1 w1 _ I1 r1 st1 _ rv1 k1 => args_nil ?_) (star_cons hs _ _)) (star_cons hs _ _) rfl
  exact rule pins s1 σ H H1 w w1 S S1 x v1 u1 Q hS I1 r1 st1 rv1 (finE_iff.mpr k1)
theorem snd_callTy {T : String} {x : Str} {p : Pos} (hg : Gl X x) (hm : X.mg x = none) (hv : bootBuiltins x = some (.type T)) (hn : x ≠ "__name__") (hdb : (x == ("__debug__" : Str)) = false) (ha : PE X a (TX F E fa)) (hs : notStar a = true) {f : RV → Store → R RV}
    (rule : ∀ (pins : List (Addr × PySem.Obj)) (s : Shared) (σ : L2.St) (H H2 : Hp) (w w2 : List Addr) (S S2 : Store) (x : RV) (v : V) (u : Value) (Q : VK), SR F.K F.tb w H S → Inv X pins σ H2 s → RelV v u → Step F.K F.tb w H w2 H2 S2 → RVr F.K w2 H H2 x v → FinE F E (f x S2) w H Q →
      wpAny (model X.prog X.w) X.A (call (.type T) [u]) (EP X pins σ Q) X.xe s) :
    PE X (.Call (.Name x p) [a] [] pos) (TX F E fun ρ S => (fa ρ S).bind fun x S => f x S) := by
  refine ⟨fun pins s σ H Q I ⟨w, ρ, S, hS, hE, hf⟩ => ?_⟩
  refine wpAny_Call_Name_kw (ld_blt I hg hm hv ?_ hn hdb)
  refine PyProof.Rows.callWith_type1 (args_cons (go ha I hS (Step.refl hS) hE (finE_iff.mp hf).bind fun u1 s1 v1 H1 x S1 w1 _ I1 r1 st1 _ rv1 k1 => args_nil ?_) (star_cons hs _ _)) (star_cons hs _ _) rfl
  exact rule pins s1 σ H H1 w w1 S S1 x v1 u1 Q hS I1 r1 st1 rv1 (finE_iff.mpr k1)
/-- a def's call -/
theorem snd_call {cf : CF} {f : Str} {lv n : Nat} {p : Pos} (hr : Room lv X.A) (hg : Gl X f) (hdb : (f == ("__debug__" : Str)) = false)
    (hf : ∃ fa fd ps, ps.length = n ∧ X.mg f = some (.ref fa) ∧ PySem.W.keepIn X.K (.ref fa) = true ∧ L2.Binds X.K fd ps [] ∧ FnOk X.prog X.w X.K X.mg X.base (L2.CX X.prog X.w) lv fa fd ps (spF F cf f n))
    (hx : Passes (L2.CX X.prog X.w) X E) (ha : PA X (e :: es) (TAX F E fs)) (hs : (e :: es).all notStar = true) (hl : ∀ ρ S ds S', fs ρ S = .ok ds S' → ds.length = n) :
    PE X (.Call (.Name f p) (e :: es) [] pos) (TX F E fun ρ S => (fs ρ S).bind fun ds S => cf f ds S) := by
  obtain ⟨fa, fd, ps, hn, hm, hk, hb, FO⟩ := hf
  rw [List.all_cons, Bool.and_eq_true] at hs
  refine PE.imp (pe_call FO hr hg hm hk hb .nil hx ha hdb (star_cons hs.1 _ _) (star_plain _ _ hs.2)) fun σ H Q ⟨w, ρ, S, hS, hE, hf⟩ => ⟨w, ρ, S, hS, hE, ?_⟩
  refine finA_iff.mpr ((finE_iff.mp hf).bind.mono fun ds S1 e1 k1 w1 H1 vs st dv => ?_)
  rw [List.append_nil]
  refine ⟨by rw [← dv.length]; exact hl _ _ _ _ e1, w1, S1, ds, st.sr, dv, ?_⟩
  have := k1.toE hS st
  revert this
  cases cf f ds S1 with
  | ok x S2 => exact fun h w2 H2 v st2 rv => (h w2 H2 v st2 rv).elim fun x3 ⟨S3, w3, _, s1, _, rv3, hk⟩ => hk w3 _ v s1 rv3
  | exc x S2 => exact fun h => h
  | bad => exact fun h => h
theorem snd_call0 {cf : CF} {f : Str} {lv : Nat} {p : Pos} (hr : Room lv X.A) (hg : Gl X f) (hdb : (f == ("__debug__" : Str)) = false)
    (hf : ∃ fa fd ps, ps.length = 0 ∧ X.mg f = some (.ref fa) ∧ PySem.W.keepIn X.K (.ref fa) = true ∧ L2.Binds X.K fd ps [] ∧ FnOk X.prog X.w X.K X.mg X.base (L2.CX X.prog X.w) lv fa fd ps (spF F cf f 0))
    (hx : Passes (L2.CX X.prog X.w) X E) : PE X (.Call (.Name f p) [] [] pos) (TX F E fun ρ S => (R.ok [] S).bind fun ds S => cf f ds S) := by
  obtain ⟨fa, fd, ps, hn, hm, hk, hb, FO⟩ := hf
  refine PE.imp (pe_call0 FO hr hg hm hk hb .nil hx hdb) fun σ H Q ⟨w, ρ, S, hS, hE, hf⟩ => ⟨rfl, w, S, [], hS, .nil, hf⟩
end
end CH
/-! CM: methods, built-ins of two arguments. -/
namespace CH
open PySem PySem.Spec PyProof.Rows L2
def meN : Me → Str
  | .append => "append" | .extend => "extend" | .pop => "pop" | .index => "index" | .count => "count" | .remove => "remove" | .get => "get" | .add => "add"
/-- a method's place -/
structure Pl (k : Knd) (m : Me) (id : String) : Prop where
  pa : PlainAttrs (tyOf k)
  slot : Slot (tyOf k) (meN m) id
  ty : typeOf (.builtin id) = pure (.type "method_descriptor")
theorem pl_append : Pl .lst .append "list.append" := ⟨PySem.F.plainAttrs_list, PySem.F.slot_list_append, PySem.F.type_list_append⟩
theorem pl_extend : Pl .lst .extend "list.extend" := ⟨PySem.F.plainAttrs_list, PySem.F.slot_list_extend, PySem.F.type_list_extend⟩
theorem pl_index : Pl .lst .index "list.index" := ⟨PySem.F.plainAttrs_list, PySem.F.slot_list_index, PySem.F.type_list_index⟩
theorem pl_indexT : Pl .tup .index "tuple.index" := ⟨PySem.F.plainAttrs_tuple, PySem.F.slot_tuple_index, PySem.F.type_tuple_index⟩
theorem pl_count : Pl .lst .count "list.count" := ⟨PySem.F.plainAttrs_list, PySem.F.slot_list_count, PySem.F.type_list_count⟩
theorem pl_pop : Pl .lst .pop "list.pop" := ⟨PySem.F.plainAttrs_list, PySem.F.slot_list_pop, PySem.F.type_list_pop⟩
theorem pl_get : Pl .dic .get "dict.get" := ⟨PySem.F.plainAttrs_dict, PySem.F.slot_dict_get, PySem.F.type_dict_get⟩
def meId : Knd → Me → String
  | .lst, .append => "list.append"
  | .lst, .extend => "list.extend"
  | .lst, .index => "list.index"
  | .tup, .index => "tuple.index"
  | .lst, .count => "list.count"
  | .lst, .pop => "list.pop"
  | .dic, .get => "dict.get"
  | _, _ => ""
theorem kndM_at {m : Me} {x : RV} {S : Store} {k : Knd} (h : kndM m x S = some k) : knd x S = some k ∧ Pl k m (meId k m) ∧ (m ≠ .extend → meId k m = m1Id k m) := by
  unfold kndM at h
  split at h <;> cases h <;> rename_i e <;> refine ⟨e, ?_, ?_⟩
  · exact pl_append
  · intro _; rfl
  · exact pl_extend
  · intro z; exact absurd rfl z
  · exact pl_index
  · intro _; rfl
  · exact pl_count
  · intro _; rfl
  · exact pl_pop
  · intro _; rfl
  · exact pl_get
  · intro _; rfl
  · exact pl_indexT
  · intro _; rfl
section
variable {F : Fx} {E : XK} {X : Cx} {a b o : Expr} {fa fb fo : Env → Store → R RV} {pos cpos apos : Pos} {m : Me}
theorem snd_m0 (hK : X.K = F.K) (ho : PE X o (TX F E fo)) (hb : baseOk o = true) (hline : (apos.endLine == cpos.line) = true) :
    PE X (.Call (.Attribute o (meN m) apos) [] [] cpos) (TX F E fun ρ S => (fo ρ S).bind fun x S => (R.of (kndM m x S) S).bind fun k S => m0R k m x S) := by
  refine ⟨fun pins s σ H Q I ⟨w, ρ, S, hS, hE, hf⟩ => ?_⟩
  refine wpAny_Call_method0_late (base_ok hb _ _) hline (go ho I hS (Step.refl hS) hE (finE_iff.mp hf).bind fun u1 s1 v1 H1 x S1 w1 _ I1 r1 st1 _ rv1 k1 => ?_)
  obtain ⟨k, hk, k2⟩ := k1.bind.of
  obtain ⟨e1, pl, e3⟩ := kndM_at hk
  obtain ⟨h1, h2⟩ := knd_ty hK I1 r1 st1.sr rv1 e1
  have k2 := finE_iff.mpr k2
  refine ⟨tyOf k, meId k m, pl.pa, pl.slot, pl.ty, h1, h2, Calls.callWith_builtin rfl (PySem.evalArgs_none ?_)⟩
  have hkm : k = .lst ∧ m = .pop := by
    unfold m0R at k2
    split at k2 <;> first | exact ⟨rfl, rfl⟩ | exact k2.elim
  obtain ⟨rfl, rfl⟩ := hkm
  exact m0_ok hS I1 r1 st1 rv1 k2
theorem snd_m1 (hK : X.K = F.K) (hu : X.A.units + 65 < cLine) (hm : m ≠ .extend) (ho : PE X o (TX F E fo)) (ha : PE X a (TX F E fa)) (hb : baseOk o = true) (hs : notStar a = true) (hline : (apos.endLine == cpos.line) = true) :
    PE X (.Call (.Attribute o (meN m) apos) [a] [] cpos) (TX F E fun ρ S => (fo ρ S).bind fun x S => (R.of (kndM m x S) S).bind fun k S => (matB (fa ρ S)).bind fun y S => m1R k m x y S) := by
  refine ⟨fun pins s σ H Q I ⟨w, ρ, S, hS, hE, hf⟩ => ?_⟩
  have hst : starEach [a] X.env = [(false, eval a X.env)] := star_cons hs _ _
  refine wpAny_Call_method_late (base_ok hb _ _) (by rw [hst]; rfl) hline rfl (go ho I hS (Step.refl hS) hE (finE_iff.mp hf).bind fun u1 s1 v1 H1 x S1 w1 _ I1 r1 st1 _ rv1 k1 => ?_)
  obtain ⟨k, hk, k2⟩ := k1.bind.of
  obtain ⟨e1, pl, e3⟩ := kndM_at hk
  obtain ⟨h1, h2⟩ := knd_ty hK I1 r1 st1.sr rv1 e1
  refine ⟨tyOf k, meId k m, pl.pa, pl.slot, pl.ty, h1, h2, ?_⟩
  rw [hst]
  refine Calls.callWith_builtin rfl (Calls.evalArgs_plain ?_)
  show wpAny _ _ (spliced ((false, eval a X.env) :: [])) _ _ s1
  refine Calls.spliced_cons (goM ha I1 hS st1 (hE.step hS st1) k2.bind fun u2 s2 v2 H2 d S2 w2 I2 r2 st2 st12 dv2 k3 => Calls.spliced_nil ?_)
  rw [e3 hm]
  exact m1_ok hK hu hS I2 r1 r2 st2 (rv1.step st1.sr st12) dv2 (finE_iff.mpr k3)
theorem snd_ext (hK : X.K = F.K) (ho : PE X o (TX F E fo)) (ha : PE X a (TX F E fa)) (hb : baseOk o = true) (hs : notStar a = true) (hline : (apos.endLine == cpos.line) = true) :
    PE X (.Call (.Attribute o (meN .extend) apos) [a] [] cpos) (TX F E fun ρ S => (fo ρ S).bind fun x S => (R.of (kndM .extend x S) S).bind fun k S => (fa ρ S).bind fun y S => extR k x y S) := by
  refine ⟨fun pins s σ H Q I ⟨w, ρ, S, hS, hE, hf⟩ => ?_⟩
  have hst : starEach [a] X.env = [(false, eval a X.env)] := star_cons hs _ _
  refine wpAny_Call_method_late (base_ok hb _ _) (by rw [hst]; rfl) hline rfl (go ho I hS (Step.refl hS) hE (finE_iff.mp hf).bind fun u1 s1 v1 H1 x S1 w1 _ I1 r1 st1 _ rv1 k1 => ?_)
  obtain ⟨k, hk, k2⟩ := k1.bind.of
  obtain ⟨e1, pl, e3⟩ := kndM_at hk
  obtain ⟨h1, h2⟩ := knd_ty hK I1 r1 st1.sr rv1 e1
  refine ⟨tyOf k, meId k .extend, pl.pa, pl.slot, pl.ty, h1, h2, ?_⟩
  rw [hst]
  refine Calls.callWith_builtin rfl (Calls.evalArgs_plain ?_)
  show wpAny _ _ (spliced ((false, eval a X.env) :: [])) _ _ s1
  refine Calls.spliced_cons (go ha I1 hS st1 (hE.step hS st1) k2.bind fun u2 s2 v2 H2 d S2 w2 _ I2 r2 st2 st12 rv2 k3 => Calls.spliced_nil ?_)
  obtain ⟨rfl, h⟩ := ext_ok hK hS I2 r1 r2 st2 (rv1.step st1.sr st12) rv2 (finE_iff.mpr k3)
  exact h
theorem snd_m2 (hK : X.K = F.K) (hu : X.A.units + 65 < cLine) (ho : PE X o (TX F E fo)) (ha : PE X a (TX F E fa)) (hb' : PE X b (TX F E fb)) (hb : baseOk o = true) (hs : notStar a = true) (hs2 : notStar b = true) (hline : (apos.endLine == cpos.line) = true) :
    PE X (.Call (.Attribute o (meN m) apos) [a, b] [] cpos) (TX F E fun ρ S => (fo ρ S).bind fun x S => (R.of (kndM m x S) S).bind fun k S => (matB (fa ρ S)).bind fun y S => (matB (fb ρ S)).bind fun z S => m2R k m x y z S) := by
  refine ⟨fun pins s σ H Q I ⟨w, ρ, S, hS, hE, hf⟩ => ?_⟩
  have hst : starEach [a, b] X.env = [(false, eval a X.env), (false, eval b X.env)] := by rw [star_cons hs, star_cons hs2]; rfl
  refine wpAny_Call_method_late (base_ok hb _ _) (by rw [hst]; rfl) hline rfl (go ho I hS (Step.refl hS) hE (finE_iff.mp hf).bind fun u1 s1 v1 H1 x S1 w1 _ I1 r1 st1 _ rv1 k1 => ?_)
  obtain ⟨k, hk, k2⟩ := k1.bind.of
  obtain ⟨e1, pl, e3⟩ := kndM_at hk
  obtain ⟨h1, h2⟩ := knd_ty hK I1 r1 st1.sr rv1 e1
  refine ⟨tyOf k, meId k m, pl.pa, pl.slot, pl.ty, h1, h2, ?_⟩
  rw [hst]
  refine Calls.callWith_builtin rfl (Calls.evalArgs_plain ?_)
  show wpAny _ _ (spliced ((false, eval a X.env) :: (false, eval b X.env) :: [])) _ _ s1
  refine Calls.spliced_cons (goM ha I1 hS st1 (hE.step hS st1) k2.bind fun u2 s2 v2 H2 d S2 w2 I2 r2 st2 st12 dv2 k3 => Calls.spliced_cons (goM hb' I2 hS st2 (hE.step hS st2) k3.bind fun u3 s3 v3 H3 d3 S3 w3 I3 r3 st3 st23 dv3 k4 => Calls.spliced_nil ?_))
  obtain ⟨rfl, rfl, h⟩ := m2_ok hu I3 r1 r2 r3 st3 ((rv1.step st1.sr st12).step st2.sr st23) (dv2.step st2.sr st23) dv3 (finE_iff.mpr k4)
  exact h
/-! ### two arguments -/
def b2N : B2 → String
  | .max => "max" | .min => "min"
theorem b2_ok (hc : X.calm = true) (f : B2) {pins : List (Addr × PySem.Obj)} {s : Shared} {σ : L2.St} {H H2 : Hp} {w w2 : List Addr} {S2 : Store} {x y : RV} {v1 v2 : V} {u1 u2 : Value} {Q : VK} (I : Inv X pins σ H2 s) (r1 : RelV v1 u1) (r2 : RelV v2 u2) (st : Step F.K F.tb w H w2 H2 S2)
    (rv1 : RVr F.K w2 H H2 x v1) (rv2 : RVr F.K w2 H H2 y v2) (hf : FinE F E (b2R f x y S2) w H Q) : wpAny (model X.prog X.w) X.A (call (.builtin (b2N f)) [u1, u2]) (EP X pins σ Q) X.xe s := by
  unfold b2R at hf
  split at hf
  · obtain rfl := rv_int rv1
    obtain rfl := rv_int rv2
    exact call_max2 hc pins s σ H2 [_, _] [u1, u2] Q I (.cons r1 (.cons r2 .nil)) ⟨_, _, rfl, fin_ok hf st (show RVr F.K w2 H H2 _ _ from .int _)⟩
  · obtain rfl := rv_int rv1
    obtain rfl := rv_int rv2
    exact call_min2 hc pins s σ H2 [_, _] [u1, u2] Q I (.cons r1 (.cons r2 .nil)) ⟨_, _, rfl, fin_ok hf st (show RVr F.K w2 H H2 _ _ from .int _)⟩
  · exact hf.elim
theorem snd_b2 (f : B2) (hc : X.calm = true) {x : Str} {p : Pos} (hg : Gl X x) (hm : X.mg x = none) (hv : bootBuiltins x = some (.builtin (b2N f))) (hn : x ≠ "__name__") (hdb : (x == ("__debug__" : Str)) = false)
    (ha : PE X a (TX F E fa)) (hb : PE X b (TX F E fb)) (hs : notStar a = true) (hs2 : notStar b = true) :
    PE X (.Call (.Name x p) [a, b] [] pos) (TX F E fun ρ S => (fa ρ S).bind fun x S => (fb ρ S).bind fun y S => b2R f x y S) := by
  refine ⟨fun pins s σ H Q I ⟨w, ρ, S, hS, hE, hf⟩ => ?_⟩
  refine wpAny_Call_Name_kw (ld_blt I hg hm hv ?_ hn hdb)
  refine PyProof.Rows.callWith_builtin1 (args_cons (go ha I hS (Step.refl hS) hE (finE_iff.mp hf).bind fun u1 s1 v1 H1 x S1 w1 _ I1 r1 st1 _ rv1 k1 => args_cons (go hb I1 hS st1 (hE.step hS st1) k1.bind fun u2 s2 v2 H2 y S2 w2 _ I2 r2 st2 st12 rv2 k2 => args_nil ?_) (star_cons hs2 _ _)) (star_cons hs _ _)) (star_cons hs _ _) (by rw [star_cons hs2]; rfl)
  exact b2_ok hc f I2 r1 r2 st2 (rv1.step st1.sr st12) rv2 (finE_iff.mpr k2)
theorem snd_isi (hK : X.K = F.K) (t : Ty) {x y : Str} {p p2 : Pos} (hg : Gl X x) (hm : X.mg x = none) (hv : bootBuiltins x = some (.builtin "isinstance")) (hn : x ≠ "__name__") (hdb : (x == ("__debug__" : Str)) = false)
    (hg2 : Gl X y) (hm2 : X.mg y = none) (hv2 : bootBuiltins y = some (.type (tyN t))) (hn2 : y ≠ "__name__") (hdb2 : (y == ("__debug__" : Str)) = false) (ha : PE X a (TX F E fa)) (hs : notStar a = true) :
    PE X (.Call (.Name x p) [a, .Name y p2] [] pos) (TX F E fun ρ S => (fa ρ S).bind fun x S => R.of ((isiR x t S).map fun k => .d (.bl k)) S) := by
  refine ⟨fun pins s σ H Q I ⟨w, ρ, S, hS, hE, hf⟩ => ?_⟩
  refine wpAny_Call_Name_kw (ld_blt I hg hm hv ?_ hn hdb)
  refine PyProof.Rows.callWith_builtin1 (args_cons (go ha I hS (Step.refl hS) hE (finE_iff.mp hf).bind fun u1 s1 v1 H1 x S1 w1 _ I1 r1 st1 _ rv1 k1 => args_cons (ld_blt I1 hg2 hm2 hv2 (args_nil ?_) hn2 hdb2)) (star_cons hs _ _)) (star_cons hs _ _) rfl
  obtain ⟨z, hz, k2⟩ := k1.of
  obtain ⟨k, hk, rfl⟩ := map_some_of hz
  exact isi_ok hK t I1 r1 st1.sr rv1 hk (k2 w1 H1 _ st1 (show RVr F.K w1 H H1 _ _ from .bl k))
end
end CH
/-! CN: targets, what is walked. -/
namespace CH
open PySem PySem.Spec PyProof.Rows L2
theorem PG.imp {X : Cx} {e : Expr} {t u : TG} (h : PG X e t) (hi : ∀ v σ H Q, u v σ H Q → t v σ H Q) : PG X e u := ⟨fun pins s σ H v x Q I r hw => h.run pins s σ H v x Q I r (hi v σ H Q hw)⟩
theorem PGs.imp {X : Cx} {es : List Expr} {t u : TGs} (h : PGs X es t) (hi : ∀ v σ H Q, u v σ H Q → t v σ H Q) : PGs X es u := ⟨fun pins s σ H v x Q I r hw => h.run pins s σ H v x Q I r (hi v σ H Q hw)⟩
theorem PS.imp {X : Cx} {e : Stmt} {t u : TS} (h : PS X e t) (hi : ∀ D σ H, u D σ H → t D σ H) : PS X e u := ⟨fun pins s σ H D I hw => h.run pins s σ H D I (hi D σ H hw)⟩
theorem PSs.imp {X : Cx} {e : List Stmt} {t u : TS} (h : PSs X e t) (hi : ∀ D σ H, u D σ H → t D σ H) : PSs X e u := ⟨fun pins s σ H D I hw => h.run pins s σ H D I (hi D σ H hw)⟩
/-- the slots of a target -/
def Tg.vars : Tg → List Nat
  | .nil => []
  | .var i r => i :: r.vars
  | .tup t r => t.vars ++ r.vars
section
variable {F : Fx} {X : Cx} {pos : Pos}
/-- values to targets -/
def TGX (F : Fx) (t : Tg) : TGs := fun vs σ H Q => ∃ w ρ S xs ρ', SR F.K F.tb w H S ∧ ER F.K w H ρ σ ∧ DVs F.K w H xs vs ∧ bindT t xs ρ = some ρ' ∧ ∀ σ', ER F.K w H ρ' σ' → (∀ i, i ∉ t.vars → σ'[i]? = σ[i]?) → Q σ' H
def TGX1 (F : Fx) (t : Tg) : TG := fun v σ H Q => TGX F t [v] σ H Q
theorem gx_nil : PGs X [] (TGX F .nil) := by
  refine PGs.imp pgs_nil fun vs σ H Q ⟨w, ρ, S, xs, ρ', hS, hE, dv, hb, hQ⟩ => ?_
  cases dv with
  | nil =>
    cases hb
    exact ⟨rfl, hQ σ hE fun i _ => rfl⟩
  | cons _ _ => cases hb
/-- one target, at the head -/
theorem gx_var {i : Nat} {x : Str} (hN : X.N.Nodup) (hi : X.N[i]? = some x) (hx : Loc X.env.scope x) (hf : X.fn x = true ∨ X.env.scope.names.lookup x = some .local) : PG X (.Name x pos) (TGX1 F (.var i .nil)) := by
  refine PG.imp (pg_name hN hi hx hf) fun v σ H Q ⟨w, ρ, S, xs, ρ', hS, hE, dv, hb, hQ⟩ => ?_
  cases dv with
  | cons d r =>
    cases r with
    | nil =>
      cases hb
      exact hQ _ (hE.set i d) fun j hj => by rw [List.getElem?_set_ne (by simpa [Tg.vars, eq_comm] using hj)]
theorem gx_tup {es : List Expr} {k : Nat} {t : Tg} {n : Nat} (hK : X.K = F.K) (hc : X.calm = true) (h : PGs X es (TGX F t)) (hl : ∀ xs ρ ρ', bindT t xs ρ = some ρ' → xs.length = n)
    (hn : (assignEach es X.env).length = n) (hst : (assignEach es X.env).findIdx? (·.1) = none) : PG X (.Tuple es k pos) (TGX1 F (.tup t .nil)) := by
  refine PG.imp (pg_tup hc h hn hst) fun v σ H Q ⟨w, ρ, S, xs, ρ', hS, hE, dv, hb, hQ⟩ => ?_
  cases dv with
  | cons d r =>
    cases r with
    | nil =>
      rename_i x v'
      unfold bindT at hb
      split at hb
      · rename_i ys
        cases d with
        | tup s d2 =>
          rename_i a vs
          cases hb1 : bindT t ys ρ with
          | none => rw [hb1] at hb; cases hb
          | some ρ1 =>
            rw [hb1] at hb
            cases hb
            exact ⟨a, vs, rfl, hK ▸ s.sq, by rw [← d2.length]; exact hl _ _ _ hb1, w, ρ, S, ys, ρ', hS, hE, d2, hb1, fun σ' hE' hv => hQ σ' hE' fun i hi => hv i fun z => hi (List.mem_append_left _ z)⟩
      · cases hb
theorem bindT_cons {t : Tg} {x : D} {xs : List D} {ρ ρ' : Env} (i : Nat) (r : Tg) : bindT (.var i r) (x :: xs) ρ = (bindT (.var i .nil) [x] ρ).bind (bindT r xs) := by
  simp [bindT]
theorem gx_consV {e : Expr} {es : List Expr} {i : Nat} {r : Tg} (h1 : PG X e (TGX1 F (.var i .nil))) (h2 : PGs X es (TGX F r)) (hs : (assignEach (e :: es) X.env).map (·.2) = assign e X.env :: (assignEach es X.env).map (·.2)) : PGs X (e :: es) (TGX F (.var i r)) := by
  refine PGs.imp (pgs_cons h1 h2 hs) fun vs σ H Q ⟨w, ρ, S, xs, ρ', hS, hE, dv, hb, hQ⟩ => ?_
  cases dv with
  | nil => cases hb
  | cons d rr =>
    rename_i x v xs vs _
    refine ⟨v, vs, rfl, w, ρ, S, [x], _, hS, hE, .cons d .nil, rfl, fun σ1 hE1 hv1 => ?_⟩
    exact ⟨w, _, S, xs, ρ', hS, hE1, rr, hb, fun σ' hE' hv => hQ σ' hE' fun j hj => by
      have hj : j ∉ i :: r.vars := hj
      rw [List.mem_cons, not_or] at hj
      rw [hv j hj.2, hv1 j (by simpa [Tg.vars] using hj.1)]⟩
theorem gx_consT {e : Expr} {es : List Expr} {t r : Tg} (h1 : PG X e (TGX1 F (.tup t .nil))) (h2 : PGs X es (TGX F r)) (hs : (assignEach (e :: es) X.env).map (·.2) = assign e X.env :: (assignEach es X.env).map (·.2)) : PGs X (e :: es) (TGX F (.tup t r)) := by
  refine PGs.imp (pgs_cons h1 h2 hs) fun vs σ H Q ⟨w, ρ, S, xs, ρ', hS, hE, dv, hb, hQ⟩ => ?_
  cases dv with
  | nil => cases hb
  | cons d rr =>
    rename_i x v xs vs _
    unfold bindT at hb
    split at hb
    · rename_i ys
      cases hb1 : bindT t ys ρ with
      | none => rw [hb1] at hb; cases hb
      | some ρ1 =>
        rw [hb1] at hb
        have hb : bindT r xs ρ1 = some ρ' := hb
        refine ⟨v, vs, rfl, w, ρ, S, [.tup ys], ρ1, hS, hE, .cons d .nil, by simp [bindT, hb1], fun σ1 hE1 hv1 => ?_⟩
        exact ⟨w, _, S, xs, ρ', hS, hE1, rr, hb, fun σ' hE' hv => hQ σ' hE' fun j hj => by
          have hj : j ∉ t.vars ++ r.vars := hj
          rw [List.mem_append, not_or] at hj
          rw [hv j hj.2, hv1 j (by simpa [Tg.vars] using hj.1)]⟩
    · cases hb
theorem bindT_length : ∀ {t : Tg} {xs : List D} {ρ ρ' : Env}, bindT t xs ρ = some ρ' → ρ'.length = ρ.length
  | .nil, [], _, _, h => by cases h; rfl
  | .nil, _ :: _, _, _, h => by cases h
  | .var _ _, [], _, _, h => by cases h
  | .var i r, x :: xs, ρ, ρ', h => by
    have h : bindT r xs (ρ.set i (some x)) = some ρ' := h
    rw [bindT_length h, List.length_set]
  | .tup _ _, [], _, _, h => by cases h
  | .tup t r, x :: xs, ρ, ρ', h => by
    unfold bindT at h
    split at h
    · rename_i ys
      cases e : bindT t ys ρ with
      | none => rw [e] at h; cases h
      | some ρ1 =>
        rw [e] at h
        have h : bindT r xs ρ1 = some ρ' := h
        rw [bindT_length h, bindT_length e]
    · cases h
/-- how many values a target list takes -/
def Tg.cnt : Tg → Nat
  | .nil => 0
  | .var _ r => r.cnt + 1
  | .tup _ r => r.cnt + 1
theorem bindT_cnt : ∀ {t : Tg} {xs : List D} {ρ ρ' : Env}, bindT t xs ρ = some ρ' → xs.length = t.cnt
  | .nil, [], _, _, h => rfl
  | .nil, _ :: _, _, _, h => by cases h
  | .var _ _, [], _, _, h => by cases h
  | .var i r, x :: xs, ρ, ρ', h => by
    have h : bindT r xs (ρ.set i (some x)) = some ρ' := h
    rw [List.length_cons, bindT_cnt h]; rfl
  | .tup _ _, [], _, _, h => by cases h
  | .tup t r, x :: xs, ρ, ρ', h => by
    unfold bindT at h
    split at h
    · rename_i ys
      cases e : bindT t ys ρ with
      | none => rw [e] at h; cases h
      | some ρ1 =>
        rw [e] at h
        have h : bindT r xs ρ1 = some ρ' := h
        rw [List.length_cons, bindT_cnt h]; rfl
    · cases h
end
/-! ### what is walked -/
structure ItOk (F : Fx) (w : List Addr) (H : Hp) (xs : List D) (g : Grd) (J : It) : Prop where
  len : xs.length ≤ sizeLine
  go : ∀ w2 H2 S2, Step F.K F.tb w H w2 H2 S2 → g.ok S2 → ∀ i (hi : i < xs.length), J.go i H2 ∧ ∀ x H3, J.yld i H2 x H3 → Step F.K F.tb w2 H2 w2 H3 S2 ∧ DV F.K w2 H3 xs[i] x
  stop : ∀ w2 H2 S2, Step F.K F.tb w H w2 H2 S2 → g.ok S2 → J.stop xs.length H2
def TIX (F : Fx) (E : XK) (f : Env → Store → R (List D × Grd)) : TI := fun σ H R => ∃ w ρ S, SR F.K F.tb w H S ∧ ER F.K w H ρ σ ∧
  FinG F E (f ρ S) w H fun a S' => ∀ w' H' J, Step F.K F.tb w H w' H' S' → ItOk F w' H' a.1 a.2 J → R J H'
theorem DVs.nth {K : PySem.W.Frag} {w : List Addr} {H : Hp} {ds : List D} {vs : List V} (h : DVs K w H ds vs) {i : Nat} (hi : i < ds.length) : ∃ v, vs[i]? = some v ∧ DV K w H ds[i] v := h.get (List.getElem?_eq_getElem hi)
section
variable {F : Fx} {w w1 : List Addr} {H H1 : Hp} {S S1 : Store} {J : It} {X : Cx} {pins : List (Addr × PySem.Obj)} {σ : L2.St} {s : Shared}
theorem it_tup {a : Addr} {xs : List D} {vs : List V} (hS : SR F.K F.tb w H S) (q : SqT F.K H a vs) (d : DVs F.K w H xs vs) (hl : xs.length ≤ sizeLine) : ItOk F w H xs .no (Itt F.K a) := by
  refine ⟨hl, fun w2 H2 S2 st _ i hi => ?_, fun w2 H2 S2 st _ => ?_⟩
  · obtain ⟨v, e, dv⟩ := d.nth hi
    have q2 := st.ext.sqt hS _ _ q
    refine ⟨⟨vs, v, q2, e⟩, fun x H3 y => ?_⟩
    obtain ⟨e3, y⟩ := y
    subst e3
    have e4 := y vs q2
    rw [e] at e4; cases e4
    exact ⟨Step.refl st.sr, dv.step hS st⟩
  · exact ⟨vs, st.ext.sqt hS _ _ q, by rw [d.length]; exact Nat.le_refl _⟩
/-- a list that stands as long as the word g stands -/
theorem it_list {a : Addr} {xs : List D} {g : Grd} (hl : xs.length ≤ sizeLine) (hq : ∀ w2 H2 S2, Step F.K F.tb w H w2 H2 S2 → g.ok S2 → ∃ vs, SqL F.K H2 a vs ∧ DVs F.K w2 H2 xs vs) : ItOk F w H xs g (Itl F.K a) := by
  refine ⟨hl, fun w2 H2 S2 st hg i hi => ?_, fun w2 H2 S2 st hg => ?_⟩
  · obtain ⟨vs, q, d⟩ := hq _ _ _ st hg
    obtain ⟨v, e, dv⟩ := d.nth hi
    refine ⟨⟨vs, v, q, e⟩, fun x H3 y => ?_⟩
    obtain ⟨e3, y⟩ := y
    subst e3
    have e4 := y vs q
    rw [e] at e4; cases e4
    exact ⟨Step.refl st.sr, dv⟩
  · obtain ⟨vs, q, d⟩ := hq _ _ _ st hg
    exact ⟨vs, q, by rw [d.length]; exact Nat.le_refl _⟩
end
end CH
/-! CO: what is walked, form by form. -/
namespace CH
open PySem PySem.Spec PyProof.Rows L2
section
variable {F : Fx} {E : XK} {X : Cx} {tg e a b c : Expr} {fa fb fc : Env → Store → R RV} {w w1 : List Addr} {H H1 : Hp} {S S1 : Store} {x : RV} {v : V}
theorem it_ref {r : Nat} {xs : List D} (st1 : Step F.K F.tb w H w1 H1 S1) (dv : DV F.K w1 H1 (.ref r) v) (hc : S1[r]? = some (.lst xs)) : ∃ a vs, v = .ref a ∧ H1 a = some (.lst vs) ∧ DVs F.K w1 H1 xs vs ∧
    (xs.length ≤ sizeLine → ItOk F w1 H1 xs (.at r (.lst xs)) (Itl F.K a)) := by
  cases dv with
  | ref e =>
    obtain ⟨a, o, e1, e2, e3⟩ := st1.sr.at_ r _ hc
    rw [e] at e1; cases e1
    cases e3 with
    | lst t =>
      refine ⟨_, _, rfl, e2, t, fun hl => it_list hl fun w2 H2 S2 st hg => ?_⟩
      obtain ⟨a2, o2, e5, e6, e7⟩ := st.sr.at_ r _ hg
      rw [st.at r _ e] at e5; cases e5
      cases e7 with
      | lst t2 => exact ⟨_, .of e6, t2⟩
theorem it_new {xs : List D} (st1 : Step F.K F.tb w H w1 H1 S1) (rv : RVr F.K w1 H H1 (.o (.lst xs)) v) : ∃ a vs, v = .ref a ∧ H1 a = some (.lst vs) ∧ DVs F.K w1 H1 xs vs ∧ (xs.length ≤ sizeLine → ItOk F w1 H1 xs .no (Itl F.K a)) := by
  obtain ⟨a, ho, rfl, e1, cv, na, n0, nf⟩ := rv
  cases cv with
  | lst t =>
    refine ⟨_, _, rfl, e1, t, fun hl => it_list hl fun w2 H2 S2 st _ => ⟨_, .of ?_, t.step st1.sr st⟩⟩
    rcases st.ext a _ e1 na with z | ⟨ps, qs, z, _⟩
    · exact z
    · cases z
theorem it_frl {xs : List D} (st1 : Step F.K F.tb w H w1 H1 S1) (dv : DV F.K w1 H1 (.lst xs) v) : ∃ a vs, v = .ref a ∧ SqL F.K H1 a vs ∧ DVs F.K w1 H1 xs vs ∧ (xs.length ≤ sizeLine → ItOk F w1 H1 xs .no (Itl F.K a)) := by
  cases dv with
  | lst s t => exact ⟨_, _, rfl, s.sq, t, fun hl => it_list hl fun w2 H2 S2 st _ => ⟨_, (st.ext.frl st1.sr _ _ s).sq, t.step st1.sr st⟩⟩
theorem KVs.at {K : PySem.W.Frag} {kvs : List (Key × D)} {us : List (Key × V)} (h : KVs K w H kvs us) {i : Nat} (hi : i < kvs.length) : ∃ k d v, kvs[i]? = some (k, d) ∧ us[i]? = some (k, v) ∧ DV K w H d v := by
  obtain ⟨h1, h2⟩ := h
  have hl : kvs.length = us.length := by have := congrArg List.length h1; simpa using this
  have e1 : (us.map (·.1))[i]? = (kvs.map (·.1))[i]? := by rw [h1]
  have hd := h2.nth (i := i) (by simpa using hi)
  obtain ⟨v, e2, dv⟩ := hd
  rw [List.getElem?_map] at e2
  rw [List.getElem?_map, List.getElem?_map, List.getElem?_eq_getElem hi] at e1
  cases e : us[i]? with
  | none => rw [e] at e2; cases e2
  | some p =>
    rw [e] at e1 e2
    obtain ⟨k, v'⟩ := p
    simp only [Option.map_some, Option.some.injEq] at e1 e2
    subst e1 e2
    exact ⟨_, _, _, List.getElem?_eq_getElem hi, rfl, by simpa using dv⟩
theorem dv_key {K : PySem.W.Frag} (k : Key) : DV K w H (keyD k) (kV k) := by
  cases k with
  | inl i => exact .int _
  | inr x => exact .str _
theorem keys_ok {d : Addr} {o : PySem.Obj} {kvs : List (Key × D)} {us : List (Key × V)} (h : H1 d = some (.frz o (.dK us))) (kv : KVs F.K w1 H1 kvs us) (hl : kvs.length ≤ sizeLine) : ItOk F w1 H1 (kvs.map fun kv => keyD kv.1) .no (Itk d o us) := by
  refine ⟨by simpa using hl, fun w2 H2 S2 st _ i hi => ?_, fun w2 H2 S2 st _ => ⟨st.frz _ _ _ h, by rw [List.length_map, kv.length]; exact Nat.le_refl _⟩⟩
  rw [List.length_map] at hi
  obtain ⟨k, d', v, e1, e2, dv⟩ := kv.at hi
  refine ⟨⟨st.frz _ _ _ h, by rw [← kv.length]; exact hi⟩, fun x H3 y => ?_⟩
  obtain ⟨e3, k2, v2, e4, e5⟩ := y
  rw [e2] at e4
  cases e4
  subst e3 e5
  have e6 : kvs[i] = (k, d') := by rw [List.getElem?_eq_getElem hi] at e1; exact Option.some.inj e1
  refine ⟨Step.refl st.sr, ?_⟩
  simp only [List.getElem_map, e6]
  exact dv_key k
theorem vals_ok {d : Addr} {o : PySem.Obj} {kvs : List (Key × D)} {us : List (Key × V)} (hS : SR F.K F.tb w1 H1 S1) (h : H1 d = some (.frz o (.dK us))) (kv : KVs F.K w1 H1 kvs us) (hl : kvs.length ≤ sizeLine) : ItOk F w1 H1 (kvs.map fun kv => kv.2) .no (Itd d o us) := by
  refine ⟨by simpa using hl, fun w2 H2 S2 st _ i hi => ?_, fun w2 H2 S2 st _ => ⟨st.frz _ _ _ h, by rw [List.length_map, kv.length]; exact Nat.le_refl _⟩⟩
  rw [List.length_map] at hi
  obtain ⟨k, d', v, e1, e2, dv⟩ := kv.at hi
  refine ⟨⟨st.frz _ _ _ h, by rw [← kv.length]; exact hi⟩, fun x H3 y => ?_⟩
  obtain ⟨e3, k2, e4⟩ := y
  rw [e2] at e4
  cases e4
  subst e3
  have e6 : kvs[i] = (k, d') := by rw [List.getElem?_eq_getElem hi] at e1; exact Option.some.inj e1
  refine ⟨Step.refl st.sr, ?_⟩
  simp only [List.getElem_map, e6]
  exact dv.step hS st
theorem str_ok {z : Str} (hS : SR F.K F.tb w1 H1 S1) (hl : z.cps.size ≤ sizeLine) : ItOk F w1 H1 (z.cps.toList.map fun c => D.str ⟨#[c]⟩) .no (Its z) := by
  refine ⟨by simpa using hl, fun w2 H2 S2 st _ i hi => ?_, fun w2 H2 S2 st _ => ?_⟩
  · have hi' : i < z.cps.size := by simpa using hi
    refine ⟨hi', fun x H3 y => ?_⟩
    obtain ⟨e3, c, e4, e5⟩ := y
    subst e3 e5
    rw [Array.getElem?_eq_getElem hi'] at e4
    cases e4
    refine ⟨Step.refl st.sr, ?_⟩
    simp only [List.getElem_map, Array.getElem_toList]
    exact .str _
  · show z.cps.size ≤ _
    simp
/-- anything -/
theorem snd_walk (hK : X.K = F.K) (he : PE X e (TX F E fa)) : PI X tg e (TIX F E fun ρ S => (fa ρ S).bind fun x S => walkR x S) := by
  refine ⟨fun pins s σ H R I ⟨w, ρ, S, hS, hE, hf⟩ => ?_⟩
  refine go he I hS (Step.refl hS) hE hf.bind fun u s1 v H1 x S1 w1 _ I1 r1 st1 _ rv1 k1 => ?_
  have TL : ∀ a it, Turn X.prog X.w X.K tg (Itl F.K a) [it] it (fun i h => h.IsListIter it a i) := fun a it => by rw [hK]; exact turn_list a it
  have TT : ∀ a it, Turn X.prog X.w X.K tg (Itt F.K a) [it] it (fun i h => h.IsTupleIter it a i) := fun a it => by rw [hK]; exact turn_tuple a it
  have LL : ∀ {a : Addr} {vs : List V}, SqL F.K H1 a vs → (vs.length ≤ sizeLine → R (Itl F.K a) H1) → wpAny (model X.prog X.w) X.A (pyIter (.ref a)) (PIE X pins σ tg R) X.xe s1 := fun {a vs} q h => by
    obtain ⟨its, rv, p, hz⟩ := I1.list (hK ▸ q : SqL X.K H1 a vs)
    exact wpAny_pyIter_list p.isList (pi_one (tk := s1.toks) I1 _ (TL a _) ⟨_, Heap.get?_push_size _ rfl, rfl, rfl⟩ (h hz))
  unfold walkR at k1
  split at k1
  · rename_i xs
    cases rv1 with
    | tup q d =>
      rename_i a vs
      have q := q.sq
      obtain rfl : u = Value.ref a := r1
      obtain ⟨its, rv, p, hz⟩ := I1.tuple (hK ▸ q : SqT X.K H1 a vs)
      refine wpAny_pyIter_tuple (show s1.heap.IsTuple a its.toArray from p) (pi_one (tk := s1.toks) I1 _ (TT a _) ⟨_, Heap.get?_push_size _ rfl, rfl, rfl⟩ ?_)
      exact k1 w1 H1 _ st1 (it_tup st1.sr q d (by rw [d.length]; exact hz))
  · rename_i xs
    obtain ⟨a, vs, rfl, q, d, h⟩ := it_frl st1 rv1
    obtain rfl : u = Value.ref a := r1
    exact LL q fun hz => k1 w1 H1 _ st1 (h (by rw [d.length]; exact hz))
  · rename_i r
    split at k1
    · rename_i xs hc
      obtain ⟨a, vs, rfl, q, d, h⟩ := it_ref st1 rv1 hc
      obtain rfl : u = Value.ref a := r1
      exact LL (.of q) fun hz => k1 w1 H1 _ st1 (h (by rw [d.length]; exact hz))
    · rename_i kvs hc
      obtain ⟨a, o, rfl, e1, e2, e3⟩ := ref_at st1.sr rv1 hc
      obtain rfl : u = Value.ref a := r1
      cases e3 with
      | frz kv =>
        rename_i us ob
        obtain ⟨hs, hgd, hx, es, ep, vs, hdt, hsz, kv2, hm⟩ := I1.frzK e2
        have hz : us.length ≤ sizeLine := by
          obtain ⟨_, z⟩ := I1.hok a _ e2
          exact z.1
        refine iter_keys hs hgd hx hdt (pi_one (tk := s1.toks) I1 _ (turn_keys _ hdt) ⟨_, Heap.get?_push_size _ rfl, rfl, ?_⟩ (k1 w1 H1 _ st1 (keys_ok e2 kv (by rw [kv.length]; exact hz))))
        rw [hsz] <;> rfl
    · exact k1.elim
  · rename_i xs
    obtain ⟨a, vs, rfl, q, d, h⟩ := it_new st1 rv1
    obtain rfl : u = Value.ref a := r1
    exact LL (.of q) fun hz => k1 w1 H1 _ st1 (h (by rw [d.length]; exact hz))
  · rename_i z _
    split at k1
    · rename_i hz
      cases rv1
      obtain ⟨t, rfl⟩ := r1
      have q : R (Its z) H1 := k1 w1 H1 _ st1 (str_ok st1.sr hz)
      cases ha : z.cps.all (· < 128)
      · exact wpAny_pyIter_wide ha (pi_one (tk := s1.toks) I1 _ (turn_str _ z t "str_iterator" (.inr rfl)) ⟨_, Heap.get?_push_size _ rfl, rfl, rfl⟩ q)
      · exact wpAny_pyIter_ascii ha (pi_one (tk := s1.toks) I1 _ (turn_str _ z t "str_ascii_iterator" (.inl rfl)) ⟨_, Heap.get?_push_size _ rfl, rfl, rfl⟩ q)
    · exact k1.elim
  · exact k1.elim
/-! ### ranges -/
theorem rng_ok {i j : Int} (hS : SR F.K F.tb w1 H1 S1) (hr : rngOk i j) : ItOk F w1 H1 (rngD i j) .no (Itr i (j - i).toNat) := by
  obtain ⟨_, _, _, _, hr⟩ := hr
  refine ⟨by rw [rngD, List.length_map, List.length_range]; exact hr, fun w2 H2 S2 st _ n hn => ?_, fun w2 H2 S2 st _ => by show _ ≤ _; simp [rngD]⟩
  have hn' : n < (j - i).toNat := by simpa [rngD] using hn
  refine ⟨hn', fun x H3 y => ?_⟩
  obtain ⟨e3, e4⟩ := y
  subst e3 e4
  refine ⟨Step.refl st.sr, ?_⟩
  simp only [rngD, List.getElem_map, List.getElem_range]
  exact .int _
theorem snd_rng1 {p pos : Pos} (hg : Gl X "range") (hm : X.mg "range" = none) (ha : PE X a (TX F E fa)) (hs : notStar a = true) :
    PI X tg (.Call (.Name "range" p) [a] [] pos) (TIX F E fun ρ S => (fa ρ S).bind fun y S => match (RV.d (.int 0)), y with
    | .d (.int i), .d (.int j) => if rngOk i j then .ok (rngD i j, .no) S else .bad
    | _, _ => .bad) := by
  refine ⟨fun pins s σ H R I ⟨w, ρ, S, hS, hE, hf⟩ => ?_⟩
  refine Call_ (ld_blt I hg hm boot_range (PyProof.Rows.callWith_type1 ?_ (star_cons hs _ _) rfl))
  refine args_cons (go ha I hS (Step.refl hS) hE hf.bind fun u s1 v H1 x S1 w1 _ I1 r1 st1 _ rv1 k1 => args_nil ?_) (star_cons hs _ _)
  split at k1
  · rename_i i j e1 e2
    cases e1
    split at k1
    · rename_i hr
      cases rv1
      obtain ⟨t, rfl⟩ := r1
      refine call_range_1 (range_it I1 (by omega) (by omega) hr.2.2.1 hr.2.2.2.1 ?_)
      exact k1 w1 H1 _ st1 (rng_ok st1.sr hr)
    · exact k1.elim
  · exact k1.elim
theorem snd_rng2 {p pos : Pos} (hg : Gl X "range") (hm : X.mg "range" = none) (ha : PE X a (TX F E fa)) (hb : PE X b (TX F E fb)) (hs : notStar a = true) (hs2 : notStar b = true) :
    PI X tg (.Call (.Name "range" p) [a, b] [] pos) (TIX F E fun ρ S => (fa ρ S).bind fun x S => (fb ρ S).bind fun y S => match x, y with
    | .d (.int i), .d (.int j) => if rngOk i j then .ok (rngD i j, .no) S else .bad
    | _, _ => .bad) := by
  refine ⟨fun pins s σ H R I ⟨w, ρ, S, hS, hE, hf⟩ => ?_⟩
  refine Call_ (ld_blt I hg hm boot_range (PyProof.Rows.callWith_type1 ?_ (star_cons hs _ _) (star_plain (es := [b]) _ _ (by simp [hs2]))))
  refine args_cons (go ha I hS (Step.refl hS) hE hf.bind fun u s1 v H1 x S1 w1 _ I1 r1 st1 _ rv1 k1 => ?_) (star_cons hs _ _)
  refine args_cons (go hb I1 hS st1 (hE.step hS st1) k1.bind fun u2 s2 v2 H2 y S2 w2 _ I2 r2 st2 st12 rv2 k2 => args_nil ?_) (star_cons hs2 _ _)
  split at k2
  · rename_i i j
    split at k2
    · rename_i hr
      cases rv1
      cases rv2
      obtain ⟨t, rfl⟩ := r1
      obtain ⟨t2, rfl⟩ := r2
      refine call_range_2 (range_it I2 hr.1 hr.2.1 hr.2.2.1 hr.2.2.2.1 ?_)
      exact k2 w2 H2 _ st2 (rng_ok st2.sr hr)
    · exact k2.elim
  · exact k2.elim
theorem rng3_ok {i j k : Int} (hS : SR F.K F.tb w1 H1 S1) (hr : rng3Ok i j k) : ItOk F w1 H1 ((List.range (Builtin.Range.rangeSize i j k).toNat).map (fun n => D.int (i + (n : Nat) * k))) .no (Itc i k (Builtin.Range.rangeSize i j k).toNat) := by
  refine ⟨by rw [List.length_map, List.length_range]; exact hr.2.2.2, fun w2 H2 S2 st _ n hn => ?_, fun w2 H2 S2 st _ => by show _ ≤ _; simp⟩
  have hn' : n < (Builtin.Range.rangeSize i j k).toNat := by simpa using hn
  refine ⟨hn', fun x H3 y => ?_⟩
  obtain ⟨e3, e4⟩ := y
  subst e3 e4
  refine ⟨Step.refl st.sr, ?_⟩
  simp only [List.getElem_map, List.getElem_range]
  exact .int _
theorem snd_rng3 {p pos : Pos} (hg : Gl X "range") (hm : X.mg "range" = none) (ha : PE X a (TX F E fa)) (hb : PE X b (TX F E fb)) (hc : PE X c (TX F E fc)) (hs : notStar a = true) (hs2 : notStar b = true) (hs3 : notStar c = true) :
    PI X tg (.Call (.Name "range" p) [a, b, c] [] pos) (TIX F E fun ρ S => (fa ρ S).bind fun x S => (fb ρ S).bind fun y S => (fc ρ S).bind fun z S => match x, y, z with
    | .d (.int i), .d (.int j), .d (.int k) => if rng3Ok i j k then .ok ((List.range (Builtin.Range.rangeSize i j k).toNat).map (fun n => D.int (i + (n : Nat) * k)), .no) S else .bad
    | _, _, _ => .bad) := by
  refine ⟨fun pins s σ H R I ⟨w, ρ, S, hS, hE, hf⟩ => ?_⟩
  refine Call_ (ld_blt I hg hm boot_range (PyProof.Rows.callWith_type1 ?_ (star_cons hs _ _) (star_plain (es := [b, c]) _ _ (by simp [hs2, hs3]))))
  refine args_cons (go ha I hS (Step.refl hS) hE hf.bind fun u s1 v H1 x S1 w1 _ I1 r1 st1 _ rv1 k1 => ?_) (star_cons hs _ _)
  refine args_cons (go hb I1 hS st1 (hE.step hS st1) k1.bind fun u2 s2 v2 H2 y S2 w2 _ I2 r2 st2 st12 rv2 k2 => ?_) (star_cons hs2 _ _)
  refine args_cons (go hc I2 hS st2 (hE.step hS st2) k2.bind fun u3 s3 v3 H3 z S3 w3 _ I3 r3 st3 st23 rv3 k3 => args_nil ?_) (star_cons hs3 _ _)
  split at k3
  · rename_i i j k _ _ _
    split at k3
    · rename_i hr
      cases rv1
      cases rv2
      cases rv3
      obtain ⟨t, rfl⟩ := r1
      obtain ⟨t2, rfl⟩ := r2
      obtain ⟨t3, rfl⟩ := r3
      have q : R (Itc i k (Builtin.Range.rangeSize i j k).toNat) H3 := k3 w3 H3 _ st3 (rng3_ok st3.sr hr)
      obtain ⟨c0, c1, c2, _⟩ := hr
      have c3 := PyProof.Rows.rangeSize_toNat i j k
      refine call_range_3 c0 ?_ (.inl (PyProof.noPylong_small c1))
      refine wpAny_pyIter_range (IsRange.new ..) c2 ?_
      have I4 : Inv X pins σ H3 { s3 with heap := s3.heap.push { cls := .type "range", data := .fields #[.int i t, .int j t2, .int k t3] } } := I3.kept (t' := s3.toks) fun b o e => Heap.get?_push_of_some _ e
      refine pi_one (tk := s3.toks) I4 _ (turn_rangeC _ i k _) ?_ q
      have e1 : i + ((0 : Nat) : Int) * k = i := by simp
      have e2 : (((Builtin.Range.rangeSize i j k).toNat : Nat) : Int) - ((0 : Nat) : Int) = Builtin.Range.rangeSize i j k := by rw [c3]; simp
      show IsRangeIter _ _ (i + ((0 : Nat) : Int) * k) ((((Builtin.Range.rangeSize i j k).toNat : Nat) : Int) - ((0 : Nat) : Int)) k
      rw [e1, e2]
      exact Heap.get?_push_size _ rfl
    · exact k3.elim
  · exact k3.elim
end
end CH
/-! SD: enumerate of a list, of a tuple. -/
namespace CH
open PySem PySem.Spec PyProof.Rows L2
section
variable {prog : Program} {w : World} {A : Around} {E : Value → Shared → Prop} {s : Shared}
theorem enu_meets {v : Value} {o : PySem.Obj} {C : Heap → Prop} (B : Begins v o C) :
    Meets (Builtin.«enumerate.__new__» ⟨[.type "enumerate", v], []⟩) (fun _ R z => C z.heap ∧
      R (.ok (.ret (.ref (z.heap.push o).objs.size))) { z with heap := (z.heap.push o).push { cls := .type "enumerate", data := .fields #[.none, .bool false, .ref z.heap.objs.size, rawInt 0, .none, .none] } }) :=
  Meets.of_wp fun pr wo ar R z hz => by
    obtain ⟨hp, gn, dr, tk, oz⟩ := z
    obtain ⟨hc, hz⟩ := hz
    have sub1 := sub_enumerate
    have it1 : ∀ {A' : Around} {E' : Value → Shared → Prop} {Q' : Value → Shared → Prop}, Q' (.ref hp.objs.size) ⟨hp.push o, gn, dr, tk, oz⟩ → wpAny (model pr wo) A' (pyIter v) Q' E' ⟨hp, gn, dr, tk, oz⟩ :=
      fun q => B.iter pr wo _ _ ⟨hp, gn, dr, tk, oz⟩ _ hc q
    wp_walk using it1
    refine wpAny_stack_any fun _ => wpAny_pure ?_
    split
    · rename_i cc _ _ _ _ _
      cases (cc == Value.type "enumerate") <;> (wp_walk using it1; exact ⟨_, rfl, hz⟩)
    · wp_walk using it1
      exact ⟨_, rfl, hz⟩
theorem enu_call {v : Value} {o : PySem.Obj} {C : Heap → Prop} {Q : Value → Shared → Prop} (B : Begins v o C) (hc : C s.heap)
    (k : ∀ g, IsEnum g (s.heap.objs.size + 1) s.heap.objs.size 0 .none → g.get? s.heap.objs.size = some o → (∀ b u, s.heap.get? b = some u → g.get? b = some u) → Q (.ref (s.heap.objs.size + 1)) { s with heap := g }) :
    wpAny (model prog w) A (call (.type "enumerate") [v]) Q E s := by
  refine callType_new PySem.F.called_enumerate (by decide) (PySem.F.typeCall_enumerate_1 _) (PySem.F.newCall_enumerate_1 _) (fun z => PySem.F.args_object_init_2 z _) PySem.F.entry_enumerate_new (enu_meets B) ⟨hc, ?_⟩
  have e1 : (s.heap.push o).objs.size = s.heap.objs.size + 1 := Heap.size_push ..
  show _ ∧ _
  rw [e1]
  have e2 : IsEnum ((s.heap.push o).push { cls := .type "enumerate", data := .fields #[.none, .bool false, .ref s.heap.objs.size, rawInt 0, .none, .none] }) (s.heap.objs.size + 1) s.heap.objs.size 0 .none := by
    have z := Heap.get?_push_size (s.heap.push o) (o := { cls := .type "enumerate", data := .fields #[.none, .bool false, .ref s.heap.objs.size, rawInt 0, .none, .none] }) rfl
    rw [e1] at z; exact z
  exact ⟨⟨_, e2, rfl⟩, k _ e2 (Heap.get?_push_of_some _ (Heap.get?_push_size _ B.free)) fun b u x => Heap.get?_push_of_some _ (Heap.get?_push_of_some _ x)⟩
end
/-- a list or a tuple, its iterator -/
def SqB (K : PySem.W.Frag) (b : Bool) (H : Hp) (a : Addr) (xs : List V) : Prop := match b with
  | true => SqL K H a xs
  | false => SqT K H a xs
def ItB (b : Bool) (h : Heap) (it a : Addr) (i : Nat) : Prop := match b with
  | true => h.IsListIter it a i
  | false => h.IsTupleIter it a i
def SeqB (b : Bool) (h : Heap) (a : Addr) (xs : Array Value) : Prop := match b with
  | true => h.IsList a xs
  | false => h.IsTuple a xs
theorem ItB.obj {b : Bool} {h : Heap} {it a : Addr} {i : Nat} (x : ItB b h it a i) : ∃ o, h.get? it = some o ∧ (∀ v, o.data ≠ .cell v) ∧ (o.cls = .type "list_iterator" ∨ o.cls = .type "tuple_iterator") := by
  cases b with
  | true => obtain ⟨o, h1, h2, h3⟩ := x; exact ⟨o, h1, fun v q => by (rw [h3] at q; cases q), .inl h2⟩
  | false => obtain ⟨o, h1, h2, h3⟩ := x; exact ⟨o, h1, fun v q => by (rw [h3] at q; cases q), .inr h2⟩
theorem ItB.at {b : Bool} {h g : Heap} {it a : Addr} {i : Nat} (x : ItB b h it a i) (k : ∀ o, h.get? it = some o → g.get? it = some o) : ItB b g it a i := by
  cases b with
  | true => exact (show h.IsListIter it a i from x).at k
  | false => exact (show h.IsTupleIter it a i from x).at k
theorem SeqB.obj {b : Bool} {h : Heap} {a : Addr} {xs : Array Value} (x : SeqB b h a xs) : ∃ o, h.get? a = some o ∧ (o.cls = .type "list" ∨ o.cls = .type "tuple") := by
  cases b with
  | true => obtain ⟨o, h1, h2, _⟩ := x; exact ⟨o, h1, .inl h2⟩
  | false => obtain ⟨o, h1, h2, _⟩ := x; exact ⟨o, h1, .inr h2⟩
theorem seqB_at {X : Cx} {pins : List (Addr × PySem.Obj)} {σ : L2.St} {H : Hp} {s : Shared} {b : Bool} {a : Addr} {xs : List V} (I : Inv X pins σ H s) (q : SqB X.K b H a xs) : ∃ its : List Value, Vals xs its ∧ SeqB b s.heap a its.toArray ∧ xs.length ≤ sizeLine := by
  cases b with
  | true => obtain ⟨its, r, p, z⟩ := I.list q; exact ⟨its, r, p.isList, z⟩
  | false => obtain ⟨its, r, p, z⟩ := I.tuple q; exact ⟨its, r, p, z⟩
theorem seqB_inj {X : Cx} {pins : List (Addr × PySem.Obj)} {σ : L2.St} {H : Hp} {s : Shared} {b : Bool} {a : Addr} {xs ys : List V} (I : Inv X pins σ H s) (q : SqB X.K b H a xs) (r : SqB X.K b H a ys) : xs = ys := by
  cases b with
  | true => exact I.list_inj q r
  | false => exact I.tuple_inj q r
theorem drawsB {P : Program} {w : World} {A : Around} (b : Bool) (hh : A.handled = none) (it a : Addr) (hne : a ≠ it) (xs : Array Value) : Draws P w A it [it, a] xs.size (fun i v => xs[i]? = some v) (fun i h => ItB b h it a i ∧ SeqB b h a xs) := by
  cases b with
  | true => exact Draws.list hh it a hne xs
  | false => exact Draws.tuple hh it a hne xs
/-- each item in a new pair -/
def ItEn (K : PySem.W.Frag) (b : Bool) (a : Addr) : It where
  go := fun i H => ∃ (xs : List V) (x : V), SqB K b H a xs ∧ xs[i]? = some x
  yld := fun i H v G => ∃ T x ob, v = .ref T ∧ ob.dict = none ∧ H T = none ∧ G = upd H T (.frz ob (.tup [.int (i : Nat), x])) ∧ ∀ xs, SqB K b H a xs → xs[i]? = some x
  stop := fun i H => ∃ xs : List V, SqB K b H a xs ∧ xs.length ≤ i
theorem enu_turn {P : Program} {w : World} {K : PySem.W.Frag} {elts : List Expr} {kk : Nat} {tpos : Pos} (b : Bool) (a e it : Addr) (hne : e ≠ it) :
    Turn P w K (.Tuple elts kk tpos) (ItEn K b a) [e, it] e (fun i h => (∃ old, IsEnum h e it ((i : Nat) : Int) old) ∧ ItB b h it a i) where
  mem := by simp
  obj := fun i h st c hb => by
    obtain ⟨⟨_, h1⟩, h2⟩ := st
    obtain ⟨o, h3, h4, _⟩ := h2.obj
    rcases List.mem_cons.mp hb with z | z
    · exact ⟨_, z ▸ h1, fun v q => by cases q⟩
    · exact ⟨_, (List.mem_singleton.mp z) ▸ h3, h4⟩
  keep := fun i h g st k => ⟨let ⟨⟨old, h1⟩, _⟩ := st; ⟨old, k e (by simp) _ h1⟩, st.2.at fun o q => k it (by simp) o q⟩
  item := by
    intro X eP ew eK calm i pins s σ H E I hf st hg
    subst eP ew eK
    obtain ⟨⟨old, he⟩, hit⟩ := st
    obtain ⟨xs, x, hq, hx⟩ := hg
    obtain ⟨its, rv, tp, _⟩ := seqB_at I hq
    obtain ⟨u, hu, ru⟩ := rv.get hx
    obtain ⟨oi, hi1, _, hi2⟩ := hit.obj
    obtain ⟨oa, ha1, ha2⟩ := tp.obj
    have le : e < s.heap.objs.size := Heap.lt_size he
    have li : it < s.heap.objs.size := Heap.lt_size hi1
    have ni : a ≠ it := fun z => by
      rw [z, hi1] at ha1
      cases ha1
      rcases ha2 with y | y <;> rcases hi2 with y2 | y2 <;> (rw [y] at y2; injection y2 with y2; exact absurd y2 (by decide))
    have nee : a ≠ e := fun z => by
      rw [z, he] at ha1
      cases ha1
      rcases ha2 with y | y <;> (injection y with y; exact absurd y (by decide))
    have D := drawsB (P := X.prog) (w := X.w) (A := X.A.in1) b (I.ok.hd calm) it a ni its.toArray
    have hlt : i < its.toArray.size := by
      have := (List.getElem?_eq_some_iff.mp hu).1
      simpa using this
    refine wpAny_pyNext_enum_itemD D he ⟨hit, tp⟩ hlt hne (by simp only [List.mem_cons, List.not_mem_nil, or_false, not_or]; exact ⟨hne, fun z => nee z.symm⟩) fun x' g tk hP ho hst hT hsz hk => ?_
    have ex : x' = u := by
      have hP : its.toArray[i]? = some x' := hP
      have e2 : its.toArray[i]? = its[i]? := by simp
      rw [e2, hu] at hP
      exact (Option.some.inj hP).symm
    subst ex
    refine ⟨_, rfl, wpAny_letOwnedTupleGo_enum (s := { s with heap := g, toks := tk + 1 }) ho fun g2 he2 sb => ?_⟩
    have hT2 : g2.get? s.heap.objs.size = some (plO #[.int i tk, x']) := (sb.2 _ (Nat.ne_of_gt le)).trans hT
    have fresh : ObjOk X.prog X.w (upd H s.heap.objs.size (.frz (plO #[.int i tk, x']) (.tup [.int (i : Nat), x]))) g2 s.heap.objs.size (.frz (plO #[.int i tk, x']) (.tup [.int (i : Nat), x])) :=
      ⟨hT2, by show 2 ≤ sizeLine; decide, [.int i tk, x'], .cons ⟨_, rfl⟩ (.cons ru .nil), ⟨_, hT2, rfl, _, rfl⟩⟩
    have J : Inv X pins σ (upd H s.heap.objs.size (.frz (plO #[.int i tk, x']) (.tup [.int (i : Nat), x]))) { s with heap := g2, toks := tk + 1 } :=
      I.turnedNew (ch := [e, it]) (fun c ob hb q => (sb.2 c (fun z => hb (by simp [z]))).trans (hk c ob (fun z => hb (by simp [z])) (fun z => hb (by simp [z])) q)) hf (Nat.le_refl _) fresh
    refine ⟨.ref s.heap.objs.size, _, J, rfl, ⟨_, x, _, rfl, rfl, I.hok.fresh (Nat.le_refl _), rfl, fun ys hy => by rw [seqB_inj I hy hq]; exact hx⟩, ⟨⟨x', ?_⟩, hst.1.at fun o q => (sb.2 it (Ne.symm hne)).trans q⟩, fun c hb => ?_⟩
    · have e1 : ((i + 1 : Nat) : Int) = (i : Int) + 1 := by omega
      rw [e1]; exact he2
    · have lb : c < s.heap.objs.size := by
        rcases List.mem_cons.mp hb with z | z
        · exact z ▸ le
        · exact (List.mem_singleton.mp z) ▸ li
      rw [upd_ne (Nat.ne_of_lt lb)]
      exact (hf c hb).1
  done := by
    intro X eP ew eK calm i pins s σ H E I hf st hg
    subst eP ew eK
    obtain ⟨⟨old, he⟩, hit⟩ := st
    obtain ⟨xs, hq, hx⟩ := hg
    obtain ⟨its, rv, tp, _⟩ := seqB_at I hq
    obtain ⟨f0, f1, f2, f3, f4, f5⟩ := hf it (by simp)
    have hl := rv.length
    have hTy : s.TypeIs (.ref e) "enumerate" := ⟨_, he, rfl⟩
    unfold pyNext
    refine wpAny_bind (wpAny_attempt (wpAny_callSpecial?_slot (name := Str.ofString "__next__") hTy PySem.F.slot_enumerate_next (wpAny_call_entry PySem.F.slot_enumerate_next hTy PySem.F.entry_enumerate_next ?_ (PySem.F.args_enumerate_next_1 _))))
    show wpAny _ _ (field (.ref e) 2 >>= _) _ _ _
    refine wpAny_bind (wpAny_field he rfl (x := .ref it) rfl ?_)
    cases b with
    | true =>
      refine wpAny_bind (wpAny_nextOf_list_end (I.ok.hd calm) (show s.heap.IsListIter it a i from hit) (show s.heap.IsList a its.toArray from tp) (by simp; omega) fun g z hz hc => ?_)
      obtain ⟨o, ho, hcl⟩ := hc
      refine wpAny_bind (wpAny_isInstance (T := "StopIteration") (b := true) ⟨o, ho, hcl⟩ isSubtype_stop ?_)
      exact wpAny_pure ⟨rfl, I.turned (t' := s.toks) (fun b o hb q => hz b o hb q) f0 f1 f3 f4 f5⟩
    | false =>
      refine wpAny_bind (wpAny_nextOf_tuple_end (I.ok.hd calm) (show s.heap.IsTupleIter it a i from hit) (show s.heap.IsTuple a its.toArray from tp) (by simp; omega) fun g z hz hc => ?_)
      obtain ⟨o, ho, hcl⟩ := hc
      refine wpAny_bind (wpAny_isInstance (T := "StopIteration") (b := true) ⟨o, ho, hcl⟩ isSubtype_stop ?_)
      exact wpAny_pure ⟨rfl, I.turned (t' := s.toks) (fun b o hb q => hz b o hb q) f0 f1 f3 f4 f5⟩
  self := fun A i s Q E st k => let ⟨⟨_, h1⟩, _⟩ := st; wpAny_pyIter_enum h1 k
section
variable {F : Fx} {E : XK} {X : Cx} {a : Expr} {fa : Env → Store → R RV} {w w1 : List Addr} {H H1 : Hp} {S S1 : Store} {x : RV} {v : V}
theorem enu_len (xs : List D) : (enuD xs).length = xs.length := by simp [enuD]
theorem enu_get {xs : List D} {i : Nat} (h : i < (enuD xs).length) : (enuD xs)[i] = .tup [.int (i : Nat), xs[i]'(by rw [enu_len] at h; exact h)] := by simp [enuD]
/-- the pairs of a list, of a tuple -/
theorem enu_ok (b : Bool) {a : Addr} {xs : List D} {g : Grd} (hl : xs.length ≤ sizeLine) (hq : ∀ w2 H2 S2, Step F.K F.tb w H w2 H2 S2 → g.ok S2 → ∃ vs, SqB F.K b H2 a vs ∧ DVs F.K w2 H2 xs vs) : ItOk F w H (enuD xs) g (ItEn F.K b a) := by
  refine ⟨by rw [enu_len]; exact hl, fun w2 H2 S2 st hg i hi => ?_, fun w2 H2 S2 st hg => ?_⟩
  · obtain ⟨vs, q, d⟩ := hq _ _ _ st hg
    have hi' : i < xs.length := by rw [← enu_len]; exact hi
    obtain ⟨z, e, dv⟩ := d.nth hi'
    refine ⟨⟨vs, z, q, e⟩, fun y H3 hy => ?_⟩
    obtain ⟨T, z', ob, e1, e0, hT, e2, hz⟩ := hy
    have e3 := hz vs q
    rw [e] at e3
    cases e3
    subst e1 e2
    rw [enu_get hi]
    exact new_tup st.sr (Step.refl st.sr) (ds := [.int (i : Nat), xs[i]]) (vs := [.int (i : Nat), z]) e0 hT (.cons (.int _) (.cons dv .nil))
  · obtain ⟨vs, q, d⟩ := hq _ _ _ st hg
    exact ⟨vs, q, by rw [enu_len, d.length]; exact Nat.le_refl _⟩
theorem snd_enu {elts : List Expr} {kk : Nat} {tpos p pos : Pos} (hK : X.K = F.K) (hg : Gl X "enumerate") (hm : X.mg "enumerate" = none) (ha : PE X a (TX F E fa)) (hs : notStar a = true) :
    PI X (.Tuple elts kk tpos) (.Call (.Name "enumerate" p) [a] [] pos) (TIX F E fun ρ S => (fa ρ S).bind fun x S => R.of ((walkS x S).map fun w => (enuD w.1, w.2)) S) := by
  refine ⟨fun pins s σ H R I ⟨w, ρ, S, hS, hE, hf⟩ => ?_⟩
  refine Call_ (ld_blt I hg hm boot_enumerate (PyProof.Rows.callWith_type1 ?_ (star_cons hs _ _) rfl))
  refine args_cons (go ha I hS (Step.refl hS) hE hf.bind fun u s1 v H1 x S1 w1 _ I1 r1 st1 _ rv1 k1 => args_nil ?_) (star_cons hs _ _)
  have pair : ∀ {i : Nat}, i ∈ [s1.heap.objs.size + 1, s1.heap.objs.size] → s1.heap.objs.size ≤ i := fun {i} hi => by
    rcases List.mem_cons.mp hi with z | z
    · rw [z]; exact Nat.le_add_right _ _
    · rw [List.mem_singleton.mp z]; exact Nat.le_refl _
  have LL : ∀ {b : Addr} {vs : List V}, SqL F.K H1 b vs → (vs.length ≤ sizeLine → R (ItEn F.K true b) H1) → wpAny (model X.prog X.w) X.A (call (.type "enumerate") [.ref b]) (fun z s2 => wpAny (model X.prog X.w) X.A (pyIter z) (PIE X pins σ (.Tuple elts kk tpos) R) X.xe s2) X.xe s1 := fun {b vs} q h => by
    obtain ⟨its, rv, pl, hz⟩ := I1.list (hK ▸ q : SqL X.K H1 b vs)
    refine enu_call (begins_list b its.toArray) pl.isList fun g h1 h2 h3 => wpAny_pyIter_enum h1 ?_
    exact ⟨_, [s1.heap.objs.size + 1, s1.heap.objs.size], _, _, H1, rfl, I1.kept (t' := s1.toks) h3, enu_turn true b _ _ (Nat.succ_ne_self _), ⟨⟨_, h1⟩, ⟨_, h2, rfl, rfl⟩⟩, fun b hb => I1.fpOk (pair hb) (I1.hok.fresh (pair hb)), hK ▸ h hz⟩
  unfold walkS at k1
  split at k1
  · rename_i xs
    cases rv1 with
    | tup q d =>
      rename_i b vs
      have q := q.sq
      obtain rfl : u = Value.ref b := r1
      obtain ⟨its, rv, tp, hz⟩ := I1.tuple (hK ▸ q : SqT X.K H1 b vs)
      refine enu_call (begins_tuple b its.toArray) (show s1.heap.IsTuple b its.toArray from tp) fun g h1 h2 h3 => wpAny_pyIter_enum h1 ?_
      exact ⟨_, [s1.heap.objs.size + 1, s1.heap.objs.size], _, _, H1, rfl, I1.kept (t' := s1.toks) h3, enu_turn false b _ _ (Nat.succ_ne_self _), ⟨⟨_, h1⟩, ⟨_, h2, rfl, rfl⟩⟩, fun b hb => I1.fpOk (pair hb) (I1.hok.fresh (pair hb)),
        hK ▸ k1 w1 H1 _ st1 (enu_ok false (by rw [d.length]; exact hz) fun w2 H2 S2 st _ => ⟨_, st.ext.sqt st1.sr _ _ q, d.step st1.sr st⟩)⟩
  · rename_i xs
    obtain ⟨b, vs, rfl, q, d, h⟩ := it_frl st1 rv1
    obtain rfl : u = Value.ref b := r1
    cases rv1 with
    | lst q1 d1 =>
      exact LL q fun hz => k1 w1 H1 _ st1 (enu_ok true (by rw [d.length]; exact hz) fun w2 H2 S2 st _ => ⟨_, (st.ext.frl st1.sr _ _ q1).sq, d1.step st1.sr st⟩)
  · rename_i r _
    split at k1
    · rename_i xs hc
      cases rv1 with
      | ref e =>
        obtain ⟨b, o, e1, e2, e3⟩ := st1.sr.at_ r _ hc
        rw [e] at e1; cases e1
        cases e3 with
        | lst t =>
          obtain rfl : u = Value.ref _ := r1
          refine LL (.of e2) fun hz => k1 w1 H1 _ st1 (enu_ok true (by rw [t.length]; exact hz) fun w2 H2 S2 st hg => ?_)
          obtain ⟨a2, o2, e5, e6, e7⟩ := st.sr.at_ r _ hg
          rw [st.at r _ e] at e5; cases e5
          cases e7 with
          | lst t2 => exact ⟨_, SqL.of e6, t2⟩
    · exact k1.elim
  · rename_i xs
    obtain ⟨b, ho, rfl, e1, cv, na, n0, nf⟩ := rv1
    obtain rfl : u = Value.ref b := r1
    cases cv with
    | lst t =>
      refine LL (.of e1) fun hz => k1 w1 H1 _ st1 (enu_ok true (by rw [t.length]; exact hz) fun w2 H2 S2 st _ => ⟨_, SqL.of ?_, t.step st1.sr st⟩)
      rcases st.ext b _ e1 na with z | ⟨ps, qs, z, _⟩
      · exact z
      · cases z
  · exact k1.elim
end
end CH
/-! CP: statements. -/
namespace CH
open PySem PySem.Spec PyProof.Rows L2
/-- no comprehension, no display of a tuple, no display of a set -/
def notComp : Expr → Bool
  | .ListComp _ _ _ _ => false
  | .SetComp _ _ _ _ => false
  | .DictComp _ _ _ _ _ => false
  | _ => true
theorem swaps_none {e : Expr} (h : notComp e = true) (t : Option Expr) (n : Nat) (env : PySem.Env) : swapsWith e t n env = pure false := by
  cases e <;> first | rfl | cases h
def notTupE : Expr → Bool
  | .Tuple _ _ _ => false
  | _ => true
theorem swapped_none {e : Expr} (h : notTupE e = true) (ts : List Expr) (env : PySem.Env) : swappedStores ts e env = pure none := by
  unfold swappedStores
  split
  · rename_i z
    split at z
    · cases h
    · cases h
    · cases z
  · rfl
def notSetE : Expr → Bool
  | .Set _ _ _ => false
  | _ => true
theorem fold_none {e : Expr} (h : notSetE e = true) (env : PySem.Env) (x : Value) : foldedSetIterable e env x = pure x := by
  cases e <;> first | rfl | cases h
section
variable {F : Fx} {E : XK} {X : Cx} {tg e a b c o i : Expr} {fa fb fc fo fi : Env → Store → R RV} {gc : Env → Store → R Bool} {fs : Env → Store → RS} {pos : Pos}
theorem ps_x (he : PE X e (TX F E fa)) (hs : notComp e = true) : PS X (.Expr e pos) (TSX F E fun ρ S => (fa ρ S).bindS fun _ S => .nx ρ S) := by
  refine PS.imp (ps_expr he (swaps_none hs _ _ _)) fun D σ H ⟨w, ρ, S, hS, hE, hf⟩ => ⟨w, ρ, S, hS, hE, ?_⟩
  exact finE_iff.mpr ((finS_bind hf).mono fun x S1 _ k w1 H1 v st _ => (show ∀ w' H' σ', Step F.K F.tb w H w' H' S1 → ER F.K w' H' ρ σ' → D.nx σ' H' from k) w1 H1 σ st (hE.step hS st))
theorem ps_rt (he : PE X e (TX F E fa)) : PS X (.Return (some e) pos) (TSX F E fun ρ S => (fa ρ S).bindS fun x S => .rt x S) := by
  refine PS.imp (ps_ret he) fun D σ H ⟨w, ρ, S, hS, hE, hf⟩ => ⟨w, ρ, S, hS, hE, ?_⟩
  exact finE_iff.mpr ((finS_bind hf).mono fun x S1 _ k => k)
theorem ps_rtN : PS X (.Return none pos) (TSX F E fun _ S => .rt (.d .non) S) :=
  PS.imp ps_retN fun D σ H ⟨w, ρ, S, hS, hE, hf⟩ => (show ∀ w' H' v, Step F.K F.tb w H w' H' S → RVr F.K w' H H' (.d .non) v → D.rt v H' from hf) w H .non (Step.refl hS) .non
theorem ps_nx {st : Stmt} (h : PS X st tNext) : PS X st (TSX F E fun ρ S => .nx ρ S) :=
  PS.imp h fun D σ H ⟨w, ρ, S, hS, hE, hf⟩ => (show ∀ w' H' σ', Step F.K F.tb w H w' H' S → ER F.K w' H' ρ σ' → D.nx σ' H' from hf) w H σ (Step.refl hS) hE
theorem ps_bk : PS X (.Break pos) (TSX F E fun ρ S => .bk ρ S) :=
  PS.imp ps_break fun D σ H ⟨w, ρ, S, hS, hE, hf⟩ => (show ∀ w' H' σ', Step F.K F.tb w H w' H' S → ER F.K w' H' ρ σ' → D.bk σ' H' from hf) w H σ (Step.refl hS) hE
theorem ps_ct : PS X (.Continue pos) (TSX F E fun ρ S => .ct ρ S) :=
  PS.imp ps_continue fun D σ H ⟨w, ρ, S, hS, hE, hf⟩ => (show ∀ w' H' σ', Step F.K F.tb w H w' H' S → ER F.K w' H' ρ σ' → D.ct σ' H' from hf) w H σ (Step.refl hS) hE
/-- a value gets its handle, then stands in D's way -/
theorem mat_fin {x : RV} {S1 : Store} {k : D → Store → RS} {w w1 : List Addr} {H H1 : Hp} {S : Store} {v : V} {D : Ends} (hS : SR F.K F.tb w H S) (st : Step F.K F.tb w H w1 H1 S1) (rv : RVr F.K w1 H H1 x v) (h : FinS F E ((mat x S1).bindS k) w H D) :
    ∃ d S2 w2, Step F.K F.tb w H w2 H1 S2 ∧ DV F.K w2 H1 d v ∧ FinS F E (k d S2) w H D := by
  obtain ⟨d, S2, w2, e, st2, dv⟩ := mat_step hS st rv
  rw [e] at h
  exact ⟨d, S2, w2, st2, dv, h⟩
theorem matB_fin {x : R RV} {k : D → Store → RS} {w : List Addr} {H : Hp} {S : Store} {D : Ends} (hS : SR F.K F.tb w H S) (h : FinS F E ((matB x).bindS k) w H D) :
    FinE F E x w H fun v H1 => ∃ d S2 w2, Step F.K F.tb w H w2 H1 S2 ∧ DV F.K w2 H1 d v ∧ FinS F E (k d S2) w H D := by
  cases x with
  | ok x S1 => exact fun w1 H1 v st rv => mat_fin hS st rv h
  | exc x S1 => exact h
  | bad => exact h
theorem matB_fin2 {x : R RV} {k : D → Store → RS} {w w1 : List Addr} {H H1 : Hp} {S S1 : Store} {D : Ends} (hS : SR F.K F.tb w H S) (st : Step F.K F.tb w H w1 H1 S1) (h : FinS F E ((matB x).bindS k) w H D) :
    FinE F E x w1 H1 fun v H2 => ∃ d S2 w2, Step F.K F.tb w H w2 H2 S2 ∧ Step F.K F.tb w1 H1 w2 H2 S2 ∧ DV F.K w2 H2 d v ∧ FinS F E (k d S2) w H D := by
  cases x with
  | ok x S2 =>
    intro w2 H2 v st2 rv
    obtain ⟨d, S3, w3, e, st3, dv⟩ := mat_step st.sr st2 rv
    refine ⟨d, S3, w3, st.trans hS st3, st3, dv, ?_⟩
    have h : FinS F E ((mat x S2).bindS k) w H D := h
    rw [e] at h
    exact h
  | exc x S2 => exact fun w2 H2 cls d st2 xv => h w2 H2 cls d (st.trans hS st2) xv
  | bad => exact h
theorem swaps_cell {e : Expr} {x : Str} {p : Pos} {n : Nat} {env : PySem.Env} (h : env.scope.names.lookup x = some .cell) : swapsWith e (some (.Name x p)) n env = pure false := by
  have hk : env.kindOf x = some .cell := h
  cases e <;> first | rfl | (unfold swapsWith; simp only [hk]; rw [show (some NameKind.cell == some NameKind.local) = false from rfl, Bool.and_false, Bool.false_and, Bool.false_and])
theorem ps_nm {i : Nat} {x : Str} {pos' : Pos} (hN : X.N.Nodup) (hi : X.N[i]? = some x) (hx : Loc X.env.scope x) (hf : X.fn x = true ∨ X.env.scope.names.lookup x = some .local) (he : PE X e (TX F E fa)) (hs : swapsWith e (some (.Name x pos')) pos.line X.env = pure false) :
    PS X (.Assign [.Name x pos'] e pos) (TSX F E fun ρ S => (matB (fa ρ S)).bindS fun v S => .nx (ρ.set i (some v)) S) := by
  refine PS.imp (ps_set hN hi hx he hs hf) fun D σ H ⟨w, ρ, S, hS, hE, hw⟩ => ⟨w, ρ, S, hS, hE, ?_⟩
  refine finE_iff.mpr ((finE_iff.mp (matB_fin hS hw)).mono fun x S1 _ k w1 H1 v st rv => ?_)
  obtain ⟨d, S2, w2, st2, dv, h⟩ := k w1 H1 v st rv
  exact (show ∀ w' H' σ', Step F.K F.tb w H w' H' S2 → ER F.K w' H' (ρ.set i (some d)) σ' → D.nx σ' H' from h) w2 H1 _ st2 ((hE.step hS st2).set i dv)
/-- a tuple to targets -/
theorem ps_tgW {t : Tg} (hg : PG X tg (TGX1 F (.tup t .nil))) (he : PE X e (TX F E fa)) (hs : notComp e = true) (ht : swappedStores [tg] e X.env = pure none) (h1 : (assignEach [tg] X.env).map (·.2) = [assign tg X.env]) :
    PS X (.Assign [tg] e pos) (TSX F E fun ρ S => (fa ρ S).bindS fun x S => match tupv x with
      | some xs => (match bindT t xs ρ with
        | some ρ1 => .nx ρ1 S
        | none => .bad)
      | none => .bad) := by
  refine PS.imp (ps_asg he hg (swaps_none hs _ _ _) ht h1) fun D σ H ⟨w, ρ, S, hS, hE, hw⟩ => ⟨w, ρ, S, hS, hE, ?_⟩
  refine finE_iff.mpr ((finS_bind hw).mono fun x S1 _ k w1 H1 v st rv => ?_)
  split at k
  · rename_i xs e1
    split at k
    · rename_i ρ1 e2
      have ex : x = .d (.tup xs) := by
        unfold tupv at e1
        split at e1
        · cases e1; rfl
        · cases e1
      subst ex
      refine ⟨w1, ρ, S1, [.tup xs], ρ1, st.sr, hE.step hS st, .cons rv .nil, ?_, fun σ' hE' _ => ?_⟩
      · show (bindT t xs ρ).bind (bindT .nil []) = _
        rw [e2]; rfl
      · exact (show ∀ w' H' σ', Step F.K F.tb w H w' H' S1 → ER F.K w' H' ρ1 σ' → D.nx σ' H' from k) w1 H1 σ' st hE'
    · exact k.elim
  · exact k.elim
theorem ps_tg {t : Tg} (hg : PG X tg (TGX1 F (.tup t .nil))) (he : PE X e (TX F E fa)) (hs : notComp e = true) (ht : notTupE e = true) (h1 : (assignEach [tg] X.env).map (·.2) = [assign tg X.env]) :
    PS X (.Assign [tg] e pos) (TSX F E fun ρ S => (fa ρ S).bindS fun x S => match tupv x with
      | some xs => (match bindT t xs ρ with
        | some ρ1 => .nx ρ1 S
        | none => .bad)
      | none => .bad) := ps_tgW hg he hs (swapped_none ht _ _) h1
theorem aug_ok {bo : Bop} (hb : bo = .add ∨ bo = .sub) {pins : List (Addr × PySem.Obj)} {s : Shared} {σ : L2.St} {H : Hp} {d : D} {y : RV} {v1 v2 : V} {u1 u2 : Value} {w : List Addr} {H0 : Hp} {S : Store} {x : D} {S' : Store} {Q : VK} (I : Inv X pins σ H s)
    (r1 : RelV v1 u1) (r2 : RelV v2 u2) (dv : DV F.K w H d v1) (rv : RVr F.K w H0 H y v2) (h : augR bo d y S = .ok x S') (hQ : ∀ v, S' = S → DV F.K w H x v → Q v H) : wpAny (model X.prog X.w) X.A (inplaceOp (opOf bo) u1 u2) (EP X pins σ Q) X.xe s := by
  rcases hb with e | e
  · subst e
    unfold augR at h
    split at h
    · cases h
      rename_i i j
      cases dv; cases rv
      exact ip_add pins s σ H _ _ u1 u2 Q I r1 r2 ⟨_, _, rfl, rfl, hQ _ rfl (.int _)⟩
    · rename_i z; cases z
    · cases h
  · subst e
    unfold augR at h
    split at h
    · rename_i z; cases z
    · cases h
      rename_i i j
      cases dv; cases rv
      exact ip_sub pins s σ H _ _ u1 u2 Q I r1 r2 ⟨_, _, rfl, rfl, hQ _ rfl (.int _)⟩
    · cases h
/-- name op= e -/
def TIpA (F : Fx) (bo : Bop) : TIp := fun x y H Q => ∃ (w : List Addr) (H0 : Hp) (S : Store) (d : D) (rv : RV) (z : D), DV F.K w H d x ∧ RVr F.K w H0 H rv y ∧ augR bo d rv S = .ok z S ∧ ∀ v, DV F.K w H z v → Q v H
theorem pip_aug {bo : Bop} (hb : bo = .add ∨ bo = .sub) : PIp X (opOf bo) (TIpA F bo) := fun pins s σ H x y v u Q I r1 r2 ⟨w, H0, S, d, rv, z, dv, hr, ha, hQ⟩ => aug_ok hb I r1 r2 dv hr ha fun v _ d => hQ v d
theorem augR_S {bo : Bop} {d : D} {y : RV} {S S' : Store} {z : D} (h : augR bo d y S = .ok z S') : S' = S := by
  unfold augR at h
  split at h <;> cases h <;> rfl
theorem augR_exc {bo : Bop} {d : D} {y : RV} {S S' : Store} {z : Exn} (h : augR bo d y S = .exc z S') : False := by
  unfold augR at h
  split at h <;> cases h
theorem ps_ag {i : Nat} {x : Str} {pos' : Pos} {bo : Bop} (hb : bo = .add ∨ bo = .sub) (hN : X.N.Nodup) (hi : X.N[i]? = some x) (hx : Loc X.env.scope x) (hf : X.fn x = true ∨ X.env.scope.names.lookup x = some .local) (he : PE X e (TX F E fa)) :
    PS X (.AugAssign (.Name x pos') (opOf bo) e pos) (TSX F E fun ρ S => match ρ[i]? with
      | some (some d) => (fa ρ S).bindS fun y S => (augR bo d y S).bindS fun v S => .nx (ρ.set i (some v)) S
      | _ => .bad) := by
  refine PS.imp (ps_aug hN hi hx he (pip_aug (F := F) hb) hf) fun D σ H ⟨w, ρ, S, hS, hE, hw⟩ => ?_
  dsimp only at hw
  split at hw
  · rename_i d ed
    obtain ⟨v0, e0, dv0⟩ := hE.at_ i d ed
    refine ⟨v0, e0, w, ρ, S, hS, hE, finE_iff.mpr ((finS_bind hw).mono fun y S1 _ k w1 H1 v st rv => ?_)⟩
    cases ea : augR bo d y S1 with
    | ok z S2 =>
      have eS := augR_S ea
      subst eS
      rw [ea] at k
      refine ⟨w1, H, _, d, y, z, dv0.step hS st, rv, ea, fun v' dv' => ?_⟩
      exact (show ∀ w' H' σ', Step F.K F.tb w H w' H' S2 → ER F.K w' H' (ρ.set i (some z)) σ' → D.nx σ' H' from k) w1 H1 _ st ((hE.step hS st).set i dv')
    | exc z S2 => exact (augR_exc ea).elim
    | bad => rw [ea] at k; exact k.elim
  · exact hw.elim
/-! ### o[i] = v -/
def TSetX (F : Fx) : TSet := fun o i v H Q => ∃ (w : List Addr) (H0 : Hp) (S S' : Store) (x : RV) (y z : D), SR F.K F.tb w H S ∧ RVr F.K w H0 H x o ∧ DV F.K w H y i ∧ DV F.K w H z v ∧ setR x y z S = .ok () S' ∧ ∀ H', Step F.K F.tb w H w H' S' → Q H'
theorem pset_x (hu : X.A.units + 1 < cLine) : PSet X (TSetX F) := by
  intro pins s σ H o i v ov iv u Q I r1 r2 r3 ⟨w, H0, S, S', x, y, z, hS, rv, dy, dz, hr, hQ⟩
  unfold setR at hr
  split at hr <;> try cases hr
  rename_i r
  split at hr <;> try cases hr
  · rename_i xs hc
    split at hr <;> try cases hr
    rename_i k
    split at hr <;> try cases hr
    rename_i j hj
    obtain ⟨a, ho, rfl, e3, e4, e5⟩ := ref_at hS rv hc
    cases e5 with
    | lst t =>
      rename_i vs
      cases dy
      refine set_list pins s σ H _ _ v ov iv u Q I r1 r2 r3 ⟨a, vs, k, j, rfl, rfl, e4, by rw [← t.length]; exact hj, ?_⟩
      obtain ⟨st3, _⟩ := write_lst hS (Step.refl hS) e3 hc e4 (DVs.set dz j t)
      exact hQ _ st3
  · rename_i kvs hc
    split at hr <;> try cases hr
    rename_i k hk
    split at hr <;> try cases hr
    rename_i hl
    obtain ⟨a, ho, rfl, e3, e4, e5⟩ := ref_at hS rv hc
    cases e5 with
    | dic t =>
      rename_i us
      obtain rfl := key_v dy hk
      obtain rfl : ov = Value.ref a := r1
      refine d_setItem hu I (DPut.k e4 (by rw [← t.length]; exact hl)) r2 r3 fun s' I' => ⟨_, I', hQ _ ?_⟩
      have am : a ∈ w := List.mem_of_getElem? e3
      have ext : Ext w H (upd H a (.dK (putK us k v))) := fun b u e hb => .inl (by rw [upd_ne (fun z => hb (by rw [z]; exact am))]; exact e)
      have q := t.put k dz
      exact write hS (Step.refl hS) e3 hc e4 (fun _ z => by cases z) (.dic ⟨q.1, q.2.mono (ext.plt hS) (ext.frl hS) fun _ _ z => z⟩)
theorem setR_exc {x : RV} {y z : D} {S S' : Store} {u : Exn} (h : setR x y z S = .exc u S') : False := by
  unfold setR at h
  repeat' split at h
  all_goals cases h
theorem ps_sub {pos' : Pos} (hu : X.A.units + 1 < cLine) (he : PE X e (TX F E fa)) (ho : PE X o (TX F E fo)) (hi : PE X i (TX F E fi)) (hs : notComp e = true)
    (ha : ∀ v, assign (.Subscript o i pos') X.env v = (do
      let ov ← holding [v] (eval o X.env)
      let iv ← holding [v, ov] (eval i X.env)
      standAt pos'
      holding [v, ov, iv] (setItem ov iv v)
      release [v, ov, iv] [])) (h1 : (assignEach [.Subscript o i pos'] X.env).map (·.2) = [assign (.Subscript o i pos') X.env]) (ht : swappedStores [.Subscript o i pos'] e X.env = pure none) :
    PS X (.Assign [.Subscript o i pos'] e pos) (TSX F E fun ρ S => (matB (fa ρ S)).bindS fun v S => (fo ρ S).bindS fun x S => (matB (fi ρ S)).bindS fun y S => (setR x y v S).bindS fun _ S => .nx ρ S) := by
  refine PS.imp (ps_asg he (pg_sub ho hi (pset_x (F := F) hu) ha) (swaps_none hs (some (.Subscript o i pos')) pos.line X.env) ht h1) fun D σ H ⟨w, ρ, S, hS, hE, hw⟩ => ⟨w, ρ, S, hS, hE, ?_⟩
  refine finE_iff.mpr ((finE_iff.mp (matB_fin hS hw)).mono fun x0 S1 _ k w1 H1 v st rv => ?_)
  obtain ⟨d, S2, w2, st2, dv, h⟩ := k w1 H1 v st rv
  refine ⟨w2, ρ, S2, st2.sr, hE.step hS st2, ?_⟩
  refine finE_iff.mpr ((finE_iff.mp ((finS_bind h).toE hS st2)).mono fun x S3 _ k3 w3 H3 v3 st3 rv3 => ?_)
  obtain ⟨x, S3, w3, _, st3, st23, rv3, k3⟩ := k3 w3 H3 v3 st3 rv3
  refine ⟨w3, ρ, S3, st3.sr, hE.step hS st3, ?_⟩
  refine finE_iff.mpr ((finE_iff.mp (matB_fin2 hS st3 k3)).mono fun y S4 _ k4 w4 H4 v4 st4 rv4 => ?_)
  obtain ⟨y, S4, w4, st4, st34, dv4, k4⟩ := k4 w4 H4 v4 st4 rv4
  have e5 : ∃ S', setR x y d S4 = .ok () S' ∧ FinS F E (.nx ρ S') w H D := by
    revert k4
    cases e : setR x y d S4 with
    | ok u S' => exact fun k => ⟨S', rfl, k⟩
    | exc _ _ => exact (setR_exc e).elim
    | bad => exact fun k => k.elim
  obtain ⟨S', e5, k5⟩ := e5
  refine ⟨w4, H, S4, S', x, y, d, st4.sr, rv3.step st3.sr st34, dv4, (dv.step st2.sr st23).step st3.sr st34, e5, fun H' st' => ?_⟩
  have st5 := st4.trans hS st'
  exact (show ∀ w' H' σ', Step F.K F.tb w H w' H' S' → ER F.K w' H' ρ σ' → D.nx σ' H' from k5) w4 H' σ st5 (hE.step hS st5)
end
end CH
/-! CKB: dict displays, written tables, lists from behind, two names at once, op= on items. -/
namespace CH
open PySem PySem.Spec PyProof.Rows L2
section
variable {F : Fx} {E : XK} {X : Cx} {a b c e o : Expr} {es : List Expr} {fa fb fc : Env → Store → R RV} {fs : Env → Store → R (List D)} {pos : Pos}
theorem DVs.reverse {K : PySem.W.Frag} {w : List Addr} {H : Hp} : ∀ {ds : List D} {vs : List V}, DVs K w H ds vs → DVs K w H ds.reverse vs.reverse
  | _, _, .nil => .nil
  | _, _, .cons a t => by
    rw [List.reverse_cons, List.reverse_cons]
    exact (DVs.reverse t).append (.cons a .nil)
theorem snd_rev {k : Nat} {p1 p2 p3 : Pos} (hK : X.K = F.K) (ha : PE X a (TX F E fa)) : PE X (.Subscript a (.Slice none none (some (.UnaryOp .USub (.Constant (.int 1) k p1) p2)) p3) pos) (TX F E fun ρ S => (fa ρ S).bind fun x S => R.of (revR x S) S) := by
  refine ⟨fun pins s σ H Q I ⟨w, ρ, S, hS, hE, hf⟩ => ?_⟩
  refine (pe_revL ha).run pins s σ H Q I ⟨w, ρ, S, hS, hE, ?_⟩
  refine finE_iff.mpr ((finE_iff.mp hf).bind.mono fun x S1 _ k1 w1 H1 v st rv => ?_)
  obtain ⟨z, hz, k2⟩ := k1.of
  obtain ⟨xs, e1, rfl⟩ := map_some_of hz
  obtain ⟨a, vs, rfl, ha, da⟩ := lst_at st.sr rv e1
  refine ⟨a, vs, rfl, hK ▸ ha, fun p hp => ?_⟩
  obtain ⟨st3, rv3⟩ := new_lst hS st hp da.reverse
  exact k2 _ _ _ st3 rv3
/-! ### dict displays -/
theorem key_kV {K : PySem.W.Frag} {w : List Addr} {H : Hp} {u : D} {v : V} {k : Key} (dv : DV K w H u v) (h : u.key = some k) : v = kV k := by
  cases dv <;> first | (cases h; rfl) | cases h
/-- what is to be shown of the pairs of a display -/
structure PPX (X : Cx) (F : Fx) (E : XK) (keys : List (Option Expr)) (vals : List Expr) (f : Env → Store → R (List (Key × D))) : Prop where
  run : ∀ (pos : Pos) (pins : List (Addr × PySem.Obj)) (s : Shared) (σ : L2.St) (H : Hp) (Q : List (Key × V) → Hp → Prop), Inv X pins σ H s →
    (∃ w ρ S, SR F.K F.tb w H S ∧ ER F.K w H ρ σ ∧ FinG F E (f ρ S) w H (fun kvs S' => ∀ w' H' us, Step F.K F.tb w H w' H' S' → KVs F.K w' H' kvs us → Q us H')) →
    wpAny (model X.prog X.w) X.A (evalPairs (pairTrees keys vals X.env pos)) (fun ws s' => ∃ us H', Inv X pins σ H' s' ∧ VV (us.map fun kv => (kV kv.1, kv.2)) ws ∧ Q us H') X.xe s
theorem ppx_nil : PPX X F E [] [] fun _ S => .ok [] S :=
  ⟨fun _ pins s σ H Q I ⟨w, ρ, S, hS, hE, hf⟩ => pairTrees_nil_walk ⟨[], H, I, .nil, hf w H [] (Step.refl hS) ⟨rfl, .nil⟩⟩⟩
theorem FinG.toG {α : Type} {w w1 : List Addr} {H H1 : Hp} {S S1 : Store} {r : R α} {k k' : α → Store → Prop} (hS : SR F.K F.tb w H S) (st : Step F.K F.tb w H w1 H1 S1) (h : FinG F E r w H k) (hk : ∀ a S2, r = .ok a S2 → k a S2 → k' a S2) : FinG F E r w1 H1 k' := by
  cases r with
  | ok a S2 => exact hk a S2 rfl h
  | exc x S2 => exact fun w2 H2 cls d st2 xv => h w2 H2 cls d (st.trans hS st2) xv
  | bad => exact h
theorem ppx_cons {keys : List (Option Expr)} {vals : List Expr} {k v : Expr} {fk fv : Env → Store → R RV} {f : Env → Store → R (List (Key × D))} (hk : PE X k (TX F E fk)) (hv : PE X v (TX F E fv)) (hr : PPX X F E keys vals f) :
    PPX X F E (some k :: keys) (v :: vals) fun ρ S => (fk ρ S).bind fun x S => (matB (fv ρ S)).bind fun z S => (R.of (keyR x) S).bind fun kk S => (f ρ S).bind fun r S => .ok ((kk, z) :: r) S := by
  refine ⟨fun pos pins s σ H Q I ⟨w, ρ, S, hS, hE, hf⟩ => ?_⟩
  refine pairTrees_cons_walk (go hk I hS (Step.refl hS) hE hf.bind fun u1 s1 v1 H1 x S1 w1 _ I1 r1 st1 _ rv1 k1 => ?_)
  refine goM hv I1 hS st1 (hE.step hS st1) k1.bind fun u2 s2 v2 H2 d S2 w2 I2 r2 st2 st12 dv2 k2 => ?_
  obtain ⟨kk, hkk, k3⟩ := k2.bind.of
  have rv2 := rv1.step st1.sr st12
  have ex : v1 = kV kk := by
    cases x with
    | o c => cases hkk
    | d u => exact key_kV rv2 hkk
  refine thn (hr.run pos pins s2 σ H2 (fun us H3 => Q ((kk, v2) :: us) H3) I2 ⟨w2, ρ, S2, st2.sr, hE.step hS st2, ?_⟩) fun ws s3 ⟨us, H3, I3, rel, q3⟩ => ⟨(kk, v2) :: us, H3, I3, .cons ⟨show RelV (kV kk) u1 from ex ▸ r1, r2⟩ rel, q3⟩
  refine (k3.bind).toG hS st2 fun r S3 _ h3 w3 H3 us st23 kv => ?_
  exact (show ∀ w' H' us, Step F.K F.tb w H w' H' S3 → KVs F.K w' H' ((kk, d) :: r) us → Q us H' from h3) w3 H3 ((kk, v2) :: us) (st2.trans hS st23) ⟨by simp [kv.1], .cons (dv2.step st2.sr st23) kv.2⟩
/-- an object that is no cell's is written -/
theorem Step.put {w w1 : List Addr} {H H1 : Hp} {S S1 : Store} {p : Addr} {q o : HO} (hS : SR F.K F.tb w H S) (st : Step F.K F.tb w H w1 H1 S1) (hp : H p = none) (hw : p ∉ w1) (e : H1 p = some q) (hf : ∀ z u, q ≠ .frz z u) (ht : ∀ z, q ≠ .tbl z) : Step F.K F.tb w H w1 (upd H1 p o) S1 := by
  have ne : ∀ b u, H1 b = some u → u ≠ q → b ≠ p := fun b u e1 e2 z => by rw [z, e] at e1; cases e1; exact e2 rfl
  have pl : ∀ a xs, PlT F.K H1 a xs → PlT F.K (upd H1 p o) a xs := fun a xs h => by
    rcases h with ⟨z, h1, h2⟩ | h
    · exact .inl ⟨z, h1, by rw [upd_ne (ne _ _ h2 fun y => hf _ _ y.symm)]; exact h2⟩
    · exact .inr h
  have fr : ∀ a xs, FrL F.K H1 a xs → FrL F.K (upd H1 p o) a xs := fun a xs h => by
    rcases h with ⟨z, h2⟩ | h
    · exact .inl ⟨z, by rw [upd_ne (ne _ _ h2 fun y => hf _ _ y.symm)]; exact h2⟩
    · exact .inr h
  have hnw : ∀ b ∈ w1, b ≠ p := fun b hb z => hw (z ▸ hb)
  refine ⟨st.grow, fun a u e1 e2 => ?_, ⟨st.sr.len, st.sr.nd, fun r c hc => ?_, fun P hP => ?_⟩, fun b z u hb => ?_⟩
  · have : a ≠ p := fun z => by rw [z, hp] at e1; cases e1
    rw [upd_ne this]
    exact st.ext a u e1 e2
  · obtain ⟨a, ho, e1, e2, e3⟩ := st.sr.at_ r c hc
    exact ⟨a, ho, e1, by rw [upd_ne (hnw a (List.mem_of_getElem? e1))]; exact e2, e3.mono pl fr fun _ _ z => z⟩
  · obtain ⟨ps, e1, e2⟩ := st.sr.tab P hP
    exact ⟨ps, by rw [upd_ne (ne _ _ e1 fun y => ht _ y.symm)]; exact e1, e2⟩
  · have := st.frz b z u hb
    rw [upd_ne (ne _ _ this fun y => hf _ _ y.symm)]
    exact this
theorem KVs.puts {K : PySem.W.Frag} {w w' : List Addr} {H H' : Hp} {kvs : List (Key × D)} {us : List (Key × V)} (h : KVs K w H kvs us) (f : ∀ d v, DV K w H d v → DV K w' H' d v) : KVs K w' H' kvs us := by
  refine ⟨h.1, ?_⟩
  have key : ∀ {ds : List D} {vs : List V}, DVs K w H ds vs → DVs K w' H' ds vs := fun {ds vs} h => by
    induction ds generalizing vs with
    | nil => cases h; exact .nil
    | cons d ds ih => cases h with | cons x t => exact .cons (f _ _ x) (ih t)
  exact key h.2
theorem snd_dsp {keys : List (Option Expr)} {vals : List Expr} {f : Env → Store → R (List (Key × D))} (h : PPX X F E keys vals f) (hall : keys.all (·.isSome) = true) (hl : keys.length = vals.length) (h0 : keys ≠ []) (h15 : keys.length ≤ 15)
    (hn : ∀ ρ S kvs S', f ρ S = .ok kvs S' → kvs.length = keys.length) :
    PE X (.Dict keys vals pos) (TX F E fun ρ S => (f ρ S).bind fun kvs S => .ok (.o (.dic (kvs.foldl (fun acc kv => aput acc kv.1 kv.2) []))) S) := by
  refine ⟨fun pins s σ H Q I ⟨w, ρ, S, hS, hE, hf⟩ => ?_⟩
  have fresh := I.hok.fresh (Nat.le_refl s.heap.objs.size)
  have I1 := I.laid (a := s.heap.objs.size) (o := .dK []) (h' := s.heap.push { cls := .type "dict", data := .dict #[] }) (t' := s.toks) (fun _ _ q => Heap.get?_push_of_some _ q) (Nat.le_refl _) (dk_empty s.heap I.big)
  have st0 : Step F.K F.tb w H w (upd H s.heap.objs.size (.dK [])) S := (Step.refl hS).fresh hS fresh
  have nw : s.heap.objs.size ∉ w := not_mem_new hS fresh
  refine wpAny_Dict_walk (knd := mixKind X.prog X.w) hall hl h0 h15 (thn (h.run _ pins _ σ _ (fun us H2 => ∃ kvs S2 w2, kvs.length ≤ 15 ∧ Step F.K F.tb w (upd H s.heap.objs.size (.dK [])) w2 H2 S2 ∧ KVs F.K w2 H2 kvs us ∧ Q (.ref s.heap.objs.size) (upd H2 s.heap.objs.size (.dK (mergeK [] us)))) I1 ⟨w, ρ, S, st0.sr, hE.step hS st0, ?_⟩) fun ws s2 ⟨us, H2, I2, rel, kvs, S2, w2, hk15, st2, kv, q2⟩ => ?_)
  · refine ((finE_iff.mp hf).bind).toG hS st0 fun kvs S2 e2 k2 w' H' us st kv => ?_
    have ee : H' s.heap.objs.size = some (.dK []) := by
      rcases st.ext _ _ upd_same nw with z | ⟨ps, qs, z, _⟩
      · exact z
      · cases z
    have nw' : s.heap.objs.size ∉ w' := fun z => by
      obtain ⟨t, et, nt⟩ := st.grow
      rw [et] at z
      rcases List.mem_append.mp z with z | z
      · exact nw z
      · have := nt _ z
        rw [upd_same] at this; cases this
    refine ⟨kvs, S2, w', by rw [hn _ _ _ _ e2]; exact h15, st, kv, ?_⟩
    have k3 : ∀ w'' H'' v, Step F.K F.tb w H w'' H'' S2 → RVr F.K w'' H H'' (.o (.dic (kvs.foldl (fun acc kv => aput acc kv.1 kv.2) []))) v → Q v H'' := k2
    have st3 := (st0.trans hS st).put (o := .dK (mergeK [] us)) hS fresh nw' ee (fun z u y => by cases y) (fun z y => by cases y)
    refine k3 _ _ _ st3 ⟨_, _, rfl, upd_same, .dic ?_, nw', fresh, fun c z => by cases z⟩
    have st4 : ∀ d v, DV F.K w' H' d v → DV F.K w' (upd H' s.heap.objs.size (.dK (mergeK [] us))) d v := fun d v dv => dv.mono (fun a xs h => by
      rcases h with ⟨z, h1, h2⟩ | h
      · exact .inl ⟨z, h1, by rw [upd_ne fun y => by rw [y, ee] at h2; cases h2]; exact h2⟩
      · exact .inr h) (fun a xs h => by
      rcases h with ⟨z, h2⟩ | h
      · exact .inl ⟨z, by rw [upd_ne fun y => by rw [y, ee] at h2; cases h2]; exact h2⟩
      · exact .inr h) fun _ _ z => z
    exact KVs.puts (kvs_merge kv ⟨rfl, .nil⟩) st4
  · have e : H2 s.heap.objs.size = some (.dK []) := by
      rcases st2.ext _ _ upd_same nw with z | ⟨ps, qs, z, _⟩
      · exact z
      · cases z
    obtain ⟨rs, c, rk⟩ := carries_of (P := X.prog) (w := X.w) rel
    obtain ⟨z, hd, vs0, r0, dd⟩ := dk_of I2.hok e
    cases r0
    refine ⟨rs, c, dd, fun h' dd' hs => ⟨.ref s.heap.objs.size, _, ?_, rfl, q2⟩⟩
    have hus : us.length ≤ 15 := by
      have := kv.2.length
      simp only [List.length_map] at this
      omega
    have hz : (mergeK [] us).length ≤ sizeLine := by
      have h1 := length_mergeK us []
      rw [List.length_nil] at h1
      rw [sizeLine_eq]; omega
    have he : ∃ q, h'.get? s.heap.objs.size = some q := let ⟨q, _, _, hq, _⟩ := dd'; ⟨q, hq⟩
    exact d_write I2 (by rw [e]; exact True.intro) hs he (dk_new hz hd (rk.merge .nil) dd')
end
end CH
/-! CKC: written tables; two names at once; op= on items. -/
namespace CH
open PySem PySem.Spec PyProof.Rows L2
section
variable {F : Fx} {E : XK} {X : Cx} {a b c e o : Expr} {fa fb fc fe fo fi : Env → Store → R RV} {pos apos cpos p : Pos} {nm : Str} {tb : List (Str × D)} {ad : Addr}
theorem name_at {pins : List (Addr × PySem.Obj)} {s : Shared} {σ : L2.St} {H : Hp} {Q : Value → Shared → Prop} (hg : Gl X nm) (hm : X.mg nm = some (.ref ad)) (hd : (nm == ("__debug__" : Str)) = false) (I : Inv X pins σ H s)
    (h : ∀ s', Inv X pins σ H s' → Q (.ref ad) s') : wpAny (model X.prog X.w) X.A (eval (.Name nm p) X.env) Q X.xe s :=
  thn ((pe_glob (u := .ref ad) (v := .ref ad) hg hm rfl hd).run pins s σ H (fun v H1 => v = .ref ad ∧ H1 = H) I ⟨rfl, rfl⟩) fun u s1 ⟨v, H1, I1, r1, e1, e2⟩ => by
    subst e1 e2
    obtain rfl : u = Value.ref ad := r1
    exact h s1 I1
theorem snd_kidx (hK : X.K = F.K) (hT : KTab F.K X.w X.mg nm tb) (hg : Gl X nm) (hd : (nm == ("__debug__" : Str)) = false) (ha : PE X a (TX F E fa)) (hs : PlainIx a) :
    PE X (.Subscript (.Name nm p) a pos) (TX F E fun ρ S => (fa ρ S).bind fun x S => R.of (kdR .idx tb x .non) S) := by
  refine ⟨fun pins s σ H Q I ⟨w, ρ, S, hS, hE, hf⟩ => ?_⟩
  obtain ⟨ad, es, n, hm, kd, ht⟩ := hT
  refine Subscript_ (name_at hg hm hd I fun s0 I0 => ?_)
  refine go ha I0 hS (Step.refl hS) hE (finE_iff.mp hf).bind fun u1 s1 v1 H1 x S1 w1 _ I1 r1 st1 _ rv1 k1 => ?_
  obtain ⟨z, hz, k2⟩ := k1.of
  unfold kdR at hz
  split at hz
  · rename_i y _
    obtain rfl := rv_str rv1
    obtain ⟨t, rfl⟩ := id r1
    have hty := ht y
    cases q : tb.lookup y with
    | none => rw [q] at hz; cases hz
    | some d =>
      rw [q] at hz hty
      cases hz
      obtain ⟨u0, v0, e1, e2, e3⟩ := hty
      have kd' : KDict X.K X.w ad es n := hK ▸ kd
      refine tail_any (ops := [.str y t, .ref ad]) (kd_type kd' I1) PySem.F.slot_dict_getitem.lookup ?_ (hs _ _)
      exact op_item_kd kd' pins s1 σ H1 (.ref ad) (.str y) _ _ Q I1 rfl r1 ⟨y, u0, v0, rfl, rfl, hK ▸ e1, e2, k2 w1 H1 v0 st1 (e3 w1 H1)⟩
  · cases hz
theorem snd_kmem (hK : X.K = F.K) (hT : KTab F.K X.w X.mg nm tb) (hg : Gl X nm) (hd : (nm == ("__debug__" : Str)) = false) (ha : PE X a (TX F E fa)) (k : Bool) :
    PE X (.Compare a [if k then .In else .NotIn] [.Name nm p] pos) (TX F E fun ρ S => (fa ρ S).bind fun x S => R.of (kdR (if k then .mem else .nmem) tb x .non) S) := by
  refine ⟨fun pins s σ H Q I ⟨w, ρ, S, hS, hE, hf⟩ => ?_⟩
  obtain ⟨ad, es, n, hm, kd, ht⟩ := hT
  have kd' : KDict X.K X.w ad es n := hK ▸ kd
  refine wpAny_Compare1 (go ha I hS (Step.refl hS) hE (finE_iff.mp hf).bind fun u1 s1 v1 H1 x S1 w1 _ I1 r1 st1 _ rv1 k1 => ?_) (by cases k <;> rfl)
  refine name_at hg hm hd I1 fun s2 I2 => ?_
  obtain ⟨z, hz, k2⟩ := k1.of
  unfold kdR at hz
  split at hz
  · rename_i y _
    obtain rfl := rv_str rv1
    have hty := ht y
    have hr : ∃ r, PySem.W.nsIn X.K ad y = some r ∧ r.isSome = (tb.lookup y).isSome := by
      cases q : tb.lookup y with
      | none => rw [q] at hty; exact ⟨none, hK ▸ hty, rfl⟩
      | some d =>
        rw [q] at hty
        obtain ⟨u0, v0, e1, _⟩ := hty
        exact ⟨some u0, hK ▸ e1, rfl⟩
    obtain ⟨r, e1, e2⟩ := hr
    cases k with
    | true =>
      cases hz
      exact op_in_kd kd' pins s2 σ H1 (.str y) (.ref ad) _ _ Q I2 r1 rfl ⟨y, r, rfl, rfl, e1, k2 w1 H1 _ st1 (by rw [e2]; exact .bl _)⟩
    | false =>
      cases hz
      exact op_notIn_kd kd' pins s2 σ H1 (.str y) (.ref ad) _ _ Q I2 r1 rfl ⟨y, r, rfl, rfl, e1, k2 w1 H1 _ st1 (by rw [e2]; exact .bl _)⟩
  · cases hz
theorem snd_tkmem (hK : X.K = F.K) (hT : KTab F.K X.w X.mg nm tb) (hg : Gl X nm) (hd : (nm == ("__debug__" : Str)) = false) (ha : PE X a (TX F E fa)) (k : Bool) :
    PT X (.Compare a [if k then .In else .NotIn] [.Name nm p] pos) (TTX F E fun ρ S => ((fa ρ S).bind fun x S => R.of (kdR (if k then .mem else .nmem) tb x .non) S).bind fun x S => R.of (truth x S) S) := by
  refine ⟨fun pins s σ H Q I ⟨w, ρ, S, hS, hE, hf⟩ => ?_⟩
  obtain ⟨ad, es, n, hm, kd, ht⟩ := hT
  have kd' : KDict X.K X.w ad es n := hK ▸ kd
  refine wpAny_isTrue_Compare1 (go ha I hS (Step.refl hS) hE (finB_iff.mp hf).bind.bind fun u1 s1 v1 H1 x S1 w1 _ I1 r1 st1 _ rv1 k1 => ?_) (by cases k <;> rfl)
  refine name_at hg hm hd I1 fun s2 I2 => ?_
  obtain ⟨z, hz, k2⟩ := k1.of
  unfold kdR at hz
  split at hz
  · rename_i y _
    obtain rfl := rv_str rv1
    have hty := ht y
    have hr : ∃ r, PySem.W.nsIn X.K ad y = some r ∧ r.isSome = (tb.lookup y).isSome := by
      cases q : tb.lookup y with
      | none => rw [q] at hty; exact ⟨none, hK ▸ hty, rfl⟩
      | some d =>
        rw [q] at hty
        obtain ⟨u0, v0, e1, _⟩ := hty
        exact ⟨some u0, hK ▸ e1, rfl⟩
    obtain ⟨r, e1, e2⟩ := hr
    have fin : ∀ bb : Bool, z = .d (.bl bb) → ∀ (u3 : Value) (s3 : Shared), (∃ v H3, Inv X pins σ H3 s3 ∧ RelV v u3 ∧ v = .bl bb ∧ H3 = H1) → wpAny (model X.prog X.w) X.A (truthy u3) (TP X pins σ Q) X.xe s3 := fun bb ez u3 s3 ⟨v, H3, I3, r3, e3, e4⟩ => by
      subst e3 e4 ez
      have k2 : ∀ w' H', Step F.K F.tb w H w' H' S1 → Q bb H' := k2
      obtain rfl : u3 = Value.bool bb := r3
      exact wpAny_truthy_bool ⟨_, I3, k2 w1 _ st1⟩
    cases k with
    | true =>
      cases hz
      exact thn (op_in_kd kd' pins s2 σ H1 (.str y) (.ref ad) _ _ (fun v H3 => v = .bl (tb.lookup y).isSome ∧ H3 = H1) I2 r1 rfl ⟨y, r, rfl, rfl, e1, by rw [e2], rfl⟩) fun u3 s3 ⟨v, H3, I3, r3, e3, e4⟩ => fin _ rfl u3 s3 ⟨v, H3, I3, r3, e3, e4⟩
    | false =>
      cases hz
      exact thn (op_notIn_kd kd' pins s2 σ H1 (.str y) (.ref ad) _ _ (fun v H3 => v = .bl (!(tb.lookup y).isSome) ∧ H3 = H1) I2 r1 rfl ⟨y, r, rfl, rfl, e1, by rw [e2], rfl⟩) fun u3 s3 ⟨v, H3, I3, r3, e3, e4⟩ => fin _ rfl u3 s3 ⟨v, H3, I3, r3, e3, e4⟩
  · cases hz
/-- nm.get(a, b) -/
theorem snd_kget (hK : X.K = F.K) (hT : KTab F.K X.w X.mg nm tb) (hg : Gl X nm) (hd : (nm == ("__debug__" : Str)) = false) (ha : PE X a (TX F E fa)) (hb : PE X b (TX F E fb)) (hs : notStar a = true) (hs2 : notStar b = true) (hline : (apos.endLine == cpos.line) = true) :
    PE X (.Call (.Attribute (.Name nm p) ("get" : Str) apos) [a, b] [] cpos) (TX F E fun ρ S => (fa ρ S).bind fun x S => (matB (fb ρ S)).bind fun y S => R.of (kdR .get tb x y) S) := by
  refine ⟨fun pins s σ H Q I ⟨w, ρ, S, hS, hE, hf⟩ => ?_⟩
  obtain ⟨ad, es, n, hm, kd, ht⟩ := hT
  have kd' : KDict X.K X.w ad es n := hK ▸ kd
  have hst : starEach [a, b] X.env = [(false, eval a X.env), (false, eval b X.env)] := by rw [star_cons hs, star_cons hs2]; rfl
  refine wpAny_Call_method_late (base_ok (o := .Name nm p) rfl _ _) (by rw [hst]; rfl) hline rfl (name_at hg hm hd I fun s0 I0 => ?_)
  have mo : ∀ {s' : Shared} {H' : Hp}, Inv X pins σ H' s' → s'.heap.MapOf (strKind X.prog X.w) ad (fun k => findBy Value.isStrOf es k) := fun I' => PySem.W.mapOf_K (prog := X.prog) I'.kIn kd'.at_ kd'.lit
  refine ⟨"dict", "dict.get", PySem.F.plainAttrs_dict, PySem.F.slot_dict_get, PySem.F.type_dict_get, kd_type kd' I0, fun b0 q => ?_, ?_⟩
  · cases q
    exact ⟨_, I0.kIn _ _ kd'.at_, rfl⟩
  rw [hst]
  refine Calls.callWith_builtin rfl (Calls.evalArgs_plain ?_)
  show wpAny _ _ (spliced ((false, eval a X.env) :: (false, eval b X.env) :: [])) _ _ s0
  refine Calls.spliced_cons (go ha I0 hS (Step.refl hS) hE (finE_iff.mp hf).bind fun u1 s1 v1 H1 x S1 w1 _ I1 r1 st1 _ rv1 k1 => Calls.spliced_cons (goM hb I1 hS st1 (hE.step hS st1) k1.bind fun u2 s2 v2 H2 d S2 w2 I2 r2 st2 st12 dv2 k2 => Calls.spliced_nil ?_))
  obtain ⟨z, hz, k3⟩ := k2.of
  unfold kdR at hz
  split at hz
  · rename_i y _
    obtain rfl := rv_str (rv1.step st1.sr st12)
    obtain ⟨t, rfl⟩ := id r1
    have hty := ht y
    refine call_meetsIn PySem.F.slot_dict_get (kd_type kd' I2) PySem.F.entry_dict_get (PySem.F.args_dict_get_3 _ _ _) (meets_dict_get_default (strKind X.prog X.w) ad (PySem.strKind_is X.prog X.w y t) kd'.low u2) ⟨_, mo I2, ?_⟩
    cases q : tb.lookup y with
    | none =>
      rw [q] at hty hz
      cases hz
      rw [PySem.W.find_K kd'.at_ (hK ▸ hty)]
      exact ⟨v2, H2, I2.tok _, r2, k3 w2 H2 v2 st2 dv2⟩
    | some d0 =>
      rw [q] at hty hz
      cases hz
      obtain ⟨u0, v0, e1, e2, e3⟩ := hty
      rw [PySem.W.find_K kd'.at_ (hK ▸ e1)]
      exact ⟨v0, H2, I2.tok _, e2, k3 w2 H2 v0 st2 (e3 w2 H2)⟩
  · cases hz
/-- nm.get(a) -/
theorem snd_kget1 (hK : X.K = F.K) (hT : KTab F.K X.w X.mg nm tb) (hg : Gl X nm) (hd : (nm == ("__debug__" : Str)) = false) (ha : PE X a (TX F E fa)) (hs : notStar a = true) (hline : (apos.endLine == cpos.line) = true) :
    PE X (.Call (.Attribute (.Name nm p) ("get" : Str) apos) [a] [] cpos) (TX F E fun ρ S => (fa ρ S).bind fun x S => R.of (kdR .get tb x .non) S) := by
  refine ⟨fun pins s σ H Q I ⟨w, ρ, S, hS, hE, hf⟩ => ?_⟩
  obtain ⟨ad, es, n, hm, kd, ht⟩ := hT
  have kd' : KDict X.K X.w ad es n := hK ▸ kd
  have hst : starEach [a] X.env = [(false, eval a X.env)] := star_cons hs _ _
  refine wpAny_Call_method_late (base_ok (o := .Name nm p) rfl _ _) (by rw [hst]; rfl) hline rfl (name_at hg hm hd I fun s0 I0 => ?_)
  have mo : ∀ {s' : Shared} {H' : Hp}, Inv X pins σ H' s' → s'.heap.MapOf (strKind X.prog X.w) ad (fun k => findBy Value.isStrOf es k) := fun I' => PySem.W.mapOf_K (prog := X.prog) I'.kIn kd'.at_ kd'.lit
  refine ⟨"dict", "dict.get", PySem.F.plainAttrs_dict, PySem.F.slot_dict_get, PySem.F.type_dict_get, kd_type kd' I0, fun b0 q => ?_, ?_⟩
  · cases q
    exact ⟨_, I0.kIn _ _ kd'.at_, rfl⟩
  rw [hst]
  refine Calls.callWith_builtin rfl (Calls.evalArgs_plain ?_)
  show wpAny _ _ (spliced ((false, eval a X.env) :: [])) _ _ s0
  refine Calls.spliced_cons (go ha I0 hS (Step.refl hS) hE (finE_iff.mp hf).bind fun u1 s1 v1 H1 x S1 w1 _ I1 r1 st1 _ rv1 k1 => Calls.spliced_nil ?_)
  obtain ⟨z, hz, k3⟩ := k1.of
  unfold kdR at hz
  split at hz
  · rename_i y _
    obtain rfl := rv_str rv1
    obtain ⟨t, rfl⟩ := id r1
    have hty := ht y
    refine call_meetsIn PySem.F.slot_dict_get (kd_type kd' I1) PySem.F.entry_dict_get (PySem.F.args_dict_get_2 _ _) (meets_dict_get (strKind X.prog X.w) ad (PySem.strKind_is X.prog X.w y t) kd'.low) ⟨_, mo I1, ?_⟩
    cases q : tb.lookup y with
    | none =>
      rw [q] at hty hz
      cases hz
      rw [PySem.W.find_K kd'.at_ (hK ▸ hty)]
      exact ⟨.non, H1, I1.tok _, rfl, k3 w1 H1 .non st1 .non⟩
    | some d0 =>
      rw [q] at hty hz
      cases hz
      obtain ⟨u0, v0, e1, e2, e3⟩ := hty
      rw [PySem.W.find_K kd'.at_ (hK ▸ e1)]
      exact ⟨v0, H1, I1.tok _, e2, k3 w1 H1 v0 st1 (e3 w1 H1)⟩
  · cases hz
end
end CH
/-! CKD: two names at once; op= on items. -/
namespace CH
open PySem PySem.Spec PyProof.Rows L2
def FinG.ok_bind {α β : Type} {F : Fx} {E : XK} {r : R α} {g : α → Store → R β} {w : List Addr} {H : Hp} {k : β → Store → Prop} (h : FinG F E r w H fun a S' => FinG F E (g a S') w H k) : FinG F E (r.bind g) w H k := by
  cases r with
  | ok a S => exact h
  | exc x S => exact h
  | bad => exact h
/-- x, y = a, b with x, y the function's own -/
def parB (sc : Scope) (x y : Str) (px py : Pos) (a b : Expr) : Bool :=
  (match sc.names.lookup x with | some .local => true | _ => false) && ((match sc.names.lookup y with | some .local => true | _ => false) && (!(x == y) && ((py.line == px.line) && (notStar a && (notStar b && (!([a, b].all (foldedForSure 8)) && !([a, b].all (constantsAlone 8))))))))
theorem notStar_any {a b : Expr} (ha : notStar a = true) (hb : notStar b = true) : ([a, b].any fun | .Starred .. => true | _ => false) = false := by
  cases a <;> first | (cases ha; done) | (cases b <;> first | (cases hb; done) | rfl)
/-- x, y = a, b with x or y a cell -/
def cpB (sc : Scope) (x y : Str) (a b : Expr) : Bool := notStar a && (notStar b && ((match sc.names.lookup x with | some .cell => true | _ => false) || (match sc.names.lookup y with | some .cell => true | _ => false)))
section
variable {F : Fx} {E : XK} {X : Cx} {a b c e o i : Expr} {fa fb fe fo fi : Env → Store → R RV} {pos : Pos}
theorem par_sw {x y : Str} {px py pt pt2 : Pos} {kt k2} (hk : X.env.blockKind = .function) (h : parB X.env.scope x y px py a b = true) :
    X.env.scope.names.lookup x = some .local ∧ X.env.scope.names.lookup y = some .local ∧ x ≠ y ∧ notStar a = true ∧ notStar b = true ∧
    swappedStores [.Tuple [.Name x px, .Name y py] kt pt] (.Tuple [a, b] k2 pt2) X.env = pure (some [x, y]) := by
  unfold parB at h
  simp only [Bool.and_eq_true, Bool.not_eq_true'] at h
  obtain ⟨h1, h2, h3, h4, h5, h6, h7, h8⟩ := h
  have l1 : X.env.scope.names.lookup x = some .local := by
    split at h1
    · assumption
    · cases h1
  have l2 : X.env.scope.names.lookup y = some .local := by
    split at h2
    · assumption
    · cases h2
  have ne : x ≠ y := by
    intro z
    rw [z] at h3
    simp at h3
  have k1 : (X.env.kindOf x == some NameKind.local) = true := by
    show (X.env.scope.names.lookup x == some NameKind.local) = true
    rw [l1]; rfl
  have k2' : (X.env.kindOf y == some NameKind.local) = true := by
    show (X.env.scope.names.lookup y == some NameKind.local) = true
    rw [l2]; rfl
  refine ⟨l1, l2, ne, h5, h6, ?_⟩
  have hs := notStar_any h5 h6
  have e1 : ((Expr.Name y py).pos.line == (Expr.Name x px).pos.line) = true := h4
  have e0 : ((Expr.Name x px).pos.line == (Expr.Name x px).pos.line) = true := beq_self_eq_true _
  have ed : [x, y].eraseDups.length = 2 := by
    have : (x == y) = false := by simpa using ne
    have h2 : (y == x) = false := by simpa using fun z : y = x => ne z.symm
    simp [List.eraseDups_cons, this, h2]
  unfold swappedStores
  show (if (!(2 == 2 || 2 == 3) || 2 != 2 || X.env.blockKind != .function) = true then (pure none : Sem (Option (List Str))) else _) = _
  rw [hk, if_neg (by decide)]
  show (if ([a, b].any fun | .Starred .. => true | _ => false) = true then (pure none : Sem (Option (List Str))) else _) = _
  rw [hs, if_neg (by decide)]
  dsimp only
  generalize hnm : List.filterMap _ [Expr.Name x px, Expr.Name y py] = names
  have nm : names = [x, y] := by
    rw [← hnm]
    have q1 : X.env.kindOf x = some NameKind.local := l1
    have q2 : X.env.kindOf y = some NameKind.local := l2
    have q3 : py.line = px.line := by simpa using h4
    simp [List.filterMap_cons, q1, q2, q3, Expr.pos]
  subst nm
  show (if (false || [x, y].eraseDups.length != 2) = true then (pure none : Sem (Option (List Str))) else _) = _
  rw [ed, if_neg (by decide)]
  show (if ([a, b].all (foldedForSure 8)) = true then (pure none : Sem (Option (List Str))) else _) = _
  rw [h7, if_neg (by decide)]
  show (if ([a, b].all (constantsAlone 8)) = true then _ else (pure (some [x, y]) : Sem (Option (List Str)))) = _
  rw [h8, if_neg (by decide)]
theorem cp_sw {x y : Str} {px py pt pt2 : Pos} {kt k2} (hk : X.env.blockKind = .function) (h : cpB X.env.scope x y a b = true) :
    swappedStores [.Tuple [.Name x px, .Name y py] kt pt] (.Tuple [a, b] k2 pt2) X.env = pure none := by
  unfold cpB at h
  rw [Bool.and_eq_true, Bool.and_eq_true, Bool.or_eq_true] at h
  obtain ⟨h5, h6, h1⟩ := h
  have l1 : X.env.scope.names.lookup x = some .cell ∨ X.env.scope.names.lookup y = some .cell := by
    rcases h1 with h1 | h1
    · left; split at h1
      · assumption
      · cases h1
    · right; split at h1
      · assumption
      · cases h1
  have hs := notStar_any h5 h6
  unfold swappedStores
  show (if (!(2 == 2 || 2 == 3) || 2 != 2 || X.env.blockKind != .function) = true then (pure none : Sem (Option (List Str))) else _) = _
  rw [hk, if_neg (by decide)]
  show (if ([a, b].any fun | .Starred .. => true | _ => false) = true then (pure none : Sem (Option (List Str))) else _) = _
  rw [hs, if_neg (by decide)]
  dsimp only
  generalize hnm : List.filterMap _ [Expr.Name x px, Expr.Name y py] = names
  have nm : names.length ≤ 1 := by
    rw [← hnm]
    rcases l1 with l1 | l1
    · have q1 : X.env.kindOf x = some NameKind.cell := l1
      have q0 : ¬ (NameKind.cell = NameKind.local) := by intro z; cases z
      by_cases q : X.env.kindOf y = some NameKind.local ∧ py.line = px.line
      · simp [List.filterMap_cons, q1, q.1, q.2, Expr.pos]
      · simp [List.filterMap_cons, q1, q, Expr.pos]
    · have q1 : X.env.kindOf y = some NameKind.cell := l1
      by_cases q : X.env.kindOf x = some NameKind.local
      · simp [List.filterMap_cons, q1, q, Expr.pos]
      · simp [List.filterMap_cons, q1, q, Expr.pos]
  have ne : (names.length != [Expr.Name x px, Expr.Name y py].length) = true := by
    have : names.length ≠ 2 := by omega
    simpa using this
  rw [if_pos (by rw [ne]; rfl)]
theorem ps_pr {i j : Nat} {x y : Str} {px py pt pt2 : Pos} {kt k2} (hc : X.calm = true) (hk : X.env.blockKind = .function) (hN : X.N.Nodup) (hi : X.N[i]? = some x) (hj : X.N[j]? = some y) (h : parB X.env.scope x y px py a b = true) (ha : PE X a (TX F E fa)) (hb : PE X b (TX F E fb)) :
    PS X (.Assign [.Tuple [.Name x px, .Name y py] kt pt] (.Tuple [a, b] k2 pt2) pos) (TSX F E fun ρ S => (matB (fa ρ S)).bindS fun x S => (matB (fb ρ S)).bindS fun y S => .nx ((ρ.set i (some x)).set j (some y)) S) := by
  obtain ⟨l1, l2, ne, s1, s2, hw⟩ := par_sw (kt := kt) (k2 := k2) (pt := pt) (pt2 := pt2) hk h
  have hij : i ≠ j := fun z => by rw [z, hj] at hi; cases hi; exact ne rfl
  refine PS.imp (ps_par hc hN hi hj hij l1 l2 (snd_cons ha (snd_cons hb snd_nil s2) s1) hw) fun D σ H ⟨w, ρ, S, hS, hE, hf⟩ => ⟨w, ρ, S, hS, hE, ?_⟩
  refine finA_iff.mpr ?_
  refine FinG.ok_bind ((finS_bind hf).mono fun d1 S1 _ k1 => ?_)
  refine FinG.ok_bind (FinG.ok_bind ((finS_bind k1).mono fun d2 S2 _ k2 => ?_))
  intro w2 H2 vs st dvs
  cases dvs with
  | cons v1 t =>
    cases t with
    | cons v2 t =>
      cases t
      have k2 : ∀ w' H' σ', Step F.K F.tb w H w' H' S2 → ER F.K w' H' ((ρ.set i (some d1)).set j (some d2)) σ' → D.nx σ' H' := k2
      exact ⟨_, _, rfl, k2 w2 H2 _ st (((hE.step hS st).set i v1).set j v2)⟩
end
end CH
/-! CQ: blocks and loops. -/
namespace CH
open PySem PySem.Spec PyProof.Rows L2
section
variable {F : Fx} {E : XK} {X : Cx} {tg iter c : Expr} {body : List Stmt} {gc : Env → Store → R Bool} {fs gs : Env → Store → RS} {fi : Env → Store → R (List D × Grd)} {pos : Pos}
theorem bss_nil : PSs X [] (TSX F E fun ρ S => .nx ρ S) :=
  PSs.imp pss_nil fun D σ H ⟨w, ρ, S, hS, hE, hf⟩ => (show ∀ w' H' σ', Step F.K F.tb w H w' H' S → ER F.K w' H' ρ σ' → D.nx σ' H' from hf) w H σ (Step.refl hS) hE
theorem bss_cons {st : Stmt} {rest : List Stmt} (h1 : PS X st (TSX F E fs)) (h2 : PSs X rest (TSX F E gs)) : PSs X (st :: rest) (TSX F E fun ρ S => (fs ρ S).andThen gs) := by
  refine PSs.imp (pss_cons h1 h2) fun D σ H ⟨w, ρ, S, hS, hE, hf⟩ => ⟨w, ρ, S, hS, hE, ?_⟩
  have hf : FinS F E ((fs ρ S).andThen gs) w H D := hf
  revert hf
  cases fs ρ S with
  | nx ρ1 S1 => exact fun hf w1 H1 σ1 st er => ⟨w1, ρ1, S1, st.sr, er, FinS.step hS st hf⟩
  | rt x S1 => exact fun hf => hf
  | bk ρ1 S1 => exact fun hf => hf
  | ct ρ1 S1 => exact fun hf => hf
  | ex x S1 => exact fun hf => hf
  | bad => exact fun hf => hf
theorem bs_if {a b : List Stmt} (hc : PT X c (TTX F E gc)) (ha : PSs X a (TSX F E fs)) (hb : PSs X b (TSX F E gs)) : PS X (.If c a b pos) (TSX F E fun ρ S => (gc ρ S).bindS fun k S => if k = true then fs ρ S else gs ρ S) := by
  refine PS.imp (ps_if hc ha hb) fun D σ H ⟨w, ρ, S, hS, hE, hf⟩ => ⟨w, ρ, S, hS, hE, ?_⟩
  refine finB_iff.mpr ((finS_bind hf).mono fun k S1 _ h w1 H1 st => ?_)
  cases k with
  | true => rw [if_pos rfl] at h ⊢; exact ⟨w1, ρ, S1, st.sr, hE.step hS st, FinS.step hS st h⟩
  | false => rw [if_neg (by decide)] at h ⊢; exact ⟨w1, ρ, S1, st.sr, hE.step hS st, FinS.step hS st h⟩
theorem bs_while (hp : PassesOwn (model X.prog X.w) X.A X.env X.xe) (hc : PT X c (TTX F E gc)) (hb : PSs X body (TSX F E fs)) : PS X (.While c body [] pos) (TSX F E fun ρ S => whileN gc fs FU ρ S) := by
  refine PS.imp (ps_while hp hc hb) fun D σ H ⟨w, ρ, S, hS, hE, hf⟩ => ?_
  refine ⟨fun m σ H => ∃ w ρ S, SR F.K F.tb w H S ∧ ER F.K w H ρ σ ∧ FinS F E (whileN gc fs m ρ S) w H D, ⟨FU, w, ρ, S, hS, hE, hf⟩, ?_⟩
  rintro m σ H ⟨w, ρ, S, hS, hE, hf⟩
  cases m with
  | zero => exact hf.elim
  | succ m =>
    refine ⟨w, ρ, S, hS, hE, finB_iff.mpr ((finS_bind (show FinS F E ((gc ρ S).bindS _) w H D from hf)).mono fun k S1 _ h w1 H1 st => ?_)⟩
    cases k with
    | false => rw [if_neg (by decide)] at h ⊢; exact (show ∀ w' H' σ', Step F.K F.tb w H w' H' S1 → ER F.K w' H' ρ σ' → D.nx σ' H' from h) w1 H1 σ st (hE.step hS st)
    | true =>
      rw [if_pos rfl] at h ⊢
      refine ⟨fun σ' H' => ∃ w ρ S, SR F.K F.tb w H' S ∧ ER F.K w H' ρ σ' ∧ FinS F E (whileN gc fs m ρ S) w H' D, fun σ' H' q => ⟨m, Nat.lt_succ_self m, q⟩, w1, ρ, S1, st.sr, hE.step hS st, ?_⟩
      revert h
      cases fs ρ S1 with
      | nx ρ2 S2 => exact fun h w2 H2 σ2 st2 er => ⟨w2, ρ2, S2, st2.sr, er, FinS.step hS (st.trans hS st2) h⟩
      | ct ρ2 S2 => exact fun h w2 H2 σ2 st2 er => ⟨w2, ρ2, S2, st2.sr, er, FinS.step hS (st.trans hS st2) h⟩
      | bk ρ2 S2 => exact fun h w2 H2 σ2 st2 er => h w2 H2 σ2 (st.trans hS st2) er
      | rt x S2 => exact fun h w2 H2 v st2 rv => h w2 H2 v (st.trans hS st2) (rv.base hS st)
      | ex x S2 => exact fun h w2 H2 cls d st2 xv => h w2 H2 cls d (st.trans hS st2) xv
      | bad => exact fun h => h
theorem bs_for {t : Tg} (hp : PassesOwn (model X.prog X.w) X.A X.env X.xe) (hc : X.calm = true) (hi : PI X tg iter (TIX F E fi)) (hg : PG X tg (TGX1 F t)) (hb : PSs X body (TSX F E fs)) (hs : notSetE iter = true) :
    PS X (.For tg iter body [] pos) (TSX F E fun ρ S => (fi ρ S).bindS fun w S => forL w.2 t fs w.1 ρ S) := by
  refine PS.imp (ps_for hp hc hi hg hb (fold_none hs _)) fun D σ H ⟨w, ρ, S, hS, hE, hf⟩ => ⟨w, ρ, S, hS, hE, ?_⟩
  refine (finS_bind hf).mono fun a S1 _ h w1 H1 J st1 ok => ?_
  obtain ⟨xs, g⟩ := a
  dsimp only at ok h
  refine ⟨fun i m σ H' => ∃ w2 ρ2 S2, i ≤ xs.length ∧ m = xs.length - i ∧ Step F.K F.tb w1 H1 w2 H' S2 ∧ ER F.K w2 H' ρ2 σ ∧ FinS F E (forL g t fs (xs.drop i) ρ2 S2) w H D, ⟨xs.length, w1, ρ, S1, Nat.zero_le _, rfl, Step.refl st1.sr, hE.step hS st1, h⟩, ?_⟩
  rintro i m σ2 H2 ⟨w2, ρ2, S2, hi, rfl, st2, er2, h2⟩
  by_cases hlt : i < xs.length
  · refine .inr ?_
    rw [List.drop_eq_getElem_cons hlt] at h2
    unfold forL at h2
    by_cases hgo : g.ok S2
    · rw [if_pos hgo] at h2
      obtain ⟨go, yld⟩ := ok.go w2 H2 S2 st2 hgo i hlt
      cases hb1 : bindT t [xs[i]] ρ2 with
      | none => rw [hb1] at h2; exact h2.elim
      | some ρ3 =>
        rw [hb1] at h2
        dsimp only at h2
        refine ⟨go, fun σ' H' => ∃ w2 ρ2 S2, i + 1 ≤ xs.length ∧ Step F.K F.tb w1 H1 w2 H' S2 ∧ ER F.K w2 H' ρ2 σ' ∧ FinS F E (forL g t fs (xs.drop (i + 1)) ρ2 S2) w H D, fun σ' H' ⟨w', ρ', S', q1, q2, q3, q4⟩ => ⟨xs.length - (i + 1), by omega, w', ρ', S', q1, rfl, q2, q3, q4⟩, fun x H3 y => ?_⟩
        obtain ⟨st3, dv3⟩ := yld x H3 y
        have sr3 := st3.sr
        have st13 := st2.trans st1.sr st3
        have stw3 := st1.trans hS st13
        refine ⟨w2, ρ2, S2, [xs[i]], ρ3, sr3, er2.step st2.sr st3, .cons dv3 .nil, hb1, fun σ' er' _ => ?_⟩
        refine ⟨w2, ρ3, S2, sr3, er', ?_⟩
        revert h2
        cases fs ρ3 S2 with
        | nx ρ4 S4 => exact fun h w4 H4 σ4 st4 er => ⟨w4, ρ4, S4, hlt, st13.trans st1.sr st4, er, h⟩
        | ct ρ4 S4 => exact fun h w4 H4 σ4 st4 er => ⟨w4, ρ4, S4, hlt, st13.trans st1.sr st4, er, h⟩
        | bk ρ4 S4 => exact fun h w4 H4 σ4 st4 er => h w4 H4 σ4 (stw3.trans hS st4) er
        | rt x S4 => exact fun h w4 H4 v st4 rv => h w4 H4 v (stw3.trans hS st4) (rv.base hS stw3)
        | ex x S4 => exact fun h w4 H4 cls d st4 xv => h w4 H4 cls d (stw3.trans hS st4) xv
        | bad => exact fun h => h
    · rw [if_neg hgo] at h2; exact h2.elim
  · refine .inl ?_
    have e : i = xs.length := by omega
    subst e
    rw [List.drop_length] at h2
    unfold forL at h2
    by_cases hgo : g.ok S2
    · rw [if_pos hgo] at h2
      exact ⟨ok.stop w2 H2 S2 st2 hgo, (show ∀ w' H' σ', Step F.K F.tb w H w' H' S2 → ER F.K w' H' ρ2 σ' → D.nx σ' H' from h2) w2 H2 σ2 (st1.trans hS st2) er2⟩
    · rw [if_neg hgo] at h2; exact h2.elim
end
end CH
/-! CR: comprehensions. -/
namespace CH
open PySem PySem.Spec PyProof.Rows L2
/-! ### an object that nobody sees -/
/-- a list, a dict: what a comprehension fills -/
def Acc (o : HO) : Prop := (∃ xs, o = .lst xs) ∨ ∃ xs, o = .dK xs
def del (H : Hp) (p : Addr) : Hp := fun b => if b = p then none else H b
section
variable {F : Fx} {w w1 w2 : List Addr} {H H1 H2 H' : Hp} {S S1 S2 : Store} {p : Addr} {o o' : HO}
theorem del_same : del H p p = none := by simp [del]
theorem del_ne {b : Addr} (h : b ≠ p) : del H p b = H b := by simp [del, h]
theorem del_some {b : Addr} {u : HO} (h : del H p b = some u) : H b = some u ∧ b ≠ p := by
  unfold del at h
  split at h
  · cases h
  · rename_i hb; exact ⟨h, hb⟩
theorem del_upd : del (upd H p o) p = del H p := by
  funext b
  unfold del
  by_cases hb : b = p
  · rw [if_pos hb, if_pos hb]
  · rw [if_neg hb, if_neg hb, upd_ne hb]
theorem upd_del (h : H p = some o) : upd (del H p) p o = H := by
  funext b
  by_cases hb : b = p
  · rw [hb, upd_same, h]
  · rw [upd_ne hb, del_ne hb]
theorem del_none (h : H p = none) : del H p = H := by
  funext b
  by_cases hb : b = p
  · rw [hb, del_same, h]
  · rw [del_ne hb]
theorem sqt_del (ac : Acc o) (h : H p = some o) : ∀ a xs, PlT F.K H a xs → PlT F.K (del H p) a xs := fun a xs q => by
  rcases q with ⟨ob, q1, q⟩ | q
  · refine .inl ⟨ob, q1, (del_ne fun z => ?_).trans q⟩
    subst z; rw [h] at q; cases q
    rcases ac with ⟨_, z⟩ | ⟨_, z⟩ <;> cases z
  · exact .inr q
theorem frl_del (ac : Acc o) (h : H p = some o) : ∀ a xs, FrL F.K H a xs → FrL F.K (del H p) a xs := fun a xs q => by
  rcases q with ⟨ob, q⟩ | q
  · refine .inl ⟨ob, (del_ne fun z => ?_).trans q⟩
    subst z; rw [h] at q; cases q
    rcases ac with ⟨_, z⟩ | ⟨_, z⟩ <;> cases z
  · exact .inr q
theorem SR.del (ac : Acc o) (h : H p = some o) (hp : p ∉ w) (sr : SR F.K F.tb w H S) : SR F.K F.tb w (CH.del H p) S := by
  refine ⟨sr.len, sr.nd, fun r c e => ?_, fun P hP => ?_⟩
  · obtain ⟨a, ho, e1, e2, e3⟩ := sr.at_ r c e
    have am : a ∈ w := List.mem_of_getElem? e1
    exact ⟨a, ho, e1, (del_ne fun z : a = p => hp (by rw [← z]; exact am)).trans e2, e3.mono (sqt_del ac h) (frl_del ac h) fun _ _ z => z⟩
  · obtain ⟨ps, e1, e2⟩ := sr.tab P hP
    refine ⟨ps, (del_ne fun z : P = p => ?_).trans e1, e2⟩
    subst z; rw [h] at e1; cases e1
    rcases ac with ⟨_, z⟩ | ⟨_, z⟩ <;> cases z
theorem DV.del (ac : Acc o) (h : H p = some o) {d : D} {v : V} (r : DV F.K w H d v) : DV F.K w (CH.del H p) d v := r.mono (sqt_del ac h) (frl_del ac h) fun _ _ z => z
/-- what stays of it through a step -/
theorem Step.keepP (ac : Acc o) (h : H p = some o) (hp : p ∉ w) (st : Step F.K F.tb w H w2 H2 S2) : H2 p = some o ∧ p ∉ w2 := by
  constructor
  · rcases st.ext p o h hp with z | ⟨ps, qs, z, _⟩
    · exact z
    · subst z; rcases ac with ⟨_, z⟩ | ⟨_, z⟩ <;> cases z
  · obtain ⟨t, e, n⟩ := st.grow
    rw [e]
    intro z
    rcases List.mem_append.mp z with z | z
    · exact hp z
    · rw [n p z] at h; cases h
theorem Step.del (ac : Acc o) (h : H p = some o) (hp : p ∉ w) (st : Step F.K F.tb w H w2 H2 S2) : Step F.K F.tb w (CH.del H p) w2 (CH.del H2 p) S2 := by
  obtain ⟨k1, k2⟩ := st.keepP ac h hp
  refine ⟨?_, fun a u e ha => ?_, st.sr.del ac k1 k2, fun b ob u e => ?_⟩
  · obtain ⟨t, e, n⟩ := st.grow
    refine ⟨t, e, fun b hb => ?_⟩
    by_cases z : b = p
    · rw [z]; exact del_same
    · rw [del_ne z]; exact n b hb
  · obtain ⟨e1, e2⟩ := del_some e
    rw [del_ne e2]
    exact st.ext a u e1 ha
  · obtain ⟨e1, e2⟩ := del_some e
    rw [del_ne e2]
    exact st.frz b ob u e1
/-- .. laid again -/
theorem Step.undel (hS : SR F.K F.tb w H S) (h : H2 p = some o) (st : Step F.K F.tb w H w2 (CH.del H2 p) S2) : Step F.K F.tb w H w2 H2 S2 := by
  have := Step.fresh (o := o) hS st (p := p) del_same
  rwa [upd_del h] at this
end
theorem wipeD_of {σ σ' : L2.St} {vs : List Nat} (hl : σ'.length = σ.length) (h : ∀ i, i ∉ vs → σ'[i]? = σ[i]?) : wipe σ' vs = wipe σ vs := by
  have at_ : ∀ (σ : L2.St) (vs : List Nat) (i : Nat), (wipe σ vs)[i]? = if i ∈ vs then (if i < σ.length then some none else none) else σ[i]? := by
    intro σ vs
    induction vs with
    | nil => intro i; simp [wipe]
    | cons v vs ih =>
      intro i
      unfold wipe
      by_cases hv : v = i
      · subst hv
        rw [List.getElem?_set]
        simp [wipe_length]
      · rw [List.getElem?_set_ne hv, ih]
        have : (i ∈ v :: vs) ↔ i ∈ vs := by simp [eq_comm, hv]
        simp [this]
  refine List.ext_getElem? fun i => ?_
  rw [at_, at_]
  by_cases hi : i ∈ vs
  · rw [if_pos hi, if_pos hi, hl]
  · rw [if_neg hi, if_neg hi, h i hi]
theorem wipe_idem (σ : L2.St) (vs : List Nat) : wipe (wipe σ vs) vs = wipe σ vs :=
  wipeD_of (wipe_length σ vs) fun i hi => by
    cases h : σ[i]? with
    | none => rw [List.getElem?_eq_none (by rw [wipe_length]; exact List.getElem?_eq_none_iff.mp h)]
    | some o => exact wipe_out hi h
section
variable {F : Fx} {E : XK} {X : Cx} {tg iter elt : Expr} {ifs : List Expr} {fi : Env → Store → R (List D × Grd)} {ft : Env → Store → R Bool} {fe : Env → Store → R RV} {pos : Pos}
/-- a result that is there -/
theorem FinG.noex {α : Type} {r : R α} {w : List Addr} {H : Hp} {k : α → Store → Prop} (h : FinG F E r.noex w H k) : ∃ a S, r = .ok a S ∧ k a S := by
  cases r with
  | ok a S => exact ⟨a, S, rfl, h⟩
  | exc _ _ => exact h.elim
  | bad => exact h.elim
theorem ok_bind {α β : Type} {r : R α} {f : α → Store → R β} {b : β} {S : Store} (h : r.bind f = .ok b S) : ∃ a S1, r = .ok a S1 ∧ f a S1 = .ok b S := by
  cases r with
  | ok a S1 => exact ⟨a, S1, rfl, h⟩
  | exc _ _ => cases h
  | bad => cases h
theorem matB_ok {r : R RV} {d : D} {S : Store} (h : matB r = .ok d S) : ∃ x S1, r = .ok x S1 ∧ mat x S1 = .ok d S := ok_bind h
theorem pts_x (h : PT X elt (TTX F E ft)) : PTs X [elt] (TTX F E fun ρ S => (ft ρ S).bind fun k S => if k = true then .ok true S else .ok false S) :=
  ⟨fun pins s σ H Q I ⟨w, ρ, S, hS, hE, hf⟩ => (pts_one h).run pins s σ H Q I ⟨w, ρ, S, hS, hE, finB_iff.mpr ((finB_iff.mp hf).bind.mono fun k S1 _ h w1 H1 st => by
    cases k with
    | true => exact (show ∀ w' H', Step F.K F.tb w H w' H' S1 → Q true H' from h) w1 H1 st
    | false => exact (show ∀ w' H', Step F.K F.tb w H w' H' S1 → Q false H' from h) w1 H1 st)⟩⟩
theorem pts_x0 : PTs X [] (TTX F E fun _ S => .ok true S) :=
  ⟨fun pins s σ H Q I ⟨w, ρ, S, hS, hE, hf⟩ => pts_nil.run pins s σ H Q I ((show ∀ w' H', Step F.K F.tb w H w' H' S → Q true H' from hf) w H (Step.refl hS))⟩
def EN : XK := fun _ _ _ => False
theorem snd_lcB {scope : Scope} {own : List (Str × Nat)} {t : Tg} (hN : X.N.Nodup) (hc : X.calm = true) (hi : PI X tg iter (TIX F E fi)) (ok : BlkOk X.N X.env.scope scope own)
    (hg : ∀ (s : Shared) (H : Hp) (C : Addr) (cl : List (Str × Addr)) (fp : List Addr), PG (X.blk s H scope (compEnvC scope cl C X.env) fp) tg (TGX1 F t)) (ht : ∀ (s : Shared) (H : Hp) (C : Addr) (cl : List (Str × Addr)) (fp : List Addr), PTs (X.blk s H scope (compEnvC scope cl C X.env) fp) ifs (TTX F EN ft))
    (he : ∀ (s : Shared) (H : Hp) (C : Addr) (cl : List (Str × Addr)) (fp : List Addr), PE (X.blk s H scope (compEnvC scope cl C X.env) fp) elt (TX F EN fe)) (hs : notSetE iter = true) (hv : ∀ i ∈ t.vars, i ∈ own.map (·.2)) :
    ∀ σ H Q, TX F E (fun ρ S => (fi ρ S).bind fun w S => (compL w.2 t (wipeD ρ (own.map (·.2))) ft (fun ρ S acc => (matB (fe ρ S)).bind fun y S => .ok (acc ++ [y]) S) w.1 S []).noex.bind fun ys S => .ok (.o (.lst ys)) S) σ H Q →
      tLc (TIX F E fi) (TGX1 F t) (TTX F EN ft) (TX F EN fe) (own.map (·.2)) σ H Q := by
  intro σ H Q ⟨w, ρ, S, hS, hE, hf⟩
  refine ⟨w, ρ, S, hS, hE, (finE_iff.mp hf).bind.mono fun a S1 _ h w1 H1 J st1 io => ?_⟩
  obtain ⟨xs, g⟩ := a
  dsimp only at io h
  obtain ⟨zs, Sz, ez, hz⟩ := h.bind.noex
  intro Da hDa
  have hE1 := (hE.step hS st1).wipe (own.map (·.2))
  refine ⟨fun i m H' => ∃ w2 S2 acc vs, i ≤ xs.length ∧ m = xs.length - i ∧ acc.length ≤ i ∧ H' Da = some (.lst vs) ∧ Da ∉ w2 ∧ Step F.K F.tb w1 H1 w2 (del H' Da) S2 ∧ DVs F.K w2 (del H' Da) acc vs ∧
      compL g t (wipeD ρ (own.map (·.2))) ft (fun ρ S acc => (matB (fe ρ S)).bind fun y S => .ok (acc ++ [y]) S) (xs.drop i) S2 acc = .ok zs Sz, ⟨xs.length, w1, S1, [], [], Nat.zero_le _, rfl, Nat.le_refl _, upd_same, not_mem_new st1.sr hDa, ?_, .nil, ez⟩, ?_⟩
  · rw [del_upd, del_none hDa]; exact Step.refl st1.sr
  rintro i m H2 ⟨w2, S2, acc, vs, hi, rfl, hacc, eD, nD, st2, dvs, ec⟩
  have ac : Acc (.lst vs) := .inl ⟨vs, rfl⟩
  have stU : Step F.K F.tb w1 H1 w2 H2 S2 := st2.undel st1.sr eD
  by_cases hlt : i < xs.length
  · refine .inr ?_
    rw [List.drop_eq_getElem_cons hlt] at ec
    unfold compL at ec
    by_cases hgo : g.ok S2
    · rw [if_pos hgo] at ec
      obtain ⟨go, yld⟩ := io.go w2 H2 S2 stU hgo i hlt
      cases hb1 : bindT t [xs[i]] (wipeD ρ (own.map (·.2))) with
      | none => rw [hb1] at ec; cases ec
      | some ρ1 =>
        rw [hb1] at ec
        dsimp only at ec
        refine ⟨go, fun H' => ∃ w2 S2 acc vs, acc.length ≤ i + 1 ∧ H' Da = some (.lst vs) ∧ Da ∉ w2 ∧ Step F.K F.tb w1 H1 w2 (del H' Da) S2 ∧ DVs F.K w2 (del H' Da) acc vs ∧
          compL g t (wipeD ρ (own.map (·.2))) ft (fun ρ S acc => (matB (fe ρ S)).bind fun y S => .ok (acc ++ [y]) S) (xs.drop (i + 1)) S2 acc = .ok zs Sz, fun H' ⟨w', S', acc', vs', q1, q2, q3, q4, q5, q6⟩ => ⟨xs.length - (i + 1), by omega, w', S', acc', vs', hlt, rfl, q1, q2, q3, q4, q5, q6⟩, fun x H3 y => ?_⟩
        obtain ⟨st3, dv3⟩ := yld x H3 y
        have sr3 := st3.sr
        have hE3 : ER F.K w2 H3 (wipeD ρ (own.map (·.2))) (wipe σ (own.map (·.2))) := (hE1.step st1.sr stU).step stU.sr st3
        refine ⟨w2, _, S2, [xs[i]], ρ1, sr3, hE3, .cons dv3 .nil, hb1, fun σ' er' hσ' => ⟨?_, ?_⟩⟩
        · refine (wipeD_of ?_ fun j hj => hσ' j fun z => hj (hv j z)).trans (wipe_idem _ _)
          rw [← er'.len, bindT_length hb1, hE3.len]
        obtain ⟨k, S4, e4, ec⟩ := ok_bind ec
        refine ⟨w2, ρ1, S2, sr3, er', ?_⟩
        rw [e4]
        intro w4 H4 st4
        have st24 : Step F.K F.tb w2 H2 w4 H4 S4 := st3.trans stU.sr st4
        obtain ⟨kD, kn⟩ := st24.keepP ac eD nD
        have sd24 := st24.del ac eD nD
        cases k with
        | false =>
          rw [if_neg (by decide)] at ec ⊢
          exact ⟨w4, S4, acc, vs, by omega, kD, kn, st2.trans st1.sr sd24, dvs.step st2.sr sd24, ec⟩
        | true =>
          rw [if_pos rfl] at ec ⊢
          obtain ⟨acc2, S5, e5, ec⟩ := ok_bind ec
          obtain ⟨y0, S6, e6, e7⟩ := ok_bind e5
          cases e7
          obtain ⟨rv, S7, e8, e9⟩ := matB_ok e6
          refine ⟨w4, ρ1, S4, st4.sr, er'.step sr3 st4, ?_⟩
          rw [e8]
          intro w7 H7 v7 st7 rv7
          obtain ⟨d, S8, w8, e10, st8, dv8⟩ := mat_step st4.sr st7 rv7
          rw [e9] at e10; cases e10
          have st28 : Step F.K F.tb w2 H2 w8 H7 S5 := st24.trans stU.sr st8
          obtain ⟨kD8, kn8⟩ := st28.keepP ac eD nD
          have sd28 := st28.del ac eD nD
          refine ⟨vs, kD8, by rw [← dvs.length]; have := io.len; omega, w8, S5, acc ++ [y0], vs ++ [v7], by rw [List.length_append]; simp; omega, upd_same, kn8, ?_, ?_, ec⟩
          · rw [del_upd]; exact st2.trans st1.sr sd28
          · rw [del_upd]; exact (dvs.step st2.sr sd28).append (.cons (dv8.del ac kD8) .nil)
    · rw [if_neg hgo] at ec; cases ec
  · refine .inl ?_
    have e : i = xs.length := by omega
    subst e
    rw [List.drop_length] at ec
    unfold compL at ec
    by_cases hgo : g.ok S2
    · rw [if_pos hgo] at ec
      obtain ⟨rfl, rfl⟩ : acc = zs ∧ S2 = Sz := by cases ec; exact ⟨rfl, rfl⟩
      refine ⟨io.stop w2 H2 S2 stU hgo, ?_⟩
      have hz : ∀ w' H' v, Step F.K F.tb w H w' H' S2 → RVr F.K w' H H' (.o (.lst acc)) v → Q v H' := hz
      refine hz w2 H2 (.ref Da) (st1.trans hS stU) ⟨Da, _, rfl, eD, .lst (dvs.mono ?_ ?_ fun _ _ z => z), nD, st1.free0 hS hDa, fun c z => by cases z⟩
      · intro a ys q
        rcases q with ⟨ob, q1, q⟩ | q
        · exact .inl ⟨ob, q1, (del_some q).1⟩
        · exact .inr q
      · intro a ys q
        rcases q with ⟨ob, q⟩ | q
        · exact .inl ⟨ob, (del_some q).1⟩
        · exact .inr q
    · rw [if_neg hgo] at ec; cases ec
end
end CH
/-! CS: comprehensions as values, locks. -/
namespace CH
open PySem PySem.Spec PyProof.Rows L2
section
variable {F : Fx} {E : XK} {X : Cx} {tg iter elt e : Expr} {ifs : List Expr} {fi : Env → Store → R (List D × Grd)} {ft : Env → Store → R Bool} {fe : Env → Store → R RV} {pos : Pos} {st : Stmt}
noncomputable abbrev lcF (fi : Env → Store → R (List D × Grd)) (t : Tg) (vs : List Nat) (ft : Env → Store → R Bool) (fe : Env → Store → R RV) : Env → Store → R RV := fun ρ S => (fi ρ S).bind fun w S => (compL w.2 t (wipeD ρ vs) ft (fun ρ S acc => (matB (fe ρ S)).bind fun y S => .ok (acc ++ [y]) S) w.1 S []).noex.bind fun ys S => .ok (.o (.lst ys)) S
theorem snd_lc {scope : Scope} {own : List (Str × Nat)} {t : Tg} (hN : X.N.Nodup) (hc : X.calm = true) (hi : PI X tg iter (TIX F E fi)) (ok : BlkOk X.N X.env.scope scope own)
    (hg : ∀ (s : Shared) (H : Hp) (C : Addr) (cl : List (Str × Addr)) (fp : List Addr), PG (X.blk s H scope (compEnvC scope cl C X.env) fp) tg (TGX1 F t)) (ht : ∀ (s : Shared) (H : Hp) (C : Addr) (cl : List (Str × Addr)) (fp : List Addr), PTs (X.blk s H scope (compEnvC scope cl C X.env) fp) ifs (TTX F EN ft))
    (he : ∀ (s : Shared) (H : Hp) (C : Addr) (cl : List (Str × Addr)) (fp : List Addr), PE (X.blk s H scope (compEnvC scope cl C X.env) fp) elt (TX F EN fe)) (hs : notSetE iter = true) (hv : ∀ i ∈ t.vars, i ∈ own.map (·.2)) :
    PE X (.ListComp elt [⟨tg, iter, ifs, 0⟩] scope pos) (TX F E (lcF fi t (own.map (·.2)) ft fe)) :=
  PE.imp (pe_lc hc hN hi ok hg ht he (fold_none hs _)) (snd_lcB hN hc hi ok hg ht he hs hv)
/-- name = [..] where the list is stored from within -/
theorem bs_lc {i : Nat} {y : Str} {py spos : Pos} {scope : Scope} {own : List (Str × Nat)} {t : Tg} (hN : X.N.Nodup) (hc : X.calm = true) (hy : X.N[i]? = some y) (hyl : X.env.scope.names.lookup y = some .local)
    (hsw : swapsWith (.ListComp elt [⟨tg, iter, ifs, 0⟩] scope pos) (some (.Name y py)) spos.line X.env = pure true) (hi : PI X tg iter (TIX F E fi)) (ok : BlkOk X.N X.env.scope scope own)
    (hg : ∀ (s : Shared) (H : Hp) (C : Addr) (cl : List (Str × Addr)) (fp : List Addr), PG (X.blk s H scope (compEnvC scope cl C X.env) fp) tg (TGX1 F t)) (ht : ∀ (s : Shared) (H : Hp) (C : Addr) (cl : List (Str × Addr)) (fp : List Addr), PTs (X.blk s H scope (compEnvC scope cl C X.env) fp) ifs (TTX F EN ft))
    (he : ∀ (s : Shared) (H : Hp) (C : Addr) (cl : List (Str × Addr)) (fp : List Addr), PE (X.blk s H scope (compEnvC scope cl C X.env) fp) elt (TX F EN fe)) (hs : notSetE iter = true) (hv : ∀ i ∈ t.vars, i ∈ own.map (·.2)) :
    PS X (.Assign [.Name y py] (.ListComp elt [⟨tg, iter, ifs, 0⟩] scope pos) spos) (TSX F E fun ρ S => (matB (lcF fi t (own.map (·.2)) ft fe ρ S)).bindS fun v S => .nx (ρ.set i (some v)) S) := by
  refine PS.imp (ps_setLc hc hN hy hyl hsw hi ok hg ht he (fold_none hs _)) fun D σ H ⟨w, ρ, S, hS, hE, hw⟩ => snd_lcB hN hc hi ok hg ht he hs hv _ _ _ ⟨w, ρ, S, hS, hE, ?_⟩
  refine finE_iff.mpr ((finE_iff.mp (matB_fin hS hw)).mono fun x S1 _ k w1 H1 v st rv => ?_)
  obtain ⟨d, S2, w2, st2, dv, h⟩ := k w1 H1 v st rv
  exact (show ∀ w' H' σ', Step F.K F.tb w H w' H' S2 → ER F.K w' H' (ρ.set i (some d)) σ' → D.nx σ' H' from h) w2 H1 _ st2 ((hE.step hS st2).set i dv)
/-! ### locks -/
theorem upd_upd {H : Hp} {a : Addr} {u v : HO} : upd (upd H a u) a v = upd H a v := by
  funext b
  by_cases hb : b = a
  · rw [hb, upd_same, upd_same]
  · rw [upd_ne hb, upd_ne hb, upd_ne hb]
/-- the dict at r is locked -/
theorem lock_at {w : List Addr} {H : Hp} {S : Store} {r : Nat} {c : Cell} (hS : SR F.K F.tb w H S) (hc : S[r]? = some c) (hd : ∃ kvs, c = .dic kvs) : ∃ a us, w[r]? = some a ∧ H a = some (.dK us) ∧ (∀ od, SR F.K F.tb w (upd H a (.frz od (.dK us))) (S.set r (.frz c))) ∧
    (∀ od b xs, PlT F.K H b xs → PlT F.K (upd H a (.frz od (.dK us))) b xs) ∧ (∀ od b xs, FrL F.K H b xs → FrL F.K (upd H a (.frz od (.dK us))) b xs) ∧
    ∀ od w' H' S', Step F.K F.tb w (upd H a (.frz od (.dK us))) w' H' S' → S'[r]? = some (.frz c) → H' a = some (.frz od (.dK us)) ∧ Step F.K F.tb w H w' (upd H' a (.dK us)) (S'.set r c) ∧
      (∀ b xs, PlT F.K H' b xs → PlT F.K (upd H' a (.dK us)) b xs) ∧ ∀ b xs, FrL F.K H' b xs → FrL F.K (upd H' a (.dK us)) b xs := by
  obtain ⟨kvs, rfl⟩ := hd
  obtain ⟨a, ho, e1, e2, cv⟩ := hS.at_ r _ hc
  cases cv with
  | dic kv =>
    rename_i us
    have am : a ∈ w := List.mem_of_getElem? e1
    have sqU : ∀ (H : Hp) (u v : HO), H a = some u → (∀ o xs, u ≠ .frz o (.tup xs)) → ∀ b xs, PlT F.K H b xs → PlT F.K (upd H a v) b xs := fun H u v e n2 b xs q => by
      rcases q with ⟨o, q1, q⟩ | q
      · exact .inl ⟨o, q1, (upd_ne fun z => by subst z; rw [e] at q; cases q; exact n2 _ _ rfl).trans q⟩
      · exact .inr q
    have frU : ∀ (H : Hp) (u v : HO), H a = some u → (∀ o xs, u ≠ .frz o (.lst xs)) → ∀ b xs, FrL F.K H b xs → FrL F.K (upd H a v) b xs := fun H u v e n2 b xs q => by
      rcases q with ⟨o, q⟩ | q
      · exact .inl ⟨o, (upd_ne fun z => by subst z; rw [e] at q; cases q; exact n2 _ _ rfl).trans q⟩
      · exact .inr q
    have sq1 : ∀ od b xs, PlT F.K H b xs → PlT F.K (upd H a (.frz od (.dK us))) b xs := fun od => sqU H _ _ e2 fun _ _ z => by cases z
    have fr1 : ∀ od b xs, FrL F.K H b xs → FrL F.K (upd H a (.frz od (.dK us))) b xs := fun od => frU H _ _ e2 fun _ _ z => by cases z
    have hrl : r < S.length := (List.getElem?_eq_some_iff.mp hc).1
    have oth : ∀ {w : List Addr} {i : Nat} {b : Addr}, w.Nodup → w[r]? = some a → w[i]? = some b → r ≠ i → b ≠ a := fun {w i b} nd h1 h2 hi z => by
      subst z
      obtain ⟨l1, m1⟩ := List.getElem?_eq_some_iff.mp h1
      obtain ⟨l2, m2⟩ := List.getElem?_eq_some_iff.mp h2
      exact hi ((List.getElem_inj nd).mp (m1.trans m2.symm))
    refine ⟨a, us, e1, e2, fun od => ?_, sq1, fr1, fun od w' H' S' st er => ?_⟩
    · refine ⟨by simp [hS.len], hS.nd, fun i c2 e => ?_, fun P hP => ?_⟩
      · by_cases hi : r = i
        · subst hi
          rw [List.getElem?_set_self hrl] at e
          cases e
          exact ⟨a, _, e1, upd_same, .frz ⟨kv.1, kv.2.mono (sq1 od) (fr1 od) fun _ _ z => z⟩⟩
        · rw [List.getElem?_set_ne hi] at e
          obtain ⟨b, ho2, f1, f2, f3⟩ := hS.at_ i c2 e
          exact ⟨b, ho2, f1, by rw [upd_ne (oth hS.nd e1 f1 hi)]; exact f2, f3.mono (sq1 od) (fr1 od) fun _ _ z => z⟩
      · obtain ⟨ps, f1, f2⟩ := hS.tab P hP
        exact ⟨ps, by rw [upd_ne fun z => by subst z; rw [e2] at f1; cases f1]; exact f1, f2⟩
    · have eH : H' a = some (.frz od (.dK us)) := st.frz a od _ upd_same
      have sq2 : ∀ b xs, PlT F.K H' b xs → PlT F.K (upd H' a (.dK us)) b xs := sqU H' _ _ eH fun _ _ z => by cases z
      have fr2 : ∀ b xs, FrL F.K H' b xs → FrL F.K (upd H' a (.dK us)) b xs := frU H' _ _ eH fun _ _ z => by cases z
      have ew := st.at r a e1
      have hrl' : r < S'.length := (List.getElem?_eq_some_iff.mp er).1
      refine ⟨eH, ⟨?_, fun b u e hb => ?_, ⟨by simp [st.sr.len], st.sr.nd, fun i c2 e => ?_, fun P hP => ?_⟩, fun b o u e => ?_⟩, sq2, fr2⟩
      · obtain ⟨t, g1, g2⟩ := st.grow
        refine ⟨t, g1, fun b hb => ?_⟩
        have := g2 b hb
        by_cases hba : b = a
        · subst hba; rw [upd_same] at this; cases this
        · rw [upd_ne hba] at this; exact this
      · have hba : b ≠ a := fun z => hb (by rw [z]; exact am)
        rw [upd_ne hba]
        exact st.ext b u (by rw [upd_ne hba]; exact e) hb
      · by_cases hi : r = i
        · subst hi
          rw [List.getElem?_set_self hrl'] at e
          cases e
          obtain ⟨b, ho2, f1, f2, f3⟩ := st.sr.at_ r _ er
          rw [ew] at f1; cases f1
          rw [eH] at f2; cases f2
          cases f3 with
          | frz kv2 => exact ⟨a, _, ew, upd_same, .dic ⟨kv2.1, kv2.2.mono sq2 fr2 fun _ _ z => z⟩⟩
        · rw [List.getElem?_set_ne hi] at e
          obtain ⟨b, ho2, f1, f2, f3⟩ := st.sr.at_ i c2 e
          exact ⟨b, ho2, f1, by rw [upd_ne (oth st.sr.nd ew f1 hi)]; exact f2, f3.mono sq2 fr2 fun _ _ z => z⟩
      · obtain ⟨ps, f1, f2⟩ := st.sr.tab P hP
        exact ⟨ps, by rw [upd_ne fun z => by subst z; rw [eH] at f1; cases f1]; exact f1, f2⟩
      · have hba : b ≠ a := fun z => by subst z; rw [e2] at e; cases e
        rw [upd_ne hba]
        exact st.frz b o u (by rw [upd_ne hba]; exact e)
theorem lockI_ok {it : Ix} {ρ : Env} {S : Store} {r : Nat} {c : Cell} (h : lockI it ρ S = some (r, c)) : S[r]? = some c ∧ ∃ kvs, c = .dic kvs := by
  have v : ∀ e, lockV e ρ S = some (r, c) → S[r]? = some c ∧ ∃ kvs, c = .dic kvs := fun e h => by
    unfold lockV at h
    split at h
    · split at h
      · split at h
        · cases h
          exact ⟨by assumption, _, rfl⟩
        · cases h
      · cases h
    · cases h
  unfold lockI at h
  split at h
  · exact v _ h
  · exact v _ h
  · exact v _ h
  · cases h
theorem ER.lay {K : PySem.W.Frag} {w : List Addr} {H H' : Hp} {ρ : Env} {σ : L2.St} (h1 : ∀ a xs, PlT K H a xs → PlT K H' a xs) (h2 : ∀ a xs, FrL K H a xs → FrL K H' a xs) (e : ER K w H ρ σ) : ER K w H' ρ σ :=
  ⟨e.len, fun i d q => let ⟨v, a, b⟩ := e.at_ i d q; ⟨v, a, b.mono h1 h2 fun _ _ z => z⟩⟩
theorem RVr.unlock {K : PySem.W.Frag} {w : List Addr} {H0 H' : Hp} {a : Addr} {u u' : HO} (am : a ∈ w) (h1 : ∀ b xs, PlT K H' b xs → PlT K (upd H' a u) b xs) (h2 : ∀ b xs, FrL K H' b xs → FrL K (upd H' a u) b xs) {x : RV} {v : V} (r : RVr K w (upd H0 a u') H' x v) : RVr K w H0 (upd H' a u) x v := by
  cases x with
  | d d => exact DV.mono h1 h2 (fun _ _ z => z) r
  | o c =>
    obtain ⟨b, ho, e, e1, cv, na, n0, nf⟩ := r
    have hb : b ≠ a := fun z => na (by rw [z]; exact am)
    rw [upd_ne hb] at n0
    exact ⟨b, ho, e, by rw [upd_ne hb]; exact e1, cv.mono h1 h2 fun _ _ z => z, na, n0, nf⟩
theorem snd_lock {k : Env → Store → Option (Nat × Cell)} {f : Env → Store → R RV} (hk : ∀ ρ S r c, k ρ S = some (r, c) → S[r]? = some c ∧ ∃ kvs, c = .dic kvs) (h : PE X e (TX F E f)) : PE X e (TX F E fun ρ S => lockR (k ρ S) (f ρ) S) := by
  refine ⟨fun pins s σ H Q I ⟨w, ρ, S, hS, hE, hf⟩ => ?_⟩
  dsimp only at hf
  cases ek : k ρ S with
  | none =>
    rw [ek] at hf
    exact h.run pins s σ H Q I ⟨w, ρ, S, hS, hE, hf⟩
  | some rc =>
    obtain ⟨r, c⟩ := rc
    rw [ek] at hf
    obtain ⟨hc, hd⟩ := hk ρ S r c ek
    obtain ⟨a, us, e1, e2, l1, sq1, fr1, l2⟩ := lock_at hS hc hd
    refine (pe_lock h).run pins s σ H Q I ⟨a, .dK us, e2, True.intro, fun od => ⟨w, ρ, S.set r (.frz c), l1 od, hE.lay (sq1 od) (fr1 od), ?_⟩⟩
    unfold lockR at hf
    dsimp only at hf
    revert hf
    cases f ρ (S.set r (.frz c)) with
    | bad => exact fun hf => hf.elim
    | exc x S' => exact fun hf => hf.elim
    | ok x S' =>
      intro hf w' H' v st rv
      dsimp only at hf
      split at hf
      · rename_i hr
        obtain ⟨q1, q2, q3, q4⟩ := l2 od w' H' S' st hr
        exact ⟨q1, hf w' _ v q2 (RVr.unlock (st.mem (List.mem_of_getElem? e1)) q3 q4 rv)⟩
      · exact hf.elim
theorem bs_lock {k : Env → Store → Option (Nat × Cell)} {f : Env → Store → RS} (hk : ∀ ρ S r c, k ρ S = some (r, c) → S[r]? = some c ∧ ∃ kvs, c = .dic kvs) (h : PS X st (TSX F E f)) : PS X st (TSX F E fun ρ S => lockS (k ρ S) (f ρ) S) := by
  refine ⟨fun pins s σ H D I ⟨w, ρ, S, hS, hE, hf⟩ => ?_⟩
  dsimp only at hf
  cases ek : k ρ S with
  | none =>
    rw [ek] at hf
    exact h.run pins s σ H D I ⟨w, ρ, S, hS, hE, hf⟩
  | some rc =>
    obtain ⟨r, c⟩ := rc
    rw [ek] at hf
    obtain ⟨hc, hd⟩ := hk ρ S r c ek
    obtain ⟨a, us, e1, e2, l1, sq1, fr1, l2⟩ := lock_at hS hc hd
    refine (ps_lock h).run pins s σ H D I ⟨a, .dK us, e2, True.intro, fun od => ⟨w, ρ, S.set r (.frz c), l1 od, hE.lay (sq1 od) (fr1 od), ?_⟩⟩
    unfold lockS at hf
    dsimp only at hf
    revert hf
    cases f ρ (S.set r (.frz c)) with
    | bad => exact fun hf => hf.elim
    | ex x S' => exact fun hf => hf.elim
    | rt x S' =>
      intro hf w' H' v st rv
      dsimp only at hf
      split at hf
      · rename_i hr
        obtain ⟨q1, q2, q3, q4⟩ := l2 od w' H' S' st hr
        exact ⟨q1, hf w' _ v q2 (RVr.unlock (st.mem (List.mem_of_getElem? e1)) q3 q4 rv)⟩
      · exact hf.elim
    | nx ρ' S' =>
      intro hf w' H' σ' st er
      dsimp only at hf
      split at hf
      · rename_i hr
        obtain ⟨q1, q2, q3, q4⟩ := l2 od w' H' S' st hr
        exact ⟨q1, hf w' _ σ' q2 (er.lay q3 q4)⟩
      · exact hf.elim
    | bk ρ' S' =>
      intro hf w' H' σ' st er
      dsimp only at hf
      split at hf
      · rename_i hr
        obtain ⟨q1, q2, q3, q4⟩ := l2 od w' H' S' st hr
        exact ⟨q1, hf w' _ σ' q2 (er.lay q3 q4)⟩
      · exact hf.elim
    | ct ρ' S' =>
      intro hf w' H' σ' st er
      dsimp only at hf
      split at hf
      · rename_i hr
        obtain ⟨q1, q2, q3, q4⟩ := l2 od w' H' S' st hr
        exact ⟨q1, hf w' _ σ' q2 (er.lay q3 q4)⟩
      · exact hf.elim
end
end CH
/-! SA: comprehensions of two clauses, of dicts. -/
namespace CH
open PySem PySem.Spec PyProof.Rows L2
section
variable {F : Fx} {E : XK} {X : Cx} {tg iter elt kx vx tg1 iter1 : Expr} {ifs ifs1 : List Expr} {fi fi1 : Env → Store → R (List D × Grd)} {ft ft1 : Env → Store → R Bool} {fe fk fv : Env → Store → R RV} {pos : Pos}
theorem len_aput {κ : Type} [DecidableEq κ] (kvs : List (κ × D)) (k : κ) (v : D) : (aput kvs k v).length ≤ kvs.length + 1 := by
  unfold aput
  split
  · rw [List.length_map]; omega
  · rw [List.length_append]; exact Nat.le_refl _
theorem KVs.step {K : PySem.W.Frag} {tb : List Addr} {w w' : List Addr} {H H' : Hp} {S S' : Store} {kvs : List (Key × D)} {us : List (Key × V)} (h : KVs K w H kvs us) (hS : SR K tb w H S) (st : Step K tb w H w' H' S') : KVs K w' H' kvs us := ⟨h.1, h.2.step hS st⟩
/-- one entry of a dict that is made -/
def putL (fk fv : Env → Store → R RV) (ρ : Env) (S : Store) (acc : List (Key × D)) : R (List (Key × D)) := (matB (fk ρ S)).bind fun y S => (matB (fv ρ S)).bind fun z S => (match y.key with
        | some kk => .ok (aput acc kk z) S
        | none => .bad)
noncomputable abbrev dcF (fi : Env → Store → R (List D × Grd)) (t : Tg) (vs : List Nat) (ft : Env → Store → R Bool) (fk fv : Env → Store → R RV) : Env → Store → R RV := fun ρ S => (fi ρ S).bind fun w S => (compL w.2 t (wipeD ρ vs) ft (putL fk fv) w.1 S []).noex.bind fun kvs S => .ok (.o (.dic kvs)) S
theorem snd_dcB {scope : Scope} {own : List (Str × Nat)} {t : Tg} (hv : ∀ i ∈ t.vars, i ∈ own.map (·.2)) :
    ∀ σ H Q, TX F E (dcF fi t (own.map (·.2)) ft fk fv) σ H Q → tDc (TIX F E fi) (TGX1 F t) (TTX F EN ft) (TX F EN fk) (TX F EN fv) (own.map (·.2)) σ H Q := by
  intro σ H Q ⟨w, ρ, S, hS, hE, hf⟩
  refine ⟨w, ρ, S, hS, hE, (finE_iff.mp hf).bind.mono fun a S1 _ h w1 H1 J st1 io => ?_⟩
  obtain ⟨xs, g⟩ := a
  dsimp only at io h
  obtain ⟨zs, Sz, ez, hz⟩ := h.bind.noex
  intro Da hDa
  have hE1 := (hE.step hS st1).wipe (own.map (·.2))
  refine ⟨fun i m H' => ∃ w2 S2 acc vs, i ≤ xs.length ∧ m = xs.length - i ∧ acc.length ≤ i ∧ H' Da = some (.dK vs) ∧ Da ∉ w2 ∧ Step F.K F.tb w1 H1 w2 (del H' Da) S2 ∧ KVs F.K w2 (del H' Da) acc vs ∧
      compL g t (wipeD ρ (own.map (·.2))) ft (putL fk fv) (xs.drop i) S2 acc = .ok zs Sz, ⟨xs.length, w1, S1, [], [], Nat.zero_le _, rfl, Nat.le_refl _, upd_same, not_mem_new st1.sr hDa, ?_, ⟨rfl, .nil⟩, ez⟩, ?_⟩
  · rw [del_upd, del_none hDa]; exact Step.refl st1.sr
  rintro i m H2 ⟨w2, S2, acc, vs, hi, rfl, hacc, eD, nD, st2, dvs, ec⟩
  have ac : Acc (.dK vs) := .inr ⟨vs, rfl⟩
  have stU : Step F.K F.tb w1 H1 w2 H2 S2 := st2.undel st1.sr eD
  by_cases hlt : i < xs.length
  · refine .inr ?_
    rw [List.drop_eq_getElem_cons hlt] at ec
    unfold compL at ec
    by_cases hgo : g.ok S2
    · rw [if_pos hgo] at ec
      obtain ⟨go, yld⟩ := io.go w2 H2 S2 stU hgo i hlt
      cases hb1 : bindT t [xs[i]] (wipeD ρ (own.map (·.2))) with
      | none => rw [hb1] at ec; cases ec
      | some ρ1 =>
        rw [hb1] at ec
        dsimp only at ec
        refine ⟨go, fun H' => ∃ w2 S2 acc vs, acc.length ≤ i + 1 ∧ H' Da = some (.dK vs) ∧ Da ∉ w2 ∧ Step F.K F.tb w1 H1 w2 (del H' Da) S2 ∧ KVs F.K w2 (del H' Da) acc vs ∧
          compL g t (wipeD ρ (own.map (·.2))) ft (putL fk fv) (xs.drop (i + 1)) S2 acc = .ok zs Sz, fun H' ⟨w', S', acc', vs', q1, q2, q3, q4, q5, q6⟩ => ⟨xs.length - (i + 1), by omega, w', S', acc', vs', hlt, rfl, q1, q2, q3, q4, q5, q6⟩, fun x H3 y => ?_⟩
        obtain ⟨st3, dv3⟩ := yld x H3 y
        have sr3 := st3.sr
        have hE3 : ER F.K w2 H3 (wipeD ρ (own.map (·.2))) (wipe σ (own.map (·.2))) := (hE1.step st1.sr stU).step stU.sr st3
        refine ⟨w2, _, S2, [xs[i]], ρ1, sr3, hE3, .cons dv3 .nil, hb1, fun σ' er' hσ' => ⟨?_, ?_⟩⟩
        · refine (wipeD_of ?_ fun j hj => hσ' j fun z => hj (hv j z)).trans (wipe_idem _ _)
          rw [← er'.len, bindT_length hb1, hE3.len]
        obtain ⟨k, S4, e4, ec⟩ := ok_bind ec
        refine ⟨w2, ρ1, S2, sr3, er', ?_⟩
        rw [e4]
        intro w4 H4 st4
        have st24 : Step F.K F.tb w2 H2 w4 H4 S4 := st3.trans stU.sr st4
        obtain ⟨kD, kn⟩ := st24.keepP ac eD nD
        have sd24 := st24.del ac eD nD
        cases k with
        | false =>
          rw [if_neg (by decide)] at ec ⊢
          exact ⟨w4, S4, acc, vs, by omega, kD, kn, st2.trans st1.sr sd24, dvs.step st2.sr sd24, ec⟩
        | true =>
          rw [if_pos rfl] at ec ⊢
          obtain ⟨acc2, S5, e5, ec⟩ := ok_bind ec
          unfold putL at e5
          obtain ⟨y0, S6, e6, e7⟩ := ok_bind e5
          obtain ⟨z0, S6b, e6b, e7⟩ := ok_bind e7
          obtain ⟨rv, S7, e8, e9⟩ := matB_ok e6
          obtain ⟨rvb, S7b, e8b, e9b⟩ := matB_ok e6b
          split at e7
          · rename_i kk hkk
            cases e7
            refine ⟨w4, ρ1, S4, st4.sr, er'.step sr3 st4, ?_⟩
            rw [e8]
            intro w7 H7 v7 st7 rv7
            obtain ⟨d, S8, w8, e10, st8, dv8⟩ := mat_step st4.sr st7 rv7
            rw [e9] at e10; cases e10
            obtain rfl := key_v dv8 hkk
            refine ⟨w8, ρ1, S6, st8.sr, (er'.step sr3 st4).step st4.sr st8, ?_⟩
            rw [e8b]
            intro w9 H9 v9 st9 rv9
            obtain ⟨d2, S10, w10, e11, st10, dv10⟩ := mat_step st8.sr st9 rv9
            rw [e9b] at e11; cases e11
            have st28 : Step F.K F.tb w2 H2 w10 H9 S5 := (st24.trans stU.sr st8).trans stU.sr st10
            obtain ⟨kD8, kn8⟩ := st28.keepP ac eD nD
            have sd28 := st28.del ac eD nD
            have hl := dvs.2.length
            rw [List.length_map, List.length_map] at hl
            have ha := len_aput acc kk z0
            refine ⟨vs, kk, rfl, kD8, by have := io.len; omega, w10, S5, aput acc kk z0, putK vs kk v9, by omega, upd_same, kn8, ?_, ?_, ec⟩
            · rw [del_upd]; exact st2.trans st1.sr sd28
            · rw [del_upd]; exact (dvs.step st2.sr sd28).put kk (dv10.del ac kD8)
          · cases e7
    · rw [if_neg hgo] at ec; cases ec
  · refine .inl ?_
    have e : i = xs.length := by omega
    subst e
    rw [List.drop_length] at ec
    unfold compL at ec
    by_cases hgo : g.ok S2
    · rw [if_pos hgo] at ec
      obtain ⟨rfl, rfl⟩ : acc = zs ∧ S2 = Sz := by cases ec; exact ⟨rfl, rfl⟩
      refine ⟨io.stop w2 H2 S2 stU hgo, ?_⟩
      have hz : ∀ w' H' v, Step F.K F.tb w H w' H' S2 → RVr F.K w' H H' (.o (.dic acc)) v → Q v H' := hz
      refine hz w2 H2 (.ref Da) (st1.trans hS stU) ⟨Da, _, rfl, eD, .dic ⟨dvs.1, dvs.2.mono ?_ ?_ fun _ _ z => z⟩, nD, st1.free0 hS hDa, fun c z => by cases z⟩
      · intro a ys q
        rcases q with ⟨ob, q1, q⟩ | q
        · exact .inl ⟨ob, q1, (del_some q).1⟩
        · exact .inr q
      · intro a ys q
        rcases q with ⟨ob, q⟩ | q
        · exact .inl ⟨ob, (del_some q).1⟩
        · exact .inr q
    · rw [if_neg hgo] at ec; cases ec
theorem snd_dc {scope : Scope} {own : List (Str × Nat)} {t : Tg} (hN : X.N.Nodup) (hc : X.calm = true) (hi : PI X tg iter (TIX F E fi)) (ok : BlkOk X.N X.env.scope scope own)
    (hg : ∀ (s : Shared) (H : Hp) (C : Addr) (cl : List (Str × Addr)) (fp : List Addr), PG (X.blk s H scope (compEnvC scope cl C X.env) fp) tg (TGX1 F t)) (ht : ∀ (s : Shared) (H : Hp) (C : Addr) (cl : List (Str × Addr)) (fp : List Addr), PTs (X.blk s H scope (compEnvC scope cl C X.env) fp) ifs (TTX F EN ft))
    (hk : ∀ (s : Shared) (H : Hp) (C : Addr) (cl : List (Str × Addr)) (fp : List Addr), PE (X.blk s H scope (compEnvC scope cl C X.env) fp) kx (TX F EN fk))
    (he : ∀ (s : Shared) (H : Hp) (C : Addr) (cl : List (Str × Addr)) (fp : List Addr), PE (X.blk s H scope (compEnvC scope cl C X.env) fp) vx (TX F EN fv)) (hs : notSetE iter = true) (hv : ∀ i ∈ t.vars, i ∈ own.map (·.2)) :
    PE X (.DictComp kx vx [⟨tg, iter, ifs, 0⟩] scope pos) (TX F E (dcF fi t (own.map (·.2)) ft fk fv)) :=
  PE.imp (pe_dc hc hN hi ok hg ht hk he (fold_none hs _)) (snd_dcB (scope := scope) hv)
theorem sw_trueD {kx vx : Expr} {gs : List Comprehension} {scope : Scope} {pos py : Pos} {y : Str} {l : Nat} {env : PySem.Env} (hk : env.scope.kind = .function) (hy : env.scope.names.lookup y = some .local) (hl : (py.line == pos.line) = true)
    (ha : (scope.names.any fun (n, k) => n == y && (k == .local || k == .cell)) = false) : swapsWith (.DictComp kx vx gs scope pos) (some (.Name y py)) l env = pure true := by
  have ky : env.kindOf y = some .local := hy
  have hb : env.blockKind = .function := by unfold Env.blockKind; rw [hk]; rfl
  unfold swapsWith
  simp only [hb, ky, ha, Expr.pos, hl]
  rfl
/-- name = {..}, the dict stored from within -/
theorem bs_dc {i : Nat} {y : Str} {py spos : Pos} {scope : Scope} {own : List (Str × Nat)} {t : Tg} (hN : X.N.Nodup) (hc : X.calm = true) (hy : X.N[i]? = some y) (hyl : X.env.scope.names.lookup y = some .local)
    (hsw : swapsWith (.DictComp kx vx [⟨tg, iter, ifs, 0⟩] scope pos) (some (.Name y py)) spos.line X.env = pure true) (hi : PI X tg iter (TIX F E fi)) (ok : BlkOk X.N X.env.scope scope own)
    (hg : ∀ (s : Shared) (H : Hp) (C : Addr) (cl : List (Str × Addr)) (fp : List Addr), PG (X.blk s H scope (compEnvC scope cl C X.env) fp) tg (TGX1 F t)) (ht : ∀ (s : Shared) (H : Hp) (C : Addr) (cl : List (Str × Addr)) (fp : List Addr), PTs (X.blk s H scope (compEnvC scope cl C X.env) fp) ifs (TTX F EN ft))
    (hk : ∀ (s : Shared) (H : Hp) (C : Addr) (cl : List (Str × Addr)) (fp : List Addr), PE (X.blk s H scope (compEnvC scope cl C X.env) fp) kx (TX F EN fk))
    (he : ∀ (s : Shared) (H : Hp) (C : Addr) (cl : List (Str × Addr)) (fp : List Addr), PE (X.blk s H scope (compEnvC scope cl C X.env) fp) vx (TX F EN fv)) (hs : notSetE iter = true) (hv : ∀ i ∈ t.vars, i ∈ own.map (·.2)) :
    PS X (.Assign [.Name y py] (.DictComp kx vx [⟨tg, iter, ifs, 0⟩] scope pos) spos) (TSX F E fun ρ S => (matB (dcF fi t (own.map (·.2)) ft fk fv ρ S)).bindS fun v S => .nx (ρ.set i (some v)) S) := by
  refine ⟨fun pins s σ H Dk I ⟨w, ρ, S, hS, hE, hw⟩ => ?_⟩
  rw [exec_Assign_Name_used _ _ _ _ hsw]
  refine wpAny_bind (wpAny_standAt (wpAny_bind ?_))
  show wpAny _ X.A (do let _ ← comprehension (.DictComp kx vx [⟨tg, iter, ifs, 0⟩] scope pos) scope X.env (firstIterPos [⟨tg, iter, ifs, 0⟩] pos) newDict false (eval iter X.env) (some (assign (.Name y py) X.env))) _ _ s
  have h : tDc (TIX F E fi) (TGX1 F t) (TTX F EN ft) (TX F EN fk) (TX F EN fv) (own.map (·.2)) σ H (fun x H1 => gName i x σ H1 Dk.nx) := by
    refine snd_dcB (scope := scope) hv _ _ _ ⟨w, ρ, S, hS, hE, ?_⟩
    refine finE_iff.mpr ((finE_iff.mp (matB_fin hS hw)).mono fun x S1 _ k w1 H1 v st rv => ?_)
    obtain ⟨d, S2, w2, st2, dv, h⟩ := k w1 H1 v st rv
    exact (show ∀ w' H' σ', Step F.K F.tb w H w' H' S2 → ER F.K w' H' (ρ.set i (some d)) σ' → Dk.nx σ' H' from h) w2 H1 _ st2 ((hE.step hS st2).set i dv)
  refine wpAny_bind (thn (dc_core (Qf := fun _ s' => SP X pins Dk .next s') hc hN I hi ok hg ht hk he (fold_none hs _) h fun L C s' m H' I' q hn f => ?_) fun _ s' hq => wpAny_pure (wpAny_pure hq))
  show wpAny _ _ (assign (.Name y py) X.env (.ref L)) _ _ _
  refine wpAny_assign_Name (store_ok2 (v := V.ref L) I' hN hy (.inl hyl) rfl (fun s2 I2 ⟨a, sb, ha⟩ => ?_) (.inr hyl))
  obtain ⟨f0, f1, f2, f3, f4, f5⟩ := f
  have haC : C ≠ a := by
    rcases ha with z | z
    · rw [z]; exact f1
    · exact fun e => f4 y a z e.symm
  refine ⟨m, hn.sameBut sb haC, fun h3 sb3 => ?_⟩
  exact ⟨_, H', I2.turned (t' := s2.toks) (fun b o hb e => (sb3.2 b hb).trans e) f0 f1 f3 f4 f5, q⟩
end
end CH
/-! SB: comprehensions of two clauses. -/
namespace CH
open PySem PySem.Spec PyProof.Rows L2
section
variable {F : Fx} {E : XK} {X : Cx} {tg iter elt tg1 iter1 : Expr} {ifs ifs1 : List Expr} {fi fi1 : Env → Store → R (List D × Grd)} {ft ft1 : Env → Store → R Bool} {fe : Env → Store → R RV} {pos : Pos}
noncomputable abbrev lc2E (fe : Env → Store → R RV) (r : Nat) : Env → Store → Unit → R Unit := fun ρ S _ => (matB (fe ρ S)).bind fun y S => pushR r y S
noncomputable abbrev lc2Q (fi1 : Env → Store → R (List D × Grd)) (t1 : Tg) (vs1 : List Nat) (ft1 : Env → Store → R Bool) (fe : Env → Store → R RV) (r : Nat) : Env → Store → Unit → R Unit := fun ρ S _ => (fi1 ρ S).bind fun w1 S => compL w1.2 t1 (wipeD ρ vs1) ft1 (lc2E fe r) w1.1 S ()
noncomputable abbrev lc2R (fi : Env → Store → R (List D × Grd)) (t : Tg) (vs : List Nat) (ft : Env → Store → R Bool) (fi1 : Env → Store → R (List D × Grd)) (t1 : Tg) (vs1 : List Nat) (ft1 : Env → Store → R Bool) (fe : Env → Store → R RV) : Env → Store → R RV := fun ρ S => (fi ρ S).bind fun w S =>
  (compL w.2 t (wipeD ρ vs) ft (lc2Q fi1 t1 vs1 ft1 fe S.length) w.1 (S ++ [.lst []]) ()).noex.bind fun _ S' => .ok (.d (.ref S.length)) S'
theorem snd_lc2B {vs vs1 : List Nat} {t t1 : Tg} (hv : ∀ i ∈ t.vars, i ∈ vs) (hv1 : ∀ i ∈ t1.vars, i ∈ vs1) :
    ∀ σ H Q, TX F E (lc2R fi t vs ft fi1 t1 vs1 ft1 fe) σ H Q → tLc2 (TIX F E fi) (TGX1 F t) (TTX F EN ft) (TIX F EN fi1) (TGX1 F t1) (TTX F EN ft1) (TX F EN fe) vs vs1 σ H Q := by
  intro σ H Q ⟨w, ρ, S, hS, hE, hf⟩
  refine ⟨w, ρ, S, hS, hE, (finE_iff.mp hf).bind.mono fun a S1 _ h w1 H1 J st1 io => ?_⟩
  obtain ⟨xs, g⟩ := a
  dsimp only at io h
  obtain ⟨u0, Sz, ez, hz⟩ := h.bind.noex
  intro Da hDa
  have hE1 := (hE.step hS st1).wipe vs
  -- the new list, in the store
  obtain ⟨wA, stA, eA⟩ : ∃ wA, Step F.K F.tb w1 H1 wA (upd H1 Da (.lst [])) (S1 ++ [.lst []]) ∧ wA[S1.length]? = some Da := by
    have st0 : Step F.K F.tb w1 H1 w1 (upd H1 Da (.lst [])) S1 := Step.fresh1 st1.sr hDa
    obtain ⟨d, S2, w2, e, st2, dv⟩ := mat_step (x := .o (.lst [])) (v := .ref Da) st1.sr st0 ⟨Da, _, rfl, upd_same, .lst .nil, not_mem_new st1.sr hDa, hDa, fun c z => by cases z⟩
    cases e
    cases dv with
    | ref e => exact ⟨w2, st2, e⟩
  refine ⟨fun i m H' => ∃ w2 S2, i ≤ xs.length ∧ m = xs.length - i ∧ Step F.K F.tb w1 H1 w2 H' S2 ∧ w2[S1.length]? = some Da ∧
      compL g t (wipeD ρ vs) ft (lc2Q fi1 t1 vs1 ft1 fe S1.length) (xs.drop i) S2 () = .ok u0 Sz, ⟨xs.length, wA, _, Nat.zero_le _, rfl, stA, eA, ez⟩, ?_⟩
  rintro i m H2 ⟨w2, S2, hi, rfl, st2, eD, ec⟩
  by_cases hlt : i < xs.length
  · refine .inr ?_
    rw [List.drop_eq_getElem_cons hlt] at ec
    unfold compL at ec
    by_cases hgo : g.ok S2
    · rw [if_pos hgo] at ec
      obtain ⟨go, yld⟩ := io.go w2 H2 S2 st2 hgo i hlt
      cases hb1 : bindT t [xs[i]] (wipeD ρ vs) with
      | none => rw [hb1] at ec; cases ec
      | some ρ1 =>
        rw [hb1] at ec
        dsimp only at ec
        refine ⟨go, fun H' => ∃ w2 S2, Step F.K F.tb w1 H1 w2 H' S2 ∧ w2[S1.length]? = some Da ∧
          compL g t (wipeD ρ vs) ft (lc2Q fi1 t1 vs1 ft1 fe S1.length) (xs.drop (i + 1)) S2 () = .ok u0 Sz, fun H' ⟨w', S', q3, q4, q6⟩ => ⟨xs.length - (i + 1), by omega, w', S', hlt, rfl, q3, q4, q6⟩, fun x H3 y => ?_⟩
        obtain ⟨st3, dv3⟩ := yld x H3 y
        have sr3 := st3.sr
        have hE3 : ER F.K w2 H3 (wipeD ρ vs) (wipe σ vs) := (hE1.step st1.sr st2).step st2.sr st3
        refine ⟨w2, _, S2, [xs[i]], ρ1, sr3, hE3, .cons dv3 .nil, hb1, fun σ' er' hσ' => ⟨?_, ?_⟩⟩
        · refine (wipeD_of ?_ fun j hj => hσ' j fun z => hj (hv j z)).trans (wipe_idem _ _)
          rw [← er'.len, bindT_length hb1, hE3.len]
        obtain ⟨k, S4, e4, ec⟩ := ok_bind ec
        refine ⟨w2, ρ1, S2, sr3, er', ?_⟩
        rw [e4]
        intro w4 H4 st4
        have st14 : Step F.K F.tb w1 H1 w4 H4 S4 := (st2.trans st1.sr st3).trans st1.sr st4
        have eD4 : w4[S1.length]? = some Da := st4.at _ _ eD
        cases k with
        | false =>
          rw [if_neg (by decide)] at ec ⊢
          exact ⟨w4, S4, st14, eD4, ec⟩
        | true =>
          rw [if_pos rfl] at ec ⊢
          obtain ⟨u1, S6, e5, ec⟩ := ok_bind ec
          obtain ⟨a1, S5, e6, e7⟩ := ok_bind e5
          obtain ⟨xs1, g1⟩ := a1
          dsimp only at e7
          have er4 := er'.step sr3 st4
          refine ⟨w4, ρ1, S4, st4.sr, er4, ?_⟩
          rw [e6]
          intro w5 H5 J1 st5 io1
          dsimp only at io1
          have st15 := st14.trans st1.sr st5
          have eD5 : w5[S1.length]? = some Da := st5.at _ _ eD4
          have hE5 := (er4.step st4.sr st5).wipe vs1
          refine ⟨fun j k H' => ∃ w6 S7, j ≤ xs1.length ∧ k = xs1.length - j ∧ Step F.K F.tb w5 H5 w6 H' S7 ∧ compL g1 t1 (wipeD ρ1 vs1) ft1 (lc2E fe S1.length) (xs1.drop j) S7 () = .ok u1 S6,
            ⟨xs1.length, w5, S5, Nat.zero_le _, rfl, Step.refl st5.sr, e7⟩, ?_⟩
          rintro j k H6 ⟨w6, S7, hj, rfl, st6, ec1⟩
          have eD6 : w6[S1.length]? = some Da := st6.at _ _ eD5
          by_cases hlt1 : j < xs1.length
          · refine .inr ?_
            rw [List.drop_eq_getElem_cons hlt1] at ec1
            unfold compL at ec1
            by_cases hgo1 : g1.ok S7
            · rw [if_pos hgo1] at ec1
              obtain ⟨go1, yld1⟩ := io1.go w6 H6 S7 st6 hgo1 j hlt1
              cases hb2 : bindT t1 [xs1[j]] (wipeD ρ1 vs1) with
              | none => rw [hb2] at ec1; cases ec1
              | some ρ2 =>
                rw [hb2] at ec1
                dsimp only at ec1
                refine ⟨go1, fun H' => ∃ w6 S7, Step F.K F.tb w5 H5 w6 H' S7 ∧ compL g1 t1 (wipeD ρ1 vs1) ft1 (lc2E fe S1.length) (xs1.drop (j + 1)) S7 () = .ok u1 S6,
                  fun H' ⟨w', S', q3, q4⟩ => ⟨xs1.length - (j + 1), by omega, w', S', hlt1, rfl, q3, q4⟩, fun x H7 y => ?_⟩
                obtain ⟨st7, dv7⟩ := yld1 x H7 y
                have sr7 := st7.sr
                have hE7 : ER F.K w6 H7 (wipeD ρ1 vs1) (wipe σ' vs1) := (hE5.step st5.sr st6).step st6.sr st7
                refine ⟨w6, _, S7, [xs1[j]], ρ2, sr7, hE7, .cons dv7 .nil, hb2, fun σ2 er2 hσ2 => ⟨?_, ?_⟩⟩
                · refine (wipeD_of ?_ fun i hi => hσ2 i fun z => hi (hv1 i z)).trans (wipe_idem _ _)
                  rw [← er2.len, bindT_length hb2, hE7.len]
                obtain ⟨k1, S8, e8, ec1⟩ := ok_bind ec1
                refine ⟨w6, ρ2, S7, sr7, er2, ?_⟩
                rw [e8]
                intro w8 H8 st8
                have st58 : Step F.K F.tb w5 H5 w8 H8 S8 := (st6.trans st5.sr st7).trans st5.sr st8
                cases k1 with
                | false =>
                  rw [if_neg (by decide)] at ec1 ⊢
                  exact ⟨w8, S8, st58, ec1⟩
                | true =>
                  rw [if_pos rfl] at ec1 ⊢
                  obtain ⟨u2, S9, e9, ec1⟩ := ok_bind ec1
                  obtain ⟨y0, S10, e10, e11⟩ := ok_bind e9
                  obtain ⟨rv, S11, e12, e13⟩ := matB_ok e10
                  refine ⟨w8, ρ2, S8, st8.sr, er2.step sr7 st8, ?_⟩
                  rw [e12]
                  intro w9 H9 v9 st9 rv9
                  obtain ⟨d, S12, w10, e14, st10, dv10⟩ := mat_step st8.sr st9 rv9
                  rw [e13] at e14; cases e14
                  have eD10 : w10[S1.length]? = some Da := st10.at _ _ (st8.at _ _ (st7.at _ _ eD6))
                  unfold pushR at e11
                  split at e11
                  · rename_i ys hys
                    split at e11
                    · rename_i hl
                      cases e11
                      obtain ⟨a, ho, f1, f2, f3⟩ := st10.sr.at_ _ _ hys
                      rw [eD10] at f1; cases f1
                      cases f3 with
                      | lst tt =>
                        rename_i us
                        obtain ⟨stw, _⟩ := write_lst st10.sr (Step.refl st10.sr) eD10 hys f2 (tt.append (.cons dv10 .nil))
                        exact ⟨us, f2, by rw [← tt.length]; exact hl, w10, _, (st58.trans st5.sr st10).trans st5.sr stw, ec1⟩
                    · cases e11
                  · cases e11
            · rw [if_neg hgo1] at ec1; cases ec1
          · refine .inl ?_
            have e : j = xs1.length := by omega
            subst e
            rw [List.drop_length] at ec1
            unfold compL at ec1
            by_cases hgo1 : g1.ok S7
            · rw [if_pos hgo1] at ec1
              cases ec1
              exact ⟨io1.stop w6 H6 S6 st6 hgo1, w6, S6, st15.trans st1.sr st6, eD6, ec⟩
            · rw [if_neg hgo1] at ec1; cases ec1
    · rw [if_neg hgo] at ec; cases ec
  · refine .inl ?_
    have e : i = xs.length := by omega
    subst e
    rw [List.drop_length] at ec
    unfold compL at ec
    by_cases hgo : g.ok S2
    · rw [if_pos hgo] at ec
      cases ec
      refine ⟨io.stop w2 H2 Sz st2 hgo, ?_⟩
      have hz : ∀ w' H' v, Step F.K F.tb w H w' H' Sz → RVr F.K w' H H' (.d (.ref S1.length)) v → Q v H' := hz
      exact hz w2 H2 (.ref Da) (st1.trans hS st2) (show DV F.K w2 H2 (.ref S1.length) (.ref Da) from .ref eD)
    · rw [if_neg hgo] at ec; cases ec
theorem snd_lc2 {scope : Scope} {own : List (Str × Nat)} {t t1 : Tg} (hN : X.N.Nodup) (hc : X.calm = true) (hi : PI X tg iter (TIX F E fi)) (ok : BlkOk X.N X.env.scope scope own)
    (hg : ∀ (s : Shared) (H : Hp) (C : Addr) (cl : List (Str × Addr)) (fp : List Addr), PG (X.blk s H scope (compEnvC scope cl C X.env) fp) tg (TGX1 F t)) (ht : ∀ (s : Shared) (H : Hp) (C : Addr) (cl : List (Str × Addr)) (fp : List Addr), PTs (X.blk s H scope (compEnvC scope cl C X.env) fp) ifs (TTX F EN ft))
    (hi1 : ∀ (s : Shared) (H : Hp) (C : Addr) (cl : List (Str × Addr)) (fp : List Addr), PI (X.blk s H scope (compEnvC scope cl C X.env) fp) tg1 iter1 (TIX F EN fi1))
    (hg1 : ∀ (s : Shared) (H : Hp) (C : Addr) (cl : List (Str × Addr)) (fp : List Addr), PG (X.blk s H scope (compEnvC scope cl C X.env) fp) tg1 (TGX1 F t1)) (ht1 : ∀ (s : Shared) (H : Hp) (C : Addr) (cl : List (Str × Addr)) (fp : List Addr), PTs (X.blk s H scope (compEnvC scope cl C X.env) fp) ifs1 (TTX F EN ft1))
    (he : ∀ (s : Shared) (H : Hp) (C : Addr) (cl : List (Str × Addr)) (fp : List Addr), PE (X.blk s H scope (compEnvC scope cl C X.env) fp) elt (TX F EN fe)) (hs : notSetE iter = true) (hs1 : notSetE iter1 = true) (hv : ∀ i ∈ t.vars, i ∈ own.map (·.2)) (hv1 : ∀ i ∈ t1.vars, i ∈ own.map (·.2)) :
    PE X (.ListComp elt [⟨tg, iter, ifs, 0⟩, ⟨tg1, iter1, ifs1, 0⟩] scope pos) (TX F E (lc2R fi t (own.map (·.2)) ft fi1 t1 t1.vars ft1 fe)) :=
  PE.imp (pe_lc2 hc hN hi ok hv1 hg ht hi1 hg1 ht1 he (fold_none hs _) fun env x => fold_none hs1 env x) (snd_lc2B hv fun _ h => h)
theorem bs_lc2 {i : Nat} {y : Str} {py spos : Pos} {scope : Scope} {own : List (Str × Nat)} {t t1 : Tg} (hN : X.N.Nodup) (hc : X.calm = true) (hy : X.N[i]? = some y) (hyl : X.env.scope.names.lookup y = some .local)
    (hsw : swapsWith (.ListComp elt [⟨tg, iter, ifs, 0⟩, ⟨tg1, iter1, ifs1, 0⟩] scope pos) (some (.Name y py)) spos.line X.env = pure true) (hi : PI X tg iter (TIX F E fi)) (ok : BlkOk X.N X.env.scope scope own)
    (hg : ∀ (s : Shared) (H : Hp) (C : Addr) (cl : List (Str × Addr)) (fp : List Addr), PG (X.blk s H scope (compEnvC scope cl C X.env) fp) tg (TGX1 F t)) (ht : ∀ (s : Shared) (H : Hp) (C : Addr) (cl : List (Str × Addr)) (fp : List Addr), PTs (X.blk s H scope (compEnvC scope cl C X.env) fp) ifs (TTX F EN ft))
    (hi1 : ∀ (s : Shared) (H : Hp) (C : Addr) (cl : List (Str × Addr)) (fp : List Addr), PI (X.blk s H scope (compEnvC scope cl C X.env) fp) tg1 iter1 (TIX F EN fi1))
    (hg1 : ∀ (s : Shared) (H : Hp) (C : Addr) (cl : List (Str × Addr)) (fp : List Addr), PG (X.blk s H scope (compEnvC scope cl C X.env) fp) tg1 (TGX1 F t1)) (ht1 : ∀ (s : Shared) (H : Hp) (C : Addr) (cl : List (Str × Addr)) (fp : List Addr), PTs (X.blk s H scope (compEnvC scope cl C X.env) fp) ifs1 (TTX F EN ft1))
    (he : ∀ (s : Shared) (H : Hp) (C : Addr) (cl : List (Str × Addr)) (fp : List Addr), PE (X.blk s H scope (compEnvC scope cl C X.env) fp) elt (TX F EN fe)) (hs : notSetE iter = true) (hs1 : notSetE iter1 = true) (hv : ∀ i ∈ t.vars, i ∈ own.map (·.2)) (hv1 : ∀ i ∈ t1.vars, i ∈ own.map (·.2)) :
    PS X (.Assign [.Name y py] (.ListComp elt [⟨tg, iter, ifs, 0⟩, ⟨tg1, iter1, ifs1, 0⟩] scope pos) spos) (TSX F E fun ρ S => (matB (lc2R fi t (own.map (·.2)) ft fi1 t1 t1.vars ft1 fe ρ S)).bindS fun v S => .nx (ρ.set i (some v)) S) := by
  refine PS.imp (ps_setLc2 hc hN hy hyl hsw hi ok hv1 hg ht hi1 hg1 ht1 he (fold_none hs _) fun env x => fold_none hs1 env x) fun D σ H ⟨w, ρ, S, hS, hE, hw⟩ => snd_lc2B hv (fun _ h => h) _ _ _ ⟨w, ρ, S, hS, hE, ?_⟩
  refine finE_iff.mpr ((finE_iff.mp (matB_fin hS hw)).mono fun x S1 _ k w1 H1 v st rv => ?_)
  obtain ⟨d, S2, w2, st2, dv, h⟩ := k w1 H1 v st rv
  exact (show ∀ w' H' σ', Step F.K F.tb w H w' H' S2 → ER F.K w' H' (ρ.set i (some d)) σ' → D.nx σ' H' from h) w2 H1 _ st2 ((hE.step hS st2).set i dv)
end
end CH
/-! SC: sorted(set(..)). -/
namespace CH
open PySem PySem.Spec PyProof.Rows L2
theorem seti_go : ∀ (is acc : List Int), acc.Nodup → (is.foldl (fun acc i => if i ∈ acc then acc else acc ++ [i]) acc).Nodup ∧ ∀ k, k ∈ is.foldl (fun acc i => if i ∈ acc then acc else acc ++ [i]) acc ↔ k ∈ acc ∨ k ∈ is
  | [], acc, h => ⟨h, by simp⟩
  | i :: is, acc, h => by
    rw [List.foldl_cons]
    by_cases hi : i ∈ acc
    · rw [if_pos hi]
      obtain ⟨h1, h2⟩ := seti_go is acc h
      refine ⟨h1, fun k => (h2 k).trans ?_⟩
      rw [List.mem_cons]
      exact ⟨fun q => q.elim .inl fun q => .inr (.inr q), fun q => q.elim .inl fun q => q.elim (fun e => .inl (e ▸ hi)) .inr⟩
    · rw [if_neg hi]
      obtain ⟨h1, h2⟩ := seti_go is (acc ++ [i]) (List.nodup_append.mpr ⟨h, by simp, fun a ha b hb e => hi (by rw [List.mem_singleton.mp hb] at e; exact e ▸ ha)⟩)
      refine ⟨h1, fun k => (h2 k).trans ?_⟩
      simp [or_assoc]
theorem seti_nodup (is : List Int) : (seti is).Nodup := (seti_go is [] List.nodup_nil).1
theorem seti_mem (is : List Int) (k : Int) : k ∈ seti is ↔ k ∈ is := by
  have := (seti_go is [] List.nodup_nil).2 k
  unfold seti
  rw [this]; simp
theorem sset_eq {is ys : List Int} (h1 : ys.Pairwise (· < ·)) (h2 : ∀ k, k ∈ ys ↔ k ∈ is) : ys = srt (seti is) :=
  srt_eq ((List.perm_ext_iff_of_nodup (h1.imp fun h => Int.ne_of_lt h) (seti_nodup is)).mpr fun k => (h2 k).trans (seti_mem is k).symm) (h1.imp fun h => Int.le_of_lt h)
theorem nodup_len : ∀ {l m : List Int}, l.Nodup → (∀ z ∈ l, z ∈ m) → l.length ≤ m.length
  | [], m, _, _ => Nat.zero_le _
  | x :: l, m, hn, hs => by
    rw [List.nodup_cons] at hn
    have hx := hs x List.mem_cons_self
    have := nodup_len (l := l) (m := m.erase x) hn.2 fun z hz => (List.mem_erase_of_ne (fun q : z = x => hn.1 (by rw [← q]; exact hz))).mpr (hs z (List.mem_cons_of_mem _ hz))
    rw [List.length_erase_of_mem hx] at this
    have := List.length_pos_of_mem hx
    rw [List.length_cons]; omega
theorem seti_len (l : List Int) : (seti l).length ≤ l.length := by
  have key : ∀ (l acc : List Int), (l.foldl (fun acc i => if i ∈ acc then acc else acc ++ [i]) acc).length ≤ acc.length + l.length := by
    intro l
    induction l with
    | nil => intro acc; exact Nat.le_refl _
    | cons x l ih =>
      intro acc
      rw [List.foldl_cons, List.length_cons]
      refine Nat.le_trans (ih _) ?_
      split
      · omega
      · rw [List.length_append, List.length_singleton]; omega
  simpa [seti] using key l []
section
variable {F : Fx} {E : XK} {X : Cx} {a : Expr} {fa : Env → Store → R RV}
theorem snd_sset {p p2 q pos : Pos} (hK : X.K = F.K) (hc : X.calm = true) (hg : Gl X "sorted") (hm : X.mg "sorted" = none) (hg2 : Gl X "set") (hm2 : X.mg "set" = none) (ha : PE X a (TX F E fa)) (hs : notStar a = true) :
    PE X (.Call (.Name "sorted" p) [.Call (.Name "set" p2) [a] [] q] [] pos) (TX F E fun ρ S => (fa ρ S).bind fun x S => ssetR x S) := by
  refine PE.imp (pe_sset hc hg hm hg2 hm2 ha (star_cons hs _ _)) fun σ H Q ⟨w, ρ, S, hS, hE, hf⟩ => ⟨w, ρ, S, hS, hE, ?_⟩
  refine finE_iff.mpr ((finE_iff.mp hf).bind.mono fun x S1 _ k w1 H1 v st rv => ?_)
  unfold ssetR at k
  split at k
  · rename_i is e1
    split at k
    · rename_i h64
      cases e2 : seqv x S1 with
      | none => rw [e2] at e1; cases e1
      | some xs =>
        rw [e2] at e1
        obtain ⟨l, vs, rfl, ha, da⟩ := seq_at st.sr rv e2
        rw [da.ints e1] at ha
        refine ⟨l, is, rfl, hK ▸ ha, ⟨h64.1, fun l hl hs => Nat.lt_of_le_of_lt (nodup_len hl fun z hz => (seti_mem is z).mpr (hs z hz)) h64.2⟩, fun ys p0 hp hk hn => ?_⟩
        rw [sset_eq hp hk]
        obtain ⟨st3, rv3⟩ := new_lst (ds := (srt (seti is)).map D.int) hS st hn (DVs.ofInts _)
        exact (show ∀ w' H' v, Step F.K F.tb w H w' H' S1 → RVr F.K w' H H' (.o (.lst ((srt (seti is)).map D.int))) v → Q v H' from k) _ _ _ st3 rv3
    · exact k.elim
  · exact k.elim
end
end CH
/-! CT: a generator expression is made. -/
namespace CH
open PySem PySem.Spec PyProof.Rows L2
/-- the frame of a generator: its names laid, what is walked at .0 -/
theorem env_gen {M : Model} {A : Around} {E : Value → Shared → Prop} {s : Shared} {scope : Scope} {globals : Addr} {clo : List (Str × Addr)} {it : Value} {qual : Str} {code : Value} {bi : Addr} {Q : PySem.Env → Shared → Prop}
    (hk : scope.kind = .function) (h0 : scope.names.lookup (".0" : Str) = some .local)
    (hQ : ∀ h' tk, (∃ m, h'.Ns s.heap.objs.size m) → Heap.SameBut s.heap.objs.size (pushCells (s.heap.push { cls := .type "frame", data := .dict #[] }) scope.names) h' →
      Q (newEnv scope s.heap.objs.size globals (cellsFrom (s.heap.objs.size + 1) scope.names clo) qual none code none bi) { s with heap := h', toks := tk }) :
    wpAny M A (newFunctionEnv scope globals clo [(".0", it)] qual none code none bi) Q E s := by
  simp only [newFunctionEnv, Option.isSome_none, Bool.false_eq_true, if_false]
  refine wpAny_bind (wpAny_alloc (wpAny_bind (wpAny_layCells _ (fun name kind cells => by cases hkc : kind == NameKind.cell <;> simp [hkc]) _ _ _ _ ?_)))
  rw [show ({ s with heap := s.heap.push { cls := .type "frame", data := .dict #[] } } : Shared).heap.objs.size = s.heap.objs.size + 1 from Heap.size_push ..]
  simp only [List.forIn_cons, List.forIn_nil]
  have hn : (pushCells (s.heap.push { cls := .type "frame", data := .dict #[] }) scope.names).Ns s.heap.objs.size fun _ => none := (Heap.Ns.new s.heap (.type "frame")).keeps (pushCells_keeps _ _)
  refine wpAny_bind (wpAny_bind (wpAny_bind ?_))
  refine wpAny_storeName_local (m := fun _ => none) (by exact h0) (by exact hn) (fun h' hn' hs' => ?_) ?_
  · exact wpAny_pure (wpAny_pure (wpAny_pure (hQ h' _ ⟨_, hn'⟩ hs')))
  · show ((scope.kind == .class) || _) = false
    rw [hk]; rfl
/-- the context of a generator that was made in X at s, its iterator's objects at fp, run by A -/
abbrev gxc (X : Cx) (s : Shared) (H : Hp) (scope : Scope) (genv : PySem.Env) (fp : List Addr) (A : Around) (pn : List (Addr × PySem.Obj)) : Cx :=
  { X with A := A, s_0 := s, H_0 := H, env := genv, outer := X.stack, stack := genv :: X.stack, ex := fp, fn := fun x => scope.names.lookup x == some .cell, pn := pn, xe := fun _ _ => False }
abbrev gEnv (X : Cx) (scope : Scope) (L : Addr) (qual : Str) (code : Value) : PySem.Env := newEnv scope L X.env.globals (cellsFrom (L + 1) scope.names (cloFrom X.env.cells scope.names [])) qual none code none builtinsNs
section
variable {X : Cx} {pins : List (Addr × PySem.Obj)} {σ : L2.St} {H : Hp} {s : Shared}
theorem inv_gen {scope : Scope} {own : List (Str × Nat)} {fp : List Addr} {qual : Str} {code : Value} {h' : Heap} {g' : Array GenState} {t' : Nat} {A : Around} (I : Inv X pins σ H s) (ok : BlkOk X.N X.env.scope scope own) (hN : X.N.Nodup)
    (hfp : ∀ b ∈ fp, FpOk X pins H b ∧ b < s.heap.objs.size) (hns : ∃ m, h'.Ns s.heap.objs.size m) (hs' : Heap.SameBut s.heap.objs.size (pushCells (s.heap.push { cls := .type "frame", data := .dict #[] }) scope.names) h')
    (hg : AllBare g') (hA : A.frames = some X.stack) (hAh : A.handled = none) :
    Inv (gxc X s H scope (gEnv X scope s.heap.objs.size qual code) fp (A.deeper (gEnv X scope s.heap.objs.size qual code)) []) [] (wipe σ (own.map (·.2))) H { s with heap := h', gens := g', toks := t' } := by
  have fr : ∀ y ∈ scope.names, y.2 = .free → ∃ c, X.env.cells.lookup y.1 = some c := fun y hy e => (ok.free y hy e).elim (fun k => I.ok.has _ (.inl k)) fun k => I.ok.has _ (.inr k)
  have kq : ∀ b o, s.heap.get? b = some o → (pushCells (s.heap.push { cls := .type "frame", data := .dict #[] }) scope.names).get? b = some o := fun b o e => pushCells_keeps _ _ _ _ (Heap.get?_push_of_some _ e)
  have kp : ∀ b o, s.heap.get? b = some o → h'.get? b = some o := fun b o e => (hs'.2 b (Nat.ne_of_lt (Heap.lt_size e))).trans (kq b o e)
  generalize hce : gEnv X scope s.heap.objs.size qual code = ce
  have eL : ce.locals = s.heap.objs.size := by rw [← hce]; rfl
  have eC : ce.cells = cellsFrom ((s.heap.push { cls := .type "frame", data := .dict #[] }).objs.size) scope.names (cloFrom X.env.cells scope.names []) := by rw [← hce, Heap.size_push]; rfl
  have eS : ce.scope = scope := by rw [← hce]; rfl
  have outer : ∀ {y c}, (y, c) ∈ cloFrom X.env.cells scope.names [] → X.env.cells.lookup y = some c ∧ c < s.heap.objs.size := fun {y c} hm => by
    rcases cloFrom_mem hm with z | ⟨z, e⟩
    · exact absurd z (by simp)
    · obtain ⟨c1, h1⟩ := fr _ z rfl
      obtain ⟨v1, h2⟩ := I.cell _ _ h1
      have e : c = c1 := by rw [e, h1]; rfl
      exact ⟨by rw [e]; exact h1, by rw [e]; exact h2.lt⟩
  have kinds : ∀ {y c}, ce.cells.lookup y = some c → (X.env.cells.lookup y = some c ∧ c < s.heap.objs.size) ∨ (scope.names.lookup y = some .cell ∧ s.heap.objs.size + 1 ≤ c ∧ CellAt h' c none) := fun {y c} e => by
    rw [eC] at e
    rcases cells_mem (PySem.mem_of_lookup e) with z | ⟨z1, z2, z3⟩
    · exact .inl (outer z)
    · rw [Heap.size_push] at z2
      exact .inr ⟨ok.uniq _ z1, z2, let ⟨o, q, r⟩ := z3; ⟨o, (hs'.2 c (Nat.ne_of_gt z2)).trans q, r⟩⟩
  have captured : ∀ {y}, scope.names.lookup y = some .free → ∃ c, ce.cells.lookup y = some c ∧ X.env.cells.lookup y = some c := fun {y} hl => by
    obtain ⟨c1, e1⟩ := mem_lookup (cells_acc (names := scope.names) (n := (s.heap.push { cls := .type "frame", data := .dict #[] }).objs.size) (cloFrom_has (cells := X.env.cells) (acc := []) (PySem.mem_of_lookup hl)))
    rw [← eC] at e1
    refine ⟨c1, e1, ?_⟩
    rcases kinds e1 with z | ⟨z, _⟩
    · exact z.1
    · rw [hl] at z; cases z
  have okG : (gxc X s H scope ce fp (A.deeper ce) []).Ok :=
    { mod := I.ok.mod
      kind := by show ce.scope.kind = _; rw [eS]; exact ok.kind
      glob := by show ce.globals = _; rw [← hce]; exact I.ok.glob
      blt := by show ce.builtins = _; rw [← hce]; rfl
      above := by show s.heap.objs.size ≤ ce.locals; rw [eL]; exact Nat.le_refl _
      inj := fun y z c e1 e2 => by
        have e1 : ce.cells.lookup y = some c := e1
        have e2 : ce.cells.lookup z = some c := e2
        rw [eC] at e1 e2
        refine cells_inj (fun p hp => ?_) (fun y z c a b => I.ok.inj y z c (outer a).1 (outer b).1) (PySem.mem_of_lookup e1) (PySem.mem_of_lookup e2)
        rw [Heap.size_push]
        exact Nat.lt_succ_of_lt (outer (y := p.1) (c := p.2) hp).2
      has := fun y hy => by
        show ∃ c, ce.cells.lookup y = some c
        have hy : ce.scope.names.lookup y = some .cell ∨ ce.scope.names.lookup y = some .free := hy
        rw [eS] at hy
        rcases hy with hy | hy
        · obtain ⟨c, hm⟩ := cells_has (n := (s.heap.push { cls := .type "frame", data := .dict #[] }).objs.size) (acc := cloFrom X.env.cells scope.names []) (PySem.mem_of_lookup hy)
          obtain ⟨c', e'⟩ := mem_lookup hm
          exact ⟨c', by rw [eC]; exact e'⟩
        · obtain ⟨c, h1, _⟩ := captured hy
          exact ⟨c, h1⟩
      cab := fun y c z e => by
        have z : scope.names.lookup y = some .cell := by
          have z : (scope.names.lookup y == some NameKind.cell) = true := z
          simpa using z
        rcases kinds (show ce.cells.lookup y = some c from e) with q | ⟨_, q, _⟩
        · have e : ce.cells.lookup y = some c := e
          rw [eC] at e
          rcases cells_mem (PySem.mem_of_lookup e) with hm | ⟨_, h2, _⟩
          · rcases cloFrom_mem hm with hm | ⟨h1, _⟩
            · exact absurd hm (by simp)
            · have := ok.uniq _ h1
              rw [z] at this; cases this
          · rw [Heap.size_push] at h2
            exact Nat.le_of_succ_le h2
        · exact Nat.le_of_succ_le q
      hd := fun _ => hAh
      frames := Around.frames_deeper hA
      stk := .inr ⟨rfl, by show ce.frame = some ce.locals; rw [← hce]; rfl⟩
      exf := fun b hb => ⟨by show b ≠ ce.locals; rw [eL]; exact Nat.ne_of_lt (hfp b hb).2, fun y c e z => by
        rcases kinds (show ce.cells.lookup y = some c from e) with ⟨h1, _⟩ | ⟨_, h1, _⟩
        · exact (hfp b hb).1.2.2.2.2.1 y c h1 z
        · rw [z] at h1
          exact absurd (Nat.lt_of_lt_of_le (hfp b hb).2 (Nat.le_of_succ_le h1)) (Nat.lt_irrefl _)⟩
      bs := I.bs
      bsz := Nat.le_trans I.ok.bsz I.sz
      noex := fun b o e hb => by
        rcases (hfp b hb).1.2.2.2.1 with z | z
        · exact I.ok.noex b o e z
        · exact absurd (Nat.lt_of_lt_of_le (Heap.lt_size e) (Nat.le_trans I.ok.bsz z)) (Nat.lt_irrefl _)
      exfs := fun b hb z => by
        rcases List.mem_cons.mp (I.stkSub b z) with z | z
        · exact (hfp b hb).1.2.1 z
        · exact (hfp b hb).1.2.2.1 z
      funs := I.stack
      frf := I.stkFree }
  refine ⟨okG, rfl, hg, Un.kept kp, ?_, fun y c e => ?_, ?_, fun y c e => ?_, fun p hp => absurd (show p ∈ ([] : List (Addr × PySem.Obj)) from hp) (by simp), I.hok.kept kp, by rw [wipe_length]; exact I.len⟩
  · obtain ⟨m, hn⟩ := hns
    refine ⟨m, by show Heap.Ns _ ce.locals _; rw [eL]; exact hn, fun i y v e1 e2 e3 => ?_⟩
    obtain ⟨e2, hne⟩ := wipe_some e2
    have no : ∀ k, scope.names.lookup y = some k → k = .local ∨ k = .cell → False := fun k hk hh => by
      rcases ok.own _ (PySem.mem_of_lookup hk) hh with z | z
      · obtain ⟨p, hp, hpy⟩ := List.mem_map.mp z
        have e4 := ok.ix p hp
        rw [show p.1 = y from hpy] at e4
        exact hne (List.mem_map.mpr ⟨p, hp, nodup_ix hN e4 e1⟩)
      · exact z (List.mem_of_getElem? e1)
    have hfree : scope.names.lookup y = some .free := by
      have e3 : Vis ce.scope y := e3
      rw [eS] at e3
      rcases e3 with z | z | z
      · exact (no _ z (.inl rfl)).elim
      · exact (no _ z (.inr rfl)).elim
      · exact z
    obtain ⟨m0, _, hl⟩ := I.loc
    obtain ⟨u, r, q⟩ := hl i y v e1 e2 ((ok.free _ (PySem.mem_of_lookup hfree) rfl).elim (fun k => .inr (.inl k)) fun k => .inr (.inr k))
    obtain ⟨c, h1, h2⟩ := captured hfree
    refine ⟨u, r, .inr ⟨.inr (by show ce.scope.names.lookup y = _; rw [eS]; exact hfree), c, h1, ?_⟩⟩
    rcases q with ⟨k, _⟩ | ⟨_, c', e', z⟩
    · have k : X.env.scope.names.lookup y = some .local := k
      rcases ok.free _ (PySem.mem_of_lookup hfree) rfl with k' | k' <;> rw [show X.env.scope.names.lookup y = _ from k'] at k <;> cases k
    · rw [h2] at e'; cases e'
      exact z.keeps kp
  · rcases kinds (show ce.cells.lookup y = some c from e) with ⟨h1, _⟩ | ⟨_, _, h3⟩
    · obtain ⟨v, z⟩ := I.cell y c h1
      exact ⟨v, z.keeps kp⟩
    · exact ⟨_, h3⟩
  · show H ce.locals = none
    rw [eL]; exact I.hok.fresh (Nat.le_refl _)
  · rcases kinds (show ce.cells.lookup y = some c from e) with ⟨h1, _⟩ | ⟨_, h2, _⟩
    · exact I.freeC y c h1
    · exact I.hok.fresh (Nat.le_of_succ_le h2)
end
end CH
/-! CU: the expression that makes a generator. -/
namespace CH
open PySem PySem.Spec PyProof.Rows L2
abbrev gObj (n : Nat) (t1 t2 : Tok) (q : Str) : PySem.Obj := { cls := .type "generator", data := .fields #[.int n 0, .str "<genexpr>" t1, .str q t2] }
/-- what stands behind the making: s3, the state ahead of the frame -/
structure Made (X : Cx) (scope : Scope) (ge : Expr) (ia : Addr) (s3 s5 : Shared) (g : Value) : Prop where
  it : ∃ (code : Value) (h' : Heap) (t1 t2 t' : Nat), (∃ m, h'.Ns s3.heap.objs.size m) ∧ Heap.SameBut s3.heap.objs.size (pushCells (s3.heap.push { cls := .type "frame", data := .dict #[] }) scope.names) h' ∧ g = .ref h'.objs.size ∧
    s5 = { s3 with heap := h'.push (gObj s3.gens.size t1 t2 (X.env.qual ++ "<genexpr>")), gens := s3.gens.push (.fresh (.compStart ge 0 (.ref ia) .none (gEnv X scope s3.heap.objs.size (X.env.qual ++ "<genexpr>.") code))), toks := t' }
section
variable {X : Cx} {pins : List (Addr × PySem.Obj)} {σ : L2.St} {H : Hp} {s : Shared} {Q' : Value → Shared → Prop}
theorem gen_make {c P : Addr} {elt tg iter : Expr} {ifs : List Expr} {more : List Comprehension} {scope : Scope} {gpos : Pos} {wi : TI} {own : List (Str × Nat)} {R : It → Hp → Prop} (hd : X.A.depth < recursionLimit) (TB : GxR.TabB X.base X.mg c P)
    (hcode : X.env.code = .ref c) (hco : scope.isCoroutine = false) (ok : BlkOk X.N X.env.scope scope own) (h0 : scope.names.lookup (".0" : Str) = some .local) (hi : PI X tg iter wi)
    (hs : ∀ v, genexprIterable false (⟨tg, iter, ifs, 0⟩ :: more) X.env v = pure v) (I : Inv X pins σ H s) (h : wi σ H fun J H1 => GxR.TabG H1 P ∧ R J H1)
    (hQ : ∀ (it : Addr) (fp : List Addr) (tn : Nat → Heap → Prop) (J : It) (H1 H2 : Hp) (s3 s5 : Shared) (g : Value), R J H1 → GxR.Tabbed P H1 H2 → GxR.TabG H1 P → Inv X pins σ H2 s3 → Turn X.prog X.w X.K tg J fp it tn → tn 0 s3.heap →
      (∀ b ∈ fp, FpOk X pins H2 b ∧ b < s3.heap.objs.size) → Made X scope (.GeneratorExp elt (⟨tg, iter, ifs, 0⟩ :: more) scope gpos) it s3 s5 g → Q' g s5) :
    wpAny (model X.prog X.w) X.A (eval (.GeneratorExp elt (⟨tg, iter, ifs, 0⟩ :: more) scope gpos) X.env) Q' X.xe s := by
  rw [arm_eval_GeneratorExp]
  have fr : ∀ y ∈ scope.names, y.2 = .free → ∃ c, X.env.cells.lookup y.1 = some c := fun y hy e => (ok.free y hy e).elim (fun k => I.ok.has _ (.inl k)) fun k => I.ok.has _ (.inr k)
  show wpAny _ _ (eval iter X.env >>= _) _ _ _
  refine wpAny_bind (thn (hi.run pins s σ H _ I h) fun xv s1 hx => ?_)
  refine wpAny_bind (wpAny_standAt ?_)
  refine wpAny_bind (wpAny_of_eq (hs xv) ?_)
  refine wpAny_bind (wpAny_holding (thn hx fun itv s2 h2 => ?_))
  obtain ⟨it, fp, tn, J, H1, rfl, I1, T, st, f2, ht, hr⟩ := h2
  obtain ⟨ps, hP, htr⟩ := id ht
  have hPs : s2.heap.get? P = some { cls := .none, data := .fields ps } := I1.hok P _ hP
  have hPlt : P < s2.heap.objs.size := Heap.lt_size hPs
  refine wpAny_bind (wpAny_enterFrame I1.nolimit hd ?_)
  rw [closure_ok fr]
  refine wpAny_bind (wpAny_pure ?_)
  have cd : PySem.W.CodeHd s2.heap c P := TB.code.keeps fun b u e => I1.bk b u e
  have nfp : ∀ b ∈ fp, b ≠ P := fun b hb z => by
    have := (f2 b hb).1
    rw [z, hP] at this; cases this
  have cont : ∀ (code : Value) (h3 : Heap) (tk : Nat) (ps' : Array Value), Heap.ExtBut P s2.heap h3 → s2.heap.objs.size ≤ h3.objs.size → h3.get? P = some { cls := .none, data := .fields ps' } → (∃ q, ps' = ps ++ q) → TriplesOk ps'.toList →
      wpAny (model X.prog X.w) X.A (builtinsFor X.env.globals X.env.builtins >>= fun bi => newFunctionEnv scope X.env.globals (cloFrom X.env.cells scope.names []) [(".0", .ref it)] (X.env.qual ++ "<genexpr>.") none code none bi >>= fun cenv =>
        (if scope.isCoroutine then newAsyncGenerator else newGenerator) (.compStart (.GeneratorExp elt (⟨tg, iter, ifs, 0⟩ :: more) scope gpos) 0 (.ref it) .none cenv) "<genexpr>" (X.env.qual ++ "<genexpr>")) Q' X.xe { s2 with heap := h3, toks := tk } := by
    intro code h3 tk ps' hx hsz hP3 hm ht3
    obtain ⟨q, em⟩ := hm
    obtain ⟨bm, ob, e1, e2, e3, e4, e5, e6, e7, e8⟩ := TB.bm
    have keep3 : ∀ b u, b ≠ P → s2.heap.get? b = some u → h3.get? b = some u := fun b u hb e => hx b u hb e
    refine wpAny_bind (wpAny_builtinsFor (m := X.mg) (by rw [I1.ok.glob]; exact (I1.mod.glob.keeps I1.bk).extBut hx TB.gP) e1 e2 (keep3 _ _ e4 (I1.bk _ _ e5)) e6 e7 e8 ?_)
    have I3 : Inv X pins σ (upd H1 P (.tbl (ps ++ q))) { s2 with heap := h3, gens := s2.gens, drawn := s2.drawn, toks := tk } := GxR.inv_tab I1 hP keep3 (by rw [← em]; exact hP3) I1.bare
    refine wpAny_bind (env_gen ok.kind h0 fun h' tk' hn hs' => ?_)
    rw [hco]
    simp only [Bool.false_eq_true, if_false, newGenerator, newFields]
    refine wpAny_bind (wpAny_newGen (wpAny_bind (wpAny_mkText (wpAny_bind (wpAny_mkText (wpAny_newObj_type ?_ (by size_fits)))))))
    refine hQ it fp tn J H1 (upd H1 P (.tbl (ps ++ q))) { s2 with heap := h3, gens := s2.gens, drawn := s2.drawn, toks := tk } _ _ hr ⟨⟨ps ++ q, upd_same, by rw [← em]; exact ht3⟩, fun b hb => upd_ne hb⟩ ht I3 T ?_ (fun b hb => ⟨⟨?_, (f2 b hb).2⟩, ?_⟩) ⟨⟨code, h', _, _, _, hn, hs', rfl, rfl⟩⟩
    · exact T.keep _ _ _ st fun b hb o e => keep3 b o (nfp b hb) e
    · rw [upd_ne (nfp b hb)]; exact (f2 b hb).1
    · obtain ⟨o, e, _⟩ := T.obj _ _ st b hb
      exact Nat.lt_of_lt_of_le (Heap.lt_size e) hsz
  cases hf : codeAmong gpos ps.toList with
  | none =>
    refine wpAny_bind (wpAny_genexprCodeX hcode (cd.code hPs htr) (cd.tab hPs) hf fun c' h' tk hx hge hlt hco' _ htab' _ => ?_)
    obtain ⟨o1, vs, f1, tf, fl, tg, inF, tx, tt, op, _, _, _, _, _, _, _, _, _, htr', _⟩ := hco'
    exact cont _ h' tk _ hx (Nat.le_trans hge (Nat.le_of_lt hlt)) htab'.2 ⟨_, rfl⟩ htr'
  | some cv =>
    refine wpAny_bind (wpAny_genexprCode_hit hcode (cd.code hPs htr) hf ?_)
    exact cont cv s2.heap s2.toks ps (Heap.ExtBut.refl _ _) (Nat.le_refl _) hPs ⟨#[], by simp⟩ htr
end
end CH
/-! CV: a generator's code runs, yields, sleeps. -/
namespace CH
open PySem PySem.Spec PyProof.Rows L2 GenW
/-- the consumer's list, as far as it has come -/
def OwnAt (K : PySem.W.Frag) (So : Option Addr) (outs : List (Option D)) (i : Nat) (w : List Addr) (H : Hp) (op : List (Addr × PySem.Obj)) : Prop := match So with
  | none => op = []
  | some Sa => ∃ (acc : Array Value) (c : Nat) (vs : List V) (ds : List D), op = [(Sa, lstObj acc c)] ∧ Vals vs acc.toList ∧ DVs K w H ds vs ∧ outs.take i = ds.map some
/-- while the generator sleeps -/
structure Slp (So : Option Addr) (v : Value) (s s' : Shared) : Prop where
  os : s'.os = s.os
  bare : AllBare s'.gens
  keep : ∀ b o, So ≠ some b → s.heap.get? b = some o → s'.heap.get? b = some o
  own : ∀ Sa, So = some Sa → ∀ acc c, s.heap.get? Sa = some (lstObj acc c) → ∃ c', s'.heap.get? Sa = some (lstObj (acc.push v) c')
/-- what is fixed while a generator runs -/
structure GFx where
  F : Fx
  X : Cx
  So : Option Addr
  outs : List (Option D)
  w0 : List Addr
  H0 : Hp
  S : Store
  own : Addr × Nat
structure GOk (G : GFx) : Prop where
  K : G.X.K = G.F.K
  calm : G.X.calm = true
  sr : SR G.F.K G.F.tb G.w0 G.H0 G.S
  pn : ∀ p ∈ G.X.pn, ∀ Sa, G.So = some Sa → p.1 ≠ Sa
  ap : ∀ Sa, G.So = some Sa → Apart G.X Sa
  nodd : G.X.env.scope.isCoroutine = false
  go : ∃ go : PySem.Obj, ∀ (a g : Nat), G.own = (a, g) → (a, go) ∈ G.X.pn ∧ ∃ nm qn, go.cls = .type "generator" ∧ go.data = .fields #[.int g 0, nm, qn] ∧ go.slots = #[]
def GRun (G : GFx) (ip : List (Addr × PySem.Obj)) (i : Nat) (σ : L2.St) (w : List Addr) (H : Hp) (s : Shared) : Prop :=
  (∀ p ∈ ip, ∀ Sa, G.So = some Sa → p.1 ≠ Sa) ∧ ∃ op, OwnAt G.F.K G.So G.outs i w H op ∧ Inv G.X (op ++ ip) σ H s ∧ Step G.F.K G.F.tb G.w0 G.H0 w H G.S
def YG (G : GFx) : Protocol := fun n _ v s kap => ∃ (i : Nat) (d : D) (vv : V) (w : List Addr) (H : Hp) (ip : List (Addr × PySem.Obj)) (σ : L2.St), n + 1 + i = G.outs.length ∧ G.outs[i]? = some (some d) ∧ RelV vv v ∧ DV G.F.K w H d vv ∧ GRun G ip i σ w H s ∧
  ∀ s', Slp G.So v s s' → G.outs[i + 1]? ≠ some none → kap (.send .none) s'
def FG (G : GFx) (n : Nat) (s : Shared) : Prop := n = 0 ∧ ∃ (ip : List (Addr × PySem.Obj)) (σ : L2.St) (w : List Addr) (H : Hp), GRun G ip G.outs.length σ w H s
def RG (G : GFx) : GenEnd := fun n _ r s => ((r = .ok (.ret .none) ∨ r = .ok .next) ∧ FG G n s) ∨ ∃ e : Value, r = .error e ∧ False
section
variable {G : GFx} {ip : List (Addr × PySem.Obj)} {i : Nat} {σ : L2.St} {w w' : List Addr} {H H' : Hp} {s s' : Shared}
theorem OwnAt.step {K : PySem.W.Frag} {tb : List Addr} {So : Option Addr} {outs : List (Option D)} {op : List (Addr × PySem.Obj)} {S S' : Store} (hS : SR K tb w H S) (st : Step K tb w H w' H' S') (h : OwnAt K So outs i w H op) : OwnAt K So outs i w' H' op := by
  cases So with
  | none => exact h
  | some Sa =>
    obtain ⟨acc, c, vs, ds, e, r, d, t⟩ := h
    exact ⟨acc, c, vs, ds, e, r, d.step hS st, t⟩
/-- woken again -/
theorem GRun.woken (ok : GOk G) {v : Value} {vv : V} {d : D} (h : GRun G ip i σ w H s) (rv : RelV vv v) (dv : DV G.F.K w H d vv) (ho : G.outs[i]? = some (some d)) (z : Slp G.So v s s') : GRun G ip (i + 1) σ w H s' := by
  obtain ⟨hip, op, how, I, st⟩ := h
  obtain ⟨z1, z2, z3, z4⟩ := z
  obtain ⟨hh, g, dr, t, o⟩ := s'
  have eo : o = s.os := z1
  subst eo
  have I0 : Inv G.X ip σ H s := I.pins_of fun p hp => I.pin p (List.mem_append_right _ (List.mem_append_right _ hp))
  refine ⟨hip, ?_⟩
  cases hSo : G.So with
  | none =>
    have hk : ∀ b o, s.heap.get? b = some o → hh.get? b = some o := fun b o e => z3 b o (by rw [hSo]; simp) e
    rw [hSo] at how
    have eop : op = [] := how
    subst eop
    refine ⟨[], rfl, ?_, st⟩
    exact I.step (g' := g) (t' := t) (d' := dr) (ch := []) (fun b hb => absurd hb (by simp)) (fun b ob _ _ _ q _ => hk b ob q) (fun b ob _ _ _ q _ => ⟨ob.slots, hk b ob q⟩) (fun _ _ _ _ n => n) (fun b ob _ q => ⟨ob, hk b ob q⟩)
      (fun _ _ q => q) (fun _ _ _ q => q) (fun b ps q => ⟨#[], by rw [q]; simp⟩) (fun m hm => let ⟨ob, es, ep, ho, r⟩ := hm; ⟨ob, es, ep, hk _ ob ho, r⟩) (fun b u q => (I.hok b u q).stay (fun c v _ y => hk c v y) (fun _ y => y) fun _ _ y => y) z2
  | some Sa =>
    rw [hSo] at how
    obtain ⟨acc, c, vs, ds, eop, r, dvs, tk⟩ := how
    subst eop
    obtain ⟨eS, hS0, hSL, hSf, _⟩ := I.pin (Sa, lstObj acc c) (List.mem_append_right _ (List.mem_append_left _ List.mem_cons_self))
    obtain ⟨c', eS'⟩ := z4 Sa hSo acc c eS
    have hA := ok.ap Sa hSo
    have z3' : ∀ b o, b ≠ Sa → s.heap.get? b = some o → hh.get? b = some o := fun b o hb e => z3 b o (fun z => hb (by rw [hSo] at z; exact (Option.some.inj z).symm)) e
    have nc : ∀ b, b ∉ [Sa] → b ≠ Sa := fun b hb e => hb (by rw [e]; exact List.mem_singleton.mpr rfl)
    have nt : ∀ b u, H b = some u → b ≠ Sa := fun b u q hb => by rw [hb] at q; rw [hS0] at q; cases q
    have J : Inv G.X ip σ H { s with heap := hh, gens := g, drawn := dr, toks := t } := by
      refine I0.step (g' := g) (t' := t) (d' := dr) (ch := [Sa]) (fun b hb => ?_)
        (fun b ob _ _ hc q _ => z3' b ob (nc b hc) q) (fun b ob _ _ hc q _ => ⟨ob.slots, z3' b ob (nc b hc) q⟩) (fun _ _ _ _ n => n) (fun b ob hc q => ⟨ob, z3' b ob (nc b hc) q⟩)
        (fun _ _ q => q) (fun _ _ _ q => q) (fun b ps q => ⟨#[], by rw [q]; simp⟩) (fun m hm => ?_) (fun b u q => ?_) z2
      · rw [List.mem_singleton.mp hb]
        refine ⟨.inr hA.1, hA.2.1, hA.2.2, fun p hp => ?_⟩
        rcases List.mem_append.mp hp with q | q
        · exact ok.pn p q Sa hSo
        · exact hip p q Sa hSo
      · obtain ⟨ob, es, ep, ho, r⟩ := hm
        exact ⟨ob, es, ep, z3' _ ob (Ne.symm hSL) ho, r⟩
      · refine (I0.hok b u q).stay (fun c v hc y => z3' c v ?_ y) (fun _ y => y) fun _ _ y => y
        rcases hc with y | y
        · rw [y]; exact nt b u q
        · exact nt c _ y
    refine ⟨[(Sa, lstObj (acc.push v) c')], ⟨acc.push v, c', vs ++ [vv], ds ++ [d], rfl, ?_, dvs.append (.cons dv .nil), ?_⟩, J.pins_of fun p hp => ?_, st⟩
    · rw [Array.toList_push]
      exact r.append (.cons rv .nil)
    · obtain ⟨hlt, e⟩ := List.getElem?_eq_some_iff.mp ho
      rw [List.map_append, ← tk, List.take_add_one, ho]; rfl
    · rcases List.mem_append.mp hp with q | q
      · rw [List.mem_singleton.mp q]
        exact ⟨eS', hS0, hSL, hSf, fun v q => by cases q⟩
      · exact J.pin p (List.mem_append_right _ q)
end
end CH
/-! CW: the loops of a generator. -/
namespace CH
open PySem PySem.Spec PyProof.Rows L2 GenW
structure GCd (G : GFx) (A : Around) (c : Code) (fs : List Frame) (gd : Bool → Bool) : Prop where
  over : A.over c fs = G.X.A
  split : splitAtGen fs = none
  guard : fs.any Frame.guarded = false
  gd : gd false = false
/-- what follows behind some items -/
abbrev After (G : GFx) (A : Around) (ip : List (Addr × PySem.Obj)) (vs : List Nat) (i : Nat) (σ : L2.St) (w : List Addr) (H : Hp) (c : Code) (t : Sem PySem.Fin) (fs : List Frame) : Prop :=
  ∀ (n : Nat) (s₀ s : Shared) (σ' : L2.St) (w' : List Addr) (H' : Hp), GRun G ip i σ' w' H' s → Step G.F.K G.F.tb w H w' H' G.S → (∀ j, j ∉ vs → σ'[j]? = σ[j]?) → σ'.length = σ.length → n + i = G.outs.length → G.outs[i]? ≠ some none →
    Seg (model G.X.prog G.X.w) A (RG G) (YG G) n s₀ c t fs s
def Emits (G : GFx) (emit : Sem Unit) (f : Env → List (Option D)) (vs : List Nat) : Prop :=
  ∀ (A : Around) (ip : List (Addr × PySem.Obj)) (n : Nat) (s₀ s : Shared) (c : Code) (fs : List Frame) (K : Unit → Sem PySem.Fin) (J : Value → Sem PySem.Fin) (gd : Bool → Bool) (lv : List Value → List Value) (σ : L2.St) (w : List Addr) (H : Hp) (ρ : Env) (i : Nat),
    GCd G A c fs gd → GRun G ip i σ w H s → ER G.F.K w H ρ σ → n + i = G.outs.length → G.outs[i]? ≠ some none → (∃ post, G.outs.drop i = f ρ ++ post) → (∀ k ∈ vs, ∀ d, ρ[k]? ≠ some (some d)) →
      After G A ip vs (i + (f ρ).length) σ w H c (K ()) fs → Seg (model G.X.prog G.X.w) A (RG G) (YG G) n s₀ c (emit.wrap K J gd lv) fs s
theorem head_none {outs : List (Option D)} {i : Nat} {L post : List (Option D)} (h : outs.drop i = (none :: L) ++ post) : outs[i]? = some none := by
  have := congrArg (fun l => l[0]?) h
  simpa using this
theorem ER.off {K : PySem.W.Frag} {w : List Addr} {H : Hp} {ρ : Env} {σ σ' : L2.St} {vs : List Nat} (e : ER K w H ρ σ) (hl : σ'.length = σ.length) (h : ∀ j, j ∉ vs → σ'[j]? = σ[j]?) (hc : ∀ k ∈ vs, ∀ d, ρ[k]? ≠ some (some d)) : ER K w H ρ σ' := by
  refine ⟨by rw [hl]; exact e.len, fun j d q => ?_⟩
  obtain ⟨v, a, b⟩ := e.at_ j d q
  exact ⟨v, by rw [h j fun z => hc j z d q]; exact a, b⟩
section
variable {G : GFx} {ip : List (Addr × PySem.Obj)}
/-- the iterator's objects: where they may stand -/
def FpS (G : GFx) (ip : List (Addr × PySem.Obj)) (b : Addr) : Prop := b ≠ G.X.env.locals ∧ b ∉ G.X.fs ∧ (b ∈ G.X.ex ∨ G.X.s_0.heap.objs.size ≤ b) ∧ (∀ x c, G.X.env.cells.lookup x = some c → c ≠ b) ∧ (∀ p ∈ G.X.pn ++ ip, p.1 ≠ b) ∧ G.So ≠ some b
theorem FpS.ok {b : Addr} {op : List (Addr × PySem.Obj)} {i : Nat} {w : List Addr} {H : Hp} (h : FpS G ip b) (ho : OwnAt G.F.K G.So G.outs i w H op) (hn : H b = none) : FpOk G.X (op ++ ip) H b := by
  obtain ⟨h1, h2, h3, h4, h5, h6⟩ := h
  refine ⟨hn, h1, h2, h3, h4, fun p hp => ?_⟩
  rcases List.mem_append.mp hp with q | q
  · exact h5 p (List.mem_append_left _ q)
  · rcases List.mem_append.mp q with q | q
    · cases hSo : G.So with
      | none => rw [hSo] at ho; rw [show op = [] from ho] at q; cases q
      | some Sa =>
        rw [hSo] at ho
        obtain ⟨acc, c, vs, ds, e, _⟩ := ho
        rw [e] at q
        rw [List.mem_singleton.mp q]
        intro z
        exact h6 (by rw [hSo]; exact congrArg some z)
    · exact h5 p (List.mem_append_right _ q)
theorem bindT_off : ∀ {t : Tg} {xs : List D} {ρ ρ' : Env} {k : Nat}, bindT t xs ρ = some ρ' → k ∉ t.vars → ρ'[k]? = ρ[k]?
  | .nil, [], _, _, _, h, _ => by cases h; rfl
  | .nil, _ :: _, _, _, _, h, _ => by cases h
  | .var _ _, [], _, _, _, h, _ => by cases h
  | .var i r, x :: xs, ρ, ρ', k, h, hk => by
    have h : bindT r xs (ρ.set i (some x)) = some ρ' := h
    have hk : k ∉ i :: r.vars := hk
    rw [List.mem_cons, not_or] at hk
    rw [bindT_off h hk.2, List.getElem?_set_ne (fun e => hk.1 e.symm)]
  | .tup _ _, [], _, _, _, h, _ => by cases h
  | .tup t r, x :: xs, ρ, ρ', k, h, hk => by
    have hk : k ∉ t.vars ++ r.vars := hk
    rw [List.mem_append, not_or] at hk
    unfold bindT at h
    split at h
    · rename_i ys
      cases e : bindT t ys ρ with
      | none => rw [e] at h; cases h
      | some ρ1 =>
        rw [e] at h
        have h : bindT r xs ρ1 = some ρ' := h
        rw [bindT_off h hk.2, bindT_off e hk.1]
    · cases h
/-- the turn of a clause -/
def turnT (p : Pos) (tg : Expr) (ifs : List Expr) (it : Value) (env : PySem.Env) (emit : Sem Unit) (c0 : Code) : Sem PySem.Fin :=
  standAt p >>= fun _ => pyNext it >>= fun r => match r with
    | none => pure (.done .next)
    | some v => letOwnedTupleGo tg it v >>= fun _ => assign tg env v >>= fun _ =>
      (forIn ifs true fun c r => if r = true then do let ok ← isTrue c env (eval c env); pure (ForInStep.yield ok) else pure (ForInStep.yield r)) >>= fun ok => if ok = true then emit >>= fun _ => again c0 else again c0
theorem seg_lvl (ok : GOk G) {A : Around} {p : Pos} {tg : Expr} {ifs : List Expr} {it : Addr} {fp : List Addr} {tn : Nat → Heap → Prop} {J : It} {w1 : List Addr} {H1 : Hp} {xs : List D} {g : Grd} {t : Tg} {ft : Env → Store → R Bool} {emit : Sem Unit} {fb : Env → List (Option D)} {vs : List Nat} {ρ : Env}
    {hnd : Value → Sem Unit} {c0 : Code} {fs : List Frame} (hden : (model G.X.prog G.X.w).den c0 = (turnT p tg ifs (.ref it) G.X.env emit c0).onRaise hnd) (hq : c0.quiet = true) (T : Turn G.X.prog G.X.w G.X.K tg J fp it tn) (io : ItOk G.F w1 H1 xs g J) (hgo : g.ok G.S)
    (s1 : Step G.F.K G.F.tb G.w0 G.H0 w1 H1 G.S) (hg : PG G.X tg (TGX1 G.F t)) (ht : PTs G.X ifs (TTX G.F EN ft)) (hem : Emits G emit fb vs) (gc : GCd G A c0 fs id) (hfp : ∀ b ∈ fp, FpS G ip b) (hSip : ∀ b ∈ fp, ∀ Sa, G.So = some Sa → b ≠ Sa) (hxe : ∀ e s, ¬ G.X.xe e s)
    (hcl : ∀ k ∈ t.vars ++ vs, ∀ d, ρ[k]? ≠ some (some d)) (hdj : ∀ k ∈ vs, k ∉ t.vars) :
    ∀ (r j n : Nat) (s₀ s : Shared) (σ : L2.St) (w : List Addr) (H : Hp) (i : Nat), j + r = xs.length → GRun G ip i σ w H s → Step G.F.K G.F.tb w1 H1 w H G.S → tn j s.heap → (∀ b ∈ fp, H b = none) → ER G.F.K w H ρ σ → n + i = G.outs.length → G.outs[i]? ≠ some none →
      (∃ post, G.outs.drop i = (xs.drop j).flatMap (fun x => turnG (bindT t [x] ρ) (fun ρ => pureB (ft ρ G.S) G.S) fb) ++ post) →
      After G A ip (t.vars ++ vs) (i + ((xs.drop j).flatMap (fun x => turnG (bindT t [x] ρ) (fun ρ => pureB (ft ρ G.S) G.S) fb)).length) σ w H c0 (leafOf (.ok .next)) fs →
      Seg (model G.X.prog G.X.w) A (RG G) (YG G) n s₀ c0 ((model G.X.prog G.X.w).den c0) fs s := by
  intro r
  induction r with
  | zero =>
    intro j n s₀ s σ w H i hj run st tnj hn hE hni nb hL aft
    have ej : j = xs.length := by omega
    subst ej
    obtain ⟨hip, op, how, I, sw⟩ := run
    rw [hden, Sem.onRaise_eq_wrap]
    refine seg_bind_wrap (wpAny_standAt ?_)
    refine seg_bind_wrap ?_
    rw [gc.over]
    refine thn (T.done G.X rfl rfl rfl ok.calm xs.length _ s σ H _ I (fun b hb => (hfp b hb).ok how (hn b hb)) tnj (io.stop w H G.S st hgo)) fun r s' ⟨er, I'⟩ => ?_
    subst er
    rw [List.drop_length] at aft
    exact aft n s₀ s' σ w H ⟨hip, op, how, I', sw⟩ (Step.refl sw.sr) (fun _ _ => rfl) rfl hni nb
  | succ r ih =>
    intro j n s₀ s σ w H i hj run st tnj hn hE hni nb hL aft
    have hlt : j < xs.length := by omega
    obtain ⟨hip, op, how, I, sw⟩ := run
    obtain ⟨go, yld⟩ := io.go w H G.S st hgo j hlt
    rw [List.drop_eq_getElem_cons hlt, List.flatMap_cons] at hL aft
    obtain ⟨post, hL⟩ := hL
    rw [hden, Sem.onRaise_eq_wrap]
    refine seg_bind_wrap (wpAny_standAt ?_)
    refine seg_bind_wrap ?_
    rw [gc.over]
    refine thn (T.item G.X rfl rfl rfl ok.calm j _ s σ H _ I (fun b hb => (hfp b hb).ok how (hn b hb)) tnj go) fun r s2 ⟨u, er, h2⟩ => ?_
    subst er
    refine seg_bind_wrap ?_
    rw [gc.over]
    refine thn h2 fun _ s3 ⟨x, H3, I3, r3, y3, st3, n3⟩ => ?_
    obtain ⟨sy, dy⟩ := yld x H3 y3
    have how3 := how.step sw.sr sy
    have I3' := I3.pinned (fun b hb => (hfp b hb).ok how3 (n3 b hb)) (T.obj _ _ st3)
    rw [List.append_assoc] at I3'
    have hip' : ∀ q ∈ ip ++ pinsAt fp s3.heap, ∀ Sa, G.So = some Sa → q.1 ≠ Sa := fun q hq Sa hSa => by
      rcases List.mem_append.mp hq with z | z
      · exact hip q z Sa hSa
      · exact hSip q.1 (of_pinsAt z).1 Sa hSa
    cases hb1 : bindT t [xs[j]] ρ with
    | none =>
      rw [hb1] at hL
      exact absurd (head_none (L := []) (post := _) (by rw [hL, List.append_assoc]; rfl)) nb
    | some ρ1 =>
      rw [hb1] at hL aft
      refine seg_bind_wrap ?_
      rw [gc.over]
      refine wpAny_mono (hg.run _ s3 σ H3 x u (fun σ' H' => H' = H3 ∧ ER G.F.K w H3 ρ1 σ' ∧ (∀ k, k ∉ t.vars → σ'[k]? = σ[k]?)) I3' r3 ⟨w, ρ, G.S, [xs[j]], ρ1, sy.sr, hE.step sw.sr sy, .cons dy .nil, hb1, fun σ' er hv => ⟨rfl, er, hv⟩⟩) (fun _ s4 ⟨σ4, H4, I4, e4, er4, hv4⟩ => ?_) fun e s z => absurd z (hxe e s)
      subst e4
      cases hb2 : pureB (ft ρ1 G.S) G.S with
      | none =>
        have e : turnG (some ρ1) (fun ρ => pureB (ft ρ G.S) G.S) fb = [none] := by unfold turnG; dsimp only; rw [hb2]
        rw [e] at hL
        exact absurd (head_none (L := []) (post := _) (by rw [hL, List.append_assoc])) nb
      | some kb =>
        have ef : ft ρ1 G.S = .ok kb G.S := by
          unfold pureB at hb2
          split at hb2
          · split at hb2
            · rename_i b' S' he q; cases hb2; rw [he, q]
            · cases hb2
          · cases hb2
        have eL : turnG (some ρ1) (fun ρ => pureB (ft ρ G.S) G.S) fb = if kb = true then fb ρ1 else [] := by
          show (match pureB (ft ρ1 G.S) G.S with | some true => _ | some false => _ | none => _) = _
          rw [hb2]
          cases kb <;> rfl
        rw [eL] at hL aft
        have len4 : σ4.length = σ.length := by rw [← er4.len, bindT_length hb1, hE.len]
        refine seg_bind_wrap ?_
        rw [gc.over]
        refine wpAny_mono (ht.run _ s4 σ4 H4 (fun b H' => b = kb ∧ ∃ w', Step G.F.K G.F.tb w H4 w' H' G.S) I4 ⟨w, ρ1, G.S, sy.sr, er4, by rw [ef]; exact fun w' H' st' => ⟨rfl, w', st'⟩⟩) (fun b s5 ⟨H5, I5, eb, w5, st5⟩ => ?_) fun e s z => absurd z (hxe e s)
        subst eb
        have st45 := sy.trans sw.sr st5
        have sw5 := sw.trans ok.sr st45
        have stw5 := st.trans s1.sr st45
        have how5 := how.step sw.sr st45
        -- the turn's end
        have fin : ∀ (n' : Nat) (s₀' s6 : Shared) (σ6 : L2.St) (w6 : List Addr) (H6 : Hp) (i6 : Nat), GRun G (ip ++ pinsAt fp s3.heap) i6 σ6 w6 H6 s6 → Step G.F.K G.F.tb w5 H5 w6 H6 G.S → (∀ k, k ∉ vs → σ6[k]? = σ4[k]?) → σ6.length = σ4.length → n' + i6 = G.outs.length → G.outs[i6]? ≠ some none →
            (∃ post, G.outs.drop i6 = (xs.drop (j + 1)).flatMap (fun x => turnG (bindT t [x] ρ) (fun ρ => pureB (ft ρ G.S) G.S) fb) ++ post) →
            i6 + ((xs.drop (j + 1)).flatMap (fun x => turnG (bindT t [x] ρ) (fun ρ => pureB (ft ρ G.S) G.S) fb)).length = i + ((if b = true then fb ρ1 else []) ++ (xs.drop (j + 1)).flatMap (fun x => turnG (bindT t [x] ρ) (fun ρ => pureB (ft ρ G.S) G.S) fb)).length →
            Seg (model G.X.prog G.X.w) A (RG G) (YG G) n' s₀' c0 ((model G.X.prog G.X.w).den c0) fs s6 := by
          intro n' s₀' s6 σ6 w6 H6 i6 run6 st6 hv6 hl6 hn6 nb6 hL6 eL6
          obtain ⟨hip6, op6, how6, I6, sw6⟩ := run6
          have pin6 : ∀ q ∈ ip ++ pinsAt fp s3.heap, s6.heap.get? q.1 = some q.2 ∧ H6 q.1 = none := fun q hq => let z := I6.pin q (List.mem_append_right _ (List.mem_append_right _ hq)); ⟨z.1, z.2.1⟩
          have I6' : Inv G.X (op6 ++ ip) σ6 H6 s6 := I6.pins_of fun q hq => I6.pin q (List.mem_append_right _ (by
            rcases List.mem_append.mp hq with z | z
            · exact List.mem_append_left _ z
            · exact List.mem_append_right _ (List.mem_append_left _ z)))
          have st56 := st45.trans sw.sr st6
          have hvA : ∀ k, k ∉ t.vars ++ vs → σ6[k]? = σ[k]? := fun k hk => by
            rw [List.mem_append, not_or] at hk
            rw [hv6 k hk.2, hv4 k hk.1]
          have hlA : σ6.length = σ.length := hl6.trans len4
          refine ih (j + 1) n' s₀' s6 σ6 w6 H6 i6 (by omega) ⟨hip, op6, how6, I6', sw6⟩ (stw5.trans s1.sr st6) (T.keep _ _ _ st3 fun b hb o e => (pin6 (b, o) (List.mem_append_right _ (mem_pinsAt hb e))).1) (fun b hb => ?_) ((hE.step sw.sr st56).off hlA hvA hcl) hn6 nb6 hL6 ?_
          · obtain ⟨o, e, _⟩ := T.obj _ _ st3 b hb
            exact (pin6 (b, o) (List.mem_append_right _ (mem_pinsAt hb e))).2
          · intro n7 s₀7 s7 σ7 w7 H7 run7 st7 hv7 hl7 hn7 nb7
            rw [eL6] at run7 hn7 nb7
            exact aft n7 s₀7 s7 σ7 w7 H7 run7 (st56.trans sw.sr st7) (fun k hk => (hv7 k hk).trans (hvA k hk)) (hl7.trans hlA) hn7 nb7
        have run5 : GRun G (ip ++ pinsAt fp s3.heap) i σ4 w5 H5 s5 := ⟨hip', op, how5, I5, sw5⟩
        cases b with
        | false =>
          rw [if_neg (by decide)] at hL
          have e9 : (if false = true then emit >>= fun _ => again c0 else again c0) = again c0 := rfl
          rw [e9]
          exact seg_again hq (fin n s₀ s5 σ4 w5 H5 i run5 (Step.refl st5.sr) (fun _ _ => rfl) rfl hni nb ⟨post, hL⟩ (by simp))
        | true =>
          rw [if_pos rfl] at hL
          have e9 : (if true = true then emit >>= fun _ => again c0 else again c0) = emit >>= fun _ => again c0 := rfl
          rw [e9, Sem.bind_eq_wrap', Sem.wrap_wrap]
          refine hem A (ip ++ pinsAt fp s3.heap) n s₀ s5 c0 fs _ _ _ _ σ4 w5 H5 ρ1 i ⟨gc.over, gc.split, gc.guard, rfl⟩ run5 (er4.step sy.sr st5) hni nb ⟨_, by rw [hL, List.append_assoc]⟩ (fun k hk d q => ?_) fun n6 s₀6 s6 σ6 w6 H6 run6 st6 hv6 hl6 hn6 nb6 => ?_
          · rw [bindT_off hb1 (hdj k hk)] at q; exact hcl k (List.mem_append_right _ hk) d q
          · refine seg_again hq (fin n6 s₀6 s6 σ6 w6 H6 _ run6 st6 hv6 hl6 hn6 nb6 ⟨post, ?_⟩ (by simp [Nat.add_assoc]))
            rw [← List.drop_drop, hL, List.append_assoc, List.drop_left]
end
end CH
/-! CX: what a clause's body hands out; the whole code of a generator. -/
namespace CH
open PySem PySem.Spec PyProof.Rows L2 GenW
section
variable {G : GFx}
def emitE (elt : Expr) (env : PySem.Env) : Sem Unit := eval elt env >>= fun v => standAt elt.pos >>= fun _ => yieldOut env v >>= fun _ => pure ()
theorem emits_leaf (ok : GOk G) (hxe : ∀ e s, ¬ G.X.xe e s) {elt : Expr} {fe : Env → Store → R RV} (he : PE G.X elt (TX G.F EN fe)) : Emits G (emitE elt G.X.env) (fun ρ => [pureV (fe ρ G.S) G.S]) [] := by
  intro A ip n s₀ s c fs K J gd lv σ w H ρ i gc run hE hni nb ⟨post, hL⟩ hcl aft
  obtain ⟨hip, op, how, I, sw⟩ := run
  dsimp only at hL aft
  cases hv : pureV (fe ρ G.S) G.S with
  | none =>
    rw [hv] at hL
    exact absurd (head_none (L := []) hL) nb
  | some d =>
    rw [hv] at hL aft
    have ef : fe ρ G.S = .ok (.d d) G.S := by
      unfold pureV at hv
      split at hv
      · split at hv
        · rename_i v' S' he q; cases hv; rw [he, q]
        · cases hv
      · cases hv
    have hi : G.outs[i]? = some (some d) := by
      have := congrArg (fun l => l[0]?) hL
      simpa using this
    have hil : i < G.outs.length := (List.getElem?_eq_some_iff.mp hi).1
    obtain ⟨n, rfl⟩ : ∃ m, n = m + 1 := ⟨n - 1, by omega⟩
    unfold emitE
    refine seg_bind_wrap ?_
    rw [gc.over]
    refine wpAny_mono (he.run _ s σ H (fun v H' => ∃ w', Step G.F.K G.F.tb w H w' H' G.S ∧ DV G.F.K w' H' d v) I ⟨w, ρ, G.S, sw.sr, hE, by rw [ef]; exact fun w' H' v st rv => ⟨w', st, rv⟩⟩) (fun u s1 ⟨v, H1, I1, r1, w1, st1, dv⟩ => ?_) fun e s z => absurd z (hxe e s)
    have hy : yieldOut G.X.env u = yieldValue u := by simp only [yieldOut, ok.nodd, Bool.false_eq_true, if_false]
    rw [hy]
    have run1 : GRun G ip i σ w1 H1 s1 := ⟨hip, op, how.step sw.sr st1, I1, sw.trans ok.sr st1⟩
    refine seg_at (seg_yield gc.split (by first | exact gc.gd | rfl) gc.guard ⟨i, d, v, w1, H1, ip, σ, by omega, hi, r1, dv, run1, fun s' z nb' => ?_⟩)
    exact aft n s' s' σ w1 H1 (run1.woken ok r1 dv hi z) st1 (fun _ _ => rfl) rfl (by simp; omega) nb'
theorem FpS.of {ip op : List (Addr × PySem.Obj)} {i : Nat} {w : List Addr} {H H' : Hp} {b : Addr} (ho : OwnAt G.F.K G.So G.outs i w H op) (h : FpOk G.X (op ++ ip) H' b) : FpS G ip b := by
  obtain ⟨h0, h1, h2, h3, h4, h5⟩ := h
  refine ⟨h1, h2, h3, h4, fun p hp => h5 p ?_, fun z => ?_⟩
  · rcases List.mem_append.mp hp with q | q
    · exact List.mem_append_left _ q
    · exact List.mem_append_right _ (List.mem_append_right _ q)
  · rw [z] at ho
    obtain ⟨acc, c, vs, ds, e, _⟩ := ho
    exact h5 (b, lstObj acc c) (List.mem_append_right _ (List.mem_append_left _ (by rw [e]; exact List.mem_cons_self))) rfl
theorem gc_in {A : Around} {c c' : Code} {fs : List Frame} {gd : Bool → Bool} {k : Result → Sem PySem.Fin} {l kp : List Value} {p : Pos} (g : GCd G A c fs gd) (hw : c'.weight = 0) (hu : c'.cUnits = 0) : GCd G A c' (.ret k none (gd false) l c p kp :: fs) id where
  over := (over_loop hw hu).trans g.over
  split := by
    show (splitAtGen fs).map _ = none
    rw [g.split]; rfl
  guard := by
    show (gd false || fs.any Frame.guarded) = false
    rw [g.gd, g.guard]; rfl
  gd := rfl
def emitN (e i1 : Expr) (env : PySem.Env) : Sem Unit := eval i1 env >>= fun x => standAt i1.pos >>= fun _ => foldedSetIterable i1 env x >>= fun x => holding [x] (pyIter x) >>= fun it1 => runOwn (.compStart e 1 it1 .none env) env >>= fun _ => pure ()
/-- the code's start: the iterator is asked once more -/
theorem seg_start {A : Around} {R : GenEnd} {Y : Protocol} {n : Nat} {s₀ s : Shared} {e iter : Expr} {k : Nat} {it : Addr} {fs : List Frame} {env : PySem.Env} {hnd : Value → Sem Unit} {tg : Expr} {ifs : List Expr} {P : Program} {w : World} {tn : Nat → Heap → Prop} {K : PySem.W.Frag} {J : It} {fp : List Addr}
    (hden : (model P w).den (.compStart e k (.ref it) .none env) = (compStart e k (.ref it) .none env).onRaise hnd) (hcl : (clausesOf e)[k]? = some ⟨tg, iter, ifs, 0⟩) (hq : (Code.compLoop e k (.ref it) .none env).quiet = true) (T : Turn P w K tg J fp it tn) (st : tn 0 s.heap)
    (loop : Seg (model P w) A R Y n s₀ (.compLoop e k (.ref it) .none env) ((model P w).den (.compLoop e k (.ref it) .none env)) fs s) :
    Seg (model P w) A R Y n s₀ (.compStart e k (.ref it) .none env) ((model P w).den (.compStart e k (.ref it) .none env)) fs s := by
  rw [hden]
  unfold compStart
  rw [Sem.onRaise_eq_wrap, hcl]
  show Seg _ A R Y n s₀ _ ((ask >>= _).wrap _ _ _ _) fs s
  refine seg_bind_wrap (wpAny_askSetting ?_)
  split
  · exact seg_again hq loop
  · first
      | exact seg_bind_wrap (wpAny_rule (seg_bind_wrap (wpAny_standAt (seg_bind_wrap (T.self _ 0 s _ _ st (seg_again hq loop))))))
      | (refine seg_bind_wrap (wpAny_rule ?_); show Seg _ A R Y n s₀ _ ((standAt iter.pos >>= _).wrap _ _ _ _) fs s; exact seg_bind_wrap (wpAny_standAt (seg_bind_wrap (T.self _ 0 s _ _ st (seg_again hq loop)))))
theorem emits_in (ok : GOk G) (hxe : ∀ e s, ¬ G.X.xe e s) {e elt tg1 i1 : Expr} {ifs1 : List Expr} {t1 : Tg} {fi : Env → Store → R (List D × Grd)} {ft : Env → Store → R Bool} {emit : Sem Unit} {fb : Env → List (Option D)} {vs : List Nat}
    (hcl : (clausesOf e)[1]? = some ⟨tg1, i1, ifs1, 0⟩) (hden0 : ∀ it, ∃ hnd, (model G.X.prog G.X.w).den (.compStart e 1 (.ref it) .none G.X.env) = (compStart e 1 (.ref it) .none G.X.env).onRaise hnd)
    (hden1 : ∀ it, ∃ hnd, (model G.X.prog G.X.w).den (.compLoop e 1 (.ref it) .none G.X.env) = (turnT i1.pos tg1 ifs1 (.ref it) G.X.env emit (.compLoop e 1 (.ref it) .none G.X.env)).onRaise hnd)
    (hi : PI G.X tg1 i1 (TIX G.F EN fi)) (hs : notSetE i1 = true) (hg : PG G.X tg1 (TGX1 G.F t1)) (ht : PTs G.X ifs1 (TTX G.F EN ft)) (hem : Emits G emit fb vs) (hdj : ∀ k ∈ vs, k ∉ t1.vars) (hcw : ∀ it env, (Code.compLoop e 1 it .none env).weight = 0) (hcu : ∀ it env, (Code.compLoop e 1 it .none env).cUnits = 0) :
    Emits G (emitN e i1 G.X.env) (fun ρ => match pureI (fi ρ G.S) G.S with
      | some xs => xs.flatMap fun x => turnG (bindT t1 [x] ρ) (fun ρ => pureB (ft ρ G.S) G.S) fb
      | none => [none]) (t1.vars ++ vs) := by
  intro A ip n s₀ s c fs K J gd lv σ w H ρ i gc run hE hni nb ⟨post, hL⟩ hcl2 aft
  obtain ⟨hip, op, how, I, sw⟩ := run
  dsimp only at hL aft
  cases hv : pureI (fi ρ G.S) G.S with
  | none =>
    rw [hv] at hL
    exact absurd (head_none (L := []) hL) nb
  | some xs =>
    rw [hv] at hL aft
    dsimp only at hL aft
    obtain ⟨g, ef, hgo⟩ : ∃ g, fi ρ G.S = .ok (xs, g) G.S ∧ g.ok G.S := by
      unfold pureI at hv
      split at hv
      · split at hv
        · rename_i xs' g' S' he q; cases hv; exact ⟨g', by rw [he, q.1], q.2⟩
        · cases hv
      · cases hv
    unfold emitN
    refine seg_bind_wrap ?_
    rw [gc.over]
    refine wpAny_mono (hi.run _ s σ H (fun J' H' => ∃ w', Step G.F.K G.F.tb w H w' H' G.S ∧ ItOk G.F w' H' xs g J') I ⟨w, ρ, G.S, sw.sr, hE, ?_⟩) (fun u s1 h1 => ?_) fun e s z => absurd z (hxe e s)
    · rw [ef]
      exact fun w' H' J st io => ⟨w', st, io⟩
    · refine seg_bind_wrap (wpAny_standAt ?_)
      refine seg_bind_wrap (wpAny_of_eq (fold_none hs _ _) ?_)
      refine seg_bind_wrap (wpAny_holding ?_)
      rw [gc.over]
      refine wpAny_mono h1 (fun itv s2 h2 => ?_) fun e s z => absurd z (hxe e s)
      obtain ⟨it, fp, tn, J1, H1, rfl, I1, T, st, f2, w1, st1, io⟩ := h2
      obtain ⟨hnd0, hden0⟩ := hden0 it
      obtain ⟨hnd1, hden1⟩ := hden1 it
      have sw1 := sw.trans ok.sr st1
      have how1 := how.step sw.sr st1
      rw [Sem.bind_eq_wrap', Sem.wrap_wrap]
      unfold runOwn
      rw [Sem.onRaise_eq_wrap, Sem.wrap_wrap]
      refine seg_call fun p => ?_
      have gci := fun kk c' hw hu => gc_in (k := kk) (c' := c') (l := lv []) (kp := []) (p := p) gc hw hu
      refine seg_start hden0 hcl rfl T st ?_
      refine seg_lvl ok hden1 rfl T io hgo sw1 hg ht hem (gci _ _ (hcw _ _) (hcu _ _)) (fun b hb => FpS.of how1 (f2 b hb)) (fun b hb Sa hSa => ?_) hxe hcl2 hdj xs.length 0 n s₀ s2 σ w1 H1 i (Nat.zero_add _) ⟨hip, op, how1, I1, sw1⟩ (Step.refl sw1.sr) st (fun b hb => (f2 b hb).1) (hE.step sw.sr st1) hni nb ⟨post, by rw [List.drop_zero]; exact hL⟩ ?_
      · exact fun z => (FpS.of how1 (f2 b hb)).2.2.2.2.2 (by rw [hSa, z])
      · rw [List.drop_zero]
        intro n' s₀' s' σ' w' H' run' st' hv' hl' hn' nb'
        refine seg_leaf (.ok .next) ?_
        exact aft n' s₀' s' σ' w' H' run' (st1.trans sw.sr st') hv' hl' hn' nb'
end
end CH
/-! CY: a generator is asked for its next item; a list is filled. -/
namespace CH
open PySem PySem.Spec PyProof.Rows L2 GenW
/-- the generator stands ahead of item i, run by A -/
structure GAt (G : GFx) (A : Around) (i : Nat) (s : Shared) : Prop where
  gen : s.heap.IsGen G.own.1 G.own.2
  lim : s.heap.NoLimit
  go : ∃ gs, s.gens[G.own.2]? = some gs ∧ (G.outs[i]? ≠ some none → gs.Goes (model G.X.prog G.X.w) A (RG G) (YG G) (G.outs.length - i) (.send .none) (s.setGen G.own.2 .running))
section
variable {G : GFx} {A : Around} {E : Value → Shared → Prop} {s : Shared} {i : Nat} {Q : Option Value → Shared → Prop}
theorem GRun.gen (ok : GOk G) {ip : List (Addr × PySem.Obj)} {σ : L2.St} {w : List Addr} {H : Hp} (h : GRun G ip i σ w H s) : s.heap.IsGen G.own.1 G.own.2 ∧ s.heap.NoLimit := by
  obtain ⟨_, op, _, I, _⟩ := h
  obtain ⟨go, hg⟩ := ok.go
  obtain ⟨h1, nm, qn, h2, h3, h4⟩ := hg G.own.1 G.own.2 rfl
  exact ⟨⟨go, nm, qn, (I.pin (G.own.1, go) (List.mem_append_left _ h1)).1, h2, h3, h4⟩, I.nolimit⟩
/-- a list is filled while the generator sleeps -/
theorem Slp.push {Sa : Addr} {v : Value} {acc : Array Value} {c : Nat} {gens : Array GenState} {So : Option Addr} (hSo : So = some Sa) (hS : s.heap.get? Sa = some (lstObj acc c)) (hg : AllBare gens) : Slp So v s { s with gens := gens, heap := s.heap.update Sa (Obj.mapSeq (·.push v)) } where
  os := rfl
  bare := hg
  keep := fun b o hb e => (Heap.get?_update_other _ _ (fun z => hb (by rw [hSo, z]))).trans e
  own := fun Sb hSb acc' c' e => by
    rw [hSo] at hSb; cases hSb
    rw [hS] at e; cases e
    exact ⟨_, Heap.get?_update_self _ hS rfl⟩
theorem GRun.slp {ip : List (Addr × PySem.Obj)} {σ : L2.St} {w : List Addr} {H : Hp} (h : GRun G ip i σ w H s) (v : Value) : ∃ s', Slp G.So v s s' := by
  obtain ⟨_, op, ho, I, _⟩ := h
  cases hSo : G.So with
  | none => exact ⟨s, rfl, I.bare, fun _ _ _ e => e, fun _ z => by cases z⟩
  | some Sa =>
    rw [hSo] at ho
    obtain ⟨acc, c, vs, ds, e, _⟩ := ho
    rw [e] at I
    exact ⟨_, Slp.push (So := some Sa) rfl (I.pin (Sa, lstObj acc c) (List.mem_append_right _ (List.mem_append_left _ List.mem_cons_self))).1 I.bare⟩
theorem gnext_item (ok : GOk G) (hh : A.handled = none) (hd : A.depth < recursionLimit) (h : GAt G A.in1 i s) {d : D} (hi : G.outs[i]? = some (some d))
    (hQ : ∀ (u : Value) (vv : V) (w : List Addr) (H : Hp) (ip : List (Addr × PySem.Obj)) (σ : L2.St) (s1 : Shared) (gs' : GenState), RelV vv u → DV G.F.K w H d vv → GRun G ip i σ w H s1 → gs'.bare = true → G.own.2 < s1.gens.size →
      (∀ s2 : Shared, s2.gens[G.own.2]? = some gs' → Slp G.So u s1 (s2.setGen G.own.2 .running) → s2.heap.IsGen G.own.1 G.own.2 → s2.heap.NoLimit → GAt G A.in1 (i + 1) s2) → Q (some u) (s1.setGen G.own.2 gs')) :
    wpAny (model G.X.prog G.X.w) A (pyNext (.ref G.own.1)) Q E s := by
  obtain ⟨gs, hgs, hgo⟩ := h.go
  have hgo := hgo (by rw [hi]; intro z; cases z)
  have hil : i < G.outs.length := (List.getElem?_eq_some_iff.mp hi).1
  obtain ⟨m, hm⟩ : ∃ m, G.outs.length - i = m + 1 := ⟨G.outs.length - i - 1, by omega⟩
  rw [hm] at hgo
  have hgl : G.own.2 < s.gens.size := (Array.getElem?_eq_some_iff.mp hgs).1
  refine wpAny_gsz (n := G.own.2 + 1) hgl (next_genG (F := fun n _ s => FG G n s) (Er := fun _ _ => False) hh h.lim hd h.gen hgs hgo (fun v s₁ gs' hb hv => ?_) (fun s₁ hp h' hk => ?_) fun e s₁ he => he.elim)
  · obtain ⟨i', d', vv, w, H, ip, σ, hn, hi', rv, dv, run, hk⟩ := hv
    intro hsz
    have hsz' : G.own.2 < s₁.gens.size := by
      have q : (s₁.setGen G.own.2 gs').gens.size = s₁.gens.size := setGen_size _ _ _
      have hsz2 : G.own.2 + 1 ≤ (s₁.setGen G.own.2 gs').gens.size := hsz
      omega
    have e : i' = i := by omega
    subst e
    rw [hi] at hi'
    cases hi'
    refine hQ v vv w H ip σ s₁ gs' rv dv run hb hsz' fun s2 hg2 hs2 hgen hlim => ⟨hgen, hlim, gs', hg2, fun nb => ?_⟩
    have := hk _ hs2 nb
    have e : G.outs.length - (i' + 1) = m := by omega
    rw [e]
    exact this
  · exact absurd hp.1 (Nat.succ_ne_zero m)
theorem gnext_end (hh : A.handled = none) (hd : A.depth < recursionLimit) (h : GAt G A.in1 i s) (hi : i = G.outs.length)
    (hQ : ∀ (ip : List (Addr × PySem.Obj)) (σ : L2.St) (w : List Addr) (H : Hp) (s1 : Shared) (h' : Heap), GRun G ip G.outs.length σ w H s1 → (∀ b o, s1.heap.get? b = some o → h'.get? b = some o) → Q none { s1.setGen G.own.2 .finished with heap := h' }) :
    wpAny (model G.X.prog G.X.w) A (pyNext (.ref G.own.1)) Q E s := by
  obtain ⟨gs, hgs, hgo⟩ := h.go
  have hgo := hgo (by rw [hi, List.getElem?_eq_none (Nat.le_refl _)]; intro z; cases z)
  have e0 : G.outs.length - i = 0 := by omega
  rw [e0] at hgo
  refine next_genG (F := fun n _ s => FG G n s) (Er := fun _ _ => False) hh h.lim hd h.gen hgs hgo (fun v s₁ gs' hb hv => ?_) (fun s₁ hp h' hk => ?_) fun e s₁ he => he.elim
  · obtain ⟨i', d', vv, w, H, ip, σ, hn, hi', rv, dv, run, hk⟩ := hv
    have nb : G.outs[i' + 1]? ≠ some none := by rw [List.getElem?_eq_none (by omega)]; intro z; cases z
    obtain ⟨s', z⟩ := run.slp v
    exact (hk s' z nb).elim
  · obtain ⟨_, ip, σ, w, H, run⟩ := hp
    exact hQ ip σ w H s₁ h' run hk
/-- what the list holds -/
theorem GRun.lst {ip : List (Addr × PySem.Obj)} {σ : L2.St} {w : List Addr} {H : Hp} {Sa : Addr} (hSo : G.So = some Sa) (h : GRun G ip i σ w H s) (hi : i ≤ G.outs.length) :
    ∃ (acc : Array Value) (c : Nat) (vs : List V) (ds : List D), s.heap.get? Sa = some (lstObj acc c) ∧ H Sa = none ∧ Vals vs acc.toList ∧ DVs G.F.K w H ds vs ∧ G.outs.take i = ds.map some ∧ acc.size = i := by
  obtain ⟨_, op, ho, I, _⟩ := h
  rw [hSo] at ho
  obtain ⟨acc, c, vs, ds, e, r, d, t⟩ := ho
  rw [e] at I
  have q := I.pin (Sa, lstObj acc c) (List.mem_append_right _ (List.mem_append_left _ List.mem_cons_self))
  refine ⟨acc, c, vs, ds, q.1, q.2.1, r, d, t, ?_⟩
  have h1 := r.length
  have h2 := d.length
  have h3 := congrArg List.length t
  simp only [List.length_take, List.length_map, Array.length_toList] at h1 h2 h3
  omega
theorem drainX {R : Result → Shared → Prop} {Sa : Addr} {res : Value} (ok : GOk G) (hSo : G.So = some Sa) (hall : ∀ j, j < G.outs.length → G.outs[j]? ≠ some none) (hlen : G.outs.length ≤ sizeLine) (hh : A.handled = none) (hd : A.depth < recursionLimit)
    (hSa : Sa ≠ G.own.1) (hSc : Sa ≠ cStatics) (hend : ∀ (ip : List (Addr × PySem.Obj)) (σ : L2.St) (w : List Addr) (H : Hp) (s1 : Shared) (h' : Heap), GRun G ip G.outs.length σ w H s1 → (∀ b o, s1.heap.get? b = some o → h'.get? b = some o) → R (.ok (.ret res)) { s1.setGen G.own.2 .finished with heap := h' }) :
    ∀ (r i : Nat) (s : Shared), i + r = G.outs.length → GAt G A.in1.in1 i s → codeAny (model G.X.prog G.X.w) A (.builtin "list.extend.loop" ⟨[.ref Sa, .ref G.own.1, res], []⟩) R s := by
  intro r
  induction r with
  | zero =>
    intro i s hi h
    refine codeAny_builtin F.entry_extend_loop ?_
    rw [Around.under_plainId F.plain_extend_loop _]
    show wpAny _ A.in1 (pyNext (.ref G.own.1) >>= _) _ _ s
    exact wpAny_bind (gnext_end (A := A.in1) hh hd h (by omega) fun ip σ w H s1 h' run hk => wpAny_pure (hend ip σ w H s1 h' run hk))
  | succ r ih =>
    intro i s hi h
    have hlt : i < G.outs.length := by omega
    obtain ⟨d, hdd⟩ : ∃ d, G.outs[i]? = some (some d) := by
      cases q : G.outs[i]? with
      | none => rw [List.getElem?_eq_none_iff] at q; omega
      | some o =>
        cases o with
        | none => exact absurd q (hall i hlt)
        | some d => exact ⟨d, rfl⟩
    refine codeAny_builtin F.entry_extend_loop ?_
    rw [Around.under_plainId F.plain_extend_loop _]
    show wpAny _ A.in1 (pyNext (.ref G.own.1) >>= _) _ _ s
    refine wpAny_bind (gnext_item (A := A.in1) ok hh hd h hdd fun u vv w H ip σ s1 gs' rv dv run hb hg hk => ?_)
    obtain ⟨acc, c, vs, ds, e1, _, _, _, _, esz⟩ := run.lst hSo (Nat.le_of_lt hlt)
    obtain ⟨hgen, hlim⟩ := run.gen ok
    have hbare : AllBare s1.gens := by obtain ⟨_, _, _, I, _⟩ := run; exact I.bare
    show wpAny _ A.in1 (updateSeq Sa (·.push u) >>= _) _ _ _
    refine wpAny_bind (wpAny_updateSeq (s := s1.setGen G.own.2 gs') e1 rfl (wpAny_pure ⟨plainId_quiet F.plain_extend_loop _, ?_⟩) (by omega) (by show (acc.push u).size ≤ sizeLine + 1; rw [Array.size_push]; omega))
    have keep3 : ∀ b o, b ≠ Sa → s1.heap.get? b = some o → (s1.heap.update Sa (Obj.mapSeq (·.push u))).get? b = some o := fun b o hbS e => (Heap.get?_update_other _ _ (Ne.symm hbS)).trans e
    refine ih (i + 1) { s1.setGen G.own.2 gs' with heap := s1.heap.update Sa (Obj.mapSeq (·.push u)) } (by omega) (hk _ (setGen_at hg) ?_ ?_ ?_)
    · exact Slp.push (s := s1) hSo e1 (allBare_setGen (s := s1.setGen G.own.2 gs') (allBare_setGen hbare hb) rfl)
    · obtain ⟨o, nm, qn, ho, r⟩ := hgen
      exact ⟨o, nm, qn, keep3 _ o (Ne.symm hSa) ho, r⟩
    · obtain ⟨mc, hns, hnn⟩ := hlim
      exact ⟨mc, hns.at' fun o e => keep3 _ o (Ne.symm hSc) e, hnn⟩
end
end CH
/-! CZ: tuple, list, any, all of a generator. -/
namespace CH
open PySem PySem.Spec PyProof.Rows L2 GenW
/-- a generator that has not begun -/
structure Ready (F : Fx) (X : Cx) (pins : List (Addr × PySem.Obj)) (σ : L2.St) (k : Nat) (w0 : List Addr) (H0 : Hp) (S : Store) (outs : List (Option D)) (a g : Nat) (s : Shared) : Prop where
  gen : s.heap.IsGen a g
  lim : s.heap.NoLimit
  wake : ∀ (So : Option Addr) (A : Around) (s2 : Shared), Room k A → A.frames = some X.stack → (∀ Sa, So = some Sa → s.heap.objs.size ≤ Sa ∧ ∃ c, s2.heap.get? Sa = some (lstObj #[] c)) → (∀ b o, s.heap.get? b = some o → s2.heap.get? b = some o) → s2.gens[g]? = s.gens[g]? → AllBare s2.gens → s2.os = s.os →
    ∃ G : GFx, G.F = F ∧ G.So = So ∧ G.outs = outs ∧ G.own = (a, g) ∧ G.X.prog = X.prog ∧ G.X.w = X.w ∧ GOk G ∧ GAt G A 0 s2 ∧ ∀ ip i σ' w H s', GRun G ip i σ' w H s' → Inv X pins σ H s' ∧ Step F.K F.tb w0 H0 w H S
section
variable {F : Fx} {E : XK} {X : Cx} {pins : List (Addr × PySem.Obj)} {σ : L2.St} {k : Nat} {w0 : List Addr} {H0 : Hp} {S : Store} {outs : List (Option D)} {a g : Nat} {s : Shared} {A : Around} {Er : Value → Shared → Prop}
theorem Inv.grown {H : Hp} {h' : Heap} {g' : Array GenState} {d' : Drawn} {t' : Nat} (I : Inv X pins σ H s) (hk : ∀ b o, s.heap.get? b = some o → h'.get? b = some o) (hg : AllBare g') : Inv X pins σ H { s with heap := h', gens := g', drawn := d', toks := t' } :=
  I.step (g' := g') (t' := t') (d' := d') (ch := []) (fun b hb => absurd hb (by simp)) (fun b ob _ _ _ q _ => hk b ob q) (fun b ob _ _ _ q _ => ⟨ob.slots, hk b ob q⟩) (fun _ _ _ _ n => n) (fun b ob _ q => ⟨ob, hk b ob q⟩)
    (fun _ _ q => q) (fun _ _ _ q => q) (fun b ps q => ⟨#[], by rw [q]; simp⟩) (fun m hm => let ⟨ob, es, ep, ho, r⟩ := hm; ⟨ob, es, ep, hk _ ob ho, r⟩) (fun b u q => (I.hok b u q).stay (fun c v _ y => hk c v y) (fun _ y => y) fun _ _ y => y) hg
/-- all items are there -/
def allD : List (Option D) → Option (List D) := allO
theorem allO_some : ∀ {outs : List (Option D)} {ds : List D}, allO outs = some ds → outs = ds.map some
  | [], _, h => by cases h; rfl
  | none :: _, _, h => by cases h
  | some x :: r, ds, h => by
    unfold allO at h
    cases e : allO r with
    | none => rw [e] at h; cases h
    | some ys => rw [e] at h; cases h; rw [allO_some e]; rfl
/-- what stands behind all items -/
def Got (F : Fx) (X : Cx) (pins : List (Addr × PySem.Obj)) (σ : L2.St) (w0 : List Addr) (H0 : Hp) (S : Store) (ds : List D) (acc : Array Value) (s' : Shared) : Prop :=
  ∃ (w : List Addr) (H : Hp) (vs : List V), Inv X pins σ H s' ∧ Step F.K F.tb w0 H0 w H S ∧ Vals vs acc.toList ∧ DVs F.K w H ds vs
/-- .. the list that holds them is at Sa -/
theorem fill {ds : List D} {Sa : Addr} {res : Value} {R : Result → Shared → Prop} {s2 : Shared} (h : Ready F X pins σ k w0 H0 S outs a g s) (ha : allO outs = some ds) (hlen : ds.length ≤ sizeLine) (hr : Room (k + 1) A) (hfr : A.frames = some X.stack)
    (hz : s.heap.objs.size ≤ Sa) (hc : ∃ c, s2.heap.get? Sa = some (lstObj #[] c)) (hk : ∀ b o, s.heap.get? b = some o → s2.heap.get? b = some o) (hg : s2.gens = s.gens) (hb : AllBare s.gens) (ho : s2.os = s.os)
    (hend : ∀ acc c s', s'.heap.get? Sa = some (lstObj acc c) → acc.size = ds.length → Got F X pins σ w0 H0 S ds acc s' → R (.ok (.ret res)) s') :
    codeAny (model X.prog X.w) A (.builtin "list.extend.loop" ⟨[.ref Sa, .ref a, res], []⟩) R s2 := by
  have eo := allO_some ha
  have hr1 : Room k A.in1.in1 := ⟨hr.hd, by have := hr.dp; show A.depth + 3 * k + 5 < _; omega, by have := hr.un; show A.units + 1 + 1 + 16 * k + 200 < _; omega⟩
  obtain ⟨G, e1, e2, e3, e4, e5, e6, ok, gat, back⟩ := h.wake (some Sa) A.in1.in1 s2 hr1 hfr (fun Sb q => by cases q; exact ⟨hz, hc⟩) hk (by rw [hg]) (by rw [hg]; exact hb) ho
  obtain ⟨GF, GX, GSo, Gouts, Gw, GH, GS, Gown⟩ := G
  dsimp only at e1 e2 e3 e4 e5 e6
  obtain rfl := e1.symm; obtain rfl := e2.symm; obtain rfl := e3.symm; obtain rfl := e4.symm
  rw [← e5, ← e6]
  have hsz : outs.length = ds.length := by rw [eo, List.length_map]
  have ge : s.heap.IsGen a g := h.gen
  have hcs : cStatics < s.heap.objs.size := let ⟨_, hn, _⟩ := h.lim; hn.lt
  have hal : a < s.heap.objs.size := let ⟨_, _, _, q, _⟩ := ge; Heap.lt_size q
  refine drainX (G := ⟨F, GX, some Sa, outs, Gw, GH, GS, (a, g)⟩) ok rfl (fun j hj => ?_) (by show outs.length ≤ _; rw [hsz]; exact hlen) hr.hd (by have := hr.dp; omega) (fun z => ?_) (fun z => ?_) (fun ip σ' w H s1 h' run hk' => ?_) outs.length 0 s2 (Nat.zero_add _) gat
  · show outs[j]? ≠ some none
    rw [eo, List.getElem?_map]
    cases ds[j]? <;> simp
  · have z : Sa = a := z
    rw [z] at hz
    exact absurd (Nat.lt_of_lt_of_le hal hz) (Nat.lt_irrefl _)
  · rw [z] at hz
    exact absurd (Nat.lt_of_lt_of_le hcs hz) (Nat.lt_irrefl _)
  · obtain ⟨I, st⟩ := back _ _ _ _ _ _ run
    obtain ⟨acc, c, vs, ds', q1, q2, q3, q4, q5, q6⟩ := run.lst rfl (Nat.le_refl _)
    have ed : ds' = ds := by
      have q5 : outs.take outs.length = ds'.map some := q5
      rw [List.take_length, eo] at q5
      have inj : Function.Injective (some : D → Option D) := fun _ _ h => Option.some.inj h
      exact (List.map_inj_right (fun _ _ h => Option.some.inj h)).mp q5.symm
    subst ed
    have q6 : acc.size = outs.length := q6
    exact hend acc c _ (hk' _ _ q1) (by rw [q6, hsz]) ⟨w, H, vs, Inv.grown (s := s1) (g' := (s1.setGen g .finished).gens) (d' := s1.drawn) (t' := s1.toks) I hk' (allBare_setGen I.bare rfl), st, q3, q4⟩
/-- Sa.extend(generator) -/
theorem extend_gen {ds : List D} {Sa : Addr} {res : Value} {R : Result → Shared → Prop} {hp : Heap} {n0 : Nat} (h : Ready F X pins σ k w0 H0 S outs a g s) (ha : allO outs = some ds) (hlen : ds.length ≤ sizeLine) (hr : Room (k + 1) A) (hfr : A.frames = some X.stack) (hb : AllBare s.gens)
    (hz : s.heap.objs.size ≤ Sa) (hS : hp.get? Sa = some { cls := .type "list", data := .seq #[] n0 }) (hk : ∀ b o, s.heap.get? b = some o → hp.get? b = some o)
    (hend : ∀ acc c s', s'.heap.get? Sa = some (lstObj acc c) → acc.size = ds.length → Got F X pins σ w0 H0 S ds acc s' → R (.ok (.ret res)) s') :
    wpAny (model X.prog X.w) A.in1 (Builtin.List.listExtendWith (.ref Sa) (.ref a) res) (fun fin s' => match fin with
      | .done f => R (.ok f) s'
      | .again c' => c'.quiet = true ∧ codeAny (model X.prog X.w) A c' R s') Er { s with heap := hp } := by
  have hal : a < s.heap.objs.size := let ⟨_, _, _, q, _⟩ := h.gen; Heap.lt_size q
  have hSa : Sa ≠ a := fun z => absurd (Nat.lt_of_lt_of_le hal (by rw [z] at hz; exact hz)) (Nat.lt_irrefl _)
  have gty : ∀ {h' : Heap}, (∀ b o, s.heap.get? b = some o → h'.get? b = some o) → h'.IsGen a g := fun {h'} q => h.gen.keeps q
  unfold Builtin.List.listExtendWith
  refine wpAny_bind (wpAny_typeOf (Heap.IsGen.typeIs (s := { s with heap := hp }) (gty hk)) ?_)
  have h1 : Builtin.List.listSameRef (.ref Sa) (.ref a) = false := by simp [Builtin.List.listSameRef, hSa]
  have h2 : (Value.type "generator" == Value.type "list") = false := by decide
  have h3 : (Value.type "generator" == Value.type "tuple") = false := by decide
  simp only [h1, h2, h3, Bool.or_false, Bool.false_eq_true, if_false]
  refine wpAny_bind (wpAny_pyIter_gen (s := { s with heap := hp }) (gty hk) (wpAny_bind (wpAny_holding ?_)))
  unfold Builtin.List.listLengthHint
  refine wpAny_bind (wpAny_specialOf (Heap.IsGen.typeIs (s := { s with heap := hp }) (gty hk)) PySem.F.gen_no_len ?_)
  show wpAny _ A.in1 (specialOf (Value.ref a) (Str.ofString "__length_hint__") >>= _) _ _ _
  refine wpAny_bind (wpAny_specialOf (Heap.IsGen.typeIs (s := { s with heap := hp }) (gty hk)) PySem.F.gen_no_hint (wpAny_pure ?_))
  show wpAny _ A.in1 (rule "list.extend.makes-room" >>= fun _ => Builtin.List.listTouch (.ref Sa) >>= fun _ => again (.builtin "list.extend.loop" ⟨[.ref Sa, .ref a, res], []⟩)) _ _ _
  refine wpAny_bind (wpAny_rule (wpAny_bind ?_))
  show wpAny _ A.in1 (updateSeq Sa (·.push .none) >>= fun _ => updateSeq Sa (·.pop)) _ _ _
  refine wpAny_bind (wpAny_updateSeq (s := { s with heap := hp }) hS rfl ?_)
  have q2 := Heap.get?_update_self (Obj.mapSeq (·.push Value.none)) hS rfl
  refine wpAny_updateSeq (hz := by seq_fits) q2 rfl ?_
  have q3 := Heap.get?_update_self (Obj.mapSeq (·.pop)) q2 rfl
  have oth : ∀ b o, s.heap.get? b = some o → ((hp.update Sa (Obj.mapSeq (·.push Value.none))).update Sa (Obj.mapSeq (·.pop))).get? b = some o := fun b o e => by
    have ne : Sa ≠ b := fun z => by
      have := Heap.lt_size e
      rw [← z] at this
      exact absurd (Nat.lt_of_lt_of_le this hz) (Nat.lt_irrefl _)
    exact (Heap.get?_update_other _ _ ne).trans ((Heap.get?_update_other _ _ ne).trans (hk b o e))
  exact wpAny_pure ⟨plainId_quiet PySem.F.plain_extend_loop _, fill (s2 := { s with heap := _ }) h ha hlen hr hfr hz ⟨_, q3⟩ oth rfl hb rfl hend⟩
theorem iadd_gen {ds : List D} {Sa : Addr} {R : Result → Shared → Prop} {hp : Heap} {n0 : Nat} (h : Ready F X pins σ k w0 H0 S outs a g s) (ha : allO outs = some ds) (hlen : ds.length ≤ sizeLine) (hr : Room (k + 1) A) (hfr : A.frames = some X.stack) (hb : AllBare s.gens)
    (hz : s.heap.objs.size ≤ Sa) (hS : hp.get? Sa = some { cls := .type "list", data := .seq #[] n0 }) (hk : ∀ b o, s.heap.get? b = some o → hp.get? b = some o)
    (hend : ∀ acc c s', s'.heap.get? Sa = some (lstObj acc c) → acc.size = ds.length → Got F X pins σ w0 H0 S ds acc s' → R (.ok (.ret (.ref Sa))) s') :
    codeAny (model X.prog X.w) A (.builtin "list.__iadd__" ⟨[.ref Sa, .ref a], []⟩) R { s with heap := hp } := by
  refine codeAny_builtin PySem.F.entry_list_iadd ?_
  rw [Around.under_plainId PySem.F.plain_list_iadd _]
  exact extend_gen h ha hlen hr hfr hb hz hS hk hend
theorem collect_gen {ds : List D} {Q : List Value → Shared → Prop} (h : Ready F X pins σ k w0 H0 S outs a g s) (ha : allO outs = some ds) (hlen : ds.length ≤ sizeLine) (hr : Room (k + 1) A) (hfr : A.frames = some X.stack) (hb : AllBare s.gens)
    (hQ : ∀ acc s', acc.size = ds.length → Got F X pins σ w0 H0 S ds acc s' → Q acc.toList s') : wpAny (model X.prog X.w) A (collect (.ref a)) Q Er s := by
  unfold collect
  refine wpAny_bind (wpAny_runValue (codeAny_builtin PySem.F.entry_proto_collect ?_))
  rw [Around.under_plainId PySem.F.plain_proto_collect _]
  show wpAny _ A.in1 (newList [] >>= fun l => again (.builtin "list.__iadd__" ⟨[l, .ref a], []⟩)) _ _ s
  refine wpAny_bind (wpAny_newObj_type ?_ (by show 0 ≤ sizeLine; decide))
  refine wpAny_pure ⟨plainId_quiet PySem.F.plain_list_iadd _, iadd_gen (hp := s.heap.push { cls := .type "list", data := .seq ([] : List Value).toArray }) h ha hlen hr hfr hb (Nat.le_refl _) (Heap.get?_push_size _ rfl) (fun b o e => Heap.get?_push_of_some _ e) fun acc c s' q1 q2 q3 => ?_⟩
  show wpAny _ A (load s.heap.objs.size >>= _) _ _ s'
  exact wpAny_bind (wpAny_load q1 (wpAny_pure (hQ acc s' q2 q3)))
/-- tuple(generator) -/
theorem code_tuple {ds : List D} {Q₁ : Value → Shared → Prop} (h : Ready F X pins σ k w0 H0 S outs a g s) (ha : allO outs = some ds) (hlen : ds.length ≤ sizeLine) (hr : Room (k + 2) A) (hfr : A.frames = some X.stack) (hb : AllBare s.gens)
    (hQ : ∀ acc s', acc.size = ds.length → Got F X pins σ w0 H0 S ds acc s' → Q₁ (.ref s'.heap.objs.size) { s' with heap := s'.heap.push { cls := .type "tuple", data := .seq acc } }) :
    codeAny (model X.prog X.w) A (.call (.builtin "tuple.__new__") ⟨[.type "tuple", .ref a], []⟩) (wants Q₁ Er) s := by
  refine codeAny_of_tree ?_
  show wpAny _ A.in1 (do checkBuiltinCall "tuple.__new__" ⟨[.type "tuple", .ref a], []⟩; again (.builtin "tuple.__new__" ⟨[.type "tuple", .ref a], []⟩)) _ _ s
  refine wpAny_bind (wpAny_of_eq (PySem.F.newCall_tuple_1 _) (wpAny_pure ⟨plainId_quiet PySem.F.plain_tuple_new _, codeAny_builtin PySem.F.entry_tuple_new ?_⟩))
  rw [Around.under_plainId PySem.F.plain_tuple_new _]
  have hsub := sub_tuple_self
  have hinit := init_tuple_lookup
  have hmh := madeHere_tuple
  have hTI : s.TypeIs (.ref a) "generator" := h.gen.typeIs
  have hr1 : Room (k + 1) A.in1 := ⟨hr.hd, by have := hr.dp; show A.depth + 3 * (k + 1) + 5 < _; omega, by have := hr.un; show A.units + 1 + 16 * (k + 1) + 200 < _; omega⟩
  wp_walk using wpAny_typeOf hTI, collect_gen h ha hlen hr1 hfr hb
  intro acc s' hsz hgot
  show wpAny _ _ (Builtin.Tuple.tupleExact acc.toList.toArray >>= fun v => ret v) _ _ _
  unfold Builtin.Tuple.tupleExact
  refine wpAny_bind (wpAny_newObj_type (wpAny_pure ?_) (by show acc.toList.toArray.size ≤ sizeLine; simp only [Array.toArray_toList]; omega))
  have e : acc.toList.toArray = acc := by simp
  rw [e]
  exact hQ acc s' hsz hgot
theorem call_tuple {ds : List D} {Q : Value → Shared → Prop} (h : Ready F X pins σ k w0 H0 S outs a g s) (ha : allO outs = some ds) (hlen : ds.length ≤ sizeLine) (hr : Room (k + 3) A) (hfr : A.frames = some X.stack) (hb : AllBare s.gens)
    (hQ : ∀ acc s', acc.size = ds.length → Got F X pins σ w0 H0 S ds acc s' → Q (.ref s'.heap.objs.size) { s' with heap := s'.heap.push { cls := .type "tuple", data := .seq acc } }) :
    wpAny (model X.prog X.w) A (call (.type "tuple") [.ref a]) Q Er s := by
  have hr1 : Room (k + 2) A.in1 := ⟨hr.hd, by have := hr.dp; show A.depth + 3 * (k + 2) + 5 < _; omega, by have := hr.un; show A.units + 1 + 16 * (k + 2) + 200 < _; omega⟩
  refine callType_codes (Q₁ := fun obj s₁ => s₁.TypeIs obj "tuple" ∧ Q obj s₁) PySem.F.called_tuple (PySem.F.typeCall_tuple_1 _) PySem.F.entry_object_init
    (code_tuple h ha hlen hr1 hfr hb fun acc s' hsz hgot => ⟨⟨_, Heap.get?_push_size _ rfl, rfl⟩, hQ acc s' hsz hgot⟩) fun obj s₁ h₁ => ?_
  exact ⟨h₁.1, PySem.F.args_object_init_2 obj _, object_init_meets PySem.F.called_tuple.init.lookup PySem.F.called_tuple.made (by decide) X.prog X.w A.in1 _ s₁ ⟨h₁.1, rfl, h₁.2⟩⟩
/-! ### any, all -/
def Gone (F : Fx) (X : Cx) (pins : List (Addr × PySem.Obj)) (σ : L2.St) (w0 : List Addr) (H0 : Hp) (S : Store) (s' : Shared) : Prop := ∃ (w : List Addr) (H : Hp), Inv X pins σ H s' ∧ Step F.K F.tb w0 H0 w H S
theorem anyG_cons {o : Option D} {r : List (Option D)} {b : Bool} (h : anyG (o :: r) = some b) : ∃ x, o = some (.bl x) ∧ ((x = true ∧ b = true) ∨ (x = false ∧ anyG r = some b)) := by
  cases o with
  | none => cases h
  | some d =>
    cases d with
    | bl x =>
      cases x with
      | true => exact ⟨true, rfl, .inl ⟨rfl, (Option.some.inj h).symm⟩⟩
      | false => exact ⟨false, rfl, .inr ⟨rfl, h⟩⟩
    | _ => cases h
theorem allG_cons {o : Option D} {r : List (Option D)} {b : Bool} (h : allG (o :: r) = some b) : ∃ x, o = some (.bl x) ∧ ((x = false ∧ b = false) ∨ (x = true ∧ allG r = some b)) := by
  cases o with
  | none => cases h
  | some d =>
    cases d with
    | bl x =>
      cases x with
      | false => exact ⟨false, rfl, .inl ⟨rfl, (Option.some.inj h).symm⟩⟩
      | true => exact ⟨true, rfl, .inr ⟨rfl, h⟩⟩
    | _ => cases h
theorem rv_bool {K : PySem.W.Frag} {w : List Addr} {H : Hp} {x : Bool} {v : V} {u : Value} (d : DV K w H (.bl x) v) (r : RelV v u) : u = .bool x := by cases d; exact r
/-- asleep, nothing is done -/
theorem slp_none {G : GFx} {u : Value} {s1 : Shared} {gs' : GenState} (hSo : G.So = none) (hb : AllBare s1.gens) (hg : gs'.bare = true) : Slp G.So u s1 ((s1.setGen G.own.2 gs').setGen G.own.2 .running) :=
  ⟨rfl, allBare_setGen (allBare_setGen hb hg) rfl, fun _ _ _ e => e, fun _ z => by rw [hSo] at z; cases z⟩
theorem any_loop {G : GFx} {R : Result → Shared → Prop} {b : Bool} (ok : GOk G) (hSo : G.So = none) (hh : A.handled = none) (hd : A.depth < recursionLimit)
    (hend : ∀ (ip : List (Addr × PySem.Obj)) (i : Nat) (σ : L2.St) (w : List Addr) (H : Hp) (s1 s' : Shared), GRun G ip i σ w H s1 → s'.os = s1.os → AllBare s'.gens → (∀ b o, s1.heap.get? b = some o → s'.heap.get? b = some o) → R (.ok (.ret (.bool b))) s') :
    ∀ (r i : Nat) (s : Shared), i + r = G.outs.length → GAt G A.in1.in1 i s → anyG (G.outs.drop i) = some b → codeAny (model G.X.prog G.X.w) A (.builtin "any.loop" ⟨[.ref G.own.1], []⟩) R s := by
  intro r
  induction r with
  | zero =>
    intro i s hi h hab
    have e : b = false := by rw [List.drop_of_length_le (by omega)] at hab; exact (Option.some.inj hab).symm
    subst e
    refine codeAny_builtin PySem.F.entry_any_loop ?_
    rw [Around.under_plainId PySem.F.plain_any_loop _]
    show wpAny _ A.in1 (pyNext (.ref G.own.1) >>= _) _ _ s
    refine wpAny_bind (gnext_end (A := A.in1) hh hd h (by omega) fun ip σ w H s1 h' run hk => ?_)
    exact wpAny_bind (wpAny_rule (wpAny_pure (hend ip _ σ w H s1 _ run rfl (allBare_setGen (by obtain ⟨_, _, _, I, _⟩ := run; exact I.bare) rfl) hk)))
  | succ r ih =>
    intro i s hi h hab
    have hlt : i < G.outs.length := by omega
    rw [List.drop_eq_getElem_cons hlt] at hab
    obtain ⟨x, ex, hx⟩ := anyG_cons hab
    have hdd : G.outs[i]? = some (some (.bl x)) := by rw [List.getElem?_eq_getElem hlt, ex]
    refine codeAny_builtin PySem.F.entry_any_loop ?_
    rw [Around.under_plainId PySem.F.plain_any_loop _]
    show wpAny _ A.in1 (pyNext (.ref G.own.1) >>= _) _ _ s
    refine wpAny_bind (gnext_item (A := A.in1) ok hh hd h hdd fun u vv w H ip σ s1 gs' rv dv run hb hg hk => ?_)
    obtain ⟨hgen, hlim⟩ := run.gen ok
    have hbare : AllBare s1.gens := by obtain ⟨_, _, _, I, _⟩ := run; exact I.bare
    obtain rfl := rv_bool dv rv
    refine wpAny_bind (wpAny_holding (wpAny_truthy_bool ?_))
    refine wpAny_bind (wpAny_letGo ?_)
    rcases hx with ⟨rfl, rfl⟩ | ⟨rfl, hab⟩
    · simp only [if_true]
      exact wpAny_bind (wpAny_rule (wpAny_pure (hend ip _ σ w H s1 _ run rfl (allBare_setGen hbare hb) fun _ _ e => e)))
    · simp only [Bool.false_eq_true, if_false]
      exact wpAny_pure ⟨plainId_quiet PySem.F.plain_any_loop _, ih (i + 1) _ (by omega) (hk _ (setGen_at hg) (slp_none hSo hbare hb) hgen hlim) hab⟩
theorem all_loop {G : GFx} {R : Result → Shared → Prop} {b : Bool} (ok : GOk G) (hSo : G.So = none) (hh : A.handled = none) (hd : A.depth < recursionLimit)
    (hend : ∀ (ip : List (Addr × PySem.Obj)) (i : Nat) (σ : L2.St) (w : List Addr) (H : Hp) (s1 s' : Shared), GRun G ip i σ w H s1 → s'.os = s1.os → AllBare s'.gens → (∀ b o, s1.heap.get? b = some o → s'.heap.get? b = some o) → R (.ok (.ret (.bool b))) s') :
    ∀ (r i : Nat) (s : Shared), i + r = G.outs.length → GAt G A.in1.in1 i s → allG (G.outs.drop i) = some b → codeAny (model G.X.prog G.X.w) A (.builtin "all.loop" ⟨[.ref G.own.1], []⟩) R s := by
  intro r
  induction r with
  | zero =>
    intro i s hi h hab
    have e : b = true := by rw [List.drop_of_length_le (by omega)] at hab; exact (Option.some.inj hab).symm
    subst e
    refine codeAny_builtin PySem.F.entry_all_loop ?_
    rw [Around.under_plainId PySem.F.plain_all_loop _]
    show wpAny _ A.in1 (pyNext (.ref G.own.1) >>= _) _ _ s
    refine wpAny_bind (gnext_end (A := A.in1) hh hd h (by omega) fun ip σ w H s1 h' run hk => ?_)
    exact wpAny_bind (wpAny_rule (wpAny_pure (hend ip _ σ w H s1 _ run rfl (allBare_setGen (by obtain ⟨_, _, _, I, _⟩ := run; exact I.bare) rfl) hk)))
  | succ r ih =>
    intro i s hi h hab
    have hlt : i < G.outs.length := by omega
    rw [List.drop_eq_getElem_cons hlt] at hab
    obtain ⟨x, ex, hx⟩ := allG_cons hab
    have hdd : G.outs[i]? = some (some (.bl x)) := by rw [List.getElem?_eq_getElem hlt, ex]
    refine codeAny_builtin PySem.F.entry_all_loop ?_
    rw [Around.under_plainId PySem.F.plain_all_loop _]
    show wpAny _ A.in1 (pyNext (.ref G.own.1) >>= _) _ _ s
    refine wpAny_bind (gnext_item (A := A.in1) ok hh hd h hdd fun u vv w H ip σ s1 gs' rv dv run hb hg hk => ?_)
    obtain ⟨hgen, hlim⟩ := run.gen ok
    have hbare : AllBare s1.gens := by obtain ⟨_, _, _, I, _⟩ := run; exact I.bare
    obtain rfl := rv_bool dv rv
    refine wpAny_bind (wpAny_holding (wpAny_truthy_bool ?_))
    refine wpAny_bind (wpAny_letGo ?_)
    rcases hx with ⟨rfl, rfl⟩ | ⟨rfl, hab⟩
    · simp only [Bool.false_eq_true, if_false]
      exact wpAny_bind (wpAny_rule (wpAny_pure (hend ip _ σ w H s1 _ run rfl (allBare_setGen hbare hb) fun _ _ e => e)))
    · simp only [if_true]
      exact wpAny_pure ⟨plainId_quiet PySem.F.plain_all_loop _, ih (i + 1) _ (by omega) (hk _ (setGen_at hg) (slp_none hSo hbare hb) hgen hlim) hab⟩
/-- what is left of it -/
theorem gone {ip : List (Addr × PySem.Obj)} {s1 s' : Shared} (h : Gone F X pins σ w0 H0 S s1) (ho : s'.os = s1.os) (hb : AllBare s'.gens) (hk : ∀ b o, s1.heap.get? b = some o → s'.heap.get? b = some o) : Gone F X pins σ w0 H0 S s' := by
  obtain ⟨w, H, I, st⟩ := h
  obtain ⟨hh, g, d, t, o⟩ := s'
  have ho : o = s1.os := ho
  subst ho
  exact ⟨w, H, Inv.grown (s := s1) I hk hb, st⟩
theorem call_any {b : Bool} {Q : Value → Shared → Prop} (h : Ready F X pins σ k w0 H0 S outs a g s) (ha : anyG outs = some b) (hr : Room (k + 2) A) (hfr : A.frames = some X.stack) (hb : AllBare s.gens)
    (hQ : ∀ s', Gone F X pins σ w0 H0 S s' → Q (.bool b) s') : wpAny (model X.prog X.w) A (call (.builtin "any") [.ref a]) Q Er s := by
  refine call_function_tree PySem.F.kind_any PySem.F.plain_any PySem.F.entry_any (PySem.F.args_any1 _) ?_
  unfold Builtin.«any»
  refine wpAny_bind (m := oneArg "any" _) (wpAny_pure ?_)
  refine wpAny_bind (wpAny_pyIter_gen h.gen ?_)
  have hr1 : Room k A.in1.in1 := ⟨hr.hd, by have := hr.dp; show A.depth + 3 * k + 5 < _; omega, by have := hr.un; show A.units + 1 + 1 + 16 * k + 200 < _; omega⟩
  obtain ⟨G, e1, e2, e3, e4, e5, e6, ok, gat, back⟩ := h.wake none A.in1.in1 s hr1 hfr (fun Sb q => by cases q) (fun _ _ e => e) rfl hb rfl
  obtain ⟨GF, GX, GSo, Gouts, Gw, GH, GS, Gown⟩ := G
  dsimp only at e1 e2 e3 e4 e5 e6
  obtain rfl := e1.symm; obtain rfl := e2.symm; obtain rfl := e3.symm; obtain rfl := e4.symm
  rw [← e5, ← e6]
  refine wpAny_pure ⟨plainId_quiet PySem.F.plain_any_loop _, any_loop (G := ⟨F, GX, none, outs, Gw, GH, GS, (a, g)⟩) ok rfl hr.hd (by have := hr.dp; omega) (fun ip i σ' w H s1 s' run ho hb' hk => ?_) outs.length 0 s (Nat.zero_add _) gat ha⟩
  obtain ⟨I, st⟩ := back _ _ _ _ _ _ run
  exact hQ s' (gone (ip := ip) ⟨w, H, I, st⟩ ho hb' hk)
theorem call_all {b : Bool} {Q : Value → Shared → Prop} (h : Ready F X pins σ k w0 H0 S outs a g s) (ha : allG outs = some b) (hr : Room (k + 2) A) (hfr : A.frames = some X.stack) (hb : AllBare s.gens)
    (hQ : ∀ s', Gone F X pins σ w0 H0 S s' → Q (.bool b) s') : wpAny (model X.prog X.w) A (call (.builtin "all") [.ref a]) Q Er s := by
  refine call_function_tree PySem.F.kind_all PySem.F.plain_all PySem.F.entry_all (PySem.F.args_all1 _) ?_
  unfold Builtin.«all»
  refine wpAny_bind (m := oneArg "all" _) (wpAny_pure ?_)
  refine wpAny_bind (wpAny_pyIter_gen h.gen ?_)
  have hr1 : Room k A.in1.in1 := ⟨hr.hd, by have := hr.dp; show A.depth + 3 * k + 5 < _; omega, by have := hr.un; show A.units + 1 + 1 + 16 * k + 200 < _; omega⟩
  obtain ⟨G, e1, e2, e3, e4, e5, e6, ok, gat, back⟩ := h.wake none A.in1.in1 s hr1 hfr (fun Sb q => by cases q) (fun _ _ e => e) rfl hb rfl
  obtain ⟨GF, GX, GSo, Gouts, Gw, GH, GS, Gown⟩ := G
  dsimp only at e1 e2 e3 e4 e5 e6
  obtain rfl := e1.symm; obtain rfl := e2.symm; obtain rfl := e3.symm; obtain rfl := e4.symm
  rw [← e5, ← e6]
  refine wpAny_pure ⟨plainId_quiet PySem.F.plain_all_loop _, all_loop (G := ⟨F, GX, none, outs, Gw, GH, GS, (a, g)⟩) ok rfl hr.hd (by have := hr.dp; omega) (fun ip i σ' w H s1 s' run ho hb' hk => ?_) outs.length 0 s (Nat.zero_add _) gat ha⟩
  obtain ⟨I, st⟩ := back _ _ _ _ _ _ run
  exact hQ s' (gone (ip := ip) ⟨w, H, I, st⟩ ho hb' hk)
end
end CH
/-! DA: a generator expression's value is ready to be walked. -/
namespace CH
open PySem PySem.Spec PyProof.Rows L2 GenW
def GCtx (X : Cx) (scope : Scope) (k : Nat) (Y : Cx) : Prop := ∃ (s : Shared) (H : Hp) (code : Value) (fp : List Addr) (A : Around) (pn : List (Addr × PySem.Obj)),
  Y = gxc X s H scope (gEnv X scope s.heap.objs.size (X.env.qual ++ "<genexpr>.") code) fp (A.deeper (gEnv X scope s.heap.objs.size (X.env.qual ++ "<genexpr>.") code)) pn ∧ Room k A
section
variable {F : Fx} {X : Cx} {pins : List (Addr × PySem.Obj)} {σ : L2.St} {k : Nat} {H : Hp} {s : Shared}
theorem pin_gxc {scope : Scope} {ge : PySem.Env} {fp : List Addr} {A : Around} {pn : List (Addr × PySem.Obj)} {H' : Hp} {s1 : Shared} {ps : List (Addr × PySem.Obj)} (I : Inv (gxc X s H scope ge fp A []) [] σ H' s1)
    (h : ∀ p ∈ pn ++ ps, s1.heap.get? p.1 = some p.2 ∧ H' p.1 = none ∧ p.1 ≠ ge.locals ∧ p.1 ∉ frs X.stack ∧ ∀ v, p.2.data ≠ .cell v) : Inv (gxc X s H scope ge fp A pn) ps σ H' s1 :=
  ⟨⟨I.ok.mod, I.ok.kind, I.ok.glob, I.ok.blt, I.ok.above, I.ok.inj, I.ok.has, I.ok.cab, I.ok.hd, I.ok.frames, I.ok.stk, I.ok.exf, I.ok.bs, I.ok.bsz, I.ok.noex, I.ok.exfs, I.ok.funs, I.ok.frf⟩, I.os, I.bare, I.base, I.loc, I.cell, I.free, I.freeC, h, I.hok, I.len⟩
theorem over_gen0 {A : Around} {elt : Expr} {cls : List Comprehension} {scope : Scope} {pos : Pos} {it : Value} {env : PySem.Env} : A.over (.compLoop (.GeneratorExp elt cls scope pos) 0 it .none env) [] = A.deeper env := by
  first
    | rfl
    | (obtain ⟨hd, d, fr, gs, u⟩ := A; simp [Around.over, Around.deeper, marksOver, frameCount, unitsOf, envsOf, guardsOf, pushEnvs, pushGuards, Code.envs, Code.env?, Code.isFrame, Code.guards, Code.isGuard, Code.weight, Code.frames, Code.isCreation, Code.isCaller, Code.cUnits])
theorem ready_of {elt tg iter : Expr} {ifs : List Expr} {more : List Comprehension} {scope : Scope} {gpos : Pos} {own : List (Str × Nat)} {w : List Addr} {S : Store} {ρ : Env} {xs : List D} {gr : Grd} {J : It} {it : Addr} {fp : List Addr} {tn : Nat → Heap → Prop} {s5 : Shared} {gv : Value}
    {t : Tg} {ft : Env → Store → R Bool} {emit : PySem.Env → Sem Unit} {fb : Env → List (Option D)} {vs : List Nat} (hK : X.K = F.K) (hc : X.calm = true) (hN : X.N.Nodup) (hco : scope.isCoroutine = false) (ok : BlkOk X.N X.env.scope scope own)
    (I : Inv X pins σ H s) (hS : SR F.K F.tb w H S) (hE : ER F.K w H ρ σ) (T : Turn X.prog X.w X.K tg J fp it tn) (st : tn 0 s.heap) (hfp : ∀ b ∈ fp, FpOk X pins H b ∧ b < s.heap.objs.size) (io : ItOk F w H xs gr J) (hgo : gr.ok S)
    (M : Made X scope (.GeneratorExp elt (⟨tg, iter, ifs, 0⟩ :: more) scope gpos) it s s5 gv)
    (hden0 : ∀ env it, ∃ hnd, (model X.prog X.w).den (.compStart (.GeneratorExp elt (⟨tg, iter, ifs, 0⟩ :: more) scope gpos) 0 (.ref it) .none env) = (compStart (.GeneratorExp elt (⟨tg, iter, ifs, 0⟩ :: more) scope gpos) 0 (.ref it) .none env).onRaise hnd)
    (hden1 : ∀ env it, ∃ hnd, (model X.prog X.w).den (.compLoop (.GeneratorExp elt (⟨tg, iter, ifs, 0⟩ :: more) scope gpos) 0 (.ref it) .none env) = (turnT iter.pos tg ifs (.ref it) env (emit env) (.compLoop (.GeneratorExp elt (⟨tg, iter, ifs, 0⟩ :: more) scope gpos) 0 (.ref it) .none env)).onRaise hnd)
    (hg : ∀ Y, GCtx X scope k Y → PG Y tg (TGX1 F t)) (ht : ∀ Y, GCtx X scope k Y → PTs Y ifs (TTX F EN ft)) (hem : ∀ G : GFx, GOk G → G.F = F → G.S = S → GCtx X scope k G.X → Emits G (emit G.X.env) fb vs)
    (hv1 : ∀ i ∈ t.vars ++ vs, i ∈ own.map (·.2)) (hdj : ∀ k ∈ vs, k ∉ t.vars) :
    ∃ a g, gv = .ref a ∧ AllBare s5.gens ∧ Ready F X pins σ k w H S (xs.flatMap fun x => turnG (bindT t [x] (wipeD ρ (own.map (·.2)))) (fun ρ => pureB (ft ρ S) S) fb) a g s5 := by
  obtain ⟨code, h', t1, t2, t', hns, hsb, rfl, rfl⟩ := M.it
  have szp : s.heap.objs.size < (pushCells (s.heap.push { cls := .type "frame", data := .dict #[] }) scope.names).objs.size := by
    have := pushCells_size scope.names (s.heap.push { cls := .type "frame", data := .dict #[] })
    rw [Heap.size_push] at this
    exact this
  have sz1 : s.heap.objs.size < h'.objs.size := by rw [hsb.1]; exact szp
  have kp : ∀ b o, s.heap.get? b = some o → h'.get? b = some o := fun b o e => (hsb.2 b (Nat.ne_of_lt (Heap.lt_size e))).trans (pushCells_keeps _ _ _ _ (Heap.get?_push_of_some _ e))
  have hb5 : AllBare (s.gens.push (.fresh (.compStart (.GeneratorExp elt (⟨tg, iter, ifs, 0⟩ :: more) scope gpos) 0 (.ref it) .none (gEnv X scope s.heap.objs.size (X.env.qual ++ "<genexpr>.") code)))) := AllBare.push I.bare rfl
  have hgo5 : ∀ h : Heap, (h.push (gObj s.gens.size t1 t2 (X.env.qual ++ "<genexpr>"))).get? h.objs.size = some (gObj s.gens.size t1 t2 (X.env.qual ++ "<genexpr>")) := fun h => Heap.get?_push_size _ rfl
  have lim5 : (h'.push (gObj s.gens.size t1 t2 (X.env.qual ++ "<genexpr>"))).NoLimit := I.nolimit.keeps fun b o e => Heap.get?_push_of_some _ (kp b o e)
  refine ⟨h'.objs.size, s.gens.size, rfl, hb5, ⟨⟨_, _, _, hgo5 h', rfl, rfl, rfl⟩, lim5, fun So A s2 hr hfr hSo hk2 hg2 hb2 ho2 => ?_⟩⟩
  generalize hge : gEnv X scope s.heap.objs.size (X.env.qual ++ "<genexpr>.") code = ge
  have eL : ge.locals = s.heap.objs.size := by rw [← hge]; rfl
  have I1 := inv_gen (qual := X.env.qual ++ "<genexpr>.") (code := code) (g' := s2.gens) (t' := s2.toks) I ok hN hfp hns hsb hb2 hfr hr.hd
  rw [hge] at I1
  have kp2 : ∀ b o, h'.get? b = some o → s2.heap.get? b = some o := fun b o e => hk2 b o (Heap.get?_push_of_some _ e)
  have eos : s2.os = s.os := ho2
  have I2 : Inv (gxc X s H scope ge fp (A.deeper ge) []) [] (wipe σ (own.map (·.2))) H (s2.setGen s.gens.size .running) := by
    obtain ⟨hh, g2, d2, tk2, o2⟩ := s2
    have e : o2 = s.os := eos
    subst e
    have q := Inv.grown (h' := hh) (g' := (Shared.setGen ⟨hh, g2, d2, tk2, s.os⟩ s.gens.size .running).gens) (d' := d2) (t' := tk2) I1 kp2 (allBare_setGen (s := ⟨hh, g2, d2, tk2, s.os⟩) hb2 rfl)
    exact q
  have cellLt : ∀ y c, ge.cells.lookup y = some c → c < h'.objs.size := fun y c e => by
    obtain ⟨v, o, q, _⟩ := I1.cell y c e
    exact Heap.lt_size q
  have stkNo : ∀ b, s.heap.objs.size ≤ b → b ∉ frs X.stack := fun b hb z => by
    rcases List.mem_cons.mp (I.stkSub b z) with z | z
    · rw [z] at hb
      exact absurd (Nat.lt_of_lt_of_le I.lt hb) (Nat.lt_irrefl _)
    · exact absurd z (I.nofs hb)
  let G : GFx := ⟨F, gxc X s H scope ge fp (A.deeper ge) [(h'.objs.size, gObj s.gens.size t1 t2 (X.env.qual ++ "<genexpr>"))], So, xs.flatMap fun x => turnG (bindT t [x] (wipeD ρ (own.map (·.2)))) (fun ρ => pureB (ft ρ S) S) fb, w, H, S, (h'.objs.size, s.gens.size)⟩
  have hctx : GCtx X scope k G.X := ⟨s, H, code, fp, A, [(h'.objs.size, gObj s.gens.size t1 t2 (X.env.qual ++ "<genexpr>"))], by rw [hge], hr⟩
  have hSa : ∀ Sa, So = some Sa → h'.objs.size < Sa := fun Sa e => by
    have := (hSo Sa e).1
    have q : (h'.push (gObj s.gens.size t1 t2 (X.env.qual ++ "<genexpr>"))).objs.size ≤ Sa := this
    rw [Heap.size_push] at q
    exact q
  have okG : GOk G := ⟨hK, hc, hS, fun p hp Sa e => by
      rw [List.mem_singleton.mp hp]
      exact Nat.ne_of_lt (hSa Sa e), fun Sa e => ⟨Nat.le_of_lt (Nat.lt_trans sz1 (hSa Sa e)), by show Sa ≠ ge.locals; rw [eL]; exact Nat.ne_of_gt (Nat.lt_trans sz1 (hSa Sa e)), fun y c q => Nat.ne_of_lt (Nat.lt_trans (cellLt y c q) (hSa Sa e))⟩,
    by show ge.scope.isCoroutine = false; rw [← hge]; exact hco, gObj s.gens.size t1 t2 (X.env.qual ++ "<genexpr>"), fun a g e => by cases e; exact ⟨List.mem_singleton.mpr rfl, _, _, rfl, rfl, rfl⟩⟩
  refine ⟨G, rfl, rfl, rfl, rfl, rfl, rfl, okG, ⟨?_, ?_, ?_⟩, fun ip i σ' w' H' s' run => ?_⟩
  · exact ⟨_, _, _, hk2 _ _ (hgo5 h'), rfl, rfl, rfl⟩
  · exact lim5.keeps hk2
  · refine ⟨.fresh (.compStart (.GeneratorExp elt (⟨tg, iter, ifs, 0⟩ :: more) scope gpos) 0 (.ref it) .none ge), ?_, fun nb => ⟨rfl, ?_⟩⟩
    · show s2.gens[s.gens.size]? = _
      rw [hg2, ← hge]
      exact Array.getElem?_push_size ..
    · have sg : (s2.setGen s.gens.size .running).heap = s2.heap := rfl
      have st2 : tn 0 (s2.setGen s.gens.size .running).heap := T.keep _ _ _ st fun b hb o e => kp2 b o (kp b o e)
      obtain ⟨hnd0, hd0⟩ := hden0 ge it
      obtain ⟨hnd1, hd1⟩ := hden1 ge it
      refine seg_start (tg := tg) (iter := iter) (ifs := ifs) hd0 rfl rfl T st2 ?_
      have run0 : GRun G [] 0 (wipe σ (own.map (·.2))) w H (s2.setGen s.gens.size .running) := by
        refine ⟨fun p hp => absurd hp (by simp), ?_⟩
        have gpin : ∀ (ps : List (Addr × PySem.Obj)), (∀ p ∈ ps, s2.heap.get? p.1 = some p.2 ∧ h'.objs.size < p.1 ∧ ∀ v, p.2.data ≠ .cell v) → Inv G.X (ps ++ []) (wipe σ (own.map (·.2))) H (s2.setGen s.gens.size .running) := fun ps hps => by
          rw [List.append_nil]
          refine pin_gxc I2 fun p hp => ?_
          rcases List.mem_append.mp hp with z | z
          · rw [List.mem_singleton.mp z]
            exact ⟨hk2 _ _ (hgo5 h'), I.hok.fresh (Nat.le_of_lt sz1), by show h'.objs.size ≠ ge.locals; rw [eL]; exact Nat.ne_of_gt sz1, stkNo _ (Nat.le_of_lt sz1), fun v q => by cases q⟩
          · obtain ⟨q1, q2, q3⟩ := hps p z
            have q4 := Nat.lt_trans sz1 q2
            exact ⟨q1, I.hok.fresh (Nat.le_of_lt q4), by rw [eL]; exact Nat.ne_of_gt q4, stkNo _ (Nat.le_of_lt q4), q3⟩
        cases hSo' : So with
        | none => exact ⟨[], by show OwnAt _ So _ _ _ _ _; rw [hSo']; rfl, gpin [] (fun p hp => absurd hp (by simp)), Step.refl hS⟩
        | some Sa =>
          obtain ⟨_, c, ec⟩ := hSo Sa hSo'
          refine ⟨[(Sa, lstObj #[] c)], by show OwnAt _ So _ _ _ _ _; rw [hSo']; exact ⟨#[], c, [], [], rfl, .nil, .nil, rfl⟩, gpin _ fun p hp => ?_, Step.refl hS⟩
          rw [List.mem_singleton.mp hp]
          exact ⟨ec, hSa Sa hSo', fun v q => by cases q⟩
      have hfpS : ∀ b ∈ fp, FpS G [] b := fun b hb => by
        obtain ⟨_, op, _, I3, _⟩ := run0
        have x1 := I3.ok.exf b hb
        refine ⟨x1.1, I3.ok.exfs b hb, .inl hb, x1.2, fun p hp => ?_, fun z => ?_⟩
        · rw [List.append_nil] at hp
          rw [List.mem_singleton.mp hp]
          exact Nat.ne_of_gt (Nat.lt_trans (hfp b hb).2 sz1)
        · exact absurd (Nat.lt_trans (Nat.lt_trans (hfp b hb).2 sz1) (hSa b z)) (Nat.lt_irrefl _)
      refine seg_lvl (G := G) okG hd1 rfl T io hgo (Step.refl hS) (hg _ hctx) (ht _ hctx) (hem G okG rfl rfl hctx) ⟨over_gen0, rfl, rfl, rfl⟩ hfpS (fun b hb Sa e => ?_) (fun _ _ z => z) (ρ := wipeD ρ (own.map (·.2))) (fun j hj d q => (wipeD_some q).2 (hv1 j hj)) hdj xs.length 0 _ _ _ (wipe σ (own.map (·.2))) w H 0 (Nat.zero_add _) run0 (Step.refl hS) st2 (fun b hb => (hfp b hb).1.1) (hE.wipe _) rfl nb ⟨[], by simp [G]⟩ ?_
      · intro z
        exact absurd (Nat.lt_trans (Nat.lt_trans (hfp b hb).2 sz1) (hSa Sa e)) (by rw [z]; exact Nat.lt_irrefl _)
      · rw [List.drop_zero, Nat.zero_add]
        intro n' s₀' s' σ' w' H' run' _ _ _ hn' _
        refine seg_end (.ok .next) (.inl ⟨.inr rfl, ?_, [], σ', w', H', run'⟩)
        have : n' + G.outs.length = G.outs.length := hn'
        omega
  · obtain ⟨_, op, _, I3, sw⟩ := run
    exact ⟨I.call' (ch := fp) I3.os I3.base I3.hok I3.bare fun b hb => ⟨(hfp b hb).1.2.2.2.1, (hfp b hb).1.2.1, (hfp b hb).1.2.2.2.2.1, (hfp b hb).1.2.2.2.2.2⟩, sw⟩
end
end CH
/-! DB: tuple(..), any(..), all(..) of a generator expression. -/
namespace CH
open PySem PySem.Spec PyProof.Rows L2 GenW
def notLstE : Expr → Bool
  | .List _ _ => false
  | _ => true
theorem gi_none {tg iter : Expr} {ifs : List Expr} {more : List Comprehension} (h1 : notSetE iter = true) (h2 : notLstE iter = true) (env : PySem.Env) (v : Value) : genexprIterable false (⟨tg, iter, ifs, 0⟩ :: more) env v = pure v := by
  cases iter <;> first | rfl | (cases h1; done) | (cases h2; done)
theorem genR_tuple (ys : List (Option D)) (S : Store) : genR .tuple ys S = match allO ys with
    | none => .bad
    | some xs => if xs.length ≤ sizeLine then .ok (RV.d (.tup xs)) S else .bad := by
  unfold genR
  cases allO ys <;> rfl
theorem tab_step {F : Fx} {w : List Addr} {H1 H2 : Hp} {S : Store} {P : Addr} (hS : SR F.K F.tb w H1 S) (h : GxR.Tabbed P H1 H2) (hP : GxR.TabG H1 P) : Step F.K F.tb w H1 w H2 S := by
  obtain ⟨ps, e1, e2⟩ := hP
  have nP : ∀ b u, H1 b = some u → (∀ q, u ≠ .tbl q) → H2 b = H1 b := fun b u e q => h.2 b fun z => by
    rw [z, e1] at e
    exact q ps (Option.some.inj e).symm
  have sq : ∀ a xs, PlT F.K H1 a xs → PlT F.K H2 a xs := fun a xs q => by
    rcases q with ⟨o, q1, q⟩ | q
    · exact .inl ⟨o, q1, (nP _ _ q fun _ z => by cases z).trans q⟩
    · exact .inr q
  have fr : ∀ a xs, FrL F.K H1 a xs → FrL F.K H2 a xs := fun a xs q => by
    rcases q with ⟨o, q⟩ | q
    · exact .inl ⟨o, (nP _ _ q fun _ z => by cases z).trans q⟩
    · exact .inr q
  refine ⟨⟨[], by simp, by simp⟩, fun a o e _ => ?_, ⟨hS.len, hS.nd, fun r c e => ?_, fun P' hP' => ?_⟩, fun b o u e => (nP _ _ e fun _ z => by cases z).trans e⟩
  · by_cases ha : a = P
    · subst ha
      rw [e1] at e; cases e
      obtain ⟨qs, q1, _⟩ := h.1
      exact .inr ⟨ps, qs, rfl, q1⟩
    · exact .inl ((h.2 a ha).trans e)
  · obtain ⟨a, ho, f1, f2, f3⟩ := hS.at_ r c e
    exact ⟨a, ho, f1, (nP _ _ f2 f3.noTup.2.2.2).trans f2, f3.mono sq fr fun _ _ z => z⟩
  · by_cases ha : P' = P
    · rw [ha]; exact h.1
    · obtain ⟨qs, q1, q2⟩ := hS.tab P' hP'
      exact ⟨qs, (h.2 P' ha).trans q1, q2⟩
theorem ItOk.step {F : Fx} {w w' : List Addr} {H H' : Hp} {S S' : Store} {xs : List D} {g : Grd} {J : It} (hS : SR F.K F.tb w H S) (st : Step F.K F.tb w H w' H' S') (io : ItOk F w H xs g J) : ItOk F w' H' xs g J :=
  ⟨io.len, fun w2 H2 S2 s2 => io.go w2 H2 S2 (st.trans hS s2), fun w2 H2 S2 s2 => io.stop w2 H2 S2 (st.trans hS s2)⟩
/-- what is seen of a generator expression's text and place -/
structure GenOk (F : Fx) (E : XK) (X : Cx) (k : Nat) (tg iter : Expr) (ifs : List Expr) (more : List Comprehension) (scope : Scope) (own : List (Str × Nat)) (ge : Expr) (fi : Env → Store → R (List D × Grd)) (t : Tg) (ft : Env → Store → R Bool) (fb : Env → Store → List (Option D)) : Prop where
  K : X.K = F.K
  calm : X.calm = true
  nd : X.N.Nodup
  tab : ∃ c P, X.env.code = .ref c ∧ P ∈ F.tb ∧ GxR.TabB X.base X.mg c P
  co : scope.isCoroutine = false
  ok : BlkOk X.N X.env.scope scope own
  dot : scope.names.lookup (".0" : Str) = some .local
  ns : notSetE iter = true
  nl : notLstE iter = true
  hi : PI X tg iter (TIX F E fi)
  em : ∃ (emit : PySem.Env → Sem Unit) (vs : List Nat), (∀ i ∈ t.vars ++ vs, i ∈ own.map (·.2)) ∧ (∀ j ∈ vs, j ∉ t.vars) ∧
    (∀ env it, ∃ hnd, (model X.prog X.w).den (.compStart ge 0 (.ref it) .none env) = (compStart ge 0 (.ref it) .none env).onRaise hnd) ∧
    (∀ env it, ∃ hnd, (model X.prog X.w).den (.compLoop ge 0 (.ref it) .none env) = (turnT iter.pos tg ifs (.ref it) env (emit env) (.compLoop ge 0 (.ref it) .none env)).onRaise hnd) ∧
    ∀ S, ∀ G : GFx, GOk G → G.F = F → G.S = S → GCtx X scope k G.X → Emits G (emit G.X.env) (fun ρ => fb ρ S) vs
  hg : ∀ Y, GCtx X scope k Y → PG Y tg (TGX1 F t)
  ht : ∀ Y, GCtx X scope k Y → PTs Y ifs (TTX F EN ft)
noncomputable def strmF (t : Tg) (own : List (Str × Nat)) (ft : Env → Store → R Bool) (fb : Env → Store → List (Option D)) (xs : List D) (ρ : Env) (S : Store) : List (Option D) :=
  xs.flatMap fun x => turnG (bindT t [x] (wipeD ρ (own.map (·.2)))) (fun ρ => pureB (ft ρ S) S) (fun ρ => fb ρ S)
section
variable {F : Fx} {E : XK} {X : Cx} {k : Nat} {tg iter elt : Expr} {ifs : List Expr} {more : List Comprehension} {scope : Scope} {own : List (Str × Nat)} {gpos : Pos} {fi : Env → Store → R (List D × Grd)} {t : Tg} {ft : Env → Store → R Bool} {fb : Env → Store → List (Option D)}
  {pins : List (Addr × PySem.Obj)} {σ : L2.St} {s : Shared} {w : List Addr} {H : Hp} {ρ : Env} {S : Store} {kk : RV → Store → Prop}
theorem gen_go (h : GenOk F E X k tg iter ifs more scope own (.GeneratorExp elt (⟨tg, iter, ifs, 0⟩ :: more) scope gpos) fi t ft fb) (hd : X.A.depth < recursionLimit) (c : Gc) (I : Inv X pins σ H s) (hS : SR F.K F.tb w H S) (hE : ER F.K w H ρ σ)
    (hf : FinG F E ((fi ρ S).bind fun a S => if a.2.ok S then genR c (strmF t own ft fb a.1 ρ S) S else .bad) w H kk) :
    wpAny (model X.prog X.w) X.A (eval (.GeneratorExp elt (⟨tg, iter, ifs, 0⟩ :: more) scope gpos) X.env) (fun u s5 => ∃ (xs : List D) (S1 : Store) (w1 : List Addr) (H1 : Hp) (a g : Nat), u = .ref a ∧ AllBare s5.gens ∧ Step F.K F.tb w H w1 H1 S1 ∧ Ready F X pins σ k w1 H1 S1 (strmF t own ft fb xs ρ S1) a g s5 ∧
      FinG F E (genR c (strmF t own ft fb xs ρ S1) S1) w H kk) X.xe s := by
  obtain ⟨cc, P, hcode, hP, TB⟩ := h.tab
  obtain ⟨emit, vs, hv, hdj, hden0, hden1, hem⟩ := h.em
  refine gen_make hd TB hcode h.co h.ok h.dot h.hi (gi_none h.ns h.nl X.env) I
    (R := fun J H1 => ∃ (xs : List D) (gr : Grd) (S1 : Store) (w1 : List Addr), Step F.K F.tb w H w1 H1 S1 ∧ ItOk F w1 H1 xs gr J ∧ gr.ok S1 ∧ FinG F E (genR c (strmF t own ft fb xs ρ S1) S1) w H kk) ⟨w, ρ, S, hS, hE, hf.bind.mono fun a S1 _ h1 w1 H1 J st io => ?_⟩ ?_
  · obtain ⟨xs, gr⟩ := a
    dsimp only at h1 io
    refine ⟨st.sr.tab P hP, xs, gr, S1, w1, st, io, ?_⟩
    by_cases hg : gr.ok S1
    · rw [if_pos hg] at h1
      exact ⟨hg, h1⟩
    · rw [if_neg hg] at h1; exact h1.elim
  · rintro it fp tn J H1 H2 s3 s5 g ⟨xs, gr, S1, w1, st, io, hgo, hk⟩ tabd tabg I3 T st3 hfp M
    have ts := tab_step st.sr tabd tabg
    have st2 := st.trans hS ts
    obtain ⟨a, gg, e1, e2, rdy⟩ := ready_of h.K h.calm h.nd h.co h.ok I3 ts.sr (hE.step hS st2) T st3 hfp (io.step st.sr ts) hgo M hden0 hden1 h.hg h.ht (hem S1) hv hdj
    exact ⟨xs, S1, w1, H2, a, gg, e1, e2, st2, rdy, hk⟩
theorem lay_tup {H' : Hp} {s' : Shared} {acc : Array Value} {vs : List V} (I : Inv X pins σ H' s') (r : Vals vs acc.toList) (hl : vs.length ≤ sizeLine) : Inv X pins σ (upd H' s'.heap.objs.size (.frz (plO acc) (.tup vs))) { s' with heap := s'.heap.push (plO acc) } :=
  I.laid (t' := s'.toks) (fun b o e => Heap.get?_push_of_some _ e) (Nat.le_refl _) ⟨Heap.get?_push_size _ rfl, hl, acc.toList, r, _, Heap.get?_push_size _ rfl, rfl, 0, by simp [plO]⟩
theorem snd_gtup {nm : Str} {p pos : Pos} (h : GenOk F E X k tg iter ifs more scope own (.GeneratorExp elt (⟨tg, iter, ifs, 0⟩ :: more) scope gpos) fi t ft fb) (hr : Room (k + 3) X.A) (hg : Gl X nm) (hm : X.mg nm = none) (hv : bootBuiltins nm = some (.type "tuple")) (hn : nm ≠ "__name__") (hdb : (nm == ("__debug__" : Str)) = false) :
    PE X (.Call (.Name nm p) [.GeneratorExp elt (⟨tg, iter, ifs, 0⟩ :: more) scope gpos] [] pos) (TX F E fun ρ S => (fi ρ S).bind fun a S => if a.2.ok S then genR .tuple (strmF t own ft fb a.1 ρ S) S else .bad) := by
  refine ⟨fun pins s σ H Q I ⟨w, ρ, S, hS, hE, hf⟩ => ?_⟩
  refine wpAny_Call_Name_kw (ld_blt I hg hm hv ?_ hn hdb)
  refine PyProof.Rows.callWith_type1 (args_cons (thn (gen_go h (by have := hr.dp; omega) .tuple I hS hE (finE_iff.mp hf)) fun u s5 h5 => args_nil ?_) rfl) rfl rfl
  obtain ⟨xs, S1, w1, H1, a, g, rfl, hb, st, rdy, hk⟩ := h5
  rw [genR_tuple] at hk
  cases ha : allO (strmF t own ft fb xs ρ S1) with
  | none => rw [ha] at hk; exact hk.elim
  | some ys =>
    rw [ha] at hk
    dsimp only at hk
    by_cases hz : ys.length ≤ sizeLine
    · rw [if_pos hz] at hk
      refine call_tuple rdy ha hz hr I.ok.frames hb fun acc s' hsz ⟨w2, H2, vs, I2, st2, rv, dv⟩ => ?_
      have hp : H2 s'.heap.objs.size = none := I2.hok.fresh (Nat.le_refl _)
      have stw := st.trans hS st2
      obtain ⟨st3, rv3⟩ := new_tup (ob := plO acc) hS stw rfl hp dv
      exact ⟨.ref s'.heap.objs.size, _, lay_tup I2 rv (by rw [← dv.length]; exact hz), rfl, (show ∀ w' H' v, Step F.K F.tb w H w' H' S1 → RVr F.K w' H H' (.d (.tup ys)) v → Q v H' from hk) _ _ _ st3 rv3⟩
    · rw [if_neg hz] at hk; exact hk.elim
theorem snd_gany {nm : Str} {p pos : Pos} (h : GenOk F E X k tg iter ifs more scope own (.GeneratorExp elt (⟨tg, iter, ifs, 0⟩ :: more) scope gpos) fi t ft fb) (hr : Room (k + 3) X.A) (hg : Gl X nm) (hm : X.mg nm = none) (hv : bootBuiltins nm = some (.builtin "any")) (hn : nm ≠ "__name__") (hdb : (nm == ("__debug__" : Str)) = false) :
    PE X (.Call (.Name nm p) [.GeneratorExp elt (⟨tg, iter, ifs, 0⟩ :: more) scope gpos] [] pos) (TX F E fun ρ S => (fi ρ S).bind fun a S => if a.2.ok S then genR .any (strmF t own ft fb a.1 ρ S) S else .bad) := by
  refine ⟨fun pins s σ H Q I ⟨w, ρ, S, hS, hE, hf⟩ => ?_⟩
  refine wpAny_Call_Name_kw (ld_blt I hg hm hv ?_ hn hdb)
  refine PyProof.Rows.callWith_builtin1 (args_cons (thn (gen_go h (by have := hr.dp; omega) .any I hS hE (finE_iff.mp hf)) fun u s5 h5 => args_nil ?_) rfl) rfl rfl
  obtain ⟨xs, S1, w1, H1, a, g, rfl, hb, st, rdy, hk⟩ := h5
  obtain ⟨v, ev, hk⟩ := (show FinG F E (R.of ((anyG (strmF t own ft fb xs ρ S1)).map fun b => RV.d (.bl b)) S1) w H _ from hk).of
  obtain ⟨b, ha, rfl⟩ := map_some_of ev
  have hr2 : Room (k + 2) X.A := ⟨hr.hd, by have := hr.dp; omega, by have := hr.un; omega⟩
  refine call_any rdy ha hr2 I.ok.frames hb fun s' ⟨w2, H2, I2, st2⟩ => ?_
  exact ⟨.bl b, H2, I2, rfl, hk w2 H2 _ (st.trans hS st2) (.bl b)⟩
theorem snd_gall {nm : Str} {p pos : Pos} (h : GenOk F E X k tg iter ifs more scope own (.GeneratorExp elt (⟨tg, iter, ifs, 0⟩ :: more) scope gpos) fi t ft fb) (hr : Room (k + 3) X.A) (hg : Gl X nm) (hm : X.mg nm = none) (hv : bootBuiltins nm = some (.builtin "all")) (hn : nm ≠ "__name__") (hdb : (nm == ("__debug__" : Str)) = false) :
    PE X (.Call (.Name nm p) [.GeneratorExp elt (⟨tg, iter, ifs, 0⟩ :: more) scope gpos] [] pos) (TX F E fun ρ S => (fi ρ S).bind fun a S => if a.2.ok S then genR .all (strmF t own ft fb a.1 ρ S) S else .bad) := by
  refine ⟨fun pins s σ H Q I ⟨w, ρ, S, hS, hE, hf⟩ => ?_⟩
  refine wpAny_Call_Name_kw (ld_blt I hg hm hv ?_ hn hdb)
  refine PyProof.Rows.callWith_builtin1 (args_cons (thn (gen_go h (by have := hr.dp; omega) .all I hS hE (finE_iff.mp hf)) fun u s5 h5 => args_nil ?_) rfl) rfl rfl
  obtain ⟨xs, S1, w1, H1, a, g, rfl, hb, st, rdy, hk⟩ := h5
  obtain ⟨v, ev, hk⟩ := (show FinG F E (R.of ((allG (strmF t own ft fb xs ρ S1)).map fun b => RV.d (.bl b)) S1) w H _ from hk).of
  obtain ⟨b, ha, rfl⟩ := map_some_of ev
  have hr2 : Room (k + 2) X.A := ⟨hr.hd, by have := hr.dp; omega, by have := hr.un; omega⟩
  refine call_all rdy ha hr2 I.ok.frames hb fun s' ⟨w2, H2, I2, st2⟩ => ?_
  exact ⟨.bl b, H2, I2, rfl, hk w2 H2 _ (st.trans hS st2) (.bl b)⟩
end
end CH
/-! DC: from the text to the intermediate programs. -/
namespace CH
open PySem PySem.Spec PyProof.Rows L2
def visB (sc : Scope) (x : Str) : Bool := match sc.names.lookup x with
  | some .local => true
  | some .cell => true
  | some .free => true
  | _ => false
def locB (sc : Scope) (x : Str) : Bool := match sc.names.lookup x with
  | some .local => true
  | some .cell => true
  | _ => false
def lclB (sc : Scope) (x : Str) : Bool := match sc.names.lookup x with
  | some .local => true
  | _ => false
def cllB (sc : Scope) (x : Str) : Bool := match sc.names.lookup x with
  | some .cell => true
  | _ => false
def glB (sc : Scope) (x : Str) : Bool := match sc.names.lookup x with
  | some .globalImplicit => true
  | _ => false
def nmOk (x : Str) : Bool := !(x == ("__debug__" : Str)) && !(x == ("__classdict__" : Str)) && !(x == ("__name__" : Str))
def slotOf (N : List Str) (x : Str) : Option Nat := N.findIdx? fun y => decide (y = x)
def bopOf : Operator → Option Bop
  | .Add => some .add | .Sub => some .sub | .Mult => some .mul | .FloorDiv => some .fdiv | .Mod => some .mod | .Pow => some .pow
  | _ => none
def copB : CmpOp → Option Cop
  | .Eq => some .eq | .NotEq => some .ne | .Lt => some .lt | .LtE => some .le | .Gt => some .gt | .GtE => some .ge | .Is => some .is | .IsNot => some .isn | .In => some .mem | .NotIn => some .nmem
def b1Tab : List (Str × B1) := [("len", .len), ("int", .int), ("tuple", .tuple), ("list", .list), ("sorted", .sorted), ("sum", .sum), ("max", .max), ("min", .min), ("any", .any), ("all", .all), ("bool", .bool), ("abs", .abs), ("dict", .dict)]
def b2Tab : List (Str × B2) := [("max", .max), ("min", .min)]
def tyTab : List (Str × Ty) := [("int", .int), ("bool", .bool), ("str", .str), ("tuple", .tuple), ("list", .list), ("dict", .dict)]
def gcTab : List (Str × Gc) := [("tuple", .tuple), ("any", .any), ("all", .all)]
def meTab : List (Str × Me) := [("append", .append), ("extend", .extend), ("pop", .pop), ("index", .index), ("count", .count), ("get", .get)]
/-- the slots of a block's own names -/
def ownOf (N : List Str) (scope : Scope) : List (Str × Nat) := scope.names.filterMap fun y => match y.2 with
  | .local => (slotOf N y.1).map fun i => (y.1, i)
  | .cell => (slotOf N y.1).map fun i => (y.1, i)
  | _ => none
def Cs.blk (c : Cs) (scope : Scope) : Cs := { N := c.N, sc := relS scope c.sc, fn := fun x => scope.names.lookup x == some .cell, tab := c.tab }
def Cs.gen (c : Cs) (scope : Scope) : Cs := { N := c.N, sc := scope, fn := fun x => scope.names.lookup x == some .cell, tab := false }
def isSlice : Expr → Bool
  | .Slice _ _ _ _ => true
  | _ => false
/-- targets -/
def trG : Nat → Cs → List Expr → Option Tg
  | 0, _, _ => none
  | _ + 1, _, [] => some .nil
  | n + 1, c, e :: es => match e with
    | .Name x _ => if locB c.sc x && (c.fn x || lclB c.sc x) then (match slotOf c.N x, trG n c es with
      | some i, some r => some (.var i r)
      | _, _ => none) else none
    | .Tuple ts _ _ => (match trG n c ts, trG n c es with
      | some t, some r => some (.tup t r)
      | _, _ => none)
    | _ => none
/-- one target -/
def trG1 (n : Nat) (c : Cs) (e : Expr) : Option Tg := trG n c [e]
def okBlk (c : Cs) (scope : Scope) : Bool := blkC c.N c.sc scope (ownOf c.N scope)
def subs (a b : List Nat) : Bool := a.all fun i => decide (i ∈ b)
def disj (a b : List Nat) : Bool := a.all fun i => !decide (i ∈ b)
def blt (P : Prg) (c : Cs) (x : Str) : Bool := glB c.sc x && nmOk x && decide (x ∈ P.blt)
def sameLine (a b : Pos) : Bool := a.endLine == b.line
def isTupE : Expr → Bool
  | .Tuple _ _ _ => true
  | _ => false
/-- sorted(set(b)) -/
def ssA (P : Prg) (c : Cs) (x : Str) (a : Expr) : Option Expr := match a with
  | .Call (.Name y _) [b] [] _ => if decide (x = ("sorted" : Str)) && decide (y = ("set" : Str)) && blt P c y && notStar b then some b else none
  | _ => none
/-- a written table -/
def tabE (P : Prg) (c : Cs) (e : Expr) : Option (Str × List (Str × D)) := match e with
  | .Name x _ => if nmOk x && glB c.sc x then (P.dcs.lookup x).map fun tb => (x, tb) else none
  | _ => none
def revE (e : Expr) : Bool := match e with
  | .Slice none none (some (.UnaryOp .USub (.Constant (.int 1) _ _) _)) _ => true
  | _ => false
mutual
def trE : Nat → Prg → Cs → Expr → Option Ex
  | 0, _, _, _ => none
  | n + 1, P, c, e => match e with
    | .Name x _ => if nmOk x then (if visB c.sc x then (slotOf c.N x).map Ex.var else if glB c.sc x then (P.con.lookup x).map Ex.con else none) else none
    | .Constant k _ _ => (match k with
      | .int i => some (.con (.int i))
      | .bool b => some (.con (.bl b))
      | .none => some (.con .non)
      | .str x => some (.con (.str x))
      | _ => none)
    | .Tuple es _ _ => if es.length ≤ 1000 then (trEs n P c es).map .tup else none
    | .List es _ => if es.length ≤ 1000 then (trEs n P c es).map .lst else none
    | .Dict [] [] _ => some .dnew
    | .Dict ks vs _ => if ks.all (·.isSome) && (decide (ks.length = vs.length) && (decide (ks.length ≤ 15) && !ks.isEmpty)) then (trP n P c ks vs).map .dsp else none
    | .BinOp a o b _ => (match bopOf o, trE n P c a, trE n P c b with
      | some o, some a, some b => some (.bin o a b)
      | _, _, _ => none)
    | .UnaryOp o a _ => (match o, trE n P c a with
      | .USub, some a => some (.neg a)
      | .Not, some a => some (.not a)
      | _, _ => none)
    | .BoolOp o es p => (match o, es with
      | _, [a] => trE n P c a
      | .And, a :: b :: r => (match trE n P c a, trE n P c (.BoolOp .And (b :: r) p) with
        | some a, some b => some (.and a b)
        | _, _ => none)
      | .Or, a :: b :: r => (match trE n P c a, trE n P c (.BoolOp .Or (b :: r) p) with
        | some a, some b => some (.or a b)
        | _, _ => none)
      | _, _ => none)
    | .Compare a os es _ => (match os, es with
      | [o], [b] => (match tabE P c b with
        | some (nm, tb) => (match o with
          | .In => (trE n P c a).map fun a => .kd .mem nm tb a (.con .non)
          | .NotIn => (trE n P c a).map fun a => .kd .nmem nm tb a (.con .non)
          | _ => none)
        | none => if behindInMarks o b then none else (match copB o, trE n P c a, trE n P c b with
          | some o, some a, some b => some (.cmp o a b)
          | _, _, _ => none))
      | [o, q], [b, d] => if lastMarks [o, q] [b, d] then none else (match copB o, copB q, trE n P c a, trE n P c b, trE n P c d with
        | some o, some q, some a, some b, some d => some (.chn o q a b d)
        | _, _, _, _, _ => none)
      | _, _ => none)
    | .IfExp t a b _ => (match trT n P c t, trE n P c a, trE n P c b with
      | some t, some a, some b => some (.ite t a b)
      | _, _, _ => none)
    | .Subscript a i _ => (match i with
      | .Slice lo hi none _ => (match trE n P c a, trO n P c lo, trO n P c hi with
        | some a, some l, some h => some (.slc a l h)
        | _, _, _ => none)
      | i => if isSlice i then (if revE i then (trE n P c a).map .rev else none) else (match tabE P c a with
        | some (nm, tb) => (trE n P c i).map fun i => .kd .idx nm tb i (.con .non)
        | none => (match trE n P c a, trE n P c i with
          | some a, some i => some (.idx a i)
          | _, _ => none)))
    | .Call f es ks p => (match ks with
      | [] => (match f with
        | .Name x _ => if nmOk x && glB c.sc x then (match P.fns.lookup x with
          | some k => if es.length = k then (trEs n P c es).map (.call x) else none
          | none => if decide (x ∈ P.blt) then trB n P c x es else none) else none
        | .Attribute o m ap => if baseOk o && sameLine ap p then trM n P c o m es else none
        | _ => none)
      | _ => none)
    | .ListComp elt gs scope _ => (match gs with
      | [⟨tg, iter, ifs, 0⟩] => if okBlk c scope && notSetE iter then (match trI n P c tg iter, trG1 n (c.blk scope) tg, trF n P (c.blk scope) ifs, trE n P (c.blk scope) elt with
        | some i, some t, some fs, some e => if subs t.vars ((ownOf c.N scope).map (·.2)) then some (.lc ((ownOf c.N scope).map (·.2)) e t i fs) else none
        | _, _, _, _ => none) else none
      | [⟨tg, iter, ifs, 0⟩, ⟨tg1, iter1, ifs1, 0⟩] => if okBlk c scope && notSetE iter && notSetE iter1 then (match trI n P c tg iter, trG1 n (c.blk scope) tg, trF n P (c.blk scope) ifs, trI n P (c.blk scope) tg1 iter1, trG1 n (c.blk scope) tg1, trF n P (c.blk scope) ifs1, trE n P (c.blk scope) elt with
        | some i, some t, some fs, some i1, some t1, some fs1, some e => if subs t.vars ((ownOf c.N scope).map (·.2)) && subs t1.vars ((ownOf c.N scope).map (·.2)) then some (.lc2 ((ownOf c.N scope).map (·.2)) t1.vars e t i fs t1 i1 fs1) else none
        | _, _, _, _, _, _, _ => none) else none
      | _ => none)
    | .DictComp kx vx gs scope _ => (match gs with
      | [⟨tg, iter, ifs, 0⟩] => if okBlk c scope && notSetE iter then (match trI n P c tg iter, trG1 n (c.blk scope) tg, trF n P (c.blk scope) ifs, trE n P (c.blk scope) kx, trE n P (c.blk scope) vx with
        | some i, some t, some fs, some k, some v => if subs t.vars ((ownOf c.N scope).map (·.2)) then some (.dc ((ownOf c.N scope).map (·.2)) k v t i fs) else none
        | _, _, _, _, _ => none) else none
      | _ => none)
    | _ => none
/-- a slice's end -/
def trO : Nat → Prg → Cs → Option Expr → Option Ex
  | 0, _, _, _ => none
  | _ + 1, _, _, none => some (.con .non)
  | n + 1, P, c, some e => trE n P c e
/-- a call of a built-in -/
def trB : Nat → Prg → Cs → Str → List Expr → Option Ex
  | 0, _, _, _, _ => none
  | n + 1, P, c, x, es => match es with
    | [.GeneratorExp elt gs scope _] => if c.tab then (match gcTab.lookup x with
      | some g => (match gs with
        | [⟨tg, iter, ifs, 0⟩] => if !scope.isCoroutine && okBlk c scope && lclB scope (".0" : Str) && notSetE iter && notLstE iter then
          (match trI n P c tg iter, trG1 n (c.gen scope) tg, trF n P (c.gen scope) ifs, trE n P (c.gen scope) elt with
          | some i, some t, some fs, some e => if subs t.vars ((ownOf c.N scope).map (·.2)) then some (.gen g ((ownOf c.N scope).map (·.2)) t i fs (.elt e)) else none
          | _, _, _, _ => none) else none
        | [⟨tg, iter, ifs, 0⟩, ⟨tg1, iter1, ifs1, 0⟩] => if !scope.isCoroutine && okBlk c scope && lclB scope (".0" : Str) && notSetE iter && notLstE iter && notSetE iter1 then
          (match trI n P c tg iter, trG1 n (c.gen scope) tg, trF n P (c.gen scope) ifs, trI n P (c.gen scope) tg1 iter1, trG1 n (c.gen scope) tg1, trF n P (c.gen scope) ifs1, trE n P (c.gen scope) elt with
          | some i, some t, some fs, some i1, some t1, some fs1, some e => if subs (t.vars ++ t1.vars) ((ownOf c.N scope).map (·.2)) && disj t1.vars t.vars then some (.gen g ((ownOf c.N scope).map (·.2)) t i fs (.cons t1 i1 fs1 (.elt e))) else none
          | _, _, _, _, _, _, _ => none) else none
        | _ => none)
      | none => none) else none
    | [a] => (match ssA P c x a with
      | some b => (trE n P c b).map .sset
      | none => if notStar a then (match b1Tab.lookup x, trE n P c a with
        | some f, some a => some (.b1 f a)
        | _, _ => none) else none)
    | [a, b] => if notStar a && notStar b then (match b2Tab.lookup x with
      | some f => (match trE n P c a, trE n P c b with
        | some a, some b => some (.b2 f a b)
        | _, _ => none)
      | none => if decide (x = ("isinstance" : Str)) then (match b with
        | .Name y _ => if blt P c y then (match tyTab.lookup y, trE n P c a with
          | some t, some a => some (.isi a t)
          | _, _ => none) else none
        | _ => none) else none) else none
    | _ => none
/-- a method's call -/
def trM : Nat → Prg → Cs → Expr → Str → List Expr → Option Ex
  | 0, _, _, _, _, _ => none
  | n + 1, P, c, o, m, es => match tabE P c o with
   | some (nm, tb) => if decide (m = ("get" : Str)) then (match es with
    | [a] => if notStar a then (trE n P c a).map fun a => .kd .get nm tb a (.con .non) else none
    | [a, b] => if notStar a && notStar b then (match trE n P c a, trE n P c b with
      | some a, some b => some (.kd .get nm tb a b)
      | _, _ => none) else none
    | _ => none) else none
   | none => match es with
    | [] => (match meTab.lookup m, trE n P c o with
      | some m, some o => some (.m0 m o)
      | _, _ => none)
    | [a] => if notStar a then (match meTab.lookup m, trE n P c o, trE n P c a with
      | some m, some o, some a => some (.m1 m o a)
      | _, _, _ => none) else none
    | [a, b] => if notStar a && notStar b then (match meTab.lookup m, trE n P c o, trE n P c a, trE n P c b with
      | some m, some o, some a, some b => some (.m2 m o a b)
      | _, _, _, _ => none) else none
    | _ => none
/-- the pairs of a display -/
def trP : Nat → Prg → Cs → List (Option Expr) → List Expr → Option Eps
  | 0, _, _, _, _ => none
  | _ + 1, _, _, [], [] => some .nil
  | n + 1, P, c, some k :: ks, v :: vs => (match trE n P c k, trE n P c v, trP n P c ks vs with
    | some k, some v, some r => some (.cons k v r)
    | _, _, _ => none)
  | _ + 1, _, _, _, _ => none
def trEs : Nat → Prg → Cs → List Expr → Option Exs
  | 0, _, _, _ => none
  | _ + 1, _, _, [] => some .nil
  | n + 1, P, c, e :: es => if notStar e then (match trE n P c e, trEs n P c es with
    | some x, some xs => some (.cons x xs)
    | _, _ => none) else none
/-- tests -/
def trT : Nat → Prg → Cs → Expr → Option Tx
  | 0, _, _, _ => none
  | n + 1, P, c, e => match e with
    | .UnaryOp .Not a _ => (trT n P c a).map .not
    | .BoolOp o es p => (match o, es with
      | _, [a] => trT n P c a
      | .And, a :: b :: r => (match trT n P c a, trT n P c (.BoolOp .And (b :: r) p) with
        | some a, some b => some (.and a b)
        | _, _ => none)
      | .Or, a :: b :: r => (match trT n P c a, trT n P c (.BoolOp .Or (b :: r) p) with
        | some a, some b => some (.or a b)
        | _, _ => none)
      | _, _ => none)
    | .Compare a os es _ => (match os, es with
      | [o], [b] => (match tabE P c b with
        | some (nm, tb) => (match o with
          | .In => (trE n P c a).map fun a => .ex (.kd .mem nm tb a (.con .non))
          | .NotIn => (trE n P c a).map fun a => .ex (.kd .nmem nm tb a (.con .non))
          | _ => none)
        | none => if behindInMarks o b then none else (match copB o, trE n P c a, trE n P c b with
          | some o, some a, some b => some (.ex (.cmp o a b))
          | _, _, _ => none))
      | [o, q], [b, d] => if lastMarks [o, q] [b, d] then none else (match copB o, copB q, trE n P c a, trE n P c b, trE n P c d with
        | some o, some q, some a, some b, some d => some (.ex (.chn o q a b d))
        | _, _, _, _, _ => none)
      | _, _ => none)
    | e => if plainT e then (trE n P c e).map .ex else none
/-- a clause's tests: none, one -/
def trF : Nat → Prg → Cs → List Expr → Option Txs
  | 0, _, _, _ => none
  | _ + 1, _, _, [] => some .nil
  | n + 1, P, c, [e] => (trT n P c e).map fun t => .cons t .nil
  | _ + 1, _, _, _ => none
/-- what is walked -/
def trI : Nat → Prg → Cs → Expr → Expr → Option Ix
  | 0, _, _, _, _ => none
  | n + 1, P, c, tg, e => match e with
    | .Call (.Name x _) es [] _ => if decide (x = ("range" : Str)) && blt P c x then (match es with
      | [a] => if notStar a then (trE n P c a).map fun a => .rng (.con (.int 0)) a else none
      | [a, b] => if notStar a && notStar b then (match trE n P c a, trE n P c b with
        | some a, some b => some (.rng a b)
        | _, _ => none) else none
      | [a, b, d] => if notStar a && notStar b && notStar d then (match trE n P c a, trE n P c b, trE n P c d with
        | some a, some b, some d => some (.rng3 a b d)
        | _, _, _ => none) else none
      | _ => none) else if decide (x = ("enumerate" : Str)) && blt P c x && isTupE tg then (match es with
      | [a] => if notStar a then (trE n P c a).map .enu else none
      | _ => none) else (trE n P c e).map .ex
    | e => (trE n P c e).map .ex
end
/-! ### statements -/
/-- name = [..], the list stored from within -/
def swapB (c : Cs) (e : Expr) (x : Str) (q p : Pos) : Bool := match e with
  | .DictComp _ _ _ scope pos => lclB c.sc x && (match c.sc.kind with | .function => true | _ => false) && (q.line == pos.line) && !(scope.names.any fun y => y.1 == x && (y.2 == .local || y.2 == .cell))
  | .ListComp _ _ scope pos => lclB c.sc x && (match c.sc.kind with | .function => true | _ => false) && (q.line == pos.line) && !(scope.names.any fun y => y.1 == x && (y.2 == .local || y.2 == .cell))
  | _ => false
mutual
def trS : Nat → Prg → Cs → Stmt → Option St
  | 0, _, _, _ => none
  | n + 1, P, c, s => match s with
    | .Expr e _ => if notComp e then (trE n P c e).map .ex else none
    | .Return (some e) _ => (trE n P c e).map .ret
    | .Return none _ => some (.ret (.con .non))
    | .Pass _ => some .pas
    | .Break _ => some .brk
    | .Continue _ => some .cnt
    | .Assign [t] e p => (match t with
      | .Name x q => if locB c.sc x && (c.fn x || lclB c.sc x) then (match slotOf c.N x, trE n P c e with
        | some i, some v => if notComp e || cllB c.sc x then some (.set (.var i) v) else if swapB c e x q p then some (.set (.var i) v) else none
        | _, _ => none) else none
      | .Tuple ts _ _ => if notComp e && notTupE e then (match trG n c ts, trE n P c e with
        | some t, some v => some (.set (.tup t) v)
        | _, _ => none) else (match ts, e with
          | [.Name x px, .Name y py], .Tuple [a, b] _ _ => if parB c.sc x y px py a b then (match slotOf c.N x, slotOf c.N y, trE n P c a, trE n P c b with
              | some i, some j, some a, some b => some (.par i j a b)
              | _, _, _, _ => none) else if cpB c.sc x y a b then (match trG n c ts, trE n P c e with
                | some t, some v => some (.set (.tup t) v)
                | _, _ => none) else none
          | _, _ => none)
      | .Subscript o i _ => if notComp e && !isSlice i then (match trE n P c o, trE n P c i, trE n P c e with
        | some o, some i, some v => some (.set (.sub o i) v)
        | _, _, _ => none) else none
      | _ => none)
    | .AugAssign (.Name x _) o e _ => if locB c.sc x && (c.fn x || lclB c.sc x) then (match slotOf c.N x, bopOf o, trE n P c e with
      | some i, some .add, some v => some (.aug i .add v)
      | some i, some .sub, some v => some (.aug i .sub v)
      | _, _, _ => none) else none
    | .If t a b _ => (match trT n P c t, trSs n P c a, trSs n P c b with
      | some t, some a, some b => some (.ite t a b)
      | _, _, _ => none)
    | .While t a [] _ => (match trT n P c t, trSs n P c a with
      | some t, some a => some (.whl t a)
      | _, _ => none)
    | .For tg it a [] _ => if notSetE it then (match trG1 n c tg, trI n P c tg it, trSs n P c a with
      | some t, some i, some a => some (.for t i a)
      | _, _, _ => none) else none
    | _ => none
def trSs : Nat → Prg → Cs → List Stmt → Option Sts
  | 0, _, _, _ => none
  | _ + 1, _, _, [] => some .nil
  | n + 1, P, c, s :: ss => match trS n P c s, trSs n P c ss with
    | some x, some xs => some (.cons x xs)
    | _, _ => none
end
end CH
/-! DD: the sum of a tuple; what contexts keep. -/
namespace CH
open PySem PySem.Spec PyProof.Rows L2
theorem preSum_take (ns : List Int) : ∀ j, j ≤ ns.length → preSum (fun i => ns.getD i 0) j = (ns.take j).sum
  | 0, _ => by simp [preSum]
  | j + 1, h => by
    have hj : j < ns.length := h
    rw [preSum, preSum_take ns j (Nat.le_of_lt hj), List.take_add_one, List.getElem?_eq_getElem hj, List.sum_append]
    simp [List.getD, List.getElem?_eq_getElem hj]
theorem sum_bound : ∀ (ns : List Int), (∀ i ∈ ns, -(2 ^ 32) ≤ i ∧ i ≤ 2 ^ 32) → -(2 ^ 32) * (ns.length : Int) ≤ ns.sum ∧ ns.sum ≤ 2 ^ 32 * (ns.length : Int)
  | [], _ => by simp
  | i :: r, h => by
    have h1 := h i List.mem_cons_self
    have h2 := sum_bound r fun j hj => h j (List.mem_cons_of_mem _ hj)
    simp only [List.sum_cons, List.length_cons]
    omega
theorem vals_int : ∀ {ns : List Int} {us : List Value}, Vals (ns.map V.int) us → ∀ (i : Nat) (v : Value), us[i]? = some v → ∃ t, v = .int (ns.getD i 0) t
  | [], _, h, i, v, e => by cases h; cases e
  | n :: ns, _, h, i, v, e => by
    cases h with
    | cons r rr =>
      cases i with
      | zero =>
        simp at e
        subst e
        obtain ⟨t, rfl⟩ := r
        exact ⟨t, rfl⟩
      | succ i =>
        obtain ⟨t, q⟩ := vals_int rr i v (by simpa using e)
        exact ⟨t, by simpa [List.getD] using q⟩
theorem sum_tup {X : Cx} (hc : X.calm = true) : SumTup X := by
  intro pins s σ H a ns Q I q ok hQ
  obtain ⟨its, rv, p, hz⟩ := I.tuple q
  have hl := rv.length
  rw [List.length_map] at hl
  obtain ⟨b1, b2⟩ := ok
  refine call_sum_walk (wpAny_pyIter_tuple (show s.heap.IsTuple a its.toArray from p) ?_)
  have ne : a ≠ s.heap.objs.size := by obtain ⟨o, e, _⟩ := p; exact Nat.ne_of_lt (Heap.lt_size e)
  refine ⟨s.heap.objs.size, [s.heap.objs.size, a], [s.heap.objs.size], _, _, _, fun i => ns.getD i 0, rfl, Walks.tuple (show X.A.in1.handled = none from I.ok.hd hc) _ a ne its.toArray, ⟨⟨_, Heap.get?_push_size _ rfl, rfl, rfl⟩, ?_⟩, fun b hb => ?_, fun i v hv => vals_int rv i v (by simpa using hv), fun j hj => ?_, fun h' tk t' hk => ?_⟩
  · obtain ⟨o, e, r⟩ := p
    exact ⟨o, Heap.get?_push_of_some _ e, r⟩
  · rw [Heap.size_push]
    rcases List.mem_cons.mp hb with z | z
    · rw [z]; exact Nat.lt_succ_self _
    · rw [List.mem_singleton.mp z]
      obtain ⟨o, e, _⟩ := p
      exact Nat.lt_succ_of_lt (Heap.lt_size e)
  · have hj : j < ns.length := by rw [hl]; simpa using hj
    rw [preSum_take ns (j + 1) hj]
    have h1 : ns.getD j 0 = ns[j] := by simp [List.getD, List.getElem?_eq_getElem hj]
    have h2 := b2 ns[j] (List.getElem_mem hj)
    have h3 := sum_bound (ns.take (j + 1)) fun i hi => b2 i (List.mem_of_mem_take hi)
    have h4 : (ns.take (j + 1)).length ≤ 16777216 := by rw [List.length_take]; omega
    show InLong (ns.getD j 0) ∧ InLong _
    rw [h1]
    unfold InLong
    omega
  · have e : preSum (fun i => ns.getD i 0) its.toArray.size = ns.sum := by
      rw [List.size_toArray, ← hl, preSum_take ns _ (Nat.le_refl _), List.take_length]
    rw [e]
    refine ⟨.int ns.sum, H, ?_, ⟨t', rfl⟩, hQ⟩
    refine I.kept fun b o eb => ?_
    refine hk b o (fun z => ?_) (Heap.get?_push_of_some _ eb)
    rw [List.mem_singleton.mp z] at eb
    exact Nat.lt_irrefl _ (Heap.lt_size eb)
end CH
/-! DE: contexts of blocks and generators; targets. -/
namespace CH
open PySem PySem.Spec PyProof.Rows L2 GenW
section
variable {F : Fx} {P : Prg} {cf : CF} {lv j : Nat} {E : XK} {c : Cs} {X : Cx}
theorem pass_en {X : Cx} : Passes (L2.CX X.prog X.w) X EN := fun _ _ _ _ _ _ _ ⟨_, _, _, _, _, _, _, _, _, _, _, _, h⟩ => h.elim
theorem good_blk (g : Good F P cf lv j E c X) (scope : Scope) (s : Shared) (H : Hp) (C : Addr) (cl : List (Str × Addr)) (fp : List Addr) : Good F P cf lv j EN (c.blk scope) (X.blk s H scope (compEnvC scope cl C X.env) fp) where
  K := g.K
  N := g.N
  nd := g.nd
  sc := by show relS scope X.env.scope = relS scope c.sc; rw [g.sc]
  fn := fun x h => h
  calm := g.calm
  room := g.room
  con := g.con
  blt := g.blt
  dcs := g.dcs
  fns := g.fns
  pass := pass_en
  tab := g.tab
theorem good_gen (g : Good F P cf lv j E c X) (scope : Scope) {Y : Cx} (h : GCtx X scope (lv + 1) Y) : Good F P cf lv 0 EN (c.gen scope) Y := by
  obtain ⟨s, H, code, fp, A, pn, rfl, hr⟩ := h
  exact
    { K := g.K
      N := g.N
      nd := g.nd
      sc := rfl
      fn := fun x h => h
      calm := g.calm
      room := by rw [Nat.add_zero]; exact hr.deeper _
      con := g.con
      blt := g.blt
      dcs := g.dcs
      fns := g.fns
      pass := pass_en
      tab := fun h => by cases h }
theorem slot_ok {N : List Str} {x : Str} {i : Nat} (h : slotOf N x = some i) : N[i]? = some x := by
  unfold slotOf at h
  obtain ⟨z, e, q, _⟩ := findIdx_get h
  rw [e]
  exact congrArg some (by simpa using q)
theorem vis_ok (g : Good F P cf lv j E c X) {x : Str} (h : visB c.sc x = true) : Vis X.env.scope x := by
  rw [g.sc]
  unfold visB at h
  split at h
  · exact .inl (by assumption)
  · exact .inr (.inl (by assumption))
  · exact .inr (.inr (by assumption))
  · cases h
theorem loc_ok (g : Good F P cf lv j E c X) {x : Str} (h : locB c.sc x = true) : Loc X.env.scope x := by
  rw [g.sc]
  unfold locB at h
  split at h
  · exact .inl (by assumption)
  · exact .inr (by assumption)
  · cases h
theorem lcl_ok (g : Good F P cf lv j E c X) {x : Str} (h : lclB c.sc x = true) : X.env.scope.names.lookup x = some .local := by
  rw [g.sc]
  unfold lclB at h
  split at h
  · assumption
  · cases h
theorem cll_ok (g : Good F P cf lv j E c X) {x : Str} (h : cllB c.sc x = true) : X.env.scope.names.lookup x = some .cell := by
  rw [g.sc]
  unfold cllB at h
  split at h
  · assumption
  · cases h
theorem fn_ok (g : Good F P cf lv j E c X) {x : Str} (h : (c.fn x || lclB c.sc x) = true) : X.fn x = true ∨ X.env.scope.names.lookup x = some .local := by
  rw [Bool.or_eq_true] at h
  exact h.elim (fun h => .inl (g.fn x h)) fun h => .inr (lcl_ok g h)
theorem gl_ok (g : Good F P cf lv j E c X) {x : Str} (h : glB c.sc x = true) : Gl X x := by
  show X.env.scope.names.lookup x = some .globalImplicit
  rw [g.sc]
  unfold glB at h
  split at h
  · assumption
  · cases h
theorem nm_ok {x : Str} (h : nmOk x = true) : (x == ("__debug__" : Str)) = false ∧ (x == ("__classdict__" : Str)) = false ∧ x ≠ ("__name__" : Str) := by
  unfold nmOk at h
  simp only [Bool.and_eq_true, Bool.not_eq_true'] at h
  refine ⟨h.1.1, h.1.2, fun e => ?_⟩
  rw [e] at h
  exact absurd h.2 (by simp)
theorem asg_plain : ∀ {es : List Expr} (env : PySem.Env), (∀ e ∈ es, (∃ x p, e = .Name x p) ∨ ∃ ts k p, e = .Tuple ts k p) → (assignEach es env).length = es.length ∧ (assignEach es env).findIdx? (·.1) = none
  | [], _, _ => ⟨rfl, rfl⟩
  | e :: es, env, h => by
    have ih := asg_plain (es := es) env fun e he => h e (List.mem_cons_of_mem _ he)
    rcases h e List.mem_cons_self with ⟨x, p, rfl⟩ | ⟨ts, k, p, rfl⟩
    · refine ⟨congrArg (· + 1) ih.1, ?_⟩
      show ((false, assign (.Name x p) env) :: assignEach es env).findIdx? (·.1) = none
      rw [List.findIdx?_cons]
      simp [ih.2]
    · refine ⟨congrArg (· + 1) ih.1, ?_⟩
      show ((false, assign (.Tuple ts k p) env) :: assignEach es env).findIdx? (·.1) = none
      rw [List.findIdx?_cons]
      simp [ih.2]
theorem trG_shape : ∀ {n : Nat} {c : Cs} {es : List Expr} {t : Tg}, trG n c es = some t → es.length = t.cnt ∧ ∀ e ∈ es, (∃ x p, e = .Name x p) ∨ ∃ ts k p, e = .Tuple ts k p
  | 0, _, _, _, h => by cases h
  | n + 1, c, [], t, h => by cases h; exact ⟨rfl, fun _ h => absurd h (by simp)⟩
  | n + 1, c, e :: es, t, h => by
    unfold trG at h
    split at h
    · rename_i x p
      split at h
      · split at h
        · rename_i i r h1 h2
          cases h
          obtain ⟨q1, q2⟩ := trG_shape h2
          refine ⟨by rw [List.length_cons, q1]; rfl, fun e he => ?_⟩
          rcases List.mem_cons.mp he with z | z
          · exact .inl ⟨x, p, z⟩
          · exact q2 e z
        · cases h
      · cases h
    · rename_i ts k p
      split at h
      · rename_i t1 r h1 h2
        cases h
        obtain ⟨q1, q2⟩ := trG_shape h2
        refine ⟨by rw [List.length_cons, q1]; rfl, fun e he => ?_⟩
        rcases List.mem_cons.mp he with z | z
        · exact .inr ⟨ts, k, p, z⟩
        · exact q2 e z
      · cases h
    · cases h
theorem trG_ok : ∀ {n : Nat} {c : Cs} {X : Cx} {E : XK} {j : Nat} (g : Good F P cf lv j E c X) {es : List Expr} {t : Tg}, trG n c es = some t → PGs X es (TGX F t) ∧ ∀ e, es = [e] → PG X e (TGX1 F t)
  | 0, _, _, _, _, _, _, _, h => by cases h
  | n + 1, c, X, E, j, g, [], t, h => by cases h; exact ⟨gx_nil, fun _ h => by cases h⟩
  | n + 1, c, X, E, j, g, e :: es, t, h => by
    have nd : X.N.Nodup := by rw [g.N]; exact g.nd
    unfold trG at h
    split at h
    · rename_i x p
      split at h
      · rename_i hc
        rw [Bool.and_eq_true] at hc
        split at h
        · rename_i i r h1 h2
          cases h
          have one : PG X (.Name x p) (TGX1 F (.var i .nil)) := gx_var nd (by rw [g.N]; exact slot_ok h1) (loc_ok g hc.1) (fn_ok g hc.2)
          refine ⟨gx_consV one (trG_ok g h2).1 rfl, fun e he => ?_⟩
          cases he
          have : r = .nil := by
            cases n with
            | zero => cases h2
            | succ n => cases h2; rfl
          subst this
          exact one
        · cases h
      · cases h
    · rename_i ts k p
      split at h
      · rename_i t1 r h1 h2
        cases h
        obtain ⟨q1, q2⟩ := trG_shape h1
        obtain ⟨a1, a2⟩ := asg_plain X.env q2
        have one : PG X (.Tuple ts k p) (TGX1 F (.tup t1 .nil)) := gx_tup (n := t1.cnt) g.K g.calm (trG_ok g h1).1 (fun xs ρ ρ' hb => bindT_cnt hb) (by rw [a1, q1]) a2
        refine ⟨gx_consT one (trG_ok g h2).1 rfl, fun e he => ?_⟩
        cases he
        have : r = .nil := by
          cases n with
          | zero => cases h2
          | succ n => cases h2; rfl
        subst this
        exact one
      · cases h
    · cases h
theorem trG1_ok (g : Good F P cf lv j E c X) {n : Nat} {e : Expr} {t : Tg} (h : trG1 n c e = some t) : PG X e (TGX1 F t) := (trG_ok g h).2 e rfl
end
end CH
/-! DF: the translation of expressions is right. -/
namespace CH
open PySem PySem.Spec PyProof.Rows L2 GenW
section
variable {F : Fx} {P : Prg} {cf : CF} {lv : Nat} {E : XK} {X : Cx} {e : Expr}
theorem toX {f g : Env → Store → R RV} (h : PE X e (TX F E f)) (q : ∀ ρ S, g ρ S = f ρ S) : PE X e (TX F E g) := by
  rw [show g = f from funext fun ρ => funext fun S => q ρ S]; exact h
theorem toT {f g : Env → Store → R Bool} (h : PT X e (TTX F E f)) (q : ∀ ρ S, g ρ S = f ρ S) : PT X e (TTX F E g) := by
  rw [show g = f from funext fun ρ => funext fun S => q ρ S]; exact h
theorem toW {f g : Env → Store → R Bool} (h : PW X e (TTX F E f)) (q : ∀ ρ S, g ρ S = f ρ S) : PW X e (TTX F E g) := by
  rw [show g = f from funext fun ρ => funext fun S => q ρ S]; exact h
theorem toTs {es : List Expr} {f g : Env → Store → R Bool} (h : PTs X es (TTX F E f)) (q : ∀ ρ S, g ρ S = f ρ S) : PTs X es (TTX F E g) := by
  rw [show g = f from funext fun ρ => funext fun S => q ρ S]; exact h
theorem toA {es : List Expr} {f g : Env → Store → R (List D)} (h : PA X es (TAX F E f)) (q : ∀ ρ S, g ρ S = f ρ S) : PA X es (TAX F E g) := by
  rw [show g = f from funext fun ρ => funext fun S => q ρ S]; exact h
theorem toI {tg : Expr} {f g : Env → Store → R (List D × Grd)} (h : PI X tg e (TIX F E f)) (q : ∀ ρ S, g ρ S = f ρ S) : PI X tg e (TIX F E g) := by
  rw [show g = f from funext fun ρ => funext fun S => q ρ S]; exact h
theorem bop_ok {o : Operator} {b : Bop} (h : bopOf o = some b) : o = opOf b := by
  unfold bopOf at h
  split at h <;> cases h <;> rfl
theorem cop_ok {o : CmpOp} {b : Cop} (h : copB o = some b) : o = copOf b := by
  unfold copB at h
  split at h <;> cases h <;> rfl
theorem mem_lk {α : Type} : ∀ {l : List (Str × α)} {x : Str} {v : α}, l.lookup x = some v → (x, v) ∈ l
  | (k, w) :: r, x, v, h => by
    rw [List.lookup_cons] at h
    split at h
    · rename_i q
      cases h
      have : x = k := by simpa using q
      rw [this]; exact List.mem_cons_self
    · exact List.mem_cons_of_mem _ (mem_lk h)
theorem b1_all : ∀ p ∈ b1Tab, bootBuiltins p.1 = some (b1V p.2) := by
  intro p hp
  simp only [b1Tab, List.mem_cons, List.not_mem_nil, or_false] at hp
  rcases hp with rfl | rfl | rfl | rfl | rfl | rfl | rfl | rfl | rfl | rfl | rfl | rfl | rfl <;> decide +kernel
theorem b2_all : ∀ p ∈ b2Tab, bootBuiltins p.1 = some (.builtin (b2N p.2)) := by
  intro p hp
  simp only [b2Tab, List.mem_cons, List.not_mem_nil, or_false] at hp
  rcases hp with rfl | rfl <;> decide +kernel
theorem ty_all : ∀ p ∈ tyTab, bootBuiltins p.1 = some (.type (tyN p.2)) := by
  intro p hp
  simp only [tyTab, List.mem_cons, List.not_mem_nil, or_false] at hp
  rcases hp with rfl | rfl | rfl | rfl | rfl | rfl <;> decide +kernel
theorem gc_all : ∀ p ∈ gcTab, (p.2 = .tuple ∧ bootBuiltins p.1 = some (.type "tuple")) ∨ (p.2 = .any ∧ bootBuiltins p.1 = some (.builtin "any")) ∨ (p.2 = .all ∧ bootBuiltins p.1 = some (.builtin "all")) := by
  intro p hp
  simp only [gcTab, List.mem_cons, List.not_mem_nil, or_false] at hp
  rcases hp with rfl | rfl | rfl
  · exact .inl ⟨rfl, by decide +kernel⟩
  · exact .inr (.inl ⟨rfl, by decide +kernel⟩)
  · exact .inr (.inr ⟨rfl, by decide +kernel⟩)
theorem me_all : ∀ p ∈ meTab, p.1 = meN p.2 := by
  intro p hp
  simp only [meTab, List.mem_cons, List.not_mem_nil, or_false] at hp
  rcases hp with rfl | rfl | rfl | rfl | rfl | rfl <;> rfl
theorem isi_boot : bootBuiltins ("isinstance" : Str) = some (.builtin "isinstance") := by decide +kernel
theorem plain_ix {b : Expr} (h : isSlice b = false) : PlainIx b := by
  intro o i
  cases b <;> first | rfl | cases h
theorem slice_kind {b : Expr} (h : isSlice b = true) : ∃ lo hi st p, b = .Slice lo hi st p := by
  cases b <;> first | exact ⟨_, _, _, _, rfl⟩ | cases h
theorem subs_ok {a b : List Nat} (h : subs a b = true) : ∀ i ∈ a, i ∈ b := fun i hi => by
  unfold subs at h
  rw [List.all_eq_true] at h
  simpa using h i hi
theorem disj_ok {a b : List Nat} (h : disj a b = true) : ∀ i ∈ a, i ∉ b := fun i hi => by
  unfold disj at h
  rw [List.all_eq_true] at h
  simpa using h i hi
theorem dv_con {d : D} {w : List Addr} {H : Hp} {K : PySem.W.Frag} {b : Bool} : DV K w H (.bl b) (.bl b) := .bl b
structure Snd (F : Fx) (P : Prg) (cf : CF) (lv n : Nat) : Prop where
  e : ∀ {j : Nat} {E : XK} {c : Cs} {X : Cx}, Good F P cf lv j E c X → ∀ {e : Expr} {x : Ex}, trE n P c e = some x → PE X e (TX F E (ev cf x))
  o : ∀ {j : Nat} {E : XK} {c : Cs} {X : Cx}, Good F P cf lv j E c X → ∀ {e : Option Expr} {x : Ex}, trO n P c e = some x → SndP X F E e (ev cf x)
  b : ∀ {j : Nat} {E : XK} {c : Cs} {X : Cx}, Good F P cf lv j E c X → ∀ {nm : Str} {es : List Expr} {x : Ex} {p pos : Pos}, nmOk nm = true → glB c.sc nm = true → nm ∈ P.blt → trB n P c nm es = some x → PE X (.Call (.Name nm p) es [] pos) (TX F E (ev cf x))
  m : ∀ {j : Nat} {E : XK} {c : Cs} {X : Cx}, Good F P cf lv j E c X → ∀ {o : Expr} {m : Str} {es : List Expr} {x : Ex} {ap pos : Pos}, baseOk o = true → sameLine ap pos = true → trM n P c o m es = some x → PE X (.Call (.Attribute o m ap) es [] pos) (TX F E (ev cf x))
  p : ∀ {j : Nat} {E : XK} {c : Cs} {X : Cx}, Good F P cf lv j E c X → ∀ {ks : List (Option Expr)} {vs : List Expr} {ps : Eps}, trP n P c ks vs = some ps → PPX X F E ks vs (evp cf ps) ∧ ∀ ρ S kvs S', evp cf ps ρ S = .ok kvs S' → kvs.length = ks.length
  es : ∀ {j : Nat} {E : XK} {c : Cs} {X : Cx}, Good F P cf lv j E c X → ∀ {es : List Expr} {xs : Exs}, trEs n P c es = some xs → PA X es (TAX F E (evs cf xs)) ∧ es.all notStar = true ∧ ∀ ρ S ds S', evs cf xs ρ S = .ok ds S' → ds.length = es.length
  t : ∀ {j : Nat} {E : XK} {c : Cs} {X : Cx}, Good F P cf lv j E c X → ∀ {e : Expr} {x : Tx}, trT n P c e = some x → PT X e (TTX F E (tt cf x)) ∧ ∀ o es p, e = .BoolOp o es p → PW X e (TTX F E (tt cf x))
  f : ∀ {j : Nat} {E : XK} {c : Cs} {X : Cx}, Good F P cf lv j E c X → ∀ {es : List Expr} {x : Txs}, trF n P c es = some x → PTs X es (TTX F E (tst cf x))
  i : ∀ {j : Nat} {E : XK} {c : Cs} {X : Cx}, Good F P cf lv j E c X → ∀ {tg e : Expr} {x : Ix}, trI n P c tg e = some x → PI X tg e (TIX F E (evI cf x))
theorem tab_ok {j : Nat} {c : Cs} (g : Good F P cf lv j E c X) {o : Expr} {nm : Str} {tb : List (Str × D)} (h : tabE P c o = some (nm, tb)) : ∃ p, o = .Name nm p ∧ KTab F.K X.w X.mg nm tb ∧ Gl X nm ∧ (nm == ("__debug__" : Str)) = false := by
  unfold tabE at h
  split at h
  · split at h
    · rename_i x p hc
      rw [Bool.and_eq_true] at hc
      cases q : P.dcs.lookup x with
      | none => rw [q] at h; cases h
      | some t =>
        rw [q] at h
        cases h
        exact ⟨p, rfl, g.dcs _ _ (mem_lk q), gl_ok g hc.2, (nm_ok hc.1).1⟩
    · cases h
  · cases h
theorem units_of {j : Nat} {c : Cs} (g : Good F P cf lv j E c X) : X.A.units + 65 < cLine := by have := g.room.un; omega
end
end CH
/-! DG: the translation of expressions is right: the steps. -/
namespace CH
open PySem PySem.Spec PyProof.Rows L2 GenW
section
variable {F : Fx} {P : Prg} {cf : CF} {lv n : Nat}
theorem blt_ok {j : Nat} {E : XK} {c : Cs} {X : Cx} (g : Good F P cf lv j E c X) {x : Str} (h : blt P c x = true) : nmOk x = true ∧ glB c.sc x = true ∧ x ∈ P.blt := by
  unfold blt at h
  simp only [Bool.and_eq_true, decide_eq_true_eq] at h
  exact ⟨h.1.2, h.1.1, h.2⟩
theorem step_es (ih : Snd F P cf lv n) {j : Nat} {E : XK} {c : Cs} {X : Cx} (g : Good F P cf lv j E c X) : ∀ {es : List Expr} {xs : Exs}, trEs (n + 1) P c es = some xs → PA X es (TAX F E (evs cf xs)) ∧ es.all notStar = true ∧ ∀ ρ S ds S', evs cf xs ρ S = .ok ds S' → ds.length = es.length := by
  intro es xs h
  cases es with
  | nil =>
    unfold trEs at h
    cases h
    exact ⟨toA snd_nil fun ρ S => by simp only [evs], rfl, fun ρ S ds S' q => by simp only [evs] at q; cases q; rfl⟩
  | cons e es =>
    unfold trEs at h
    split at h
    · rename_i hs
      split at h
      · rename_i x xs h1 h2
        cases h
        obtain ⟨q1, q2, q3⟩ := ih.es g h2
        refine ⟨toA (snd_cons (ih.e g h1) q1 hs) fun ρ S => by simp only [evs], by rw [List.all_cons, hs, q2]; rfl, fun ρ S ds S' q => ?_⟩
        simp only [evs] at q
        obtain ⟨d, S1, e1, q⟩ := ok_bind q
        obtain ⟨ds', S2, e2, q⟩ := ok_bind q
        cases q
        rw [List.length_cons, List.length_cons, q3 _ _ _ _ e2]
      · cases h
    · cases h
theorem step_p (ih : Snd F P cf lv n) {j : Nat} {E : XK} {c : Cs} {X : Cx} (g : Good F P cf lv j E c X) : ∀ {ks : List (Option Expr)} {vs : List Expr} {ps : Eps}, trP (n + 1) P c ks vs = some ps → PPX X F E ks vs (evp cf ps) ∧ ∀ ρ S kvs S', evp cf ps ρ S = .ok kvs S' → kvs.length = ks.length := by
  intro ks vs ps h
  unfold trP at h
  split at h
  · rename_i z; cases z
  · cases h
    exact ⟨by rw [show evp cf .nil = fun _ S => .ok [] S from funext fun ρ => funext fun S => by simp only [evp]]; exact ppx_nil, fun ρ S kvs S' q => by simp only [evp] at q; cases q; rfl⟩
  · rename_i n' k ks' v vs' e
    cases e
    split at h
    · rename_i h1 h2 h3
      cases h
      obtain ⟨q1, q2⟩ := ih.p g h3
      have := ppx_cons (ih.e g h1) (ih.e g h2) q1
      refine ⟨?_, fun ρ S kvs S' q => ?_⟩
      · refine ⟨fun pos pins s σ H Q I ⟨w, ρ, S, hS, hE, hf⟩ => this.run pos pins s σ H Q I ⟨w, ρ, S, hS, hE, ?_⟩⟩
        simp only [evp] at hf
        exact hf
      · simp only [evp] at q
        obtain ⟨x, S1, e1, q⟩ := ok_bind q
        obtain ⟨z, S2, e2, q⟩ := ok_bind q
        obtain ⟨kk, S3, e3, q⟩ := ok_bind q
        obtain ⟨r, S4, e4, q⟩ := ok_bind q
        cases q
        rw [List.length_cons, List.length_cons, q2 _ _ _ _ e4]
    · cases h
  · cases h
theorem step_o (ih : Snd F P cf lv n) {j : Nat} {E : XK} {c : Cs} {X : Cx} (g : Good F P cf lv j E c X) : ∀ {e : Option Expr} {x : Ex}, trO (n + 1) P c e = some x → SndP X F E e (ev cf x) := by
  intro e x h
  cases e with
  | none =>
    unfold trO at h
    cases h
    exact .inl ⟨rfl, funext fun ρ => funext fun S => by simp only [ev]⟩
  | some e =>
    unfold trO at h
    exact .inr ⟨e, rfl, ih.e g h⟩
theorem step_m (ih : Snd F P cf lv n) {j : Nat} {E : XK} {c : Cs} {X : Cx} (g : Good F P cf lv j E c X) : ∀ {o : Expr} {m : Str} {es : List Expr} {x : Ex} {ap pos : Pos}, baseOk o = true → sameLine ap pos = true → trM (n + 1) P c o m es = some x → PE X (.Call (.Attribute o m ap) es [] pos) (TX F E (ev cf x)) := by
  intro o m es x ap pos hb hl h
  have hu := units_of g
  unfold trM at h
  split at h
  · rename_i nm tb ht
    obtain ⟨p, rfl, kt, hg, hd⟩ := tab_ok g ht
    split at h
    · rename_i hm
      obtain rfl : m = ("get" : Str) := by simpa using hm
      split at h
      · split at h
        · rename_i hs
          cases q : trE n P c _ with
          | none => rw [q] at h; cases h
          | some y =>
            rw [q] at h
            cases h
            exact toX (snd_kget1 g.K kt hg hd (ih.e g q) hs hl) fun ρ S => by simp only [ev, matB, R.bind_ok, mat]
        · cases h
      · split at h
        · rename_i hs
          rw [Bool.and_eq_true] at hs
          split at h
          · rename_i h1 h2
            cases h
            exact toX (snd_kget g.K kt hg hd (ih.e g h1) (ih.e g h2) hs.1 hs.2 hl) fun ρ S => by simp only [ev]
          · cases h
        · cases h
      · cases h
    · cases h
  split at h
  · split at h
    · rename_i m' o' h1 h2
      cases h
      obtain rfl : m = meN m' := me_all _ (mem_lk h1)
      exact toX (snd_m0 g.K (ih.e g h2) hb hl) fun ρ S => by simp only [ev]
    · cases h
  · split at h
    · rename_i hs
      split at h
      · rename_i m' o' a' h1 h2 h3
        cases h
        obtain rfl : m = meN m' := me_all _ (mem_lk h1)
        by_cases hm : m' = .extend
        · subst hm
          exact toX (snd_ext g.K (ih.e g h2) (ih.e g h3) hb hs hl) fun ρ S => by simp only [ev]
        · refine toX (snd_m1 g.K hu hm (ih.e g h2) (ih.e g h3) hb hs hl) fun ρ S => ?_
          cases m' <;> first | exact absurd rfl hm | simp only [ev]
      · cases h
    · cases h
  · split at h
    · rename_i hs
      rw [Bool.and_eq_true] at hs
      split at h
      · rename_i m' o' a' b' h1 h2 h3 h4
        cases h
        obtain rfl : m = meN m' := me_all _ (mem_lk h1)
        exact toX (snd_m2 g.K hu (ih.e g h2) (ih.e g h3) (ih.e g h4) hb hs.1 hs.2 hl) fun ρ S => by simp only [ev]
      · cases h
    · cases h
  · cases h
theorem step_f (ih : Snd F P cf lv n) {j : Nat} {E : XK} {c : Cs} {X : Cx} (g : Good F P cf lv j E c X) : ∀ {es : List Expr} {x : Txs}, trF (n + 1) P c es = some x → PTs X es (TTX F E (tst cf x)) := by
  intro es x h
  rcases es with _ | ⟨e, _ | ⟨e2, r⟩⟩
  · unfold trF at h
    cases h
    exact toTs pts_x0 fun ρ S => by simp only [tst]
  · unfold trF at h
    cases q : trT n P c e with
    | none => rw [q] at h; cases h
    | some t =>
      rw [q] at h
      cases h
      exact toTs (pts_x (ih.t g q).1) fun ρ S => by simp only [tst]
  · unfold trF at h
    cases h
theorem tupE_ok {e : Expr} (h : isTupE e = true) : ∃ ts k p, e = .Tuple ts k p := by
  unfold isTupE at h
  split at h
  · exact ⟨_, _, _, rfl⟩
  · cases h
theorem step_i (ih : Snd F P cf lv n) {j : Nat} {E : XK} {c : Cs} {X : Cx} (g : Good F P cf lv j E c X) : ∀ {tg e : Expr} {x : Ix}, trI (n + 1) P c tg e = some x → PI X tg e (TIX F E (evI cf x)) := by
  intro tg e x h
  have walk : ∀ {e : Expr} {x : Ix}, (trE n P c e).map Ix.ex = some x → PI X tg e (TIX F E (evI cf x)) := fun {e x} h => by
    cases q : trE n P c e with
    | none => rw [q] at h; cases h
    | some y =>
      rw [q] at h
      cases h
      exact toI (snd_walk g.K (ih.e g q)) fun ρ S => by simp only [evI]
  unfold trI at h
  split at h
  · rename_i nm p es pos
    split at h
    · rename_i hc
      rw [Bool.and_eq_true, decide_eq_true_eq] at hc
      obtain ⟨rfl, hb⟩ := hc
      obtain ⟨b1, b2, b3⟩ := blt_ok g hb
      have hg := gl_ok g b2
      have hm := g.blt _ b3
      split at h
      · split at h
        · rename_i hs
          cases q : trE n P c _ with
          | none => rw [q] at h; cases h
          | some y =>
            rw [q] at h
            cases h
            exact toI (snd_rng1 hg hm (ih.e g q) hs) fun ρ S => by simp only [evI, ev, R.bind_ok] <;> rfl
        · cases h
      · split at h
        · rename_i hs
          rw [Bool.and_eq_true] at hs
          split at h
          · rename_i h1 h2
            cases h
            exact toI (snd_rng2 hg hm (ih.e g h1) (ih.e g h2) hs.1 hs.2) fun ρ S => by simp only [evI] <;> rfl
          · cases h
        · cases h
      · split at h
        · rename_i hs
          rw [Bool.and_eq_true, Bool.and_eq_true] at hs
          split at h
          · rename_i h1 h2 h3
            cases h
            exact toI (snd_rng3 hg hm (ih.e g h1) (ih.e g h2) (ih.e g h3) hs.1.1 hs.1.2 hs.2) fun ρ S => by simp only [evI] <;> rfl
          · cases h
        · cases h
      · cases h
    · split at h
      · rename_i hc
        rw [Bool.and_eq_true, Bool.and_eq_true, decide_eq_true_eq] at hc
        obtain ⟨⟨rfl, hb⟩, ht⟩ := hc
        obtain ⟨b1, b2, b3⟩ := blt_ok g hb
        obtain ⟨elts, kk, tpos, rfl⟩ := tupE_ok ht
        split at h
        · split at h
          · rename_i hs
            cases q : trE n P c _ with
            | none => rw [q] at h; cases h
            | some y =>
              rw [q] at h
              cases h
              exact toI (snd_enu g.K (gl_ok g b2) (g.blt _ b3) (ih.e g q) hs) fun ρ S => by simp only [evI]
          · cases h
        · cases h
      · exact walk h
  · exact walk h
theorem step_t (ih : Snd F P cf lv n) {j : Nat} {E : XK} {c : Cs} {X : Cx} (g : Good F P cf lv j E c X) : ∀ {e : Expr} {x : Tx}, trT (n + 1) P c e = some x → PT X e (TTX F E (tt cf x)) ∧ ∀ o es p, e = .BoolOp o es p → PW X e (TTX F E (tt cf x)) := by
  intro e x h
  have hu := units_of g
  unfold trT at h
  split at h
  · cases q : trT n P c _ with
    | none => rw [q] at h; cases h
    | some y =>
      rw [q] at h
      cases h
      exact ⟨toT (snd_tnot (ih.t g q).1) fun ρ S => by simp only [tt], fun o es p z => by cases z⟩
  · rename_i o es p
    have key : PW X (.BoolOp o es p) (TTX F E (tt cf x)) := by
      split at h
      · cases o with
        | And => exact pw_and1 (ih.t g h).1
        | Or => exact pw_or1 (ih.t g h).1
      · split at h
        · rename_i h1 h2
          cases h
          exact toW (snd_tand (ih.t g h1).1 ((ih.t g h2).2 _ _ _ rfl)) fun ρ S => by simp only [tt]
        · cases h
      · split at h
        · rename_i h1 h2
          cases h
          exact toW (snd_tor (ih.t g h1).1 ((ih.t g h2).2 _ _ _ rfl)) fun ρ S => by simp only [tt]
        · cases h
      · cases h
    exact ⟨key.pt, fun _ _ _ _ => key⟩
  · rename_i a os es p
    refine ⟨?_, fun o es p z => by cases z⟩
    split at h
    · split at h
      · rename_i nm tb ht
        obtain ⟨p, rfl, kt, hg, hd⟩ := tab_ok g ht
        split at h
        · cases q : trE n P c _ with
          | none => rw [q] at h; cases h
          | some y =>
            rw [q] at h
            cases h
            exact toT (snd_tkmem g.K kt hg hd (ih.e g q) true) fun ρ S => by simp only [tt, ev, matB, R.bind_ok, mat] <;> rfl
        · cases q : trE n P c _ with
          | none => rw [q] at h; cases h
          | some y =>
            rw [q] at h
            cases h
            exact toT (snd_tkmem g.K kt hg hd (ih.e g q) false) fun ρ S => by simp only [tt, ev, matB, R.bind_ok, mat] <;> rfl
        · cases h
      split at h
      · cases h
      · rename_i hm
        split at h
        · rename_i h0 h1 h2
          cases h
          obtain rfl := cop_ok h0
          exact toT (snd_tcmp g.K hu _ (ih.e g h1) (ih.e g h2) (by simpa using hm)) fun ρ S => by simp only [tt, ev]
        · cases h
    · split at h
      · cases h
      · rename_i hm
        split at h
        · rename_i h0 h00 h1 h2 h3
          cases h
          obtain rfl := cop_ok h0
          obtain rfl := cop_ok h00
          exact toT (snd_tchn g.K hu _ _ (ih.e g h1) (ih.e g h2) (ih.e g h3) (by simpa using hm)) fun ρ S => by simp only [tt, ev]
        · cases h
    · cases h
  · rename_i e' _ _ _
    split at h
    · rename_i hp
      cases q : trE n P c _ with
      | none => rw [q] at h; cases h
      | some y =>
        rw [q] at h
        cases h
        refine ⟨toT (snd_tex g.K (ih.e g q) hp) fun ρ S => by simp only [tt], fun o es p z => ?_⟩
        subst z
        cases hp
    · cases h
end
end CH
/-! DH: built-ins, generator expressions. -/
namespace CH
open PySem PySem.Spec PyProof.Rows L2 GenW
section
variable {F : Fx} {P : Prg} {cf : CF} {lv n : Nat}
theorem gctx_xe {X Y : Cx} {scope : Scope} {k : Nat} (h : GCtx X scope k Y) : ∀ e s, ¬ Y.xe e s := by
  obtain ⟨s, H, code, fp, A, pn, rfl, hr⟩ := h
  exact fun _ _ z => z
theorem gctx_prog {X Y : Cx} {scope : Scope} {k : Nat} (h : GCtx X scope k Y) : Y.prog = X.prog ∧ Y.w = X.w := by
  obtain ⟨s, H, code, fp, A, pn, rfl, hr⟩ := h
  exact ⟨rfl, rfl⟩
theorem dot_ok {scope : Scope} (h : lclB scope (".0" : Str) = true) : scope.names.lookup (".0" : Str) = some .local := by
  unfold lclB at h
  split at h
  · assumption
  · cases h
theorem gen1 (ih : Snd F P cf lv n) {j : Nat} {E : XK} {c : Cs} {X : Cx} (g : Good F P cf lv j E c X) {elt tg iter : Expr} {ifs : List Expr} {scope : Scope} {gpos : Pos} {i : Ix} {t : Tg} {fs : Txs} {e : Ex} (ht : c.tab = true)
    (h1 : scope.isCoroutine = false) (h2 : okBlk c scope = true) (h3 : scope.names.lookup (".0" : Str) = some .local) (h4 : notSetE iter = true) (h5 : notLstE iter = true) (hi : trI n P c tg iter = some i) (hg : trG1 n (c.gen scope) tg = some t) (hf : trF n P (c.gen scope) ifs = some fs)
    (he : trE n P (c.gen scope) elt = some e) (hs : subs t.vars ((ownOf c.N scope).map (·.2)) = true) :
    GenOk F E X (lv + 1) tg iter ifs [] scope (ownOf c.N scope) (.GeneratorExp elt [⟨tg, iter, ifs, 0⟩] scope gpos) (evI cf i) t (tst cf fs) (strm cf (.elt e)) where
  K := g.K
  calm := g.calm
  nd := by rw [g.N]; exact g.nd
  tab := (g.tab ht).2
  co := h1
  ok := by rw [g.N, g.sc]; exact blkOk_by h2
  dot := h3
  ns := h4
  nl := h5
  hi := ih.i g hi
  em := by
    refine ⟨fun env => emitE elt env, [], fun i hi => subs_ok hs i (by simpa using hi), fun j hj => absurd hj (by simp), fun env it => ⟨_, rfl⟩, fun env it => ⟨_, rfl⟩, ?_⟩
    intro S G ok hF hS hctx
    subst hF hS
    rw [show (fun ρ => strm cf (.elt e) ρ G.S) = fun ρ => [pureV (ev cf e ρ G.S) G.S] from funext fun ρ => by simp only [strm]]
    exact emits_leaf ok (gctx_xe hctx) (ih.e (good_gen g scope hctx) he)
  hg := fun Y hY => trG1_ok (good_gen g scope hY) hg
  ht := fun Y hY => ih.f (good_gen g scope hY) hf
theorem den2 {elt tg iter tg1 iter1 : Expr} {ifs ifs1 : List Expr} {scope : Scope} {gpos : Pos} {pg : Program} {w : World} {env : PySem.Env} {it : Value} : (model pg w).den (.compLoop (.GeneratorExp elt [⟨tg, iter, ifs, 0⟩, ⟨tg1, iter1, ifs1, 0⟩] scope gpos) 0 it .none env) =
    (turnT iter.pos tg ifs it env (emitN (.GeneratorExp elt [⟨tg, iter, ifs, 0⟩, ⟨tg1, iter1, ifs1, 0⟩] scope gpos) iter1 env) (.compLoop (.GeneratorExp elt [⟨tg, iter, ifs, 0⟩, ⟨tg1, iter1, ifs1, 0⟩] scope gpos) 0 it .none env)).onRaise (leaving env) := by
  unfold turnT emitN
  simp only [bind_assoc, pure_bind]
  rfl
theorem gen2 (ih : Snd F P cf lv n) {j : Nat} {E : XK} {c : Cs} {X : Cx} (g : Good F P cf lv j E c X) {elt tg iter tg1 iter1 : Expr} {ifs ifs1 : List Expr} {scope : Scope} {gpos : Pos} {i i1 : Ix} {t t1 : Tg} {fs fs1 : Txs} {e : Ex} (ht : c.tab = true)
    (h1 : scope.isCoroutine = false) (h2 : okBlk c scope = true) (h3 : scope.names.lookup (".0" : Str) = some .local) (h4 : notSetE iter = true) (h5 : notLstE iter = true) (h6 : notSetE iter1 = true) (hi : trI n P c tg iter = some i) (hg : trG1 n (c.gen scope) tg = some t) (hf : trF n P (c.gen scope) ifs = some fs)
    (hi1 : trI n P (c.gen scope) tg1 iter1 = some i1) (hg1 : trG1 n (c.gen scope) tg1 = some t1) (hf1 : trF n P (c.gen scope) ifs1 = some fs1) (he : trE n P (c.gen scope) elt = some e) (hs : subs (t.vars ++ t1.vars) ((ownOf c.N scope).map (·.2)) = true) (hd : disj t1.vars t.vars = true) :
    GenOk F E X (lv + 1) tg iter ifs [⟨tg1, iter1, ifs1, 0⟩] scope (ownOf c.N scope) (.GeneratorExp elt [⟨tg, iter, ifs, 0⟩, ⟨tg1, iter1, ifs1, 0⟩] scope gpos) (evI cf i) t (tst cf fs) (strm cf (.cons t1 i1 fs1 (.elt e))) where
  K := g.K
  calm := g.calm
  nd := by rw [g.N]; exact g.nd
  tab := (g.tab ht).2
  co := h1
  ok := by rw [g.N, g.sc]; exact blkOk_by h2
  dot := h3
  ns := h4
  nl := h5
  hi := ih.i g hi
  em := by
    refine ⟨fun env => emitN (.GeneratorExp elt [⟨tg, iter, ifs, 0⟩, ⟨tg1, iter1, ifs1, 0⟩] scope gpos) iter1 env, t1.vars, subs_ok hs, disj_ok hd, fun env it => ⟨_, rfl⟩, fun env it => ⟨_, den2⟩, ?_⟩
    intro S G ok hF hS hctx
    subst hF hS
    rw [show (fun ρ => strm cf (.cons t1 i1 fs1 (.elt e)) ρ G.S) = fun ρ => (match pureI (evI cf i1 ρ G.S) G.S with
      | some xs => xs.flatMap fun x => turnG (bindT t1 [x] ρ) (fun ρ => pureB (tst cf fs1 ρ G.S) G.S) fun ρ => [pureV (ev cf e ρ G.S) G.S]
      | none => [none]) from funext fun ρ => by simp only [strm] <;> rfl]
    have gg := good_gen g scope hctx
    obtain ⟨ep, ew⟩ := gctx_prog hctx
    have q := emits_in ok (gctx_xe hctx) (e := .GeneratorExp elt [⟨tg, iter, ifs, 0⟩, ⟨tg1, iter1, ifs1, 0⟩] scope gpos) (elt := elt) rfl (fun it => ⟨_, rfl⟩) (fun it => ⟨_, rfl⟩) (ih.i gg hi1) h6 (trG1_ok gg hg1) (ih.f gg hf1) (emits_leaf ok (gctx_xe hctx) (ih.e gg he)) (fun k hk => absurd hk (by simp)) (fun _ _ => rfl) (fun _ _ => rfl)
    rw [List.append_nil] at q
    exact q
  hg := fun Y hY => trG1_ok (good_gen g scope hY) hg
  ht := fun Y hY => ih.f (good_gen g scope hY) hf
end
end CH
/-! DI: the translation of expressions is right: all steps. -/
namespace CH
open PySem PySem.Spec PyProof.Rows L2 GenW
section
variable {F : Fx} {P : Prg} {cf : CF} {lv n : Nat}
theorem b1_rule {X : Cx} {E : XK} (hK : X.K = F.K) (hc : X.calm = true) (f : B1) {a : Expr} {fa : Env → Store → R RV} {x : Str} {p pos : Pos} (hg : Gl X x) (hm : X.mg x = none) (hv : bootBuiltins x = some (b1V f)) (hn : x ≠ "__name__") (hdb : (x == ("__debug__" : Str)) = false) (ha : PE X a (TX F E fa)) (hs : notStar a = true) :
    PE X (.Call (.Name x p) [a] [] pos) (TX F E fun ρ S => (fa ρ S).bind fun x S => b1R f x S) := by
  have rule : ∀ (pins : List (Addr × PySem.Obj)) (s : Shared) (σ : L2.St) (H H2 : Hp) (w w2 : List Addr) (S S2 : Store) (x : RV) (v : V) (u : Value) (Q : VK), SR F.K F.tb w H S → Inv X pins σ H2 s → RelV v u → Step F.K F.tb w H w2 H2 S2 → RVr F.K w2 H H2 x v → FinE F E (b1R f x S2) w H Q →
      wpAny (model X.prog X.w) X.A (call (b1V f) [u]) (EP X pins σ Q) X.xe s := fun pins s σ H H2 w w2 S S2 x v u Q hS I r st rv hf => b1_ok hK hc (sum_tup hc) f hS I r st rv hf
  cases f with
  | len => exact snd_callB (id := "len") hg hm hv hn hdb ha hs rule
  | int => exact snd_callTy (T := "int") hg hm hv hn hdb ha hs rule
  | tuple => exact snd_callTy (T := "tuple") hg hm hv hn hdb ha hs rule
  | list => exact snd_callTy (T := "list") hg hm hv hn hdb ha hs rule
  | sorted => exact snd_callB (id := "sorted") hg hm hv hn hdb ha hs rule
  | set => exact snd_callTy (T := "set") hg hm hv hn hdb ha hs rule
  | dict => exact snd_callTy (T := "dict") hg hm hv hn hdb ha hs rule
  | sum => exact snd_callB (id := "sum") hg hm hv hn hdb ha hs rule
  | max => exact snd_callB (id := "max") hg hm hv hn hdb ha hs rule
  | min => exact snd_callB (id := "min") hg hm hv hn hdb ha hs rule
  | any => exact snd_callB (id := "any") hg hm hv hn hdb ha hs rule
  | all => exact snd_callB (id := "all") hg hm hv hn hdb ha hs rule
  | bool => exact snd_callTy (T := "bool") hg hm hv hn hdb ha hs rule
  | abs => exact snd_callB (id := "abs") hg hm hv hn hdb ha hs rule
theorem gen_any {j : Nat} {E : XK} {c : Cs} {X : Cx} (g : Good F P cf lv j E c X) (htab : c.tab = true) {elt tg iter : Expr} {ifs : List Expr} {more : List Comprehension} {scope : Scope} {gpos : Pos} {own : List (Str × Nat)} {fi : Env → Store → R (List D × Grd)} {t : Tg} {ft : Env → Store → R Bool} {fb : Env → Store → List (Option D)}
    (h : GenOk F E X (lv + 1) tg iter ifs more scope own (.GeneratorExp elt (⟨tg, iter, ifs, 0⟩ :: more) scope gpos) fi t ft fb) {nm : Str} {p pos : Pos} {k : Gc} (h1 : nmOk nm = true) (h2 : glB c.sc nm = true) (h3 : nm ∈ P.blt) (hk : gcTab.lookup nm = some k) :
    PE X (.Call (.Name nm p) [.GeneratorExp elt (⟨tg, iter, ifs, 0⟩ :: more) scope gpos] [] pos) (TX F E fun ρ S => (fi ρ S).bind fun a S => if a.2.ok S then genR k (strmF t own ft fb a.1 ρ S) S else .bad) := by
  obtain ⟨n1, n2, n3⟩ := nm_ok h1
  have hr : Room (lv + 1 + 3) X.A := g.room.mono (by have := (g.tab htab).1; omega)
  rcases gc_all _ (mem_lk hk) with ⟨e, q⟩ | ⟨e, q⟩ | ⟨e, q⟩
  · obtain rfl : k = .tuple := e
    exact snd_gtup h hr (gl_ok g h2) (g.blt _ h3) q n3 n1
  · obtain rfl : k = .any := e
    exact snd_gany h hr (gl_ok g h2) (g.blt _ h3) q n3 n1
  · obtain rfl : k = .all := e
    exact snd_gall h hr (gl_ok g h2) (g.blt _ h3) q n3 n1
theorem lock_ev {X : Cx} {E : XK} {e : Expr} {i : Ix} {f : Env → Store → R RV} {x : Ex} (h : PE X e (TX F E f)) (hq : ∀ ρ S, ev cf x ρ S = lockR (lockI i ρ S) (f ρ) S) : PE X e (TX F E (ev cf x)) :=
  toX (snd_lock (k := fun ρ S => lockI i ρ S) (fun ρ S r c h => lockI_ok h) h) hq
theorem ssA_some {P : Prg} {c : Cs} {x : Str} {a b : Expr} (h : ssA P c x a = some b) : ∃ y p q, a = .Call (.Name y p) [b] [] q ∧ x = ("sorted" : Str) ∧ y = ("set" : Str) ∧ blt P c y = true ∧ notStar b = true := by
  unfold ssA at h
  split at h
  · split at h
    · rename_i hc
      cases h
      simp only [Bool.and_eq_true, decide_eq_true_eq] at hc
      exact ⟨_, _, _, rfl, hc.1.1.1, hc.1.1.2, hc.1.2, hc.2⟩
    · cases h
  · cases h
theorem step_b (ih : Snd F P cf lv n) {j : Nat} {E : XK} {c : Cs} {X : Cx} (g : Good F P cf lv j E c X) : ∀ {nm : Str} {es : List Expr} {x : Ex} {p pos : Pos}, nmOk nm = true → glB c.sc nm = true → nm ∈ P.blt → trB (n + 1) P c nm es = some x → PE X (.Call (.Name nm p) es [] pos) (TX F E (ev cf x)) := by
  intro nm es x p pos h1 h2 h3 h
  obtain ⟨n1, n2, n3⟩ := nm_ok h1
  unfold trB at h
  split at h
  · rename_i elt gs scope gpos
    split at h
    · rename_i htab
      split at h
      · rename_i k hk
        split at h
        · rename_i tg iter ifs
          split at h
          · rename_i hc
            simp only [Bool.and_eq_true, Bool.not_eq_true'] at hc
            obtain ⟨⟨⟨⟨c1, c2⟩, c3⟩, c4⟩, c5⟩ := hc
            split at h
            · rename_i i t fs e q1 q2 q3 q4
              split at h
              · rename_i hs
                cases h
                exact lock_ev (gen_any g htab (gen1 ih g htab c1 c2 (dot_ok c3) c4 c5 q1 q2 q3 q4 hs) h1 h2 h3 hk) fun ρ S => by simp only [ev] <;> rfl
              · cases h
            · cases h
          · cases h
        · rename_i tg iter ifs tg1 iter1 ifs1
          split at h
          · rename_i hc
            simp only [Bool.and_eq_true, Bool.not_eq_true'] at hc
            obtain ⟨⟨⟨⟨⟨c1, c2⟩, c3⟩, c4⟩, c5⟩, c6⟩ := hc
            split at h
            · rename_i i t fs i1 t1 fs1 e q1 q2 q3 q4 q5 q6 q7
              split at h
              · rename_i hs
                rw [Bool.and_eq_true] at hs
                cases h
                exact lock_ev (gen_any g htab (gen2 ih g htab c1 c2 (dot_ok c3) c4 c5 c6 q1 q2 q3 q4 q5 q6 q7 hs.1 hs.2) h1 h2 h3 hk) fun ρ S => by simp only [ev] <;> rfl
              · cases h
            · cases h
          · cases h
        · cases h
      · cases h
    · cases h
  · split at h
    · rename_i b hb
      obtain ⟨y, p2, q, e1, e2, e3, e4, e5⟩ := ssA_some hb
      subst e1 e2 e3
      cases q2 : trE n P c b with
      | none => rw [q2] at h; cases h
      | some b' =>
        rw [q2] at h
        cases h
        obtain ⟨m1, m2, m3⟩ := blt_ok g e4
        exact toX (snd_sset g.K g.calm (gl_ok g h2) (g.blt _ h3) (gl_ok g m2) (g.blt _ m3) (ih.e g q2) e5) fun ρ S => by simp only [ev]
    split at h
    · rename_i hs
      split at h
      · rename_i f a q1 q2
        cases h
        exact toX (b1_rule g.K g.calm f (gl_ok g h2) (g.blt _ h3) (b1_all _ (mem_lk q1)) n3 n1 (ih.e g q2) hs) fun ρ S => by simp only [ev]
      · cases h
    · cases h
  · split at h
    · rename_i hs
      rw [Bool.and_eq_true] at hs
      split at h
      · rename_i f q1
        split at h
        · rename_i q2 q3
          cases h
          exact toX (snd_b2 f g.calm (gl_ok g h2) (g.blt _ h3) (b2_all _ (mem_lk q1)) n3 n1 (ih.e g q2) (ih.e g q3) hs.1 hs.2) fun ρ S => by simp only [ev]
        · cases h
      · split at h
        · rename_i hi
          have hi : nm = ("isinstance" : Str) := by simpa using hi
          split at h
          · rename_i y p2 _ _
            split at h
            · rename_i hb
              obtain ⟨b1, b2, b3⟩ := blt_ok g hb
              obtain ⟨m1, m2, m3⟩ := nm_ok b1
              split at h
              · rename_i t a q1 q2
                cases h
                exact toX (snd_isi g.K t (gl_ok g h2) (g.blt _ h3) (by rw [hi]; exact isi_boot) n3 n1 (gl_ok g b2) (g.blt _ b3) (ty_all _ (mem_lk q1)) m3 m1 (ih.e g q2) hs.1) fun ρ S => by simp only [ev]
              · cases h
            · cases h
          · cases h
        · cases h
    · cases h
  · cases h
end
end CH
/-! DJ: the translation of expressions is right. -/
namespace CH
open PySem PySem.Spec PyProof.Rows L2 GenW
section
variable {F : Fx} {P : Prg} {cf : CF} {lv n : Nat}
theorem size1000 : 1000 ≤ sizeLine := by decide
theorem lc_ok (ih : Snd F P cf lv n) {j : Nat} {E : XK} {c : Cs} {X : Cx} (g : Good F P cf lv j E c X) {elt tg iter : Expr} {ifs : List Expr} {scope : Scope} {i : Ix} {t : Tg} {fs : Txs} {e : Ex} (h2 : okBlk c scope = true) (h4 : notSetE iter = true)
    (hi : trI n P c tg iter = some i) (hg : trG1 n (c.blk scope) tg = some t) (hf : trF n P (c.blk scope) ifs = some fs) (he : trE n P (c.blk scope) elt = some e) (hs : subs t.vars ((ownOf c.N scope).map (·.2)) = true) :
    (∀ {pos : Pos}, PE X (.ListComp elt [⟨tg, iter, ifs, 0⟩] scope pos) (TX F E (lcF (evI cf i) t ((ownOf c.N scope).map (·.2)) (tst cf fs) (ev cf e)))) ∧
    ∀ {y : Str} {k : Nat} {py pos spos : Pos}, X.N[k]? = some y → X.env.scope.names.lookup y = some .local → swapsWith (.ListComp elt [⟨tg, iter, ifs, 0⟩] scope pos) (some (.Name y py)) spos.line X.env = pure true →
      PS X (.Assign [.Name y py] (.ListComp elt [⟨tg, iter, ifs, 0⟩] scope pos) spos) (TSX F E fun ρ S => (matB (lcF (evI cf i) t ((ownOf c.N scope).map (·.2)) (tst cf fs) (ev cf e) ρ S)).bindS fun v S => .nx (ρ.set k (some v)) S) := by
  have nd : X.N.Nodup := by rw [g.N]; exact g.nd
  have ok : BlkOk X.N X.env.scope scope (ownOf c.N scope) := by rw [g.N, g.sc]; exact blkOk_by h2
  have a1 := fun s H C cl fp => trG1_ok (good_blk g scope s H C cl fp) hg
  have a2 := fun s H C cl fp => ih.f (good_blk g scope s H C cl fp) hf
  have a3 := fun s H C cl fp => ih.e (good_blk g scope s H C cl fp) he
  exact ⟨snd_lc nd g.calm (ih.i g hi) ok a1 a2 a3 h4 (subs_ok hs), fun hk hl hsw => bs_lc nd g.calm hk hl hsw (ih.i g hi) ok a1 a2 a3 h4 (subs_ok hs)⟩
theorem lc2_ok (ih : Snd F P cf lv n) {j : Nat} {E : XK} {c : Cs} {X : Cx} (g : Good F P cf lv j E c X) {elt tg iter tg1 iter1 : Expr} {ifs ifs1 : List Expr} {scope : Scope} {i i1 : Ix} {t t1 : Tg} {fs fs1 : Txs} {e : Ex} (h2 : okBlk c scope = true) (h4 : notSetE iter = true) (h5 : notSetE iter1 = true)
    (hi : trI n P c tg iter = some i) (hg : trG1 n (c.blk scope) tg = some t) (hf : trF n P (c.blk scope) ifs = some fs) (hi1 : trI n P (c.blk scope) tg1 iter1 = some i1) (hg1 : trG1 n (c.blk scope) tg1 = some t1) (hf1 : trF n P (c.blk scope) ifs1 = some fs1) (he : trE n P (c.blk scope) elt = some e) (hs : subs t.vars ((ownOf c.N scope).map (·.2)) = true) (hs1 : subs t1.vars ((ownOf c.N scope).map (·.2)) = true) :
    (∀ {pos : Pos}, PE X (.ListComp elt [⟨tg, iter, ifs, 0⟩, ⟨tg1, iter1, ifs1, 0⟩] scope pos) (TX F E (lc2R (evI cf i) t ((ownOf c.N scope).map (·.2)) (tst cf fs) (evI cf i1) t1 t1.vars (tst cf fs1) (ev cf e)))) ∧
    ∀ {y : Str} {k : Nat} {py pos spos : Pos}, X.N[k]? = some y → X.env.scope.names.lookup y = some .local → swapsWith (.ListComp elt [⟨tg, iter, ifs, 0⟩, ⟨tg1, iter1, ifs1, 0⟩] scope pos) (some (.Name y py)) spos.line X.env = pure true →
      PS X (.Assign [.Name y py] (.ListComp elt [⟨tg, iter, ifs, 0⟩, ⟨tg1, iter1, ifs1, 0⟩] scope pos) spos) (TSX F E fun ρ S => (matB (lc2R (evI cf i) t ((ownOf c.N scope).map (·.2)) (tst cf fs) (evI cf i1) t1 t1.vars (tst cf fs1) (ev cf e) ρ S)).bindS fun v S => .nx (ρ.set k (some v)) S) := by
  have nd : X.N.Nodup := by rw [g.N]; exact g.nd
  have ok : BlkOk X.N X.env.scope scope (ownOf c.N scope) := by rw [g.N, g.sc]; exact blkOk_by h2
  have a1 := fun s H C cl fp => trG1_ok (good_blk g scope s H C cl fp) hg
  have a2 := fun s H C cl fp => ih.f (good_blk g scope s H C cl fp) hf
  have b0 := fun s H C cl fp => ih.i (good_blk g scope s H C cl fp) hi1
  have b1 := fun s H C cl fp => trG1_ok (good_blk g scope s H C cl fp) hg1
  have b2 := fun s H C cl fp => ih.f (good_blk g scope s H C cl fp) hf1
  have a3 := fun s H C cl fp => ih.e (good_blk g scope s H C cl fp) he
  exact ⟨snd_lc2 nd g.calm (ih.i g hi) ok a1 a2 b0 b1 b2 a3 h4 h5 (subs_ok hs) (subs_ok hs1), fun hk hl hsw => bs_lc2 nd g.calm hk hl hsw (ih.i g hi) ok a1 a2 b0 b1 b2 a3 h4 h5 (subs_ok hs) (subs_ok hs1)⟩
theorem dc_ok (ih : Snd F P cf lv n) {j : Nat} {E : XK} {c : Cs} {X : Cx} (g : Good F P cf lv j E c X) {kx vx tg iter : Expr} {ifs : List Expr} {scope : Scope} {i : Ix} {t : Tg} {fs : Txs} {ek e : Ex} (h2 : okBlk c scope = true) (h4 : notSetE iter = true)
    (hi : trI n P c tg iter = some i) (hg : trG1 n (c.blk scope) tg = some t) (hf : trF n P (c.blk scope) ifs = some fs) (hk : trE n P (c.blk scope) kx = some ek) (he : trE n P (c.blk scope) vx = some e) (hs : subs t.vars ((ownOf c.N scope).map (·.2)) = true) :
    (∀ {pos : Pos}, PE X (.DictComp kx vx [⟨tg, iter, ifs, 0⟩] scope pos) (TX F E (dcF (evI cf i) t ((ownOf c.N scope).map (·.2)) (tst cf fs) (ev cf ek) (ev cf e)))) ∧
    ∀ {y : Str} {k : Nat} {py pos spos : Pos}, X.N[k]? = some y → X.env.scope.names.lookup y = some .local → swapsWith (.DictComp kx vx [⟨tg, iter, ifs, 0⟩] scope pos) (some (.Name y py)) spos.line X.env = pure true →
      PS X (.Assign [.Name y py] (.DictComp kx vx [⟨tg, iter, ifs, 0⟩] scope pos) spos) (TSX F E fun ρ S => (matB (dcF (evI cf i) t ((ownOf c.N scope).map (·.2)) (tst cf fs) (ev cf ek) (ev cf e) ρ S)).bindS fun v S => .nx (ρ.set k (some v)) S) := by
  have nd : X.N.Nodup := by rw [g.N]; exact g.nd
  have ok : BlkOk X.N X.env.scope scope (ownOf c.N scope) := by rw [g.N, g.sc]; exact blkOk_by h2
  have a1 := fun s H C cl fp => trG1_ok (good_blk g scope s H C cl fp) hg
  have a2 := fun s H C cl fp => ih.f (good_blk g scope s H C cl fp) hf
  have a0 := fun s H C cl fp => ih.e (good_blk g scope s H C cl fp) hk
  have a3 := fun s H C cl fp => ih.e (good_blk g scope s H C cl fp) he
  exact ⟨snd_dc nd g.calm (ih.i g hi) ok a1 a2 a0 a3 h4 (subs_ok hs), fun hk hl hsw => bs_dc nd g.calm hk hl hsw (ih.i g hi) ok a1 a2 a0 a3 h4 (subs_ok hs)⟩
theorem step_e (ih : Snd F P cf lv n) {j : Nat} {E : XK} {c : Cs} {X : Cx} (g : Good F P cf lv j E c X) : ∀ {e : Expr} {x : Ex}, trE (n + 1) P c e = some x → PE X e (TX F E (ev cf x)) := by
  intro e x h
  have hu := units_of g
  have hu1 : X.A.units + 1 < cLine := by omega
  unfold trE at h
  split at h
  · -- name
    rename_i y p
    split at h
    · rename_i hn
      obtain ⟨n1, n2, n3⟩ := nm_ok hn
      split at h
      · rename_i hv
        cases q : slotOf c.N y with
        | none => rw [q] at h; cases h
        | some i =>
          rw [q] at h
          cases h
          exact toX (snd_var (by rw [g.N]; exact slot_ok q) (vis_ok g hv) n1 n2) fun ρ S => by simp only [ev] <;> rfl
      · split at h
        · rename_i hgl
          cases q : P.con.lookup y with
          | none => rw [q] at h; cases h
          | some d =>
            rw [q] at h
            cases h
            obtain ⟨u, v, hm, r, hv⟩ := g.con _ _ (mem_lk q)
            exact toX (snd_con (pe_glob (gl_ok g hgl) hm r n1) hv) fun ρ S => by simp only [ev]
        · cases h
    · cases h
  · -- constant
    split at h
    · cases h; exact toX (snd_con pe_int fun w H => .int _) fun ρ S => by simp only [ev]
    · cases h; exact toX (snd_con pe_bl fun w H => .bl _) fun ρ S => by simp only [ev]
    · cases h; exact toX (snd_con pe_non fun w H => .non) fun ρ S => by simp only [ev]
    · cases h; exact toX (snd_con pe_str fun w H => .str _) fun ρ S => by simp only [ev]
    · cases h
  · -- tuple
    split at h
    · rename_i hl
      cases q : trEs n P c _ with
      | none => rw [q] at h; cases h
      | some xs =>
        rw [q] at h
        cases h
        obtain ⟨q1, q2, q3⟩ := ih.es g q
        exact toX (snd_tup q1 fun ρ S ds S' e => by rw [q3 _ _ _ _ e]; exact Nat.le_trans hl size1000) fun ρ S => by simp only [ev]
    · cases h
  · -- list
    split at h
    · rename_i hl
      cases q : trEs n P c _ with
      | none => rw [q] at h; cases h
      | some xs =>
        rw [q] at h
        cases h
        obtain ⟨q1, q2, q3⟩ := ih.es g q
        exact toX (snd_lst q1 fun ρ S ds S' e => by rw [q3 _ _ _ _ e]; exact Nat.le_trans hl size1000) fun ρ S => by simp only [ev]
    · cases h
  · -- dict
    cases h
    exact toX snd_dnew fun ρ S => by simp only [ev]
  · -- pairs
    split at h
    · rename_i hc
      simp only [Bool.and_eq_true, decide_eq_true_eq, Bool.not_eq_true'] at hc
      obtain ⟨c1, c2, c3, c4⟩ := hc
      cases q : trP n P c _ _ with
      | none => rw [q] at h; cases h
      | some ps =>
        rw [q] at h
        cases h
        obtain ⟨q1, q2⟩ := ih.p g q
        exact toX (snd_dsp q1 c1 c2 (fun z => by rw [z] at c4; cases c4) c3 q2) fun ρ S => by simp only [ev]
    · cases h
  · -- binop
    split at h
    · rename_i h0 h1 h2
      cases h
      obtain rfl := bop_ok h0
      exact toX (snd_bin g.K _ (ih.e g h1) (ih.e g h2)) fun ρ S => by simp only [ev]
    · cases h
  · -- unary
    split at h
    · rename_i h1
      cases h
      exact toX (snd_neg (ih.e g h1)) fun ρ S => by simp only [ev] <;> rfl
    · rename_i h1
      cases h
      exact toX (snd_not g.K (ih.e g h1)) fun ρ S => by simp only [ev]
    · cases h
  · -- and, or
    split at h
    · exact pe_one (ih.e g h)
    · split at h
      · rename_i h1 h2
        cases h
        exact toX (snd_and g.K (ih.e g h1) (ih.e g h2)) fun ρ S => by simp only [ev] <;> rfl
      · cases h
    · split at h
      · rename_i h1 h2
        cases h
        exact toX (snd_or g.K (ih.e g h1) (ih.e g h2)) fun ρ S => by simp only [ev] <;> rfl
      · cases h
    · cases h
  · -- compare
    split at h
    · split at h
      · rename_i nm tb ht
        obtain ⟨p, rfl, kt, hg, hd⟩ := tab_ok g ht
        split at h
        · cases q : trE n P c _ with
          | none => rw [q] at h; cases h
          | some y =>
            rw [q] at h
            cases h
            exact toX (snd_kmem g.K kt hg hd (ih.e g q) true) fun ρ S => by simp only [ev, matB, R.bind_ok, mat] <;> rfl
        · cases q : trE n P c _ with
          | none => rw [q] at h; cases h
          | some y =>
            rw [q] at h
            cases h
            exact toX (snd_kmem g.K kt hg hd (ih.e g q) false) fun ρ S => by simp only [ev, matB, R.bind_ok, mat] <;> rfl
        · cases h
      split at h
      · cases h
      · rename_i hm
        split at h
        · rename_i h0 h1 h2
          cases h
          obtain rfl := cop_ok h0
          exact toX (snd_cmp g.K hu _ (ih.e g h1) (ih.e g h2) (by simpa using hm)) fun ρ S => by simp only [ev]
        · cases h
    · split at h
      · cases h
      · rename_i hm
        split at h
        · rename_i h0 h00 h1 h2 h3
          cases h
          obtain rfl := cop_ok h0
          obtain rfl := cop_ok h00
          exact toX (snd_chn g.K hu _ _ (ih.e g h1) (ih.e g h2) (ih.e g h3) (by simpa using hm)) fun ρ S => by simp only [ev]
        · cases h
    · cases h
  · -- if
    split at h
    · rename_i h1 h2 h3
      cases h
      exact toX (snd_ite (ih.t g h1).1 (ih.e g h2) (ih.e g h3)) fun ρ S => by simp only [ev]
    · cases h
  · -- subscript
    split at h
    · split at h
      · rename_i h1 h2 h3
        cases h
        exact toX (snd_slc g.K (ih.e g h1) (ih.o g h2) (ih.o g h3)) fun ρ S => by simp only [ev]
      · cases h
    · split at h
      · split at h
        · rename_i hr
          cases q : trE n P c _ with
          | none => rw [q] at h; cases h
          | some y =>
            rw [q] at h
            cases h
            unfold revE at hr
            split at hr
            · exact toX (snd_rev g.K (ih.e g q)) fun ρ S => by simp only [ev]
            · cases hr
        · cases h
      · rename_i hs
        split at h
        · rename_i nm tb ht
          obtain ⟨p, rfl, kt, hg, hd⟩ := tab_ok g ht
          cases q : trE n P c _ with
          | none => rw [q] at h; cases h
          | some y =>
            rw [q] at h
            cases h
            exact toX (snd_kidx g.K kt hg hd (ih.e g q) (plain_ix (by simpa using hs))) fun ρ S => by simp only [ev, matB, R.bind_ok, mat]
        split at h
        · rename_i h1 h2
          cases h
          exact toX (snd_idx g.K hu1 (ih.e g h1) (ih.e g h2) (plain_ix (by simpa using hs))) fun ρ S => by simp only [ev]
        · cases h
  · -- call
    rename_i f es ks p
    split at h
    · split at h
      · rename_i y p2
        split at h
        · rename_i hn
          rw [Bool.and_eq_true] at hn
          obtain ⟨n1, n2, n3⟩ := nm_ok hn.1
          split at h
          · rename_i k hk
            split at h
            · rename_i hl
              cases q : trEs n P c es with
              | none => rw [q] at h; cases h
              | some xs =>
                rw [q] at h
                cases h
                obtain ⟨q1, q2, q3⟩ := ih.es g q
                have hf := g.fns _ _ (mem_lk hk)
                have hr : Room lv X.A := g.room.mono (by omega)
                cases es with
                | nil =>
                  have k0 : k = 0 := hl.symm
                  subst k0
                  refine toX (snd_call0 hr (gl_ok g hn.2) n1 hf g.pass) fun ρ S => ?_
                  have e0 : xs = .nil := by
                    cases n with
                    | zero => simp only [trEs] at q; cases q
                    | succ n => simp only [trEs] at q; cases q; rfl
                  subst e0
                  simp only [ev, evs]
                | cons e es => exact toX (snd_call hr (gl_ok g hn.2) n1 hf g.pass q1 q2 fun ρ S ds S' e => by rw [q3 _ _ _ _ e, hl]) fun ρ S => by simp only [ev]
            · cases h
          · split at h
            · rename_i hb
              exact ih.b g hn.1 hn.2 (by simpa using hb) h
            · cases h
        · cases h
      · split at h
        · rename_i hb
          rw [Bool.and_eq_true] at hb
          exact ih.m g hb.1 hb.2 h
        · cases h
      · cases h
    · cases h
  · -- list comprehension
    split at h
    · split at h
      · rename_i hc
        rw [Bool.and_eq_true] at hc
        split at h
        · rename_i q1 q2 q3 q4
          split at h
          · rename_i hs
            cases h
            exact lock_ev (lc_ok ih g hc.1 hc.2 q1 q2 q3 q4 hs).1 fun ρ S => by simp only [ev] <;> rfl
          · cases h
        · cases h
      · cases h
    · split at h
      · rename_i hc
        simp only [Bool.and_eq_true] at hc
        split at h
        · rename_i q1 q2 q3 q4 q5 q6 q7
          split at h
          · rename_i hs
            rw [Bool.and_eq_true] at hs
            cases h
            exact lock_ev (lc2_ok ih g hc.1.1 hc.1.2 hc.2 q1 q2 q3 q4 q5 q6 q7 hs.1 hs.2).1 fun ρ S => by simp only [ev] <;> rfl
          · cases h
        · cases h
      · cases h
    · cases h
  · -- dict comprehension
    split at h
    · split at h
      · rename_i hc
        rw [Bool.and_eq_true] at hc
        split at h
        · rename_i q1 q2 q3 q4 q5
          split at h
          · rename_i hs
            cases h
            exact lock_ev (dc_ok ih g hc.1 hc.2 q1 q2 q3 q4 q5 hs).1 fun ρ S => by simp only [ev] <;> rfl
          · cases h
        · cases h
      · cases h
    · cases h
  · cases h
theorem snd_all : ∀ n, Snd F P cf lv n
  | 0 => by
    constructor <;> (intros; rename_i h; cases h)
  | n + 1 => ⟨step_e (snd_all n), step_o (snd_all n), step_b (snd_all n), step_m (snd_all n), step_p (snd_all n), step_es (snd_all n), step_t (snd_all n), step_f (snd_all n), step_i (snd_all n)⟩
end
end CH
/-! DK: the translation of statements is right. -/
namespace CH
open PySem PySem.Spec PyProof.Rows L2 GenW
section
variable {F : Fx} {P : Prg} {cf : CF} {lv : Nat} {j : Nat} {E : XK} {c : Cs} {X : Cx}
theorem toS {s : Stmt} {f g : Env → Store → RS} (h : PS X s (TSX F E f)) (q : ∀ ρ S, g ρ S = f ρ S) : PS X s (TSX F E g) := by
  rw [show g = f from funext fun ρ => funext fun S => q ρ S]; exact h
theorem toSs {s : List Stmt} {f g : Env → Store → RS} (h : PSs X s (TSX F E f)) (q : ∀ ρ S, g ρ S = f ρ S) : PSs X s (TSX F E g) := by
  rw [show g = f from funext fun ρ => funext fun S => q ρ S]; exact h
/-- where the guard does not hold nothing is promised -/
theorem ps_guard {s : Stmt} {b : Env → Store → Bool} {f g : Env → Store → RS} (h : PS X s (TSX F E f)) (q : ∀ ρ S, b ρ S = false → g ρ S = f ρ S) : PS X s (TSX F E fun ρ S => if b ρ S = true then .bad else g ρ S) :=
  PS.imp h fun D σ H ⟨w, ρ, S, hS, hE, hf⟩ => by
    dsimp only at hf
    cases hb : b ρ S with
    | true => rw [hb, if_pos rfl] at hf; exact hf.elim
    | false =>
      rw [hb, if_neg (by decide), q ρ S hb] at hf
      exact ⟨w, ρ, S, hS, hE, hf⟩
theorem assign_sub {o i : Expr} {p : Pos} (h : isSlice i = false) (env : PySem.Env) (v : Value) : assign (.Subscript o i p) env v = (do
    let ov ← holding [v] (eval o env)
    let iv ← holding [v, ov] (eval i env)
    standAt p
    holding [v, ov, iv] (setItem ov iv v)
    release [v, ov, iv] []) := by
  cases i <;> first | rfl | cases h
theorem swap_ok (g : Good F P cf lv j E c X) (hk : X.env.blockKind = .function) {elt : Expr} {gs : List Comprehension} {scope : Scope} {pos q p : Pos} {x : Str} (h : swapB c (.ListComp elt gs scope pos) x q p = true) :
    X.env.scope.names.lookup x = some .local ∧ swapsWith (.ListComp elt gs scope pos) (some (.Name x q)) p.line X.env = pure true := by
  unfold swapB at h
  simp only [Bool.and_eq_true] at h
  obtain ⟨⟨⟨h1, h2⟩, h3⟩, h4⟩ := h
  have hl := lcl_ok g h1
  refine ⟨hl, ?_⟩
  have e1 : (X.env.kindOf x == some NameKind.local) = true := by
    show (X.env.scope.names.lookup x == some NameKind.local) = true
    rw [hl]; rfl
  unfold swapsWith
  show (pure _ : Sem Bool) = pure true
  rw [hk, e1]
  have h5 : (scope.names.any fun (n, k) => n == x && (k == .local || k == .cell)) = false := by simpa using h4
  have h6 : (q.line == (Expr.ListComp elt gs scope pos).pos.line) = true := h3
  rw [h5, h6]
  rfl
theorem swap_okD (g : Good F P cf lv j E c X) (hk : X.env.blockKind = .function) {kx vx : Expr} {gs : List Comprehension} {scope : Scope} {pos q p : Pos} {x : Str} (h : swapB c (.DictComp kx vx gs scope pos) x q p = true) :
    X.env.scope.names.lookup x = some .local ∧ swapsWith (.DictComp kx vx gs scope pos) (some (.Name x q)) p.line X.env = pure true := by
  unfold swapB at h
  simp only [Bool.and_eq_true] at h
  obtain ⟨⟨⟨h1, h2⟩, h3⟩, h4⟩ := h
  have hl := lcl_ok g h1
  refine ⟨hl, ?_⟩
  have e1 : (X.env.kindOf x == some NameKind.local) = true := by
    show (X.env.scope.names.lookup x == some NameKind.local) = true
    rw [hl]; rfl
  unfold swapsWith
  show (pure _ : Sem Bool) = pure true
  rw [hk, e1]
  have h5 : (scope.names.any fun (n, k) => n == x && (k == .local || k == .cell)) = false := by simpa using h4
  have h6 : (q.line == (Expr.DictComp kx vx gs scope pos).pos.line) = true := h3
  rw [h5, h6]
  rfl
structure SndS (F : Fx) (P : Prg) (cf : CF) (lv n : Nat) : Prop where
  s : ∀ {j : Nat} {E : XK} {c : Cs} {X : Cx}, Good F P cf lv j E c X → PassesOwn (model X.prog X.w) X.A X.env X.xe → X.env.blockKind = .function → ∀ {st : Stmt} {x : St}, trS n P c st = some x → PS X st (TSX F E (ex cf x))
  ss : ∀ {j : Nat} {E : XK} {c : Cs} {X : Cx}, Good F P cf lv j E c X → PassesOwn (model X.prog X.w) X.A X.env X.xe → X.env.blockKind = .function → ∀ {st : List Stmt} {x : Sts}, trSs n P c st = some x → PSs X st (TSX F E (exs cf x))
theorem step_ss {n : Nat} (ih : SndS F P cf lv n) (g : Good F P cf lv j E c X) (ho : PassesOwn (model X.prog X.w) X.A X.env X.xe) (hbk : X.env.blockKind = .function) : ∀ {st : List Stmt} {x : Sts}, trSs (n + 1) P c st = some x → PSs X st (TSX F E (exs cf x)) := by
  intro st x h
  cases st with
  | nil =>
    unfold trSs at h
    cases h
    exact toSs bss_nil fun ρ S => by simp only [exs]
  | cons s ss =>
    unfold trSs at h
    split at h
    · rename_i h1 h2
      cases h
      exact toSs (bss_cons (ih.s g ho hbk h1) (ih.ss g ho hbk h2)) fun ρ S => by simp only [exs]
    · cases h
/-- the lock lies about the whole statement -/
theorem lock_set {k : Option (Nat × Cell)} {f : Store → R RV} {ρ : Env} {i : Nat} {S : Store} : (matB (lockR k f S)).bindS (fun v S => .nx (ρ.set i (some v)) S) = .bad ∨
    lockS k (fun S => (matB (f S)).bindS fun v S => .nx (ρ.set i (some v)) S) S = (matB (lockR k f S)).bindS fun v S => .nx (ρ.set i (some v)) S := by
  cases k with
  | none => exact .inr rfl
  | some rc =>
    obtain ⟨r, c⟩ := rc
    unfold lockR lockS
    dsimp only
    cases f (S.set r (.frz c)) with
    | bad => exact .inl rfl
    | exc _ _ => exact .inl rfl
    | ok x S' =>
      dsimp only
      by_cases h : S'[r]? = some (.frz c)
      · rw [if_pos h]
        cases x with
        | d v => exact .inr (if_pos h)
        | o c' =>
          have hr : r < S'.length := (List.getElem?_eq_some_iff.mp h).1
          have h2 : (S' ++ [c'])[r]? = some (.frz c) := by rw [List.getElem?_append_left hr]; exact h
          refine .inr ((if_pos h2).trans ?_)
          show RS.nx (ρ.set i (some (.ref S'.length))) ((S' ++ [c']).set r c) = RS.nx (ρ.set i (some (.ref (S'.set r c).length))) (S'.set r c ++ [c'])
          rw [List.set_append_left _ _ hr, List.length_set]
      · rw [if_neg h]; exact .inl rfl
theorem ps_or {s : Stmt} {f g : Env → Store → RS} (h : PS X s (TSX F E f)) (q : ∀ ρ S, g ρ S = .bad ∨ f ρ S = g ρ S) : PS X s (TSX F E g) :=
  PS.imp h fun D σ H ⟨w, ρ, S, hS, hE, hf⟩ => by
    rcases q ρ S with e | e
    · rw [e] at hf; exact hf.elim
    · rw [← e] at hf; exact ⟨w, ρ, S, hS, hE, hf⟩
theorem set_lock {s : Stmt} {it : Ix} {f : Env → Store → R RV} {i : Nat} (h : PS X s (TSX F E fun ρ S => (matB (f ρ S)).bindS fun v S => .nx (ρ.set i (some v)) S)) :
    PS X s (TSX F E fun ρ S => (matB (lockR (lockI it ρ S) (f ρ) S)).bindS fun v S => .nx (ρ.set i (some v)) S) :=
  ps_or (bs_lock (k := lockI it) (fun ρ S r c e => lockI_ok e) h) fun ρ S => lock_set
theorem step_s {n : Nat} (ih : SndS F P cf lv n) (g : Good F P cf lv j E c X) (ho : PassesOwn (model X.prog X.w) X.A X.env X.xe) (hbk : X.env.blockKind = .function) : ∀ {st : Stmt} {x : St}, trS (n + 1) P c st = some x → PS X st (TSX F E (ex cf x)) := by
  intro st x h
  have al := snd_all (F := F) (P := P) (cf := cf) (lv := lv) n
  have nd : X.N.Nodup := by rw [g.N]; exact g.nd
  have hu := units_of g
  have hu1 : X.A.units + 1 < cLine := by omega
  unfold trS at h
  split at h
  · -- expression
    split at h
    · rename_i hs
      cases q : trE n P c _ with
      | none => rw [q] at h; cases h
      | some y =>
        rw [q] at h
        cases h
        exact toS (ps_x (al.e g q) hs) fun ρ S => by simp only [ex]
    · cases h
  · cases q : trE n P c _ with
    | none => rw [q] at h; cases h
    | some y =>
      rw [q] at h
      cases h
      exact toS (ps_rt (al.e g q)) fun ρ S => by simp only [ex]
  · cases h
    exact toS ps_rtN fun ρ S => by simp only [ex, ev, R.bindS_ok]
  · cases h
    exact toS (ps_nx ps_pass) fun ρ S => by simp only [ex]
  · cases h
    exact toS ps_bk fun ρ S => by simp only [ex]
  · cases h
    exact toS ps_ct fun ρ S => by simp only [ex]
  · -- assignment
    rename_i t e p
    split at h
    · rename_i y q
      split at h
      · rename_i hl
        rw [Bool.and_eq_true] at hl
        split at h
        · rename_i i v hi hv
          have hi' : X.N[i]? = some y := by rw [g.N]; exact slot_ok hi
          split at h
          · rename_i hs
            cases h
            exact toS (ps_nm nd hi' (loc_ok g hl.1) (fn_ok g hl.2) (al.e g hv) ((Bool.or_eq_true _ _).mp hs |>.elim (fun h => swaps_none h _ _ _) fun h => swaps_cell (cll_ok g h))) fun ρ S => by simp only [ex]
          · split at h
            · rename_i hsw
              cases h
              cases n with
              | zero => cases hv
              | succ n =>
                cases e with
                | ListComp elt gs scope pos =>
                  obtain ⟨l1, l2⟩ := swap_ok g hbk hsw
                  unfold trE at hv
                  dsimp only at hv
                  split at hv
                  · split at hv
                    · rename_i hc
                      rw [Bool.and_eq_true] at hc
                      split at hv
                      · rename_i q1 q2 q3 q4
                        split at hv
                        · rename_i hss
                          cases hv
                          exact toS (set_lock ((lc_ok (snd_all n) g hc.1 hc.2 q1 q2 q3 q4 hss).2 hi' l1 l2)) fun ρ S => by simp only [ex, ev] <;> rfl
                        · cases hv
                      · cases hv
                    · cases hv
                  · split at hv
                    · rename_i hc
                      simp only [Bool.and_eq_true] at hc
                      split at hv
                      · rename_i q1 q2 q3 q4 q5 q6 q7
                        split at hv
                        · rename_i hss
                          rw [Bool.and_eq_true] at hss
                          cases hv
                          exact toS (set_lock ((lc2_ok (snd_all n) g hc.1.1 hc.1.2 hc.2 q1 q2 q3 q4 q5 q6 q7 hss.1 hss.2).2 hi' l1 l2)) fun ρ S => by simp only [ex, ev] <;> rfl
                        · cases hv
                      · cases hv
                    · cases hv
                  · cases hv
                | DictComp kx vx gs scope pos =>
                  obtain ⟨l1, l2⟩ := swap_okD g hbk hsw
                  unfold trE at hv
                  dsimp only at hv
                  split at hv
                  · split at hv
                    · rename_i hc
                      rw [Bool.and_eq_true] at hc
                      split at hv
                      · rename_i q1 q2 q3 q4 q5
                        split at hv
                        · rename_i hss
                          cases hv
                          exact toS (set_lock ((dc_ok (snd_all n) g hc.1 hc.2 q1 q2 q3 q4 q5 hss).2 hi' l1 l2)) fun ρ S => by simp only [ex, ev] <;> rfl
                        · cases hv
                      · cases hv
                    · cases hv
                  · cases hv
                | _ => cases hsw
            · cases h
        · cases h
      · cases h
    · split at h
      · rename_i hs
        rw [Bool.and_eq_true] at hs
        split at h
        · rename_i ts k p2 _ _ t v ht hv
          cases h
          obtain ⟨q1, q2⟩ := trG_shape ht
          obtain ⟨a1, a2⟩ := asg_plain X.env q2
          exact toS (ps_tg (t := t) (gx_tup (n := t.cnt) g.K g.calm (trG_ok g ht).1 (fun xs ρ ρ' hb => bindT_cnt hb) (by rw [a1, q1]) a2) (al.e g hv) hs.1 hs.2 rfl) fun ρ S => by simp only [ex] <;> rfl
        · cases h
      · split at h
        · split at h
          · rename_i hp
            split at h
            · rename_i h1 h2 h3 h4
              cases h
              exact toS (ps_pr g.calm hbk nd (by rw [g.N]; exact slot_ok h1) (by rw [g.N]; exact slot_ok h2) (by rw [g.sc]; exact hp) (al.e g h3) (al.e g h4)) fun ρ S => by simp only [ex]
            · cases h
          · split at h
            · rename_i hp
              split at h
              · rename_i t v ht hv
                cases h
                obtain ⟨q1, q2⟩ := trG_shape ht
                obtain ⟨a1, a2⟩ := asg_plain X.env q2
                exact toS (ps_tgW (t := t) (gx_tup (n := t.cnt) g.K g.calm (trG_ok g ht).1 (fun xs ρ ρ' hb => bindT_cnt hb) (by rw [a1, q1]) a2) (al.e g hv) rfl (cp_sw hbk (by rw [g.sc]; exact hp)) rfl) fun ρ S => by simp only [ex] <;> rfl
              · cases h
            · cases h
        · cases h
    · split at h
      · rename_i hs
        rw [Bool.and_eq_true] at hs
        split at h
        · rename_i h1 h2 h3
          cases h
          have hsl := (Bool.not_eq_true' _).mp hs.2
          exact toS (ps_sub hu1 (al.e g h3) (al.e g h1) (al.e g h2) hs.1 (assign_sub hsl _) rfl rfl) fun ρ S => by simp only [ex]
        · cases h
      · cases h
    · cases h
  · -- op=
    split at h
    · rename_i hl
      rw [Bool.and_eq_true] at hl
      split at h
      · rename_i hi hb hv
        cases h
        obtain rfl := bop_ok hb
        exact toS (ps_ag (.inl rfl) nd (by rw [g.N]; exact slot_ok hi) (loc_ok g hl.1) (fn_ok g hl.2) (al.e g hv)) fun ρ S => by simp only [ex] <;> rfl
      · rename_i hi hb hv
        cases h
        obtain rfl := bop_ok hb
        exact toS (ps_ag (.inr rfl) nd (by rw [g.N]; exact slot_ok hi) (loc_ok g hl.1) (fn_ok g hl.2) (al.e g hv)) fun ρ S => by simp only [ex] <;> rfl
      · cases h
    · cases h
  · -- if
    split at h
    · rename_i h1 h2 h3
      cases h
      exact toS (bs_if (al.t g h1).1 (ih.ss g ho hbk h2) (ih.ss g ho hbk h3)) fun ρ S => by simp only [ex]
    · cases h
  · -- while
    split at h
    · rename_i h1 h2
      cases h
      exact toS (bs_while ho (al.t g h1).1 (ih.ss g ho hbk h2)) fun ρ S => by simp only [ex]
    · cases h
  · -- for
    split at h
    · rename_i hs
      split at h
      · rename_i t' i' a' h1 h2 h3
        cases h
        exact toS (bs_lock (k := fun ρ S => lockI i' ρ S) (fun ρ S r c h => lockI_ok h) (bs_for ho g.calm (al.i g h2) (trG1_ok g h1) (ih.ss g ho hbk h3) hs)) fun ρ S => by simp only [ex]
      · cases h
    · cases h
  · cases h
theorem snds_all : ∀ n, SndS F P cf lv n
  | 0 => by constructor <;> (intros; rename_i h; cases h)
  | n + 1 => ⟨fun g ho hbk => step_s (snds_all n) g ho hbk, fun g ho hbk => step_ss (snds_all n) g ho hbk⟩
end
end CH
/-! DL: defs keep what the interpreter says. -/
namespace CH
open PySem PySem.Spec PyProof.Rows L2 GenW
section
variable {K : PySem.W.Frag} {tb w w' : List Addr} {H H' : Hp} {S S' : Store}
mutual
theorem DV.isLo : ∀ {d : D} {v : V}, DV K w H d v → d.lo w.length = true
  | _, _, .non => rfl
  | _, _, .bl _ => rfl
  | _, _, .int _ => rfl
  | _, _, .str _ => rfl
  | _, _, .tup _ t => by rw [D.lo]; exact DVs.isLo t
  | _, _, .lst _ t => by rw [D.lo]; exact DVs.isLo t
  | _, _, .ref e => by
    rw [D.lo]
    exact decide_eq_true (List.getElem?_eq_some_iff.mp e).1
theorem DVs.isLo : ∀ {ds : List D} {vs : List V}, DVs K w H ds vs → los w.length ds = true
  | _, _, .nil => rfl
  | _, _, .cons a t => by rw [los, DV.isLo a, DVs.isLo t]; rfl
end
theorem CV.isLo {c : Cell} {o : HO} (h : CV K w H c o) : c.lo w.length = true := by
  cases h with
  | lst t => rw [Cell.lo]; exact t.isLo
  | dic t => rw [Cell.lo, los_vals]; exact t.2.isLo
  | set _ _ _ => rfl
  | frz t => rw [Cell.lo, Cell.lo, los_vals]; exact t.2.isLo
theorem leave_ok {F : Fx} {E : XK} {x : RV} {v : V} {Q : VK} (hS : SR F.K F.tb w H S) (st : Step F.K F.tb w H w' H' S') (rv : RVr F.K w' H H' x v) (h : FinE F E (leave S x S') w H Q) : Q v H' := by
  unfold leave at h
  split at h
  · rename_i hl
    obtain ⟨⟨h1, h2⟩, h3⟩ := hl
    obtain ⟨t, e1, n1⟩ := st.grow
    have low : ∀ r a : Nat, r < S.length → w'[r]? = some a → w[r]? = some a := fun r a hr e => by
      rw [e1, List.getElem?_append_left (by rw [hS.len]; exact hr)] at e; exact e
    have st0 : Step F.K F.tb w H w H' (S'.take S.length) := by
      refine ⟨⟨[], by simp, by simp⟩, fun a o e hw => st.ext a o e hw, ⟨by rw [List.length_take, hS.len]; omega, hS.nd, fun r c e => ?_, st.sr.tab⟩, st.frz⟩
      rw [List.getElem?_take] at e
      split at e
      · rename_i hr
        obtain ⟨a, ho, f1, f2, f3⟩ := st.sr.at_ r c e
        refine ⟨a, ho, low r a hr f1, f2, f3.lo (low) ?_⟩
        rcases h2 r hr with z | ⟨c', z1, z2⟩
        · rw [e] at z
          obtain ⟨a0, ho0, g1, g2, g3⟩ := hS.at_ r c z.symm
          rw [← hS.len]
          exact g3.isLo
        · rw [e] at z1; cases z1; exact z2
      · cases e
    refine h w H' v st0 ?_
    have keep : ∀ y, out S.length x S' = y → rvLo S.length y = true → RVr F.K w H H' y v := fun y ey hy => by
      unfold out at ey
      split at ey
      · rename_i r
        split at ey
        · subst ey
          exact DV.lo (H := H') low hy rv
        · rename_i hr
          cases rv with
          | ref e =>
            rename_i a
            split at ey
            · subst ey
              exact absurd (by simpa [rvLo, D.lo] using hy) hr
            · rename_i c nf hc
              subst ey
              obtain ⟨a', ho, f1, f2, f3⟩ := st.sr.at_ r c hc
              rw [e] at f1; cases f1
              have hat : a ∈ t ∧ a ∉ w := by
                have hwl : w.length ≤ r := by rw [hS.len]; omega
                rw [e1, List.getElem?_append_right hwl] at e
                refine ⟨List.mem_of_getElem? e, fun z => ?_⟩
                have nd := st.sr.nd
                rw [e1, List.nodup_append] at nd
                exact nd.2.2 a z a (List.mem_of_getElem? e) rfl
              exact ⟨a, ho, rfl, f2, f3.lo low hy, hat.2, n1 a hat.1, fun c' z => nf c' z⟩
            · rename_i hc
              rw [List.getElem?_eq_none_iff] at hc
              have := (List.getElem?_eq_some_iff.mp e).1
              rw [st.sr.len] at this
              omega
      · rename_i hx
        subst ey
        cases x with
        | d d => exact DV.lo (H := H') low hy rv
        | o c =>
          obtain ⟨a, ho, e, e2, cv, na, n0, nf⟩ := rv
          exact ⟨a, ho, e, e2, cv.lo low hy, fun z => na (st.mem z), n0, nf⟩
    exact keep _ rfl h3
  · exact h w' H' v st rv
end
end CH
/-! DM: all defs keep what the interpreter says. -/
namespace CH
open PySem PySem.Spec PyProof.Rows L2 GenW
/-- a def as it is seen: its name, parameters, names by slot, its text, its body translated, whether it makes generators -/
structure Dsc where
  nm : Str
  ps : List Str
  N : List Str
  st : Stmt
  body : Sts
  tab : Bool
  qn : Str
def Dsc.cs (d : Dsc) : Cs := ⟨d.N, defScope d.st, fun _ => true, d.tab⟩
def Dsc.fn (d : Dsc) : Fn := ⟨d.ps.length, d.N.length, d.body⟩
def fnsOf (ds : List Dsc) : List (Str × Nat) := ds.map fun d => (d.nm, d.ps.length)
def tabOf (ds : List Dsc) : List (Str × Fn) := ds.map fun d => (d.nm, d.fn)
structure DOk (F : Fx) (P : Prg) (mg : Str → Option Value) (base : Heap) (fuel : Nat) (d : Dsc) : Prop where
  f : ∃ fa fd, mg d.nm = some (.ref fa) ∧ L2.Binds F.K fd d.ps [] ∧ FunD F.K d.qn d.qn (defArgs d.st) (defBody d.st) (defScope d.st) [] [] fa fd ∧ (d.tab = true → ∃ c Pt, fd.code = .ref c ∧ Pt ∈ F.tb ∧ GxR.TabB base mg c Pt)
  sc : FnScope d.N d.ps (defScope d.st)
  tr : trSs fuel P d.cs (defBody d.st) = some d.body
theorem lk_map {α : Type} {f : Dsc → α} : ∀ {ds : List Dsc}, (ds.map (·.nm)).Nodup → ∀ {d : Dsc}, d ∈ ds → (ds.map fun d => (d.nm, f d)).lookup d.nm = some (f d)
  | e :: r, nd, d, hd => by
    rw [List.map_cons, List.lookup_cons]
    rw [List.map_cons, List.nodup_cons] at nd
    rcases List.mem_cons.mp hd with z | z
    · subst z; simp
    · have ne : (d.nm == e.nm) = false := by
        rw [beq_eq_false_iff_ne]
        intro q
        exact nd.1 (List.mem_map.mpr ⟨d, z, q⟩)
      rw [ne]
      exact lk_map nd.2 z
theorem er_start {K : PySem.W.Frag} {w : List Addr} {H : Hp} {ds : List D} {vs : List V} {N : List Str} (dv : DVs K w H ds vs) : ER K w H (ds.map some ++ List.replicate (N.length - ds.length) none) (L2.start N vs) := by
  have hl := dv.length
  refine ⟨by unfold L2.start; simp [hl], fun i d h => ?_⟩
  unfold L2.start
  by_cases hi : i < ds.length
  · rw [List.getElem?_append_left (by simpa using hi), List.getElem?_map] at h
    rw [List.getElem?_append_left (by simpa [← hl] using hi), List.getElem?_map]
    cases q : ds[i]? with
    | none => rw [q] at h; cases h
    | some d' =>
      rw [q] at h
      cases h
      obtain ⟨v, e, dv'⟩ := dv.get q
      exact ⟨v, by rw [e]; rfl, dv'⟩
  · rw [List.getElem?_append_right (by simpa using hi), List.getElem?_replicate] at h
    split at h <;> cases h
theorem fin_ends {F : Fx} {E : XK} {w : List Addr} {H : Hp} {S : Store} {Q : VK} {r : RS} (hS : SR F.K F.tb w H S) (h : FinE F E (fin S r) w H Q) : FinS F E r w H { nx := fun _ H' => Q .non H', rt := Q } := by
  cases r with
  | nx ρ S' => exact fun w' H' σ' st er => leave_ok hS st (x := .d .non) .non h
  | rt x S' => exact fun w' H' v st rv => leave_ok hS st rv h
  | bk ρ S' => exact h.elim
  | ct ρ S' => exact h.elim
  | ex x S' => exact h
  | bad => exact h
theorem fn_all {F : Fx} {P : Prg} {mg : Str → Option Value} {base : Heap} {Pg : Program} {w : World} {fuel : Nat} {ds : List Dsc} (hd : ∀ d ∈ ds, DOk F P mg base fuel d) (nd : (ds.map (·.nm)).Nodup) (hP : P.fns = fnsOf ds)
    (hcon : ∀ x d, (x, d) ∈ P.con → ∃ u v, mg x = some u ∧ RelV v u ∧ ∀ w H, DV F.K w H d v) (hblt : ∀ x ∈ P.blt, mg x = none) (hdcs : ∀ x tb, (x, tb) ∈ P.dcs → KTab F.K w mg x tb) :
    ∀ k, ∀ d ∈ ds, ∀ fa fd, mg d.nm = some (.ref fa) → FunD F.K d.qn d.qn (defArgs d.st) (defBody d.st) (defScope d.st) [] [] fa fd → (d.tab = true → ∃ c Pt, fd.code = .ref c ∧ Pt ∈ F.tb ∧ GxR.TabB base mg c Pt) →
      FnOk Pg w F.K mg base (L2.CX Pg w) (5 * k) fa fd d.ps (spF F (callF (tabOf ds) k) d.nm d.ps.length) := by
  intro k
  induction k with
  | zero => exact fun d hdm fa fd _ _ _ => ⟨fun vs H Q E h => h.1, fun A outer s H args us vs Q E hr e0 hb r ⟨_, w, S, dd, _, _, hf⟩ => hf.elim⟩
  | succ k ih =>
    intro d hdm fa fd hm FD htab
    obtain ⟨_, SC, tr⟩ := hd d hdm
    obtain ⟨oc, od, dV, kV, doc, pm, an, cdv, ct, osl, rfl, lk, hcd, _, _⟩ := FD.ex
    refine fn_of (k := 5 * k + 4) lk hcd SC (fun vs H Q E h => h.1) fun A outer s H vs Q E hr ⟨hl, w0, S, dd, hS, dv, hf⟩ => ⟨TSX F E (exs (callF (tabOf ds) k) d.body), ?_, ?_⟩
    · have g : Good F P (callF (tabOf ds) k) (5 * k) 4 E d.cs (cxOf (L2.CX Pg w) Pg w F.K mg base d.N d.qn (defScope d.st) fa cdv A outer s H E) :=
        { K := rfl
          N := rfl
          nd := SC.nd
          sc := rfl
          fn := fun _ h => h
          calm := rfl
          room := hr
          con := hcon
          blt := hblt
          dcs := hdcs
          fns := fun f n hfn => by
            rw [hP] at hfn
            obtain ⟨d2, h2, e2⟩ := List.mem_map.mp hfn
            cases e2
            obtain ⟨fa2, fd2, q1, q2, q3, q4⟩ := (hd d2 h2).f
            exact ⟨fa2, fd2, d2.ps, rfl, q1, q3.kp, q2, ih d2 h2 fa2 fd2 q1 q3 q4⟩
          pass := passes_call (W := fun cls d _ H => E cls d H) (L2.takes_of rfl rfl rfl rfl) fun _ _ _ _ h => h
          tab := fun h => ⟨Nat.le_refl _, htab h⟩ }
      have hbk : (cxOf (L2.CX Pg w) Pg w F.K mg base d.N d.qn (defScope d.st) fa cdv A outer s H E).env.blockKind = .function := by
        show (if (defScope d.st).kind.isAnnotationScope then ScopeKind.function else (defScope d.st).kind) = _
        rw [SC.kind]; rfl
      exact (snds_all fuel).ss g (passes_of (K := fun e s'' => L2.CX Pg w outer H s E e s'') rfl) hbk tr
    · have hc : callF (tabOf ds) (k + 1) d.nm dd S = fin S (exs (callF (tabOf ds) k) d.body (dd.map some ++ List.replicate (d.N.length - dd.length) none) S) := by
        unfold callF tabOf
        rw [lk_map (f := Dsc.fn) nd hdm]
        show (if dd.length = d.ps.length then _ else _) = _
        rw [if_pos (by rw [dv.length, hl])]
        show fin S (exs _ d.body (dd.map some ++ List.replicate (d.N.length - d.ps.length) none) S) = _
        rw [← hl, ← dv.length]
      rw [hc] at hf
      exact ⟨w0, _, S, hS, er_start dv, fin_ends hS hf⟩
end CH
/-! DNA: written values. -/
namespace CH
open PySem PySem.Spec PyProof.Rows L2 GenW
mutual
/-- the value is written so -/
def dvB (K : PySem.W.Frag) : D → Value → Bool
  | .int i, .int j _ => decide (i = j)
  | .str x, .str y _ => decide (x = y)
  | .bl b, .bool c => decide (b = c)
  | .non, .none => true
  | .tup ds, .ref a => (match K.lookup a with
    | some ⟨.type c, none, .seq its _, _⟩ => decide (c = "tuple") && (decide (its.size ≤ sizeLine) && dvsB K ds its.toList)
    | _ => false)
  | _, _ => false
def dvsB (K : PySem.W.Frag) : List D → List Value → Bool
  | [], [] => true
  | d :: ds, u :: us => dvB K d u && dvsB K ds us
  | _, _ => false
end
mutual
theorem dvB_ok {K : PySem.W.Frag} : ∀ {d : D} {u : Value}, dvB K d u = true → ∃ v, RelV v u ∧ ∀ w H, DV K w H d v
  | .int i, u, h => by
    cases u with
    | int j t => rw [dvB] at h; exact ⟨.int i, ⟨t, by rw [of_decide_eq_true h]⟩, fun _ _ => .int i⟩
    | _ => simp [dvB] at h
  | .str i, u, h => by
    cases u with
    | str j t => rw [dvB] at h; exact ⟨.str i, ⟨t, by rw [of_decide_eq_true h]⟩, fun _ _ => .str i⟩
    | _ => simp [dvB] at h
  | .bl i, u, h => by
    cases u with
    | bool j => rw [dvB] at h; exact ⟨.bl i, (by rw [of_decide_eq_true h]; rfl), fun _ _ => .bl i⟩
    | _ => simp [dvB] at h
  | .non, u, h => by
    cases u with
    | none => exact ⟨.non, rfl, fun _ _ => .non⟩
    | _ => simp [dvB] at h
  | .tup ds, u, h => by
    cases u with
    | ref a =>
      rw [dvB] at h
      split at h
      · rename_i c its n sl e
        simp only [Bool.and_eq_true, decide_eq_true_eq] at h
        obtain ⟨h1, h2, h3⟩ := h
        obtain ⟨vs, r, q⟩ := dvsB_ok h3
        exact ⟨.ref a, rfl, fun w H => .tup (.inr ⟨_, its, n, rfl, e, by rw [h1], rfl, h2, r⟩) (q w H)⟩
      · cases h
    | _ => simp [dvB] at h
  | .lst ds, u, h => by cases u <;> simp [dvB] at h
  | .ref r, u, h => by cases u <;> simp [dvB] at h
theorem dvsB_ok {K : PySem.W.Frag} : ∀ {ds : List D} {us : List Value}, dvsB K ds us = true → ∃ vs, Vals vs us ∧ ∀ w H, DVs K w H ds vs
  | [], us, h => by
    cases us with
    | nil => exact ⟨[], .nil, fun _ _ => .nil⟩
    | cons u us => simp [dvsB] at h
  | d :: ds, us, h => by
    cases us with
    | nil => simp [dvsB] at h
    | cons u us =>
      rw [dvsB, Bool.and_eq_true] at h
      obtain ⟨v, r1, q1⟩ := dvB_ok h.1
      obtain ⟨vs, r2, q2⟩ := dvsB_ok h.2
      exact ⟨v :: vs, .cons r1 r2, fun w H => .cons (q1 w H) (q2 w H)⟩
end
/-- a key that is not written is not there -/
theorem keys_none {P : Params} : ∀ {l : List DictEntry} {ks : List Str} {z : Str}, l.map He.keyOf = He.keysIn P ks → z ∉ ks → l.find? (·.key.isStr z) = none ∧ l.any (·.refKey) = false
  | [], ks, z, _, _ => ⟨rfl, rfl⟩
  | e :: l, [], z, h, _ => by cases h
  | e :: l, k :: ks, z, h, hz => by
    have h1 : He.keyOf e :: l.map He.keyOf = some (k, PyData.keyHash P k) :: He.keysIn P ks := h
    injection h1 with h2 h3
    obtain ⟨a, b⟩ := keys_none h3 fun q => hz (List.mem_cons_of_mem _ q)
    have hk : e.key.isStr k = true := by
      unfold He.keyOf at h2
      split at h2
      · rename_i x t q
        have h4 := Option.some.inj h2
        obtain ⟨h5, h6⟩ := Prod.mk.inj h4
        rw [q, h5]
        simp [Value.isStr]
      · cases h2
    have hne : e.key.isStr z = false := by
      cases q : e.key.isStr z with
      | false => rfl
      | true => exact absurd (Value.isStr_inj _ _ _ q hk) fun y => hz (y ▸ List.mem_cons_self)
    have hr : e.refKey = false := by
      unfold He.keyOf at h2
      unfold DictEntry.refKey
      split at h2
      · rename_i x t q
        rw [q]
      · cases h2
    exact ⟨by rw [List.find?_cons, hne]; exact a, by rw [List.any_cons, hr, b]; rfl⟩
theorem dicW_none {K : PySem.W.Frag} {P : Params} {a : Addr} {ks : List Str} {z : Str} (h : He.dicW K a = some (He.keysIn P ks)) (hz : z ∉ ks) : PySem.W.nsIn K a z = some none := by
  unfold He.dicW at h
  split at h
  · rename_i c es n sl e
    split at h
    · have h := Option.some.inj h
      obtain ⟨q1, q2⟩ := keys_none h hz
      unfold PySem.W.nsIn
      rw [e]
      dsimp only
      rw [q1]
      dsimp only
      rw [q2]
      rfl
    · cases h
  · cases h
/-- tuples and tables of the module -/
structure Wr where
  cts : List (Str × D) := []
  dcs : List (Str × List (Str × D)) := []
def Wr.fa (W : Wr) : List He.Fa := W.cts.map (fun p => He.Fa.glo p.1) ++ W.dcs.map fun p => He.Fa.glo p.1
def Wr.ts (W : Wr) : List He.Tab := W.dcs.map fun p => (fun K => He.ga K p.1, p.2.map (·.1))
def Wr.ex (W : Wr) (K : PySem.W.Frag) : Bool := (W.cts.all fun p => dvB K p.2 (.ref (He.ga K p.1))) && W.dcs.all fun p => p.2.all fun q => match PySem.W.nsIn K (He.ga K p.1) q.1 with
  | some (some u) => dvB K q.2 u
  | _ => false
section
variable {K : PySem.W.Frag} {h : Heap} {mg : Str → Option Value} {W : Wr} {fa : List He.Fa} {fn : List He.DefD} {tf : List He.Defn} {w : World}
theorem Wr.cts_ok (KX : K.In h) (G : h.Ns mainGlobals mg) (c : He.SaysX (fa ++ W.fa) fn W.ts tf W.ex w h K) {x : Str} {d : D} (hx : (x, d) ∈ W.cts) : ∃ u v, mg x = some u ∧ RelV v u ∧ ∀ w H, DV K w H d v := by
  have sd : He.SaysD (fa ++ W.fa) fn K := congrArg (fun z : He.AlT => z.1) c.t
  have fok := sd.facts (List.mem_append_right _ (List.mem_append_left _ (List.mem_map.mpr ⟨_, hx, rfl⟩)) : He.Fa.glo x ∈ fa ++ W.fa)
  have e := He.glo_ok KX G fok
  have more := c.more
  unfold Wr.ex at more
  rw [Bool.and_eq_true] at more
  obtain ⟨v, r, q⟩ := dvB_ok (List.all_eq_true.mp more.1 _ hx)
  exact ⟨_, v, e, r, q⟩
theorem Wr.dcs_ok (KX : K.In h) (G : h.Ns mainGlobals mg) (c : He.SaysX (fa ++ W.fa) fn W.ts tf W.ex w h K) {x : Str} {tb : List (Str × D)} (hx : (x, tb) ∈ W.dcs) : KTab K w mg x tb := by
  have sd : He.SaysD (fa ++ W.fa) fn K := congrArg (fun z : He.AlT => z.1) c.t
  have fok := sd.facts (List.mem_append_right _ (List.mem_append_right _ (List.mem_map.mpr ⟨_, hx, rfl⟩)) : He.Fa.glo x ∈ fa ++ W.fa)
  have e := He.glo_ok KX G fok
  have tt : W.ts.map (fun t => He.dicW K (t.1 K)) = W.ts.map fun t => some (He.keysIn w.params t.2) := congrArg (fun z : He.AlT => z.2) c.t
  have hd : He.dicW K (He.ga K x) = some (He.keysIn w.params (tb.map (·.1))) := by
    have hm : ((fun K => He.ga K x, tb.map (·.1)) : He.Tab) ∈ W.ts := List.mem_map.mpr ⟨_, hx, rfl⟩
    obtain ⟨i, hi, ei⟩ := List.mem_iff_getElem.mp hm
    have := congrArg (fun l => l[i]?) tt
    simp only [List.getElem?_map, List.getElem?_eq_getElem hi, ei, Option.map_some] at this
    exact Option.some.inj this
  obtain ⟨es, n, kd⟩ := He.dicW_ok hd
  refine ⟨He.ga K x, es, n, e, kd, fun z => ?_⟩
  have more := c.more
  unfold Wr.ex at more
  rw [Bool.and_eq_true] at more
  cases q : tb.lookup z with
  | none =>
    refine dicW_none hd fun hz => ?_
    obtain ⟨p, hp, ep⟩ := List.mem_map.mp hz
    have : tb.lookup z ≠ none := by
      clear hd hx more kd q
      induction tb with
      | nil => cases hp
      | cons r tb ih =>
        obtain ⟨k, v⟩ := r
        rw [List.lookup_cons]
        split
        · simp
        · rename_i ne
          rcases List.mem_cons.mp hp with y | y
          · subst y
            simp at ne
            exact absurd ep.symm ne
          · exact ih (List.mem_map.mpr ⟨p, y, ep⟩) y
    exact this q
  | some d =>
    have hq := List.all_eq_true.mp (List.all_eq_true.mp more.2 _ hx) _ (mem_lk q)
    dsimp only at hq
    split at hq
    · rename_i u eu
      obtain ⟨v, r, dv⟩ := dvB_ok hq
      exact ⟨u, v, eu, r, dv⟩
    · cases hq
end
end CH
/-! DN: a law's end. -/
namespace CH
open PySem PySem.Spec PyProof.Rows L2 GenW
def Dsc.dd (d : Dsc) : He.DefD := ⟨(d.nm, none), d.qn, d.qn, defArgs d.st, defBody d.st, defScope d.st, [], []⟩
abbrev Con := Str × (Int ⊕ Str)
def Con.fa (c : Con) : He.Fa := match c.2 with
  | .inl i => .int c.1 i
  | .inr s => .str c.1 s
def Con.d (c : Con) : Str × D := (c.1, match c.2 with
  | .inl i => .int i
  | .inr s => .str s)
def faOf (ds : List Dsc) (con : List Con) (blt : List Str) (W : Wr) : List He.Fa := (ds.map (fun d => He.Fa.glo d.nm) ++ (con.map Con.fa ++ blt.map He.Fa.free)) ++ W.fa
def tfOf (ds : List Dsc) : List He.Defn := (ds.filter (·.tab)).map fun d => (d.nm, none)
def prgOf (ds : List Dsc) (con : List Con) (blt : List Str) (W : Wr) : Prg := ⟨fnsOf ds, con.map Con.d ++ W.cts, blt, W.dcs⟩
def BindOk (d : Dsc) : Prop := ∀ (kV doc pm : Value) (an : Option Addr) (cdv ct : Value) (us : List Value), us.length = d.ps.length →
  bindArgs (PySem.W.fnOf d.qn d.qn (defArgs d.st) (defBody d.st) (defScope d.st) .none kV doc pm an cdv ct) ⟨us, []⟩ = pure (d.ps.zip us)
structure DefOk (P : Prg) (fuel : Nat) (d : Dsc) : Prop where
  b : BindOk d
  sc : FnScope d.N d.ps (defScope d.st)
  tr : trSs fuel P d.cs (defBody d.st) = some d.body
/-- locked to the end -/
def tLk (t : TS) : TS := fun D σ H => ∃ a u, H a = some u ∧ Mut (some u) ∧ ∀ od, t { nx := fun σ' H' => H' a = some (.frz od u) ∧ D.nx σ' (upd H' a u), rt := fun v H' => H' a = some (.frz od u) ∧ D.rt v (upd H' a u), bk := fun _ _ => False, ct := fun _ _ => False } σ (upd H a (.frz od u))
theorem pss_lk {X : Cx} {ss : List Stmt} {t : TS} (h : PSs X ss t) : PSs X ss (tLk t) := by
  refine ⟨fun pins s σ H D I hw => ?_⟩
  obtain ⟨a, u, ha, mu, hw⟩ := hw
  obtain ⟨od, I1⟩ := I.lock ha mu
  have nf := I.nofrz ha mu
  refine thn (h.run pins s σ _ _ I1 (hw od)) fun f s1 q => ?_
  cases f with
  | next => obtain ⟨σ', H', I2, e, q⟩ := q; exact ⟨σ', _, I2.unlock e nf, q⟩
  | brk => obtain ⟨σ', H', I2, q⟩ := q; exact q.elim
  | cont => obtain ⟨σ', H', I2, q⟩ := q; exact q.elim
  | ret v => obtain ⟨x, σ', H', I2, r, e, q⟩ := q; exact ⟨x, σ', _, I2.unlock e nf, r, q⟩
def spLaw (K : PySem.W.Frag) (tb : List Addr) (n : Nat) : Sp := fun vs H Q _ => ∃ (a : Addr) (ns : List Int), vs = [.ref a] ∧ ns.length ≤ n ∧ (∀ z ∈ ns, Builtin.Int.intBits z ≤ 1048576) ∧ (∀ P ∈ tb, H P = some (.tbl #[])) ∧ SqL K H a (ns.map V.int) ∧ ∀ H', Q (.bl true) H'
theorem sr_nil {F : Fx} {H : Hp} (h : ∀ P ∈ F.tb, H P = some (.tbl #[])) : SR F.K F.tb [] H [] :=
  ⟨rfl, List.nodup_nil, fun r c e => by simp at e, fun P hP => ⟨#[], h P hP, trivial⟩⟩
theorem law_at {l : PySem.W.OpenLaw} {w : World} {K : PySem.W.Frag} {h : Heap} {mg : Str → Option Value} {ds : List Dsc} {con : List Con} {blt : List Str} {W : Wr} {fuel k n : Nat} {lw : Dsc} {fa : Addr}
    (hd : ∀ d ∈ ds, DefOk (prgOf ds con blt W) fuel d) (nd : (ds.map (·.nm)).Nodup) (hl : lw ∈ ds) {x : Str} (hps : lw.ps = [x])
    (KX : K.In h) (G : h.Ns mainGlobals mg) (c : He.SaysX (faOf ds con blt W) (ds.map Dsc.dd) W.ts (tfOf ds) W.ex w h K) (hfa : mg lw.nm = some (.ref fa))
    (plain : ∀ ns : List Int, ns.length ≤ n → (∀ z ∈ ns, Builtin.Int.intBits z ≤ 1048576) → ∃ S', callF (tabOf ds) (k + 1) lw.nm [.lst (ns.map D.int)] [] = .ok (.d (.bl true)) S') :
    LamX.LawAtS l w K (L2.CX l.prog w) (5 * k + 5) n x mg fa h := by
  have sd : He.SaysD (faOf ds con blt W) (ds.map Dsc.dd) K := congrArg (fun z : He.AlT => z.1) c.t
  have glo : ∀ d ∈ ds, mg d.nm = some (.ref (He.ga K d.nm)) := fun d hd => He.glo_ok KX G (sd.facts (List.mem_append_left _ (List.mem_append_left _ (List.mem_map.mpr ⟨d, hd, rfl⟩))))
  have cdOk : ∀ d ∈ ds, d.tab = true → (d.nm, none) ∈ tfOf ds := fun d hd ht => List.mem_map.mpr ⟨d, List.mem_filter.mpr ⟨hd, ht⟩, rfl⟩
  have FD : ∀ d ∈ ds, ∃ fd, FunD K d.qn d.qn (defArgs d.st) (defBody d.st) (defScope d.st) [] [] (He.ga K d.nm) fd ∧ L2.Binds K fd d.ps [] ∧ (∀ (s : Shared) (us : List Value), us.length = d.ps.length → BindsTo s fd ⟨us, []⟩ (d.ps.zip us)) ∧
      (d.tab = true → ∃ cc, fd.code = .ref cc ∧ cc = (He.cT K (d.nm, none)).1) := fun d hdm => by
    obtain ⟨fd, F0⟩ := sd.defs (d := d.dd) (List.mem_map.mpr ⟨d, hdm, rfl⟩)
    have F1 : FunD K d.qn d.qn (defArgs d.st) (defBody d.st) (defScope d.st) [] [] (He.ga K d.nm) fd := F0
    refine ⟨fd, F1, F1.bindsN fun kV doc pm an cdv ct us hl => (hd d hdm).b kV doc pm an cdv ct us hl, fun s us hl => F1.bindsA (fun kV doc pm an cdv ct us hl => (hd d hdm).b kV doc pm an cdv ct us hl) s us hl, fun _ => ?_⟩
    obtain ⟨oc, od, dV, kV, doc, pm, an, cdv, ct, osl, rfl, lk, hcd, _, _⟩ := F1.ex
    obtain ⟨cc, rfl⟩ := He.codeIn_ref hcd
    exact ⟨cc, rfl, (He.codeOf_eq (p := (d.nm, none)) lk rfl).symm⟩
  let F : Fx := ⟨K, ((tfOf ds).map (He.cT K)).map (·.2), fun _ => none⟩
  have dok : ∀ base : Heap, (∀ p ∈ (tfOf ds).map (He.cT K), LamX.TabB base mg p.1 p.2) → ∀ d ∈ ds, DOk F (prgOf ds con blt W) mg base fuel d := fun base TB d hdm => by
    obtain ⟨fd, F1, B1, _, hc⟩ := FD d hdm
    refine ⟨⟨_, fd, glo d hdm, B1, F1, fun ht => ?_⟩, (hd d hdm).sc, (hd d hdm).tr⟩
    obtain ⟨cc, e1, e2⟩ := hc ht
    have hm : He.cT K (d.nm, none) ∈ (tfOf ds).map (He.cT K) := List.mem_map.mpr ⟨_, cdOk d hdm ht, rfl⟩
    have tb := TB _ hm
    rw [← e2] at tb
    exact ⟨cc, _, e1, List.mem_map.mpr ⟨_, hm, rfl⟩, ⟨tb.code, tb.bm, tb.gP⟩⟩
  have hcon : ∀ x d, (x, d) ∈ (prgOf ds con blt W).con → ∃ u v, mg x = some u ∧ RelV v u ∧ ∀ w H, DV F.K w H d v := fun x d hx => by
    rcases List.mem_append.mp (show (x, d) ∈ con.map Con.d ++ W.cts from hx) with hx | hx
    rotate_left
    · exact Wr.cts_ok KX G c hx
    obtain ⟨q, hq, e⟩ := List.mem_map.mp hx
    have fok := sd.facts (List.mem_append_left _ (List.mem_append_right _ (List.mem_append_left _ (List.mem_map.mpr ⟨q, hq, rfl⟩))) : q.fa ∈ faOf ds con blt W)
    obtain ⟨y, z⟩ := q
    cases z with
    | inl i =>
      cases e
      obtain ⟨t, e2⟩ := He.int_ok KX G fok
      exact ⟨_, .int i, e2, ⟨t, rfl⟩, fun _ _ => .int i⟩
    | inr s =>
      cases e
      obtain ⟨t, e2⟩ := He.str_ok KX G fok
      exact ⟨_, .str s, e2, ⟨t, rfl⟩, fun _ _ => .str s⟩
  have hblt : ∀ x ∈ (prgOf ds con blt W).blt, mg x = none := fun x hx => He.free_ok KX G (sd.facts (List.mem_append_left _ (List.mem_append_right _ (List.mem_append_right _ (List.mem_map.mpr ⟨x, hx, rfl⟩)))))
  have hdcs : ∀ x tb, (x, tb) ∈ (prgOf ds con blt W).dcs → KTab F.K w mg x tb := fun x tb hx => Wr.dcs_ok KX G c hx
  obtain ⟨fd, F1, B1, bA, hc⟩ := FD lw hl
  have efa : fa = He.ga K lw.nm := by
    have := hfa.symm.trans (glo lw hl)
    cases this; rfl
  refine ⟨fd, (tfOf ds).map (He.cT K), spLaw K F.tb n, fun p hp => ?_, fun p hp => ?_, fun p hp => ?_, fun s u => ?_, fun H a ns h1 h2 h3 h4 => ⟨a, ns, rfl, h1, h2, fun P hP => ?_, h4, fun _ => rfl⟩, fun base hK hG TB => ?_⟩
  · obtain ⟨q, hq, rfl⟩ := List.mem_map.mp hp
    exact c.empty q hq
  · obtain ⟨q, hq, rfl⟩ := List.mem_map.mp hp
    exact c.out q hq
  · obtain ⟨q, hq, rfl⟩ := List.mem_map.mp hp
    exact PySem.W.codeHd_of_K KX (c.hd q hq)
  · have := bA s [u] (by rw [hps]; rfl)
    rw [hps] at this
    exact this
  · obtain ⟨p, hp, rfl⟩ := List.mem_map.mp hP
    exact h3 p hp
  · -- the law's def
    have all := fn_all (F := F) (Pg := l.prog) (w := w) (dok base TB) nd rfl hcon hblt hdcs k
    have TL := hc
    have dk := dok base TB
    obtain ⟨_, SC, tr⟩ := dk lw hl
    obtain ⟨oc, od, dV, kV, doc, pm, an, cdv, ct, osl, rfl, lk, hcd, _, _⟩ := F1.ex
    rw [efa, ← hps]
    refine fn_of (k := 5 * k + 4) lk hcd SC (fun vs H Q E hv => by obtain ⟨a, ns, rfl, _⟩ := hv; rw [hps]; rfl) fun A outer s H vs Q E hr ⟨a, ns, e1, h1, h2, h3, h4, hQ⟩ => ?_
    subst e1
    have g : Good F (prgOf ds con blt W) (callF (tabOf ds) k) (5 * k) 4 E lw.cs (cxOf (L2.CX l.prog w) l.prog w K mg base lw.N lw.qn (defScope lw.st) (He.ga K lw.nm) cdv A outer s H E) :=
      { K := rfl
        N := rfl
        nd := SC.nd
        sc := rfl
        fn := fun _ h => h
        calm := rfl
        room := hr
        con := hcon
        blt := hblt
        dcs := hdcs
        fns := fun f n hfn => by
          obtain ⟨d2, h2, e2⟩ := List.mem_map.mp (show (f, n) ∈ fnsOf ds from hfn)
          cases e2
          obtain ⟨fa2, fd2, q1, q2, q3, q4⟩ := (dk d2 h2).f
          exact ⟨fa2, fd2, d2.ps, rfl, q1, q3.kp, q2, all d2 h2 fa2 fd2 q1 q3 q4⟩
        pass := passes_call (W := fun cls d _ H => E cls d H) (L2.takes_of rfl rfl rfl rfl) fun _ _ _ _ h => h
        tab := fun ht => ⟨Nat.le_refl _, by
          obtain ⟨fa2, fd2, q1, q2, q3, q4⟩ := (dk lw hl).f
          obtain ⟨cc, e1, e2⟩ := TL ht
          have hm : He.cT K (lw.nm, none) ∈ (tfOf ds).map (He.cT K) := List.mem_map.mpr ⟨_, cdOk lw hl ht, rfl⟩
          have tb := TB _ hm
          rw [← e2] at tb
          exact ⟨cc, _, e1, List.mem_map.mpr ⟨_, hm, rfl⟩, ⟨tb.code, tb.bm, tb.gP⟩⟩⟩ }
    have hbk : (cxOf (L2.CX l.prog w) l.prog w K mg base lw.N lw.qn (defScope lw.st) (He.ga K lw.nm) cdv A outer s H E).env.blockKind = .function := by
      show (if (defScope lw.st).kind.isAnnotationScope then ScopeKind.function else (defScope lw.st).kind) = _
      rw [SC.kind]; rfl
    have body := (snds_all fuel).ss g (passes_of (K := fun e s'' => L2.CX l.prog w outer H s E e s'') rfl) hbk tr
    obtain ⟨S', hp⟩ := plain ns h1 h2
    have hc2 : fin [] (exs (callF (tabOf ds) k) lw.body ([D.lst (ns.map D.int)].map some ++ List.replicate (lw.N.length - 1) none) []) = .ok (.d (.bl true)) S' := by
      rw [← hp]
      unfold callF tabOf
      rw [lk_map (f := Dsc.fn) nd hl]
      have e : lw.fn.ps = 1 := by show lw.ps.length = 1; rw [hps]; rfl
      show _ = (if 1 = lw.fn.ps then fin [] (exs _ lw.body ([D.lst (ns.map D.int)].map some ++ List.replicate (lw.N.length - lw.fn.ps) none) []) else .bad)
      rw [e]
      rfl
    have dvs : ∀ (K' : PySem.W.Frag) (H' : Hp) (m : List Int), DVs K' [] H' (m.map D.int) (m.map V.int) := fun K' H' m => DVs.ofInts m
    -- from a heap in which the list is frozen
    have core : ∀ (H : Hp) (Dn : Ends), (∀ P ∈ F.tb, H P = some (.tbl #[])) → FrL K H a (ns.map V.int) → (∀ w' H' S2, Step F.K F.tb [] H w' H' S2 → Dn.rt (.bl true) H') → TSX F E (exs (callF (tabOf ds) k) lw.body) Dn (L2.start lw.N [.ref a]) H := fun H Dn hT hF hR => by
      refine ⟨[], _, [], sr_nil hT, er_start (ds := [D.lst (ns.map D.int)]) (.cons (.lst hF (dvs _ _ _)) .nil), ?_⟩
      have hfin : FinE F E (fin [] (exs (callF (tabOf ds) k) lw.body ([D.lst (ns.map D.int)].map some ++ List.replicate (lw.N.length - 1) none) [])) [] H (fun v _ => v = .bl true) := by
        rw [hc2]
        intro w' H' v st rv
        cases rv; rfl
      have hends := fin_ends (sr_nil hT) hfin
      show FinS F E (exs (callF (tabOf ds) k) lw.body ([D.lst (ns.map D.int)].map some ++ List.replicate (lw.N.length - 1) none) []) [] H _
      revert hends
      cases exs (callF (tabOf ds) k) lw.body ([D.lst (ns.map D.int)].map some ++ List.replicate (lw.N.length - 1) none) [] with
      | nx ρ S2 =>
        intro q w' H' σ' st er
        have e : V.non = .bl true := q w' H' σ' st er
        cases e
      | rt x S2 =>
        intro q w' H' v st rv
        have e : v = .bl true := q w' H' v st rv
        subst e
        exact hR w' H' _ st
      | bk _ _ => exact fun q w' H' σ' st er => (q w' H' σ' st er).elim
      | ct _ _ => exact fun q w' H' σ' st er => (q w' H' σ' st er).elim
      | ex x S2 => exact fun q => q
      | bad => exact fun q => q
    rcases h4 with (h4 | ⟨o, h4⟩) | h4
    · refine ⟨tLk (TSX F E (exs (callF (tabOf ds) k) lw.body)), pss_lk body, a, .lst (ns.map V.int), h4, True.intro, fun od => core _ _ (fun P hP => ?_) (.inl ⟨od, upd_same⟩) fun w' H' S2 st => ?_⟩
      · rw [upd_ne fun z => by rw [← z, h3 P hP] at h4; cases h4]
        exact h3 P hP
      · exact ⟨st.frz a od _ upd_same, hQ _⟩
    · exact ⟨_, body, core _ _ h3 (.inl ⟨o, h4⟩) fun _ H' _ _ => hQ H'⟩
    · exact ⟨_, body, core _ _ h3 (.inr h4) fun _ H' _ _ => hQ H'⟩
end CH
/-! PA: the interpreter, step by step. -/
namespace CH
open PySem PySem.Spec PyProof.Rows L2
theorem R.bind_cg {α β : Type} {x x' : R α} (h : x = x') (f : α → Store → R β) : x.bind f = x'.bind f := h ▸ rfl
theorem R.bindS_cg {α : Type} {x x' : R α} (h : x = x') (f : α → Store → RS) : x.bindS f = x'.bindS f := h ▸ rfl
theorem RS.andThen_cg {x x' : RS} (h : x = x') (f : Env → Store → RS) : x.andThen f = x'.andThen f := h ▸ rfl
theorem lockS_cg {k k' : Option (Nat × Cell)} (h : k = k') (f : Store → RS) (S : Store) : lockS k f S = lockS k' f S := h ▸ rfl
theorem lockR_cg {α : Type} {k k' : Option (Nat × Cell)} (h : k = k') (f : Store → R α) (S : Store) : lockR k f S = lockR k' f S := h ▸ rfl
@[simp] theorem lockS_none (f : Store → RS) (S : Store) : lockS none f S = f S := nr rfl
@[simp] theorem lockR_none {α : Type} (f : Store → R α) (S : Store) : lockR none f S = f S := nr rfl
@[simp] theorem matB_d (v : D) (S : Store) : matB (.ok (.d v) S) = .ok v S := nr rfl
@[simp] theorem matB_o (c : Cell) (S : Store) : matB (.ok (.o c) S) = .ok (.ref S.length) (S ++ [c]) := nr rfl
/-! ### the store -/
@[simp high] theorem st_get (S E : Store) : (S ++ E)[S.length]? = E[0]? := by rw [List.getElem?_append_right (Nat.le_refl _), Nat.sub_self]
@[simp high] theorem st_getA (S E : Store) (i : Nat) : (S ++ E)[S.length + i]? = E[i]? := by rw [List.getElem?_append_right (Nat.le_add_right _ _), Nat.add_sub_cancel_left]
@[simp high] theorem st_set (S E : Store) (c : Cell) : (S ++ E).set S.length c = S ++ E.set 0 c := by rw [List.set_append_right _ _ (Nat.le_refl _), Nat.sub_self]
@[simp high] theorem st_setA (S E : Store) (i : Nat) (c : Cell) : (S ++ E).set (S.length + i) c = S ++ E.set i c := by rw [List.set_append_right _ _ (Nat.le_add_right _ _), Nat.add_sub_cancel_left]
/-! ### expressions -/
section
variable (cf : CF) (ρ : Env) (S : Store)
noncomputable def varR (o : Option (Option D)) (S : Store) : R RV := match o with
  | some (some d) => .ok (.d d) S
  | _ => .bad
@[simp] theorem varR_s (d : D) : varR (some (some d)) S = .ok (.d d) S := nr rfl
@[simp] theorem ev_var (i : Nat) : ev cf (.var i) ρ S = varR ρ[i]? S := by
  rw [ev]; unfold varR; rfl
@[simp] theorem ev_con (d : D) : ev cf (.con d) ρ S = .ok (.d d) S := by rw [ev]
/-- the second operand, then g -/
noncomputable def K1 {α : Type} (cf : CF) (b : Ex) (ρ : Env) (g : RV → RV → Store → R α) (x : RV) (S : Store) : R α := (ev cf b ρ S).bind (g x)
@[simp] theorem K1_eq {α : Type} (b : Ex) (g : RV → RV → Store → R α) (x : RV) : K1 cf b ρ g x S = (ev cf b ρ S).bind (g x) := nr rfl
/-- .. held -/
noncomputable def KM {α β : Type} (cf : CF) (b : Ex) (ρ : Env) (g : α → D → Store → R β) (x : α) (S : Store) : R β := (matB (ev cf b ρ S)).bind (g x)
@[simp] theorem KM_eq {α β : Type} (b : Ex) (g : α → D → Store → R β) (x : α) : KM cf b ρ g x S = (matB (ev cf b ρ S)).bind (g x) := nr rfl
def tupK (ds : List D) (S : Store) : R RV := .ok (.d (.tup ds)) S
@[simp] theorem tupK_eq (ds : List D) : tupK ds S = .ok (.d (.tup ds)) S := nr rfl
def lstK (ds : List D) (S : Store) : R RV := .ok (.o (.lst ds)) S
@[simp] theorem lstK_eq (ds : List D) : lstK ds S = .ok (.o (.lst ds)) S := nr rfl
@[simp] theorem ev_tup (es : Exs) : ev cf (.tup es) ρ S = (evs cf es ρ S).bind tupK := by rw [ev]; rfl
@[simp] theorem ev_lst (es : Exs) : ev cf (.lst es) ρ S = (evs cf es ρ S).bind lstK := by rw [ev]; rfl
@[simp] theorem ev_dnew : ev cf .dnew ρ S = .ok (.o (.dic [])) S := by rw [ev]
@[simp] theorem ev_bin (o : Bop) (a b : Ex) : ev cf (.bin o a b) ρ S = (ev cf a ρ S).bind (K1 cf b ρ (binR o)) := by rw [ev]; rfl
def negR (x : RV) (S : Store) : R RV := match x with
    | .d (.int i) => .ok (.d (.int (-i))) S
    | _ => .bad
@[simp] theorem negR_i (i : Int) : negR (.d (.int i)) S = .ok (.d (.int (-i))) S := nr rfl
@[simp] theorem ev_neg (a : Ex) : ev cf (.neg a) ρ S = (ev cf a ρ S).bind negR := by rw [ev]; rfl
def boolK (o : Option Bool) (S : Store) : R RV := R.of (o.map fun k => .d (.bl k)) S
@[simp] theorem boolK_s (b : Bool) : boolK (some b) S = .ok (.d (.bl b)) S := nr rfl
def notK (x : RV) (S : Store) : R RV := R.of ((truth x S).map fun k => .d (.bl (!k))) S
@[simp] theorem notK_eq (x : RV) : notK x S = boolK ((truth x S).map (!·)) S := by
  unfold notK boolK; cases truth x S <;> rfl
@[simp] theorem ev_not (a : Ex) : ev cf (.not a) ρ S = (ev cf a ρ S).bind notK := by rw [ev]; rfl
noncomputable def andC (cf : CF) (b : Ex) (ρ : Env) (x : RV) (S : Store) (o : Option Bool) : R RV := match o with
    | some true => ev cf b ρ S
    | some false => .ok x S
    | none => .bad
theorem andC_s (b : Ex) (x : RV) (k : Bool) : andC cf b ρ x S (some k) = if k = true then ev cf b ρ S else .ok x S := by cases k <;> rfl
@[simp] theorem andC_t (b : Ex) (x : RV) : andC cf b ρ x S (some true) = ev cf b ρ S := nr rfl
@[simp] theorem andC_f (b : Ex) (x : RV) : andC cf b ρ x S (some false) = .ok x S := nr rfl
noncomputable def andK (cf : CF) (b : Ex) (ρ : Env) (x : RV) (S : Store) : R RV := andC cf b ρ x S (truth x S)
@[simp] theorem andK_eq (b : Ex) (x : RV) : andK cf b ρ x S = andC cf b ρ x S (truth x S) := nr rfl
@[simp] theorem ev_and (a b : Ex) : ev cf (.and a b) ρ S = (ev cf a ρ S).bind (andK cf b ρ) := by rw [ev]; rfl
noncomputable def orC (cf : CF) (b : Ex) (ρ : Env) (x : RV) (S : Store) (o : Option Bool) : R RV := match o with
    | some true => .ok x S
    | some false => ev cf b ρ S
    | none => .bad
theorem orC_s (b : Ex) (x : RV) (k : Bool) : orC cf b ρ x S (some k) = if k = true then .ok x S else ev cf b ρ S := by cases k <;> rfl
@[simp] theorem orC_t (b : Ex) (x : RV) : orC cf b ρ x S (some true) = .ok x S := nr rfl
@[simp] theorem orC_f (b : Ex) (x : RV) : orC cf b ρ x S (some false) = ev cf b ρ S := nr rfl
noncomputable def orK (cf : CF) (b : Ex) (ρ : Env) (x : RV) (S : Store) : R RV := orC cf b ρ x S (truth x S)
@[simp] theorem orK_eq (b : Ex) (x : RV) : orK cf b ρ x S = orC cf b ρ x S (truth x S) := nr rfl
@[simp] theorem ev_or (a b : Ex) : ev cf (.or a b) ρ S = (ev cf a ρ S).bind (orK cf b ρ) := by rw [ev]; rfl
def cmpK (o : Cop) (x y : RV) (S : Store) : R RV := boolK (cmpR o x y S) S
@[simp] theorem cmpK_eq (o : Cop) (x y : RV) : cmpK o x y S = boolK (cmpR o x y S) S := nr rfl
@[simp] theorem ev_cmp (o : Cop) (a b : Ex) : ev cf (.cmp o a b) ρ S = (ev cf a ρ S).bind (K1 cf b ρ (cmpK o)) := by rw [ev]; rfl
noncomputable def chnC (cf : CF) (p : Cop) (c : Ex) (ρ : Env) (y : RV) (k : Bool) (S : Store) : R RV := if k = true then (ev cf c ρ S).bind (cmpK p y) else .ok (.d (.bl false)) S
@[simp] theorem chnC_eq (p : Cop) (c : Ex) (y : RV) (k : Bool) : chnC cf p c ρ y k S = if k = true then (ev cf c ρ S).bind (cmpK p y) else .ok (.d (.bl false)) S := nr rfl
noncomputable def chnK (cf : CF) (o p : Cop) (c : Ex) (ρ : Env) (x y : RV) (S : Store) : R RV := (R.of (cmpR o x y S) S).bind (chnC cf p c ρ y)
@[simp] theorem chnK_eq (o p : Cop) (c : Ex) (x y : RV) : chnK cf o p c ρ x y S = (R.of (cmpR o x y S) S).bind (chnC cf p c ρ y) := nr rfl
@[simp] theorem ev_chn (o p : Cop) (a b c : Ex) : ev cf (.chn o p a b c) ρ S = (ev cf a ρ S).bind (K1 cf b ρ (chnK cf o p c ρ)) := by rw [ev]; rfl
noncomputable def iteK (cf : CF) (a b : Ex) (ρ : Env) (k : Bool) (S : Store) : R RV := if k = true then ev cf a ρ S else ev cf b ρ S
@[simp] theorem iteK_t (a b : Ex) : iteK cf a b ρ true S = ev cf a ρ S := nr rfl
@[simp] theorem iteK_f (a b : Ex) : iteK cf a b ρ false S = ev cf b ρ S := nr rfl
@[simp] theorem ev_ite (c : Tx) (a b : Ex) : ev cf (.ite c a b) ρ S = (tt cf c ρ S).bind (iteK cf a b ρ) := by rw [ev]; rfl
def idxK (x y : RV) (S : Store) : R RV := R.of (idxR x y S) S
@[simp] theorem idxK_eq (x y : RV) : idxK x y S = R.of (idxR x y S) S := nr rfl
@[simp] theorem ev_idx (a i : Ex) : ev cf (.idx a i) ρ S = (ev cf a ρ S).bind (K1 cf i ρ idxK) := by rw [ev]; rfl
def slcK3 (x : RV) (lo : Option Int) (hi : Option Int) (S : Store) : R RV := R.of (slcR x lo hi S) S
@[simp] theorem slcK3_eq (x : RV) (lo hi : Option Int) : slcK3 x lo hi S = R.of (slcR x lo hi S) S := nr rfl
def slcK2 (x : RV) (lo : Option Int) (z : RV) (S : Store) : R RV := (R.of (partD z) S).bind (slcK3 x lo)
@[simp] theorem slcK2_eq (x : RV) (lo : Option Int) (z : RV) : slcK2 x lo z S = (R.of (partD z) S).bind (slcK3 x lo) := nr rfl
noncomputable def slcK1 (cf : CF) (h : Ex) (ρ : Env) (x : RV) (lo : Option Int) (S : Store) : R RV := (ev cf h ρ S).bind (slcK2 x lo)
@[simp] theorem slcK1_eq (h : Ex) (x : RV) (lo : Option Int) : slcK1 cf h ρ x lo S = (ev cf h ρ S).bind (slcK2 x lo) := nr rfl
noncomputable def slcK (cf : CF) (h : Ex) (ρ : Env) (x y : RV) (S : Store) : R RV := (R.of (partD y) S).bind (slcK1 cf h ρ x)
@[simp] theorem slcK_eq (h : Ex) (x y : RV) : slcK cf h ρ x y S = (R.of (partD y) S).bind (slcK1 cf h ρ x) := nr rfl
@[simp] theorem ev_slc (a l h : Ex) : ev cf (.slc a l h) ρ S = (ev cf a ρ S).bind (K1 cf l ρ (slcK cf h ρ)) := by rw [ev]; rfl
@[simp] theorem ev_call (f : Str) (es : Exs) : ev cf (.call f es) ρ S = (evs cf es ρ S).bind (cf f) := by rw [ev]
@[simp] theorem ev_b1 (f : B1) (a : Ex) : ev cf (.b1 f a) ρ S = (ev cf a ρ S).bind (b1R f) := by rw [ev]
@[simp] theorem ev_sset (a : Ex) : ev cf (.sset a) ρ S = (ev cf a ρ S).bind ssetR := by rw [ev]
@[simp] theorem ev_b2 (f : B2) (a b : Ex) : ev cf (.b2 f a b) ρ S = (ev cf a ρ S).bind (K1 cf b ρ (b2R f)) := by rw [ev]; rfl
def isiK (t : Ty) (x : RV) (S : Store) : R RV := boolK (isiR x t S) S
@[simp] theorem isiK_eq (t : Ty) (x : RV) : isiK t x S = boolK (isiR x t S) S := nr rfl
@[simp] theorem ev_isi (a : Ex) (t : Ty) : ev cf (.isi a t) ρ S = (ev cf a ρ S).bind (isiK t) := by rw [ev]; rfl
@[simp] theorem ev_rng (f : B1) (a b : Ex) : ev cf (.rng f a b) ρ S = (ev cf a ρ S).bind (K1 cf b ρ (rngR f)) := by rw [ev]; rfl
def m0K2 (m : Me) (x : RV) (k : Knd) (S : Store) : R RV := m0R k m x S
@[simp] theorem m0K2_eq (m : Me) (x : RV) (k : Knd) : m0K2 m x k S = m0R k m x S := nr rfl
def m0K (m : Me) (x : RV) (S : Store) : R RV := (R.of (kndM m x S) S).bind (m0K2 m x)
@[simp] theorem m0K_eq (m : Me) (x : RV) : m0K m x S = (R.of (kndM m x S) S).bind (m0K2 m x) := nr rfl
@[simp] theorem ev_m0 (m : Me) (o : Ex) : ev cf (.m0 m o) ρ S = (ev cf o ρ S).bind (m0K m) := by rw [ev]; rfl
def m1K2 (m : Me) (x : RV) (k : Knd) (y : D) (S : Store) : R RV := m1R k m x y S
@[simp] theorem m1K2_eq (m : Me) (x : RV) (k : Knd) (y : D) : m1K2 m x k y S = m1R k m x y S := nr rfl
noncomputable def m1K (cf : CF) (m : Me) (a : Ex) (ρ : Env) (x : RV) (S : Store) : R RV := (R.of (kndM m x S) S).bind (KM cf a ρ (m1K2 m x))
@[simp] theorem m1K_eq (m : Me) (a : Ex) (x : RV) : m1K cf m a ρ x S = (R.of (kndM m x S) S).bind (KM cf a ρ (m1K2 m x)) := nr rfl
@[simp] theorem ev_append (o a : Ex) : ev cf (.m1 .append o a) ρ S = (ev cf o ρ S).bind (m1K cf .append a ρ) := by rw [ev]; rfl
@[simp] theorem ev_index (o a : Ex) : ev cf (.m1 .index o a) ρ S = (ev cf o ρ S).bind (m1K cf .index a ρ) := by rw [ev]; rfl
@[simp] theorem ev_count (o a : Ex) : ev cf (.m1 .count o a) ρ S = (ev cf o ρ S).bind (m1K cf .count a ρ) := by rw [ev]; rfl
@[simp] theorem ev_pop1 (o a : Ex) : ev cf (.m1 .pop o a) ρ S = (ev cf o ρ S).bind (m1K cf .pop a ρ) := by rw [ev]; rfl
@[simp] theorem ev_get1 (o a : Ex) : ev cf (.m1 .get o a) ρ S = (ev cf o ρ S).bind (m1K cf .get a ρ) := by rw [ev]; rfl
def extK2 (x : RV) (k : Knd) (y : RV) (S : Store) : R RV := extR k x y S
@[simp] theorem extK2_eq (x : RV) (k : Knd) (y : RV) : extK2 x k y S = extR k x y S := nr rfl
noncomputable def extK1 (cf : CF) (a : Ex) (ρ : Env) (x : RV) (k : Knd) (S : Store) : R RV := (ev cf a ρ S).bind (extK2 x k)
@[simp] theorem extK1_eq (a : Ex) (x : RV) (k : Knd) : extK1 cf a ρ x k S = (ev cf a ρ S).bind (extK2 x k) := nr rfl
noncomputable def extK (cf : CF) (a : Ex) (ρ : Env) (x : RV) (S : Store) : R RV := (R.of (kndM .extend x S) S).bind (extK1 cf a ρ x)
@[simp] theorem extK_eq (a : Ex) (x : RV) : extK cf a ρ x S = (R.of (kndM .extend x S) S).bind (extK1 cf a ρ x) := nr rfl
@[simp] theorem ev_extend (o a : Ex) : ev cf (.m1 .extend o a) ρ S = (ev cf o ρ S).bind (extK cf a ρ) := by rw [ev]; rfl
def m2K3 (m : Me) (x : RV) (k : Knd) (y z : D) (S : Store) : R RV := m2R k m x y z S
@[simp] theorem m2K3_eq (m : Me) (x : RV) (k : Knd) (y z : D) : m2K3 m x k y z S = m2R k m x y z S := nr rfl
noncomputable def m2K2 (cf : CF) (m : Me) (b : Ex) (ρ : Env) (x : RV) (k : Knd) (y : D) (S : Store) : R RV := (matB (ev cf b ρ S)).bind (m2K3 m x k y)
@[simp] theorem m2K2_eq (m : Me) (b : Ex) (x : RV) (k : Knd) (y : D) : m2K2 cf m b ρ x k y S = (matB (ev cf b ρ S)).bind (m2K3 m x k y) := nr rfl
noncomputable def m2K (cf : CF) (m : Me) (a b : Ex) (ρ : Env) (x : RV) (S : Store) : R RV := (R.of (kndM m x S) S).bind (KM cf a ρ (m2K2 cf m b ρ x))
@[simp] theorem m2K_eq (m : Me) (a b : Ex) (x : RV) : m2K cf m a b ρ x S = (R.of (kndM m x S) S).bind (KM cf a ρ (m2K2 cf m b ρ x)) := nr rfl
@[simp] theorem ev_m2 (m : Me) (o a b : Ex) : ev cf (.m2 m o a b) ρ S = (ev cf o ρ S).bind (m2K cf m a b ρ) := by rw [ev]; rfl
noncomputable def lcB (cf : CF) (e : Ex) (ρ : Env) (S : Store) (acc : List D) : R (List D) := (matB (ev cf e ρ S)).bind fun y S => .ok (acc ++ [y]) S
noncomputable def lcC (cf : CF) (vs : List Nat) (e : Ex) (t : Tg) (it : Ix) (ifs : Txs) (ρ : Env) (S : Store) : R RV := (evI cf it ρ S).bind fun w S =>
      (compL w.2 t (wipeD ρ vs) (tst cf ifs) (lcB cf e) w.1 S []).noex.bind lstK
@[simp] theorem ev_lc (vs : List Nat) (e : Ex) (t : Tg) (it : Ix) (ifs : Txs) : ev cf (.lc vs e t it ifs) ρ S = lockR (lockI it ρ S) (lcC cf vs e t it ifs ρ) S := by rw [ev]; rfl
noncomputable def lc2B (cf : CF) (e : Ex) (r : Nat) (ρ : Env) (S : Store) (_ : Unit) : R Unit := (matB (ev cf e ρ S)).bind fun y S => pushR r y S
noncomputable def lc2J (cf : CF) (e : Ex) (t1 : Tg) (vs1 : List Nat) (ifs1 : Txs) (r : Nat) (ρ : Env) (w : List D × Grd) (S : Store) : R Unit := compL w.2 t1 (wipeD ρ vs1) (tst cf ifs1) (lc2B cf e r) w.1 S ()
noncomputable def lc2I (cf : CF) (e : Ex) (t1 : Tg) (it1 : Ix) (vs1 : List Nat) (ifs1 : Txs) (r : Nat) (ρ : Env) (S : Store) (_ : Unit) : R Unit := (evI cf it1 ρ S).bind (lc2J cf e t1 vs1 ifs1 r ρ)
def lc2K (r : Nat) (_ : Unit) (S : Store) : R RV := .ok (.d (.ref r)) S
@[simp] theorem lc2K_eq (r : Nat) (u : Unit) : lc2K r u S = .ok (.d (.ref r)) S := nr rfl
noncomputable def lc2C (cf : CF) (vs vs1 : List Nat) (e : Ex) (t : Tg) (it : Ix) (ifs : Txs) (t1 : Tg) (it1 : Ix) (ifs1 : Txs) (ρ : Env) (S : Store) : R RV := (evI cf it ρ S).bind fun w S =>
      (compL w.2 t (wipeD ρ vs) (tst cf ifs) (lc2I cf e t1 it1 vs1 ifs1 S.length) w.1 (S ++ [.lst []]) ()).noex.bind (lc2K S.length)
@[simp] theorem ev_lc2 (vs vs1 : List Nat) (e : Ex) (t : Tg) (it : Ix) (ifs : Txs) (t1 : Tg) (it1 : Ix) (ifs1 : Txs) : ev cf (.lc2 vs vs1 e t it ifs t1 it1 ifs1) ρ S = lockR (lockI it ρ S) (lc2C cf vs vs1 e t it ifs t1 it1 ifs1 ρ) S := by rw [ev]; rfl
noncomputable def dcB (cf : CF) (k v : Ex) (ρ : Env) (S : Store) (acc : List (Key × D)) : R (List (Key × D)) := (matB (ev cf k ρ S)).bind fun y S => (matB (ev cf v ρ S)).bind fun z S => (match y.key with
        | some kk => .ok (aput acc kk z) S
        | none => .bad)
def dicK (kvs : List (Key × D)) (S : Store) : R RV := .ok (.o (.dic kvs)) S
@[simp] theorem dicK_eq (kvs : List (Key × D)) : dicK kvs S = .ok (.o (.dic kvs)) S := nr rfl
noncomputable def dcC (cf : CF) (vs : List Nat) (k v : Ex) (t : Tg) (it : Ix) (ifs : Txs) (ρ : Env) (S : Store) : R RV := (evI cf it ρ S).bind fun w S =>
      (compL w.2 t (wipeD ρ vs) (tst cf ifs) (dcB cf k v) w.1 S []).noex.bind dicK
@[simp] theorem ev_dc (vs : List Nat) (k v : Ex) (t : Tg) (it : Ix) (ifs : Txs) : ev cf (.dc vs k v t it ifs) ρ S = lockR (lockI it ρ S) (dcC cf vs k v t it ifs ρ) S := by rw [ev]; rfl
noncomputable def genT (cf : CF) (vs : List Nat) (t : Tg) (ifs : Txs) (g : Gs) (ρ : Env) (S : Store) (x : D) : List (Option D) := turnG (bindT t [x] (wipeD ρ vs)) (fun ρ => pureB (tst cf ifs ρ S) S) (fun ρ => strm cf g ρ S)
noncomputable def genC (cf : CF) (c : Gc) (vs : List Nat) (t : Tg) (it : Ix) (ifs : Txs) (g : Gs) (ρ : Env) (S : Store) : R RV := (evI cf it ρ S).bind fun w S =>
      if w.2.ok S then genR c (w.1.flatMap (genT cf vs t ifs g ρ S)) S else .bad
@[simp] theorem ev_gen (c : Gc) (vs : List Nat) (t : Tg) (it : Ix) (ifs : Txs) (g : Gs) : ev cf (.gen c vs t it ifs g) ρ S = lockR (lockI it ρ S) (genC cf c vs t it ifs g ρ) S := by rw [ev]; rfl
def dspK (kvs : List (Key × D)) (S : Store) : R RV := .ok (.o (.dic (kvs.foldl (fun acc kv => aput acc kv.1 kv.2) []))) S
@[simp] theorem dspK_eq (kvs : List (Key × D)) : dspK kvs S = .ok (.o (.dic (kvs.foldl (fun acc kv => aput acc kv.1 kv.2) []))) S := nr rfl
@[simp] theorem ev_dsp (ps : Eps) : ev cf (.dsp ps) ρ S = (evp cf ps ρ S).bind dspK := by rw [ev]; rfl
@[simp] theorem evp_nil : evp cf .nil ρ S = .ok [] S := by rw [evp]
def evpK4 (k : Key) (z : D) (r : List (Key × D)) (S : Store) : R (List (Key × D)) := .ok ((k, z) :: r) S
@[simp] theorem evpK4_eq (k : Key) (z : D) (r : List (Key × D)) : evpK4 k z r S = .ok ((k, z) :: r) S := nr rfl
noncomputable def evpK3 (cf : CF) (ps : Eps) (ρ : Env) (z : D) (k : Key) (S : Store) : R (List (Key × D)) := (evp cf ps ρ S).bind (evpK4 k z)
@[simp] theorem evpK3_eq (ps : Eps) (z : D) (k : Key) : evpK3 cf ps ρ z k S = (evp cf ps ρ S).bind (evpK4 k z) := nr rfl
noncomputable def evpK2 (cf : CF) (ps : Eps) (ρ : Env) (x : RV) (z : D) (S : Store) : R (List (Key × D)) := (R.of (keyR x) S).bind (evpK3 cf ps ρ z)
@[simp] theorem evpK2_eq (ps : Eps) (x : RV) (z : D) : evpK2 cf ps ρ x z S = (R.of (keyR x) S).bind (evpK3 cf ps ρ z) := nr rfl
noncomputable def evpK (cf : CF) (v : Ex) (ps : Eps) (ρ : Env) (x : RV) (S : Store) : R (List (Key × D)) := (matB (ev cf v ρ S)).bind (evpK2 cf ps ρ x)
@[simp] theorem evpK_eq (v : Ex) (ps : Eps) (x : RV) : evpK cf v ps ρ x S = (matB (ev cf v ρ S)).bind (evpK2 cf ps ρ x) := nr rfl
@[simp] theorem evp_cons (k v : Ex) (ps : Eps) : evp cf (.cons k v ps) ρ S = (ev cf k ρ S).bind (evpK cf v ps ρ) := by rw [evp]; rfl
@[simp] theorem keyR_s (z : Str) : keyR (.d (.str z)) = some (.inr z) := nr rfl
@[simp] theorem keyR_i (z : Int) : keyR (.d (.int z)) = some (.inl z) := nr rfl
def kdK2 (op : Kop) (tb : List (Str × D)) (x : RV) (y : D) (S : Store) : R RV := R.of (kdR op tb x y) S
@[simp] theorem kdK2_eq (op : Kop) (tb : List (Str × D)) (x : RV) (y : D) : kdK2 op tb x y S = R.of (kdR op tb x y) S := nr rfl
@[simp] theorem ev_kd (op : Kop) (nm : Str) (tb : List (Str × D)) (a d : Ex) : ev cf (.kd op nm tb a d) ρ S = (ev cf a ρ S).bind (KM cf d ρ (kdK2 op tb)) := by rw [ev]; rfl
@[simp] theorem kdR_idx (tb : List (Str × D)) (z : Str) (y : D) : kdR .idx tb (.d (.str z)) y = (tb.lookup z).map RV.d := nr rfl
@[simp] theorem kdR_mem (tb : List (Str × D)) (z : Str) (y : D) : kdR .mem tb (.d (.str z)) y = some (.d (.bl (tb.lookup z).isSome)) := nr rfl
@[simp] theorem kdR_nmem (tb : List (Str × D)) (z : Str) (y : D) : kdR .nmem tb (.d (.str z)) y = some (.d (.bl (!(tb.lookup z).isSome))) := nr rfl
@[simp] theorem kdR_get (tb : List (Str × D)) (z : Str) (y : D) : kdR .get tb (.d (.str z)) y = some (.d ((tb.lookup z).getD y)) := nr rfl
def revK (x : RV) (S : Store) : R RV := R.of (revR x S) S
@[simp] theorem revK_eq (x : RV) : revK x S = R.of (revR x S) S := nr rfl
@[simp] theorem ev_rev (a : Ex) : ev cf (.rev a) ρ S = (ev cf a ρ S).bind revK := by rw [ev]; rfl
@[simp] theorem revR_o (xs : List D) : revR (.o (.lst xs)) S = some (.o (.lst xs.reverse)) := nr rfl
theorem revR_r {r : Nat} {xs : List D} (h : S[r]? = some (.lst xs)) : revR (.d (.ref r)) S = some (.o (.lst xs.reverse)) := by
  unfold revR lstv
  rw [show cellOf (.d (.ref r)) S = S[r]?.map Cell.core from rfl, h]; rfl
/-! tests -/
def truK (x : RV) (S : Store) : R Bool := R.of (truth x S) S
@[simp] theorem truK_eq (x : RV) : truK x S = R.of (truth x S) S := nr rfl
@[simp] theorem tt_ex (e : Ex) : tt cf (.ex e) ρ S = (ev cf e ρ S).bind truK := by rw [tt]; rfl
noncomputable def tandK (cf : CF) (b : Tx) (ρ : Env) (k : Bool) (S : Store) : R Bool := if k = true then tt cf b ρ S else .ok false S
@[simp] theorem tandK_t (b : Tx) : tandK cf b ρ true S = tt cf b ρ S := nr rfl
@[simp] theorem tandK_f (b : Tx) : tandK cf b ρ false S = .ok false S := nr rfl
theorem tandK_eq (b : Tx) (k : Bool) : tandK cf b ρ k S = if k = true then tt cf b ρ S else .ok false S := rfl
@[simp] theorem tt_and (a b : Tx) : tt cf (.and a b) ρ S = (tt cf a ρ S).bind (tandK cf b ρ) := by rw [tt]; rfl
noncomputable def torK (cf : CF) (b : Tx) (ρ : Env) (k : Bool) (S : Store) : R Bool := if k = true then .ok true S else tt cf b ρ S
@[simp] theorem torK_t (b : Tx) : torK cf b ρ true S = .ok true S := nr rfl
@[simp] theorem torK_f (b : Tx) : torK cf b ρ false S = tt cf b ρ S := nr rfl
theorem torK_eq (b : Tx) (k : Bool) : torK cf b ρ k S = if k = true then .ok true S else tt cf b ρ S := rfl
@[simp] theorem tt_or (a b : Tx) : tt cf (.or a b) ρ S = (tt cf a ρ S).bind (torK cf b ρ) := by rw [tt]; rfl
def tnotK (k : Bool) (S : Store) : R Bool := .ok (!k) S
@[simp] theorem tnotK_eq (k : Bool) : tnotK k S = .ok (!k) S := nr rfl
@[simp] theorem tt_not (a : Tx) : tt cf (.not a) ρ S = (tt cf a ρ S).bind tnotK := by rw [tt]; rfl
@[simp] theorem evs_nil : evs cf .nil ρ S = .ok [] S := by rw [evs]
def consK (d : D) (ds : List D) (S : Store) : R (List D) := .ok (d :: ds) S
@[simp] theorem consK_eq (d : D) (ds : List D) : consK d ds S = .ok (d :: ds) S := nr rfl
noncomputable def evsK (cf : CF) (es : Exs) (ρ : Env) (d : D) (S : Store) : R (List D) := (evs cf es ρ S).bind (consK d)
@[simp] theorem evsK_eq (es : Exs) (d : D) : evsK cf es ρ d S = (evs cf es ρ S).bind (consK d) := nr rfl
@[simp] theorem evs_cons (e : Ex) (es : Exs) : evs cf (.cons e es) ρ S = (matB (ev cf e ρ S)).bind (evsK cf es ρ) := by rw [evs]; rfl
@[simp] theorem tst_nil : tst cf .nil ρ S = .ok true S := by rw [tst]
noncomputable def tstK (cf : CF) (es : Txs) (ρ : Env) (k : Bool) (S : Store) : R Bool := if k = true then tst cf es ρ S else .ok false S
@[simp] theorem tstK_t (es : Txs) : tstK cf es ρ true S = tst cf es ρ S := nr rfl
@[simp] theorem tstK_f (es : Txs) : tstK cf es ρ false S = .ok false S := nr rfl
@[simp] theorem tst_cons (e : Tx) (es : Txs) : tst cf (.cons e es) ρ S = (tt cf e ρ S).bind (tstK cf es ρ) := by rw [tst]; rfl
@[simp] theorem tstK_nil (b : Bool) : tstK cf .nil ρ b S = .ok b S := by cases b <;> simp
/-! walks -/
@[simp] theorem evI_ex (e : Ex) : evI cf (.ex e) ρ S = (ev cf e ρ S).bind walkR := by rw [evI]
noncomputable def rngI (x y : RV) (S : Store) : R (List D × Grd) := match x, y with
    | .d (.int i), .d (.int j) => if rngOk i j then .ok (rngD i j, .no) S else .bad
    | _, _ => .bad
@[simp] theorem rngI_i (i j : Int) : rngI (.d (.int i)) (.d (.int j)) S = if rngOk i j then .ok (rngD i j, .no) S else .bad := nr rfl
@[simp] theorem evI_rng (a b : Ex) : evI cf (.rng a b) ρ S = (ev cf a ρ S).bind (K1 cf b ρ rngI) := by rw [evI]; rfl
def rng3D (i j k : Int) : List D := (List.range (Builtin.Range.rangeSize i j k).toNat).map (fun n => D.int (i + (n : Nat) * k))
noncomputable def rng3I (x y z : RV) (S : Store) : R (List D × Grd) := match x, y, z with
    | .d (.int i), .d (.int j), .d (.int k) => if rng3Ok i j k then .ok (rng3D i j k, .no) S else .bad
    | _, _, _ => .bad
@[simp] theorem rng3I_i (i j k : Int) : rng3I (.d (.int i)) (.d (.int j)) (.d (.int k)) S = if rng3Ok i j k then .ok (rng3D i j k, .no) S else .bad := nr rfl
noncomputable def rng3K (cf : CF) (c : Ex) (ρ : Env) (x y : RV) (S : Store) : R (List D × Grd) := (ev cf c ρ S).bind (rng3I x y)
@[simp] theorem rng3K_eq (c : Ex) (x y : RV) : rng3K cf c ρ x y S = (ev cf c ρ S).bind (rng3I x y) := nr rfl
@[simp] theorem evI_rng3 (a b c : Ex) : evI cf (.rng3 a b c) ρ S = (ev cf a ρ S).bind (K1 cf b ρ (rng3K cf c ρ)) := by rw [evI]; rfl
@[simp] theorem walkR_t (xs : List D) : walkR (.d (.tup xs)) S = .ok (xs, .no) S := nr rfl
@[simp] theorem walkR_l (xs : List D) : walkR (.d (.lst xs)) S = .ok (xs, .no) S := nr rfl
@[simp] theorem walkR_o (xs : List D) : walkR (.o (.lst xs)) S = .ok (xs, .no) S := nr rfl
def walkC (r : Nat) (o : Option Cell) (S : Store) : R (List D × Grd) := match o with
    | some (.lst xs) => .ok (xs, .at r (.lst xs)) S
    | some (.frz (.dic kvs)) => .ok (kvs.map fun kv => keyD kv.1, .no) S
    | _ => .bad
@[simp] theorem walkC_l (r : Nat) (xs : List D) : walkC r (some (.lst xs)) S = .ok (xs, .at r (.lst xs)) S := nr rfl
@[simp] theorem walkR_r (r : Nat) : walkR (.d (.ref r)) S = walkC r S[r]? S := nr rfl
/-! what stands -/
@[simp] theorem truth_b (b : Bool) : truth (.d (.bl b)) S = some b := nr rfl
@[simp] theorem truth_n : truth (.d .non) S = some false := nr rfl
@[simp] theorem truth_i (i : Int) : truth (.d (.int i)) S = some (i != 0) := nr rfl
@[simp] theorem truth_t (xs : List D) : truth (.d (.tup xs)) S = some (!xs.isEmpty) := nr rfl
@[simp] theorem truth_l (xs : List D) : truth (.d (.lst xs)) S = some (!xs.isEmpty) := nr rfl
@[simp] theorem truth_o (xs : List D) : truth (.o (.lst xs)) S = some (!xs.isEmpty) := nr rfl
def truthC (o : Option Cell) : Option Bool := match o with
    | some (.lst xs) => some (!xs.isEmpty)
    | some (.dic kvs) => some (!kvs.isEmpty)
    | _ => none
@[simp] theorem truthC_l (xs : List D) : truthC (some (.lst xs)) = some (!xs.isEmpty) := nr rfl
@[simp] theorem truthC_d (xs : List (Key × D)) : truthC (some (.dic xs)) = some (!xs.isEmpty) := nr rfl
@[simp] theorem truth_r (r : Nat) : truth (.d (.ref r)) S = truthC (S[r]?.map Cell.core) := by
  show (match S[r]?.map Cell.core with | some (.lst xs) => some (!xs.isEmpty) | some (.dic kvs) => some (!kvs.isEmpty) | _ => none) = _
  rfl
@[simp] theorem core_l (xs : List D) : Cell.core (.lst xs) = .lst xs := nr rfl
@[simp] theorem core_d (xs : List (Key × D)) : Cell.core (.dic xs) = .dic xs := nr rfl
@[simp] theorem core_f (c : Cell) : Cell.core (.frz c) = c.core := nr rfl
@[simp] theorem knd_t (xs : List D) : knd (.d (.tup xs)) S = some .tup := nr rfl
def kndC (o : Option Cell) : Option Knd := match o with
    | some (.lst _) => some .lst
    | some (.dic _) => some .dic
    | _ => none
@[simp] theorem kndC_l (xs : List D) : kndC (some (.lst xs)) = some .lst := nr rfl
@[simp] theorem kndC_d (xs : List (Key × D)) : kndC (some (.dic xs)) = some .dic := nr rfl
@[simp] theorem knd_r (r : Nat) : knd (.d (.ref r)) S = kndC (S[r]?.map Cell.core) := nr rfl
def kndMC (m : Me) (k : Option Knd) : Option Knd := match k, m with
  | some .lst, .append => some .lst
  | some .lst, .extend => some .lst
  | some .lst, .index => some .lst
  | some .lst, .count => some .lst
  | some .lst, .pop => some .lst
  | some .dic, .get => some .dic
  | some .tup, .index => some .tup
  | _, _ => none
@[simp] theorem kndM_c (m : Me) (x : RV) : kndM m x S = kndMC m (knd x S) := nr rfl
@[simp] theorem kndMC_ap : kndMC .append (some .lst) = some .lst := nr rfl
@[simp] theorem kndMC_ex : kndMC .extend (some .lst) = some .lst := nr rfl
@[simp] theorem kndMC_ix : kndMC .index (some .lst) = some .lst := nr rfl
@[simp] theorem kndMC_ct : kndMC .count (some .lst) = some .lst := nr rfl
@[simp] theorem kndMC_pp : kndMC .pop (some .lst) = some .lst := nr rfl
@[simp] theorem kndMC_it : kndMC .index (some .tup) = some .tup := nr rfl
@[simp] theorem kndMC_gt : kndMC .get (some .dic) = some .dic := nr rfl
def appC (r : Nat) (y : D) (S : Store) (o : Option Cell) : R RV := match o with
      | some (.lst xs) => if xs.length < sizeLine then .ok (.d .non) (S.set r (.lst (xs ++ [y]))) else .bad
      | _ => .bad
@[simp] theorem appC_l (r : Nat) (y : D) (xs : List D) : appC r y S (some (.lst xs)) = if xs.length < sizeLine then .ok (.d .non) (S.set r (.lst (xs ++ [y]))) else .bad := nr rfl
@[simp] theorem m1_append (r : Nat) (y : D) : m1R .lst .append (.d (.ref r)) y S = appC r y S S[r]? := nr rfl
/-! operators -/
@[simp] theorem bin_add (i j : Int) : binR .add (.d (.int i)) (.d (.int j)) S = .ok (.d (.int (i + j))) S := nr rfl
@[simp] theorem bin_sub (i j : Int) : binR .sub (.d (.int i)) (.d (.int j)) S = .ok (.d (.int (i - j))) S := nr rfl
@[simp] theorem bin_mul (i j : Int) : binR .mul (.d (.int i)) (.d (.int j)) S = if CMul i j then .ok (.d (.int (i * j))) S else .bad := nr rfl
@[simp] theorem bin_fdiv (i j : Int) : binR .fdiv (.d (.int i)) (.d (.int j)) S = if CDiv i j then .ok (.d (.int (i / j))) S else .bad := nr rfl
@[simp] theorem bin_mod (i j : Int) : binR .mod (.d (.int i)) (.d (.int j)) S = if 0 < j then .ok (.d (.int (i % j))) S else .bad := nr rfl
@[simp] theorem bin_pow (i j : Int) : binR .pow (.d (.int i)) (.d (.int j)) S = if CPow i j then .ok (.d (.int (i ^ j.toNat))) S else .bad := nr rfl
@[simp] theorem bin_addt (xs ys : List D) : binR .add (.d (.tup xs)) (.d (.tup ys)) S = if xs.length + ys.length ≤ sizeLine then .ok (.d (.tup (xs ++ ys))) S else .bad := nr rfl
@[simp] theorem cmp_lt (i j : Int) : cmpR .lt (.d (.int i)) (.d (.int j)) S = some (decide (i < j)) := nr rfl
@[simp] theorem cmp_le (i j : Int) : cmpR .le (.d (.int i)) (.d (.int j)) S = some (decide (i ≤ j)) := nr rfl
@[simp] theorem cmp_gt (i j : Int) : cmpR .gt (.d (.int i)) (.d (.int j)) S = some (decide (j < i)) := nr rfl
@[simp] theorem cmp_ge (i j : Int) : cmpR .ge (.d (.int i)) (.d (.int j)) S = some (decide (j ≤ i)) := nr rfl
theorem eqv_int (i j : Int) : (D.int i).eqv (.int j) = decide (i = j) := by
  show PyData.eqv (.int i) (.int j) = _
  rw [PyData.eqv]; by_cases h : i = j <;> simp [h]
theorem eqR_int (i j : Int) : eqR (.d (.int i)) (.d (.int j)) S = some (decide (i = j)) := by
  rw [← eqv_int]; rfl
@[simp] theorem cmp_eq (i j : Int) : cmpR .eq (.d (.int i)) (.d (.int j)) S = some (decide (i = j)) := eqR_int S i j
@[simp] theorem cmp_ne (i j : Int) : cmpR .ne (.d (.int i)) (.d (.int j)) S = some (!decide (i = j)) := by
  show (eqR (.d (.int i)) (.d (.int j)) S).map (!·) = _
  rw [eqR_int]; rfl
@[simp] theorem cmp_is_n (v : D) : cmpR .is (.d v) (.d .non) S = some (match v with | .non => true | _ => false) := nr rfl
@[simp] theorem b1_int (i : Int) : b1R .int (.d (.int i)) S = .ok (.d (.int i)) S := nr rfl
@[simp] theorem b1_intb (b : Bool) : b1R .int (.d (.bl b)) S = .ok (.d (.int (if b then 1 else 0))) S := nr rfl
@[simp] theorem b1_bool (i : Int) : b1R .bool (.d (.int i)) S = .ok (.d (.bl (i != 0))) S := nr rfl
@[simp] theorem b1_boolb (b : Bool) : b1R .bool (.d (.bl b)) S = .ok (.d (.bl b)) S := nr rfl
@[simp] theorem len_l (xs : List D) : b1R .len (.d (.lst xs)) S = .ok (.d (.int xs.length)) S := nr rfl
@[simp] theorem len_t (xs : List D) : b1R .len (.d (.tup xs)) S = .ok (.d (.int xs.length)) S := nr rfl
@[simp] theorem len_o (xs : List D) : b1R .len (.o (.lst xs)) S = .ok (.d (.int xs.length)) S := nr rfl
def seqC (o : Option Cell) : Option (List D) := match o with
  | some (.lst xs) => some xs
  | _ => none
@[simp] theorem seqC_l (xs : List D) : seqC (some (.lst xs)) = some xs := nr rfl
@[simp] theorem seqC_d (xs : List (Key × D)) : seqC (some (.dic xs)) = none := nr rfl
theorem seqv_r (r : Nat) : seqv (.d (.ref r)) S = seqC (S[r]?.map Cell.core) := rfl
def lenC (S : Store) (o : Option Cell) : R RV := match o with
  | some (.lst xs) => .ok (.d (.int xs.length)) S
  | some (.dic kvs) => .ok (.d (.int kvs.length)) S
  | _ => .bad
@[simp] theorem lenC_l (xs : List D) : lenC S (some (.lst xs)) = .ok (.d (.int xs.length)) S := nr rfl
@[simp] theorem lenC_d (xs : List (Key × D)) : lenC S (some (.dic xs)) = .ok (.d (.int xs.length)) S := nr rfl
theorem cellOf_r (r : Nat) : cellOf (.d (.ref r)) S = S[r]?.map Cell.core := rfl
@[simp] theorem len_r (r : Nat) : b1R .len (.d (.ref r)) S = lenC S (S[r]?.map Cell.core) := by
  unfold b1R seqv lstv dicv tupv
  simp only [cellOf_r]
  generalize S[r]?.map Cell.core = o
  cases o with
  | none => rfl
  | some c => cases c <;> rfl
@[simp] theorem tuple_t (xs : List D) : b1R .tuple (.d (.tup xs)) S = .ok (.d (.tup xs)) S := nr rfl
@[simp] theorem tuple_o (xs : List D) : b1R .tuple (.o (.lst xs)) S = .ok (.d (.tup xs)) S := nr rfl
@[simp] theorem tuple_l (xs : List D) : b1R .tuple (.d (.lst xs)) S = .ok (.d (.tup xs)) S := nr rfl
def toTup (S : Store) (o : Option (List D)) : R RV := match o with
  | some xs => .ok (.d (.tup xs)) S
  | none => .bad
@[simp] theorem toTup_s (xs : List D) : toTup S (some xs) = .ok (.d (.tup xs)) S := nr rfl
@[simp] theorem tuple_r (r : Nat) : b1R .tuple (.d (.ref r)) S = toTup S (seqC (S[r]?.map Cell.core)) := nr rfl
def toLst (S : Store) (o : Option (List D)) : R RV := match o with
  | some xs => .ok (.o (.lst xs)) S
  | none => .bad
@[simp] theorem toLst_s (xs : List D) : toLst S (some xs) = .ok (.o (.lst xs)) S := nr rfl
@[simp] theorem list_t (xs : List D) : b1R .list (.d (.tup xs)) S = .ok (.o (.lst xs)) S := nr rfl
@[simp] theorem list_l (xs : List D) : b1R .list (.d (.lst xs)) S = .ok (.o (.lst xs)) S := nr rfl
@[simp] theorem list_o (xs : List D) : b1R .list (.o (.lst xs)) S = .ok (.o (.lst xs)) S := nr rfl
@[simp] theorem list_r (r : Nat) : b1R .list (.d (.ref r)) S = toLst S (seqC (S[r]?.map Cell.core)) := nr rfl
theorem asI_map (is : List Int) : asI (is.map D.int) = some is := by
  induction is with
  | nil => rfl
  | cons i r ih => show (asI (r.map D.int)).map (i :: ·) = _; rw [ih]; rfl
theorem sum_t (is : List Int) : b1R .sum (.d (.tup (is.map D.int))) S = if sumOk is then .ok (.d (.int is.sum)) S else .bad := by
  simp [b1R, intsv, seqv, tupv, asI_map]
theorem sum_o (is : List Int) : b1R .sum (.o (.lst (is.map D.int))) S = if sumOk is then .ok (.d (.int is.sum)) S else .bad := by
  simp [b1R, intsv, seqv, tupv, lstv, cellOf, asI_map]
/-! parts -/
@[simp] theorem idx_t (xs : List D) (k : Int) : idxR (.d (.tup xs)) (.d (.int k)) S = (atI xs k).map RV.d := nr rfl
@[simp] theorem idx_l (xs : List D) (k : Int) : idxR (.d (.lst xs)) (.d (.int k)) S = (atI xs k).map RV.d := nr rfl
@[simp] theorem idx_o (xs : List D) (k : Int) : idxR (.o (.lst xs)) (.d (.int k)) S = (atI xs k).map RV.d := nr rfl
def idxC (u : D) (o : Option Cell) : Option RV := match o with
  | some (.lst xs) => (match u with
      | .int k => (atI xs k).map RV.d
      | _ => none)
  | some (.dic kvs) => u.key.bind fun k => (aval kvs k).map RV.d
  | _ => none
@[simp] theorem idxC_l (xs : List D) (k : Int) : idxC (.int k) (some (.lst xs)) = (atI xs k).map RV.d := nr rfl
@[simp] theorem idxC_d (kvs : List (Key × D)) (u : D) : idxC u (some (.dic kvs)) = u.key.bind fun k => (aval kvs k).map RV.d := nr rfl
@[simp] theorem idx_r (r : Nat) (u : D) : idxR (.d (.ref r)) (.d u) S = idxC u (S[r]?.map Cell.core) := by
  unfold idxR seqv lstv dicv tupv idxC
  simp only [cellOf_r]
  generalize S[r]?.map Cell.core = o
  cases o with
  | none => rfl
  | some c => cases c <;> rfl
@[simp] theorem slc_t (xs : List D) (l h : Option Int) : slcR (.d (.tup xs)) l h S = some (.d (.tup (cutD xs l h))) := nr rfl
@[simp] theorem slc_l (xs : List D) (l h : Option Int) : slcR (.d (.lst xs)) l h S = some (.o (.lst (cutD xs l h))) := nr rfl
@[simp] theorem slc_r (r : Nat) (l h : Option Int) : slcR (.d (.ref r)) l h S = (seqC (S[r]?.map Cell.core)).map fun xs => .o (.lst (cutD xs l h)) := nr rfl
@[simp] theorem part_n : partD (.d .non) = some none := nr rfl
@[simp] theorem part_i (i : Int) : partD (.d (.int i)) = some (some i) := nr rfl
@[simp] theorem isi_b_b (b : Bool) : isiR (.d (.bl b)) .bool S = some true := nr rfl
@[simp] theorem isi_i_b (i : Int) : isiR (.d (.int i)) .bool S = some false := nr rfl
@[simp] theorem isi_b_i (b : Bool) : isiR (.d (.bl b)) .int S = some true := nr rfl
@[simp] theorem isi_i_i (i : Int) : isiR (.d (.int i)) .int S = some true := nr rfl
@[simp] theorem isi_t_t (xs : List D) : isiR (.d (.tup xs)) .tuple S = some true := nr rfl
@[simp] theorem isi_i_t (i : Int) : isiR (.d (.int i)) .tuple S = some false := nr rfl
@[simp] theorem isi_b_t (b : Bool) : isiR (.d (.bl b)) .tuple S = some false := nr rfl
@[simp] theorem isi_n_t : isiR (.d .non) .tuple S = some false := nr rfl
@[simp] theorem isi_s_t (z : Str) : isiR (.d (.str z)) .tuple S = some false := nr rfl
@[simp] theorem isi_s_b (z : Str) : isiR (.d (.str z)) .bool S = some false := nr rfl
@[simp] theorem isi_s_i (z : Str) : isiR (.d (.str z)) .int S = some false := nr rfl
@[simp] theorem isi_s_s (z : Str) : isiR (.d (.str z)) .str S = some true := nr rfl
@[simp] theorem b2_max (i j : Int) : b2R .max (.d (.int i)) (.d (.int j)) S = .ok (.d (.int (if j > i then j else i))) S := nr rfl
@[simp] theorem b2_min (i j : Int) : b2R .min (.d (.int i)) (.d (.int j)) S = .ok (.d (.int (if j < i then j else i))) S := nr rfl
end
theorem atI_nat {α : Type} (xs : List α) (k : Nat) : atI xs (k : Int) = xs[k]? := by
  unfold atI ixN
  rw [if_pos (Int.natCast_nonneg k)]
  by_cases h : k < xs.length
  · rw [if_pos (Int.ofNat_lt.mpr h)]; rfl
  · rw [if_neg (fun q => h (Int.ofNat_lt.mp q)), List.getElem?_eq_none (Nat.le_of_not_lt h)]; rfl
@[simp] theorem atI_0 {α : Type} (x : α) (xs : List α) : atI (x :: xs) 0 = some x := atI_nat (x :: xs) 0
@[simp] theorem atI_1 {α : Type} (x y : α) (xs : List α) : atI (x :: y :: xs) 1 = some y := atI_nat (x :: y :: xs) 1
@[simp] theorem atI_2 {α : Type} (x y z : α) (xs : List α) : atI (x :: y :: z :: xs) 2 = some z := atI_nat (x :: y :: z :: xs) 2
@[simp] theorem atI_3 {α : Type} (x y z a : α) (xs : List α) : atI (x :: y :: z :: a :: xs) 3 = some a := atI_nat (x :: y :: z :: a :: xs) 3
@[simp] theorem atI_4 {α : Type} (x y z a b : α) (xs : List α) : atI (x :: y :: z :: a :: b :: xs) 4 = some b := atI_nat (x :: y :: z :: a :: b :: xs) 4
@[simp] theorem atI_5 {α : Type} (x y z a b c : α) (xs : List α) : atI (x :: y :: z :: a :: b :: c :: xs) 5 = some c := atI_nat (x :: y :: z :: a :: b :: c :: xs) 5
@[simp] theorem atI_last {α : Type} (x : α) (xs : List α) : atI (xs ++ [x]) (-1) = some x := by
  unfold atI ixN
  rw [if_neg (by decide), if_pos (by rw [List.length_append]; simp; omega)]
  show (xs ++ [x])[(-1 + ((xs ++ [x]).length : Int)).toNat]? = _
  have : (-1 + ((xs ++ [x]).length : Int)).toNat = xs.length := by rw [List.length_append]; simp; omega
  rw [this]; simp
theorem atI_map {α β : Type} (f : α → β) (xs : List α) (k : Int) : atI (xs.map f) k = (atI xs k).map f := by
  unfold atI
  rw [List.length_map]
  cases ixN xs.length k with
  | none => rfl
  | some j => show (xs.map f)[j]? = xs[j]?.map f; rw [List.getElem?_map]
end CH
/-! PB: statements, step by step; loops; calls. -/
namespace CH
open PySem PySem.Spec PyProof.Rows L2
section
variable (cf : CF) (ρ : Env) (S : Store)
@[simp] theorem exs_nil : exs cf .nil ρ S = .nx ρ S := by rw [exs]
@[simp] theorem exs_cons (s : St) (ss : Sts) : exs cf (.cons s ss) ρ S = (ex cf s ρ S).andThen (exs cf ss) := by rw [exs]
@[simp] theorem andThen_nil (x : RS) : x.andThen (exs cf .nil) = x := by cases x <;> simp
def nxK {α : Type} (ρ : Env) (_ : α) (S : Store) : RS := .nx ρ S
@[simp] theorem nxK_eq {α : Type} (x : α) : nxK ρ x S = .nx ρ S := nr rfl
@[simp] theorem ex_ex (e : Ex) : ex cf (.ex e) ρ S = (ev cf e ρ S).bindS (nxK ρ) := by rw [ex]; rfl
def setK (ρ : Env) (i : Nat) (v : D) (S : Store) : RS := .nx (ρ.set i (some v)) S
@[simp] theorem setK_eq (i : Nat) (v : D) : setK ρ i v S = .nx (ρ.set i (some v)) S := nr rfl
@[simp] theorem ex_var (i : Nat) (e : Ex) : ex cf (.set (.var i) e) ρ S = (matB (ev cf e ρ S)).bindS (setK ρ i) := by rw [ex]; rfl
def bindC (ρ : Env) (t : Tg) (S : Store) (o : Option (List D)) : RS := match o with
      | some xs => (match bindT t xs ρ with
        | some ρ1 => .nx ρ1 S
        | none => .bad)
      | none => .bad
def bindO (S : Store) (o : Option Env) : RS := match o with
        | some ρ1 => .nx ρ1 S
        | none => .bad
@[simp] theorem bindO_s : bindO S (some ρ) = .nx ρ S := nr rfl
@[simp] theorem bindC_s (t : Tg) (xs : List D) : bindC ρ t S (some xs) = bindO S (bindT t xs ρ) := nr rfl
def bindK (ρ : Env) (t : Tg) (x : RV) (S : Store) : RS := bindC ρ t S (tupv x)
@[simp] theorem bindK_eq (t : Tg) (x : RV) : bindK ρ t x S = bindC ρ t S (tupv x) := nr rfl
@[simp] theorem ex_tup (t : Tg) (e : Ex) : ex cf (.set (.tup t) e) ρ S = (ev cf e ρ S).bindS (bindK ρ t) := by rw [ex]; rfl
@[simp] theorem tupv_t (xs : List D) : tupv (.d (.tup xs)) = some xs := nr rfl
def subK3 (ρ : Env) (v : D) (x : RV) (y : D) (S : Store) : RS := (setR x y v S).bindS (nxK ρ)
@[simp] theorem subK3_eq (v : D) (x : RV) (y : D) : subK3 ρ v x y S = (setR x y v S).bindS (nxK ρ) := nr rfl
noncomputable def subK2 (cf : CF) (i : Ex) (ρ : Env) (v : D) (x : RV) (S : Store) : RS := (matB (ev cf i ρ S)).bindS (subK3 ρ v x)
@[simp] theorem subK2_eq (i : Ex) (v : D) (x : RV) : subK2 cf i ρ v x S = (matB (ev cf i ρ S)).bindS (subK3 ρ v x) := nr rfl
noncomputable def subK (cf : CF) (o i : Ex) (ρ : Env) (v : D) (S : Store) : RS := (ev cf o ρ S).bindS (subK2 cf i ρ v)
@[simp] theorem subK_eq (o i : Ex) (v : D) : subK cf o i ρ v S = (ev cf o ρ S).bindS (subK2 cf i ρ v) := nr rfl
@[simp] theorem ex_sub (o i e : Ex) : ex cf (.set (.sub o i) e) ρ S = (matB (ev cf e ρ S)).bindS (subK cf o i ρ) := by rw [ex]; rfl
def augK (ρ : Env) (i : Nat) (o : Bop) (d : D) (y : RV) (S : Store) : RS := (augR o d y S).bindS (setK ρ i)
@[simp] theorem augK_eq (i : Nat) (o : Bop) (d : D) (y : RV) : augK ρ i o d y S = (augR o d y S).bindS (setK ρ i) := nr rfl
noncomputable def augC (cf : CF) (i : Nat) (o : Bop) (e : Ex) (ρ : Env) (S : Store) (x : Option (Option D)) : RS := match x with
    | some (some d) => (ev cf e ρ S).bindS (augK ρ i o d)
    | _ => .bad
@[simp] theorem augC_s (i : Nat) (o : Bop) (e : Ex) (d : D) : augC cf i o e ρ S (some (some d)) = (ev cf e ρ S).bindS (augK ρ i o d) := nr rfl
@[simp] theorem ex_aug (i : Nat) (o : Bop) (e : Ex) : ex cf (.aug i o e) ρ S = augC cf i o e ρ S ρ[i]? := by rw [ex]; rfl
@[simp] theorem aug_add (i j : Int) : augR .add (.int i) (.d (.int j)) S = .ok (.int (i + j)) S := nr rfl
@[simp] theorem aug_sub (i j : Int) : augR .sub (.int i) (.d (.int j)) S = .ok (.int (i - j)) S := nr rfl
def retK (x : RV) (S : Store) : RS := .rt x S
@[simp] theorem retK_eq (x : RV) : retK x S = .rt x S := nr rfl
@[simp] theorem ex_ret (e : Ex) : ex cf (.ret e) ρ S = (ev cf e ρ S).bindS retK := by rw [ex]; rfl
noncomputable def ifK (cf : CF) (a b : Sts) (ρ : Env) (k : Bool) (S : Store) : RS := if k = true then exs cf a ρ S else exs cf b ρ S
@[simp] theorem ifK_t (a b : Sts) : ifK cf a b ρ true S = exs cf a ρ S := nr rfl
@[simp] theorem ifK_f (a b : Sts) : ifK cf a b ρ false S = exs cf b ρ S := nr rfl
@[simp] theorem ex_ite (c : Tx) (a b : Sts) : ex cf (.ite c a b) ρ S = (tt cf c ρ S).bindS (ifK cf a b ρ) := by rw [ex]; rfl
def parK2 (ρ : Env) (i j : Nat) (x y : D) (S : Store) : RS := .nx ((ρ.set i (some x)).set j (some y)) S
@[simp] theorem parK2_eq (i j : Nat) (x y : D) : parK2 ρ i j x y S = .nx ((ρ.set i (some x)).set j (some y)) S := nr rfl
noncomputable def parK (cf : CF) (i j : Nat) (b : Ex) (ρ : Env) (x : D) (S : Store) : RS := (matB (ev cf b ρ S)).bindS (parK2 ρ i j x)
@[simp] theorem parK_eq (i j : Nat) (b : Ex) (x : D) : parK cf i j b ρ x S = (matB (ev cf b ρ S)).bindS (parK2 ρ i j x) := nr rfl
@[simp] theorem ex_par (i j : Nat) (a b : Ex) : ex cf (.par i j a b) ρ S = (matB (ev cf a ρ S)).bindS (parK cf i j b ρ) := by rw [ex]; rfl
theorem ex_whl (c : Tx) (b : Sts) : ex cf (.whl c b) ρ S = whileN (tt cf c) (exs cf b) FU ρ S := by rw [ex]
noncomputable def forK (cf : CF) (t : Tg) (b : Sts) (ρ : Env) (w : List D × Grd) (S : Store) : RS := forL w.2 t (exs cf b) w.1 ρ S
noncomputable def forC (cf : CF) (t : Tg) (it : Ix) (b : Sts) (ρ : Env) (S : Store) : RS := (evI cf it ρ S).bindS (forK cf t b ρ)
@[simp] theorem ex_for (t : Tg) (it : Ix) (b : Sts) : ex cf (.for t it b) ρ S = lockS (lockI it ρ S) (forC cf t it b ρ) S := by rw [ex]; rfl
@[simp] theorem forC_eq (t : Tg) (it : Ix) (b : Sts) : forC cf t it b ρ S = (evI cf it ρ S).bindS (forK cf t b ρ) := nr rfl
@[simp] theorem forK_eq (t : Tg) (b : Sts) (xs : List D) (g : Grd) : forK cf t b ρ (xs, g) S = forL g t (exs cf b) xs ρ S := nr rfl
@[simp] theorem ex_brk : ex cf .brk ρ S = .bk ρ S := by rw [ex]
@[simp] theorem ex_cnt : ex cf .cnt ρ S = .ct ρ S := by rw [ex]
@[simp] theorem ex_pas : ex cf .pas ρ S = .nx ρ S := by rw [ex]
@[simp] theorem lockI_rng (a b : Ex) : lockI (.rng a b) ρ S = none := nr rfl
@[simp] theorem lockI_rng3 (a b c : Ex) : lockI (.rng3 a b c) ρ S = none := nr rfl
def lockC (r : Nat) (o : Option Cell) : Option (Nat × Cell) := match o with
      | some (.dic kvs) => some (r, .dic kvs)
      | _ => none
@[simp] theorem lockC_l (r : Nat) (xs : List D) : lockC r (some (.lst xs)) = none := nr rfl
def lockW (S : Store) (o : Option (Option D)) : Option (Nat × Cell) := match o with
    | some (some (.ref r)) => lockC r S[r]?
    | _ => none
@[simp] theorem lockW_r (r : Nat) : lockW S (some (some (.ref r))) = lockC r S[r]? := nr rfl
@[simp] theorem lockW_t (xs : List D) : lockW S (some (some (.tup xs))) = none := nr rfl
@[simp] theorem lockW_l (xs : List D) : lockW S (some (some (.lst xs))) = none := nr rfl
@[simp] theorem lockI_var (i : Nat) : lockI (.ex (.var i)) ρ S = lockW S ρ[i]? := by
  show (match ρ[i]? with | some (some (.ref r)) => (match S[r]? with | some (.dic kvs) => some (r, Cell.dic kvs) | _ => none) | _ => none) = _
  unfold lockW lockC
  rfl
@[simp] theorem lockI_idx (a b : Ex) : lockI (.ex (.idx a b)) ρ S = none := nr rfl
@[simp] theorem lockI_call (f : Str) (es : Exs) : lockI (.ex (.call f es)) ρ S = none := nr rfl
@[simp] theorem lockI_tup (es : Exs) : lockI (.ex (.tup es)) ρ S = none := nr rfl
@[simp] theorem lockI_slc (a b c : Ex) : lockI (.ex (.slc a b c)) ρ S = none := nr rfl
@[simp] theorem lockI_b1 (f : B1) (a : Ex) : lockI (.ex (.b1 f a)) ρ S = none := nr rfl
@[simp] theorem lockI_lst (es : Exs) : lockI (.ex (.lst es)) ρ S = none := nr rfl
@[simp] theorem lockI_con (d : D) : lockI (.ex (.con d)) ρ S = none := nr rfl
@[simp] theorem lockI_bin (o : Bop) (a b : Ex) : lockI (.ex (.bin o a b)) ρ S = none := nr rfl
@[simp] theorem lockI_ite (c : Tx) (a b : Ex) : lockI (.ex (.ite c a b)) ρ S = none := nr rfl
@[simp] theorem lockI_rngx (f : B1) (a b : Ex) : lockI (.ex (.rng f a b)) ρ S = none := nr rfl
@[simp] theorem lockI_lc (vs : List Nat) (e : Ex) (t : Tg) (it : Ix) (ifs : Txs) : lockI (.ex (.lc vs e t it ifs)) ρ S = none := nr rfl
@[simp] theorem lockI_enu (a : Ex) : lockI (.enu a) ρ S = none := nr rfl
@[simp] theorem lockI_zip (a b : Ex) : lockI (.zip a b) ρ S = none := nr rfl
/-! writes -/
def setC (r : Nat) (i v : D) (S : Store) (o : Option Cell) : R Unit := match o with
    | some (.lst xs) => (match i with
      | .int k => (match ixN xs.length k with
        | some j => .ok () (S.set r (.lst (xs.set j v)))
        | none => .bad)
      | _ => .bad)
    | some (.dic kvs) => (match i.key with
      | some k => if kvs.length < sizeLine then .ok () (S.set r (.dic (aput kvs k v))) else .bad
      | none => .bad)
    | _ => .bad
def setX (r : Nat) (v : D) (S : Store) (xs : List D) (o : Option Nat) : R Unit := match o with
        | some j => .ok () (S.set r (.lst (xs.set j v)))
        | none => .bad
@[simp] theorem setX_s (r : Nat) (v : D) (xs : List D) (j : Nat) : setX r v S xs (some j) = .ok () (S.set r (.lst (xs.set j v))) := nr rfl
@[simp] theorem setC_l (r : Nat) (k : Int) (v : D) (xs : List D) : setC r (.int k) v S (some (.lst xs)) = setX r v S xs (ixN xs.length k) := nr rfl
@[simp] theorem setC_d (r : Nat) (k : Int) (v : D) (kvs : List (Key × D)) : setC r (.int k) v S (some (.dic kvs)) = if kvs.length < sizeLine then .ok () (S.set r (.dic (aput kvs (.inl k) v))) else .bad := nr rfl
@[simp] theorem set_r (r : Nat) (i v : D) : setR (.d (.ref r)) i v S = setC r i v S S[r]? := nr rfl
end
theorem ixN_nat {n j : Nat} (h : j < n) : ixN n (j : Int) = some j := by
  unfold ixN; rw [if_pos (Int.natCast_nonneg j), if_pos (Int.ofNat_lt.mpr h)]; rfl
theorem ixN_last {n : Nat} : ixN (n + 1) (-1) = some n := by
  unfold ixN; rw [if_neg (by decide), if_pos (by omega)]
  congr 1; omega
@[simp] theorem empty_snoc {α : Type} (xs : List α) (x : α) : (xs ++ [x]).isEmpty = false := by cases xs <;> rfl
/-! ### what a block comes to -/
inductive RS.wp (N : Env → Store → Prop) (Q : RV → Store → Prop) (B C : Env → Store → Prop) : RS → Prop where
  | nx {ρ : Env} {S : Store} (h : N ρ S) : RS.wp N Q B C (.nx ρ S)
  | rt {x : RV} {S : Store} (h : Q x S) : RS.wp N Q B C (.rt x S)
  | bk {ρ : Env} {S : Store} (h : B ρ S) : RS.wp N Q B C (.bk ρ S)
  | ct {ρ : Env} {S : Store} (h : C ρ S) : RS.wp N Q B C (.ct ρ S)
section
variable {N N' : Env → Store → Prop} {Q Q' : RV → Store → Prop} {B B' C C' : Env → Store → Prop}
@[simp] theorem wp_nx (ρ : Env) (S : Store) : RS.wp N Q B C (.nx ρ S) ↔ N ρ S := ⟨fun h => by cases h; assumption, .nx⟩
@[simp] theorem wp_rt (x : RV) (S : Store) : RS.wp N Q B C (.rt x S) ↔ Q x S := ⟨fun h => by cases h; assumption, .rt⟩
@[simp] theorem wp_bk (ρ : Env) (S : Store) : RS.wp N Q B C (.bk ρ S) ↔ B ρ S := ⟨fun h => by cases h; assumption, .bk⟩
@[simp] theorem wp_ct (ρ : Env) (S : Store) : RS.wp N Q B C (.ct ρ S) ↔ C ρ S := ⟨fun h => by cases h; assumption, .ct⟩
@[simp] theorem wp_ex (x : Exn) (S : Store) : RS.wp N Q B C (.ex x S) ↔ False := ⟨fun h => (by cases h), False.elim⟩
@[simp] theorem wp_bad : RS.wp N Q B C .bad ↔ False := ⟨fun h => (by cases h), False.elim⟩
theorem wp_then {x : RS} {f : Env → Store → RS} (h : RS.wp (fun ρ S => RS.wp N Q B C (f ρ S)) Q B C x) : RS.wp N Q B C (x.andThen f) := by
  cases h with
  | nx h => exact h
  | rt h => exact .rt h
  | bk h => exact .bk h
  | ct h => exact .ct h
theorem wp_mono {x : RS} (h : RS.wp N Q B C x) (hn : ∀ ρ S, N ρ S → N' ρ S) (hq : ∀ v S, Q v S → Q' v S) (hb : ∀ ρ S, B ρ S → B' ρ S) (hc : ∀ ρ S, C ρ S → C' ρ S) : RS.wp N' Q' B' C' x := by
  cases h with
  | nx h => exact .nx (hn _ _ h)
  | rt h => exact .rt (hq _ _ h)
  | bk h => exact .bk (hb _ _ h)
  | ct h => exact .ct (hc _ _ h)
/-- a statement that only goes on -/
theorem wp_thenI (I : Env → Store → Prop) {x : RS} {f : Env → Store → RS} (h1 : RS.wp I (fun _ _ => False) (fun _ _ => False) (fun _ _ => False) x) (h2 : ∀ ρ S, I ρ S → RS.wp N Q B C (f ρ S)) : RS.wp N Q B C (x.andThen f) :=
  wp_then (wp_mono h1 h2 (fun _ _ h => h.elim) (fun _ _ h => h.elim) (fun _ _ h => h.elim))
/-- a for loop, with what holds behind the items that are done -/
theorem wp_for {g : Grd} {t : Tg} {b : Env → Store → RS} {xs : List D} (I : List D → Env → Store → Prop) {ρ : Env} {S : Store} (h0 : I [] ρ S)
    (hg : ∀ done ρ S, I done ρ S → g.ok S)
    (hs : ∀ done x rest ρ S, xs = done ++ x :: rest → I done ρ S → ∃ ρ1, bindT t [x] ρ = some ρ1 ∧ RS.wp (I (done ++ [x])) Q N (I (done ++ [x])) (b ρ1 S))
    (hN : ∀ ρ S, I xs ρ S → N ρ S) : RS.wp N Q B C (forL g t b xs ρ S) := by
  suffices h : ∀ rest done ρ S, xs = done ++ rest → I done ρ S → RS.wp N Q B C (forL g t b rest ρ S) from h xs [] ρ S rfl h0
  intro rest
  induction rest with
  | nil =>
    intro done ρ S e hI
    rw [List.append_nil] at e
    subst e
    rw [forL, if_pos (hg _ _ _ hI)]
    exact .nx (hN _ _ hI)
  | cons x rest ih =>
    intro done ρ S e hI
    obtain ⟨ρ1, hb, hw⟩ := hs done x rest ρ S e hI
    rw [forL, if_pos (hg _ _ _ hI), hb]
    have e2 : xs = (done ++ [x]) ++ rest := by rw [e, List.append_assoc]; rfl
    show RS.wp N Q B C (match b ρ1 S with | .nx ρ2 S2 => _ | .ct ρ2 S2 => _ | .bk ρ2 S2 => _ | .rt x S2 => _ | .ex x S2 => _ | .bad => _)
    generalize b ρ1 S = r at hw
    cases hw with
    | nx h => exact ih _ _ _ e2 h
    | ct h => exact ih _ _ _ e2 h
    | bk h => exact .nx h
    | rt h => exact .rt h
end
@[simp] theorem rngD_len (a b : Int) : (rngD a b).length = (b - a).toNat := by unfold rngD; simp
theorem rngD_split {a b : Int} {done rest : List D} {x : D} (e : rngD a b = done ++ x :: rest) : x = .int (a + (done.length : Int)) ∧ done.length < (b - a).toNat := by
  have h1 : done.length < (b - a).toNat := by
    have := congrArg List.length e
    rw [rngD_len, List.length_append, List.length_cons] at this; omega
  refine ⟨?_, h1⟩
  have h2 : (rngD a b)[done.length]? = some x := by rw [e, List.getElem?_append_right (Nat.le_refl _), Nat.sub_self]; rfl
  unfold rngD at h2
  rw [List.getElem?_map, List.getElem?_range h1] at h2
  exact (Option.some.inj h2).symm
section
variable {N : Env → Store → Prop} {Q : RV → Store → Prop} {B C : Env → Store → Prop}
/-- .. over the ints from a to below b -/
theorem wp_rng {i : Nat} {b : Env → Store → RS} {lo hi : Int} (n : Nat) (I : Nat → Env → Store → Prop) {ρ : Env} {S : Store} (hn : (hi - lo).toNat = n) (h0 : I 0 ρ S)
    (hs : ∀ k ρ S, k < n → I k ρ S → RS.wp (I (k + 1)) Q N (I (k + 1)) (b (ρ.set i (some (.int (lo + (k : Int))))) S))
    (hN : ∀ ρ S, I n ρ S → N ρ S) : RS.wp N Q B C (forL .no (.var i .nil) b (rngD lo hi) ρ S) := by
  refine wp_for (fun done ρ S => I done.length ρ S) h0 (fun _ _ _ _ => trivial) (fun done x rest ρ S e hI => ?_) (fun ρ S h => hN ρ S ?_)
  · obtain ⟨rfl, h1⟩ := rngD_split e
    refine ⟨_, rfl, ?_⟩
    have := hs done.length ρ S (hn ▸ h1) hI
    simpa using this
  · rwa [rngD_len, hn] at h
/-- .. over what is known to be a map -/
theorem wp_map {α : Type} {f : α → D} {g : Grd} {i : Nat} {b : Env → Store → RS} {xs : List α} (I : List α → Env → Store → Prop) {ρ : Env} {S : Store} (h0 : I [] ρ S)
    (hg : ∀ done ρ S, I done ρ S → g.ok S)
    (hs : ∀ done x rest ρ S, xs = done ++ x :: rest → I done ρ S → RS.wp (I (done ++ [x])) Q N (I (done ++ [x])) (b (ρ.set i (some (f x))) S))
    (hN : ∀ ρ S, I xs ρ S → N ρ S) : RS.wp N Q B C (forL g (.var i .nil) b (xs.map f) ρ S) := by
  refine wp_for (fun done ρ S => ∃ ys, done = ys.map f ∧ (∃ zs, xs = ys ++ zs) ∧ I ys ρ S) ⟨[], rfl, ⟨xs, rfl⟩, h0⟩ (fun _ _ _ ⟨_, _, _, h⟩ => hg _ _ _ h) (fun done x rest ρ S e ⟨ys, ed, ⟨zs, ez⟩, hI⟩ => ?_) (fun ρ S ⟨ys, e, ⟨zs, ez⟩, h⟩ => hN ρ S ?_)
  · subst ed ez
    rw [List.map_append] at e
    have e2 := List.append_cancel_left e
    cases zs with
    | nil => cases e2
    | cons z zs =>
      rw [List.map_cons] at e2
      obtain ⟨rfl, rfl⟩ := List.cons.inj e2
      refine ⟨_, rfl, wp_mono (hs ys z zs ρ S rfl hI) (fun ρ S h => ⟨ys ++ [z], by simp, ⟨zs, by simp⟩, h⟩) (fun _ _ h => h) (fun _ _ h => h) (fun ρ S h => ⟨ys ++ [z], by simp, ⟨zs, by simp⟩, h⟩)⟩
  · subst ez
    rw [List.map_append] at e
    have : zs.map f = [] := List.append_cancel_left (by rw [List.append_nil]; exact e)
    have : zs = [] := by simpa using this
    subst this
    simpa using h
end
/-! ### comprehensions -/
def R.wp {α : Type} (N : α → Store → Prop) (x : R α) : Prop := match x with
  | .ok a S => N a S
  | _ => False
theorem R.wp_ok {α : Type} {N : α → Store → Prop} {x : R α} (h : R.wp N x) : ∃ a S, x = .ok a S ∧ N a S := by
  cases x with
  | ok a S => exact ⟨a, S, rfl, h⟩
  | exc => exact h.elim
  | bad => exact h.elim
/-- a list comprehension with no tests over a range -/
theorem comp_rng {cf : CF} {i : Nat} {e : Ex} {ρ : Env} {lo hi : Int} (n : Nat) (I : Nat → List D → Store → Prop) {S : Store} (hn : (hi - lo).toNat = n) (h0 : I 0 [] S)
    (hs : ∀ k acc S, k < n → I k acc S → ∃ d S', matB (ev cf e (ρ.set i (some (.int (lo + (k : Int))))) S) = .ok d S' ∧ I (k + 1) (acc ++ [d]) S') :
    ∃ ys S', compL .no (.var i .nil) ρ (tst cf .nil) (lcB cf e) (rngD lo hi) S [] = .ok ys S' ∧ I n ys S' := by
  suffices h : ∀ rest done acc S, rngD lo hi = done ++ rest → I done.length acc S → ∃ ys S', compL .no (.var i .nil) ρ (tst cf .nil) (lcB cf e) rest S acc = .ok ys S' ∧ I n ys S' from h _ [] [] S rfl h0
  intro rest
  induction rest with
  | nil =>
    intro done acc S e hI
    have : done.length = n := by have := congrArg List.length e; rw [rngD_len, List.append_nil] at this; omega
    rw [this] at hI
    exact ⟨acc, S, by rw [compL, if_pos (show Grd.no.ok S from trivial)], hI⟩
  | cons x rest ih =>
    intro done acc S e hI
    obtain ⟨rfl, h1⟩ := rngD_split e
    obtain ⟨d, S', he, hI'⟩ := hs done.length acc S (hn ▸ h1) hI
    obtain ⟨ys, S2, h2, h3⟩ := ih (done ++ [.int (lo + (done.length : Int))]) (acc ++ [d]) S' (by rw [e, List.append_assoc]; rfl) (by simpa using hI')
    refine ⟨ys, S2, ?_, h3⟩
    rw [compL, if_pos (show Grd.no.ok S from trivial)]
    show (R.bind (tst cf .nil (ρ.set i (some (.int (lo + (done.length : Int))))) S) _) = _
    rw [tst_nil, R.bind_ok, if_pos rfl, lcB, he]
    exact h2
/-! ### calls -/
@[simp] theorem rvLo_b (n : Nat) (b : Bool) : rvLo n (.d (.bl b)) = true := nr rfl
theorem leave_app {S E : Store} {x y : RV} (h : out S.length x (S ++ E) = y) (hl : rvLo S.length y = true) : leave S x (S ++ E) = .ok y S := by
  unfold leave
  rw [h, if_pos ⟨⟨by rw [List.length_append]; exact Nat.le_add_right _ _, fun i hi => Or.inl (List.getElem?_append_left hi)⟩, hl⟩, List.take_left]
theorem leave_len {S S' : Store} {x y : RV} (hl : S'.length = S.length) (ho : ∀ i < S.length, S'[i]? = S[i]? ∨ ∃ c, S'[i]? = some c ∧ c.lo S.length = true) (h : out S.length x S' = y) (hy : rvLo S.length y = true) : leave S x S' = .ok y S' := by
  unfold leave
  rw [h, if_pos ⟨⟨by rw [hl]; exact Nat.le_refl _, ho⟩, hy⟩, ← hl, List.take_length]
theorem call_eq {T : List (Str × Fn)} {k p n : Nat} {f : Str} {b : Sts} {ds : List D} {S : Store} (hT : T.lookup f = some ⟨p, n, b⟩) (hl : ds.length = p) :
    callF T (k + 1) f ds S = fin S (exs (callF T k) b (ds.map some ++ List.replicate (n - p) none) S) := by
  rw [callF, hT]
  show (if ds.length = p then _ else _) = _
  rw [if_pos hl]
/-- a def that gives a value and leaves the store -/
theorem fin_val {S : Store} {r : RS} {v : D} (h : RS.wp (fun _ S' => v = .non ∧ ∃ E, S' = S ++ E) (fun x S' => x = .d v ∧ ∃ E, S' = S ++ E) (fun _ _ => False) (fun _ _ => False) r) (hv : v.lo S.length = true) : fin S r = .ok (.d v) S := by
  have ho : ∀ E : Store, out S.length (.d v) (S ++ E) = .d v := fun E => by
    cases v with
    | ref r => exact if_pos (by simpa [D.lo] using hv)
    | _ => rfl
  cases h with
  | nx h => obtain ⟨rfl, E, rfl⟩ := h; exact leave_app (ho E) hv
  | rt h => obtain ⟨rfl, E, rfl⟩ := h; exact leave_app (ho E) hv
  | bk h => exact h.elim
  | ct h => exact h.elim
/-- .. that gives a new list -/
theorem fin_new {S : Store} {r : RS} {xs : List D} (h : RS.wp (fun _ _ => False) (fun x S' => (x = .o (.lst xs) ∧ ∃ E, S' = S ++ E) ∨ ∃ i E, x = .d (.ref (S.length + i)) ∧ S' = S ++ E ∧ E[i]? = some (.lst xs)) (fun _ _ => False) (fun _ _ => False) r) (hv : los S.length xs = true) : fin S r = .ok (.o (.lst xs)) S := by
  cases h with
  | nx h => exact h.elim
  | rt h =>
    rcases h with ⟨rfl, E, rfl⟩ | ⟨i, E, rfl, rfl, he⟩
    · exact leave_app rfl hv
    · refine leave_app ?_ hv
      unfold out
      simp only []
      rw [if_neg (by omega), st_getA, he]
  | bk h => exact h.elim
  | ct h => exact h.elim
theorem los_ints (n : Nat) (is : List Int) : los n (is.map D.int) = true := by
  induction is with
  | nil => rfl
  | cons i r ih => exact ih
end CH
/-! PC: the defs that all laws share. -/
namespace CH
open PySem PySem.Spec PyProof.Rows L2
def bBox : Sts := (.cons (.ret (.lst (.cons (.call ("_law_digits" : PySem.Str) (.cons (.var 0) (.cons (.var 1) (.cons (.var 2) .nil)))) (.cons (.con (.int 0)) .nil))))
  .nil)
def bDigits : Sts := (.cons (.set (.var 3) (.lst .nil))
  (.cons (.for (.var 4 .nil) (.rng (.var 1) (.var 2)) (.cons (.set (.var 5) (.call ("_law_cell" : PySem.Str) (.cons (.var 0) (.cons (.var 4) .nil))))
  (.cons (.ite (.ex (.cmp .lt (.var 5) (.con (.int 0)))) (.cons (.set (.var 5) (.bin .sub (.con (.int 1)) (.bin .mul (.con (.int 2)) (.var 5))))
  .nil) .nil)
  (.cons (.ite (.ex (.cmp .ge (.var 5) (.bin .pow (.con (.int 10)) (.con (.int 18))))) (.cons (.for (.var 6 .nil) (.rng (.con (.int 0)) (.con (.int 60))) (.cons (.ite (.ex (.cmp .gt (.var 5) (.con (.int 0)))) (.cons (.ex (.m1 .append (.var 3) (.bin .mod (.b1 .int (.var 5)) (.con (.int 1000)))))
  (.cons (.set (.var 5) (.bin .fdiv (.var 5) (.con (.int 1000))))
  .nil)) .nil)
  .nil))
  .nil) (.cons (.set (.var 7) (.bin .mod (.b1 .int (.bin .add (.bin .add (.bin .mul (.var 5) (.con (.int 48271))) (.bin .mul (.var 4) (.con (.int 69621)))) (.con (.int 11)))) (.con (.int 2147483647))))
  (.cons (.for (.var 6 .nil) (.rng (.con (.int 0)) (.con (.int 12))) (.cons (.set (.var 7) (.bin .mod (.b1 .int (.bin .add (.bin .add (.bin .mul (.var 7) (.con (.int 16807))) (.bin .mul (.con (.int 7)) (.var 6))) (.con (.int 1)))) (.con (.int 2147483647))))
  (.cons (.ex (.m1 .append (.var 3) (.bin .mod (.b1 .int (.bin .fdiv (.var 7) (.con (.int 997)))) (.con (.int 1000)))))
  .nil)))
  .nil)))
  .nil))))
  (.cons (.ret (.var 3))
  .nil)))
def bCell : Sts := (.cons (.ite (.ex (.cmp .lt (.var 1) (.b1 .len (.var 0)))) (.cons (.ret (.idx (.var 0) (.var 1)))
  .nil) .nil)
  (.cons (.ret (.con (.int 0)))
  .nil))
def bDraw : Sts := (.cons (.set (.var 2) (.idx (.var 0) (.con (.int 1))))
  (.cons (.set (.sub (.var 0) (.con (.int 1))) (.bin .add (.var 2) (.con (.int 1))))
  (.cons (.ite (.ex (.cmp .lt (.var 2) (.b1 .len (.idx (.var 0) (.con (.int 0)))))) (.cons (.ret (.bin .mod (.b1 .int (.idx (.idx (.var 0) (.con (.int 0))) (.var 2))) (.var 1)))
  .nil) .nil)
  (.cons (.ret (.con (.int 0)))
  .nil))))
def bSame : Sts := (.cons (.ite (.ex (.isi (.var 1) .tuple)) (.cons (.ite (.or (.not (.ex (.isi (.var 0) .tuple))) (.ex (.cmp .ne (.b1 .len (.var 0)) (.b1 .len (.var 1))))) (.cons (.ret (.con (.bl false)))
  .nil) .nil)
  (.cons (.for (.var 2 .nil) (.rng (.con (.int 0)) (.b1 .len (.var 1))) (.cons (.ite (.not (.ex (.call ("_law_same" : PySem.Str) (.cons (.idx (.var 0) (.var 2)) (.cons (.idx (.var 1) (.var 2)) .nil))))) (.cons (.ret (.con (.bl false)))
  .nil) .nil)
  .nil))
  (.cons (.ret (.con (.bl true)))
  .nil))) .nil)
  (.cons (.ite (.ex (.cmp .is (.var 1) (.con .non))) (.cons (.ret (.cmp .is (.var 0) (.con .non)))
  .nil) .nil)
  (.cons (.ite (.ex (.isi (.var 1) .bool)) (.cons (.ret (.and (.isi (.var 0) .bool) (.cmp .eq (.var 0) (.var 1))))
  .nil) .nil)
  (.cons (.ite (.ex (.isi (.var 1) .int)) (.cons (.ret (.and (.isi (.var 0) .int) (.and (.not (.isi (.var 0) .bool)) (.cmp .eq (.var 0) (.var 1)))))
  .nil) .nil)
  (.cons (.ret (.and (.isi (.var 0) .str) (.cmp .eq (.var 0) (.var 1))))
  .nil)))))
structure Tok (T : List (Str × Fn)) : Prop where
  box : T.lookup ("_law_box" : Str) = some ⟨3, 3, bBox⟩
  digits : T.lookup ("_law_digits" : Str) = some ⟨3, 8, bDigits⟩
  cell : T.lookup ("_law_cell" : Str) = some ⟨2, 2, bCell⟩
  draw : T.lookup ("_law_draw" : Str) = some ⟨2, 3, bDraw⟩
  same : T.lookup ("_law_same" : Str) = some ⟨2, 3, bSame⟩
variable {T : List (Str × Fn)}
theorem cell_ok (h : Tok T) (k : Nat) (ns : List Int) (i : Nat) (S : Store) : callF T (k + 1) ("_law_cell" : Str) [.lst (ns.map D.int), .int i] S = .ok (.d (.int (ns[i]?.getD 0))) S := by
  rw [call_eq h.cell rfl]
  refine fin_val ?_ rfl
  by_cases hi : i < ns.length
  · have h1 : (i : Int) < (ns.length : Int) := Int.ofNat_lt.mpr hi
    simp [bCell, h1, atI_nat, hi]
  · have h1 : ¬ (i : Int) < (ns.length : Int) := fun q => hi (Int.ofNat_lt.mp q)
    simp [bCell, h1, atI_nat, List.getElem?_eq_none (Nat.le_of_not_lt hi)]
/-- what a draw gives -/
def dv (is : List Int) (n : Nat) (m : Int) : Int := if n < is.length then (is[n]?.getD 0) % m else 0
theorem dv_lo {is : List Int} {n : Nat} {m : Int} (h : 0 < m) : 0 ≤ dv is n m := by
  unfold dv; split
  · exact Int.emod_nonneg _ (by omega)
  · exact Int.le_refl _
theorem dv_hi {is : List Int} {n : Nat} {m : Int} (h : 0 < m) : dv is n m < m := by
  unfold dv; split
  · exact Int.emod_lt_of_pos _ h
  · exact h
theorem draw_ok (h : Tok T) (k : Nat) {S : Store} {r d n : Nat} {is : List Int} {m : Int} (hr : S[r]? = some (.lst [.ref d, .int n])) (hd : S[d]? = some (.lst (is.map D.int))) (hm : 0 < m) :
    callF T (k + 1) ("_law_draw" : Str) [.ref r, .int m] S = .ok (.d (.int (dv is n m))) (S.set r (.lst [.ref d, .int ((n + 1 : Nat) : Int)])) := by
  have hrl : r < S.length := (List.getElem?_eq_some_iff.mp hr).1
  have hdl : d < S.length := (List.getElem?_eq_some_iff.mp hd).1
  have hne : r ≠ d := by
    rintro rfl
    rw [hr] at hd
    injection hd with hd
    injection hd with hd
    cases is with
    | nil => cases hd
    | cons i is => cases hd
  have g1 : (S.set r (.lst [.ref d, .int ((n : Int) + 1)]))[r]? = some (.lst [.ref d, .int ((n : Int) + 1)]) := by simp [hrl]
  have g2 : (S.set r (.lst [.ref d, .int ((n : Int) + 1)]))[d]? = some (.lst (is.map D.int)) := by rw [List.getElem?_set_ne hne]; exact hd
  rw [call_eq h.draw rfl]
  have e : exs (callF T k) bDraw ([.ref r, .int m].map some ++ List.replicate (3 - 2) none) S = .rt (.d (.int (dv is n m))) (S.set r (.lst [.ref d, .int ((n : Int) + 1)])) := by
    have x1 : ixN 2 1 = some 1 := rfl
    by_cases hn : n < is.length
    · have hn1 : (n : Int) < (is.length : Int) := Int.ofNat_lt.mpr hn
      simp [bDraw, hr, x1, g1, g2, hn1, atI_map, atI_nat, hn, dv, hm]
    · have hn1 : ¬ (n : Int) < (is.length : Int) := fun q => hn (Int.ofNat_lt.mp q)
      simp [bDraw, hr, x1, g1, g2, hn1, hn, dv]
  rw [e]
  show leave S _ _ = _
  refine leave_len (by simp) (fun i hi => ?_) rfl rfl
  by_cases q : i = r
  · subst q
    exact .inr ⟨_, g1, by simp [Cell.lo, los, D.lo, hdl]⟩
  · exact .inl (List.getElem?_set_ne fun z => q z.symm)
theorem sl_pos : sizeLine = 16777216 := rfl
def DigPost (S : Store) (n : Nat) (x : RV) (S' : Store) : Prop := ∃ is : List Int, (∀ i ∈ is, 0 ≤ i ∧ i < 1000) ∧ is.length ≤ 60 * n ∧ x = .d (.ref S.length) ∧ S' = S ++ [.lst (is.map D.int)]
def DigI (ns : List Int) (a b : Nat) (S : Store) (m : Nat) (ρ : Env) (S' : Store) : Prop := ∃ (is : List Int) (x4 x5 x6 x7 : Option D), (∀ i ∈ is, 0 ≤ i ∧ i < 1000) ∧ is.length ≤ m ∧ ρ = [some (.lst (ns.map D.int)), some (.int a), some (.int b), some (.ref S.length), x4, x5, x6, x7] ∧ S' = S ++ [.lst (is.map D.int)]
theorem rngOk_of {a b : Int} (h1 : -1000000 ≤ a) (h2 : a ≤ 1000000) (h3 : -1000000 ≤ b) (h4 : b ≤ 1000000) : rngOk a b := ⟨by omega, by omega, by omega, by omega, by omega⟩
theorem mod1000 (c : Int) : 0 ≤ c % 1000 ∧ c % 1000 < 1000 := ⟨Int.emod_nonneg _ (by decide), Int.emod_lt_of_pos _ (by decide)⟩
theorem cmul_l {i j : Int} (h : -1000000 < i) (h2 : i < 1000000) : CMul i j := .inl ⟨by omega, by omega⟩
theorem cmul_r {i j : Int} (h : -1000000 < j) (h2 : j < 1000000) : CMul i j := .inr ⟨by omega, by omega⟩
theorem digits_wp (h : Tok T) (k : Nat) (ns : List Int) (a b : Nat) (hb : b ≤ 1000) (ha : a ≤ 1000) (S : Store) : RS.wp (fun _ _ => False) (DigPost S (b - a)) (fun _ _ => False) (fun _ _ => False)
      (exs (callF T (k + 1)) bDigits [some (.lst (ns.map D.int)), some (.int a), some (.int b), none, none, none, none, none] S) := by
  unfold bDigits
  have r1 : rngOk (a : Int) (b : Int) := rngOk_of (by omega) (by omega) (by omega) (by omega)
  have r2 : rngOk 0 60 := rngOk_of (by omega) (by omega) (by omega) (by omega)
  have r3 : rngOk 0 12 := rngOk_of (by omega) (by omega) (by omega) (by omega)
  have p1 : CPow 10 18 := ⟨by decide, by decide, by decide⟩
  have m1 : ∀ c : Int, CMul 2 c := fun c => cmul_l (by decide) (by decide)
  have m2 : ∀ c : Int, CMul c 48271 := fun c => cmul_r (by decide) (by decide)
  have m3 : ∀ c : Int, CMul c 69621 := fun c => cmul_r (by decide) (by decide)
  have m4 : ∀ c : Int, CMul c 16807 := fun c => cmul_r (by decide) (by decide)
  have m5 : ∀ c : Int, CMul 7 c := fun c => cmul_l (by decide) (by decide)
  have d1 : ∀ c : Int, CDiv c 1000 := fun c => ⟨by decide, by decide⟩
  have d2 : ∀ c : Int, CDiv c 997 := fun c => ⟨by decide, by decide⟩
  simp [r1]
  refine wp_then ?_
  refine wp_rng (b - a) (fun m => DigI ns a b S (60 * m)) (by omega) ⟨[], none, none, none, none, by simp, by simp, rfl, rfl⟩ (fun k1 ρ S1 hk hI => ?_) (fun ρ S1 hI => ?_)
  · obtain ⟨is, x4, x5, x6, x7, h1, h2, rfl, rfl⟩ := hI
    have e1 : (a : Int) + (k1 : Int) = ((a + k1 : Nat) : Int) := by omega
    rw [e1]
    simp [-Int.natCast_add, cell_ok h]
    refine wp_thenI (fun ρ S' => ∃ c : Int, ρ = [some (.lst (ns.map D.int)), some (.int a), some (.int b), some (.ref S.length), some (.int ((a + k1 : Nat) : Int)), some (.int c), x6, x7] ∧ S' = S ++ [.lst (is.map D.int)]) ?_ ?_
    · by_cases hc : ns[a + k1]?.getD 0 < 0
      · simp [hc, m1]
      · simp [hc]
    rintro _ _ ⟨c, rfl, rfl⟩
    simp [-Int.natCast_add, p1]
    by_cases hc : 1000000000000000000 ≤ c
    · simp [-Int.natCast_add, hc, r2]
      refine (wp_rng 60 (fun t ρ S' => ∃ (is : List Int) (c : Int) (x6 x7 : Option D), (∀ i ∈ is, 0 ≤ i ∧ i < 1000) ∧ is.length ≤ 60 * k1 + t ∧ ρ = [some (.lst (ns.map D.int)), some (.int a), some (.int b), some (.ref S.length), some (.int ((a + k1 : Nat) : Int)), some (.int c), x6, x7] ∧ S' = S ++ [.lst (is.map D.int)]) rfl ⟨is, c, x6, x7, h1, h2, rfl, rfl⟩ (fun t ρ S1 ht hI => ?_) (fun ρ S1 hI => ?_))
      · obtain ⟨is, c, x6, x7, h1, h2, rfl, rfl⟩ := hI
        have hl : is.length < 16777216 := by omega
        by_cases hc : 0 < c
        · simp [-Int.natCast_add, hc, d1, sl_pos, hl]
          refine ⟨is ++ [c % 1000], ?_, by simp; omega, by simp⟩
          intro i hi
          rcases List.mem_append.mp hi with hi | hi
          · exact h1 i hi
          · rw [List.mem_singleton.mp hi]; exact mod1000 c
        · simp [-Int.natCast_add, hc]
          exact ⟨is, h1, by omega, rfl⟩
      · obtain ⟨is, c, x6, x7, h1, h2, rfl, rfl⟩ := hI
        simp [-Int.natCast_add, DigI]
        exact ⟨is, h1, by omega, rfl⟩
    · simp [-Int.natCast_add, hc, m2, m3, r3]
      refine (wp_rng 12 (fun t ρ S' => ∃ (is : List Int) (c sd : Int) (x6 : Option D), (∀ i ∈ is, 0 ≤ i ∧ i < 1000) ∧ is.length ≤ 60 * k1 + t ∧ ρ = [some (.lst (ns.map D.int)), some (.int a), some (.int b), some (.ref S.length), some (.int ((a + k1 : Nat) : Int)), some (.int c), x6, some (.int sd)] ∧ S' = S ++ [.lst (is.map D.int)]) rfl ⟨is, c, _, x6, h1, h2, rfl, rfl⟩ (fun t ρ S1 ht hI => ?_) (fun ρ S1 hI => ?_))
      · obtain ⟨is, c, sd, x6, h1, h2, rfl, rfl⟩ := hI
        have hl : is.length < 16777216 := by omega
        simp [-Int.natCast_add, m4, m5, d2, sl_pos, hl]
        refine ⟨is ++ [_], ?_, ?_, (List.map_append (f := D.int) (l₁ := is) (l₂ := [_])).symm⟩
        rotate_left
        · simp; omega
        intro i hi
        rcases List.mem_append.mp hi with hi | hi
        · exact h1 i hi
        · rw [List.mem_singleton.mp hi]; exact mod1000 _
      · obtain ⟨is, c, sd, x6, h1, h2, rfl, rfl⟩ := hI
        simp [-Int.natCast_add, DigI]
        exact ⟨is, h1, by omega, rfl⟩
  · obtain ⟨is, x4, x5, x6, x7, h1, h2, rfl, rfl⟩ := hI
    simp [DigPost]
    exact ⟨is, h1, h2, rfl⟩
theorem digits_ok (h : Tok T) (k : Nat) (ns : List Int) (a b : Nat) (hb : b ≤ 1000) (ha : a ≤ 1000) (S : Store) : ∃ is : List Int, (∀ i ∈ is, 0 ≤ i ∧ i < 1000) ∧ is.length ≤ 60 * (b - a) ∧
    callF T (k + 2) ("_law_digits" : Str) [.lst (ns.map D.int), .int a, .int b] S = .ok (.o (.lst (is.map D.int))) S := by
  rw [call_eq h.digits rfl]
  have hw := digits_wp h k ns a b hb ha S
  show ∃ is : List Int, _ ∧ _ ∧ fin S (exs (callF T (k + 1)) bDigits [some (.lst (ns.map D.int)), some (.int a), some (.int b), none, none, none, none, none] S) = _
  generalize exs (callF T (k + 1)) bDigits [some (.lst (ns.map D.int)), some (.int a), some (.int b), none, none, none, none, none] S = x at hw
  cases hw with
  | nx h => exact h.elim
  | bk h => exact h.elim
  | ct h => exact h.elim
  | rt h =>
    obtain ⟨is, h1, h2, rfl, rfl⟩ := h
    exact ⟨is, h1, h2, fin_new (.rt (.inr ⟨0, _, rfl, rfl, rfl⟩)) (los_ints _ _)⟩
/-- the law's box: its digits lie first, itself second -/
theorem box_ok (h : Tok T) (k : Nat) (ns : List Int) : ∃ is : List Int, (∀ i ∈ is, 0 ≤ i ∧ i < 1000) ∧ is.length ≤ 3780 ∧
    matB (callF T (k + 3) ("_law_box" : Str) [.lst (ns.map D.int), .int 0, .int 63] []) = .ok (.ref 1) [.lst (is.map D.int), .lst [.ref 0, .int 0]] := by
  obtain ⟨is, h1, h2, h3⟩ := digits_ok h k ns 0 63 (by decide) (by decide) []
  refine ⟨is, h1, by omega, ?_⟩
  rw [call_eq h.box rfl]
  have e : exs (callF T (k + 2)) bBox ([D.lst (ns.map D.int), .int 0, .int 63].map some ++ List.replicate (3 - 3) none) [] = .rt (.o (.lst [.ref 0, .int 0])) [.lst (is.map D.int)] := by
    have h3' : callF T (k + 2) ("_law_digits" : Str) [.lst (ns.map D.int), .int 0, .int 63] [] = .ok (.o (.lst (is.map D.int))) [] := h3
    simp [bBox, h3']
  rw [e]
  show matB (leave _ _ _) = _
  unfold leave
  rw [if_neg]
  · rfl
  · rintro ⟨_, q⟩
    exact absurd q (by simp [out, rvLo, Cell.lo, los, D.lo])
/-- values that _law_same walks through, so deep at most -/
inductive Tree : Nat → D → Prop where
  | non {n : Nat} : Tree n .non
  | bl {n : Nat} (b : Bool) : Tree n (.bl b)
  | int {n : Nat} (i : Int) : Tree n (.int i)
  | str {n : Nat} (z : Str) : Tree n (.str z)
  | tup {n : Nat} {xs : List D} (hl : xs.length ≤ 1000000) (h : ∀ x ∈ xs, Tree n x) : Tree (n + 1) (.tup xs)
theorem Tree.ints {n : Nat} {is : List Int} (h : is.length ≤ 1000000) : Tree (n + 1) (.tup (is.map D.int)) := .tup (by simpa using h) fun x hx => by
  obtain ⟨i, _, rfl⟩ := List.mem_map.mp hx; exact .int i
theorem cmp_eq_b (S : Store) (b : Bool) : cmpR .eq (.d (.bl b)) (.d (.bl b)) S = some true := by cases b <;> rfl
theorem cmp_eq_s (S : Store) (z : Str) : cmpR .eq (.d (.str z)) (.d (.str z)) S = some true := by
  show (if eqOk (.str z) (.str z) then some (D.eqv (.str z) (.str z)) else none) = _
  have : D.eqv (.str z) (.str z) = true := by show PyData.eqv (.str z) (.str z) = true; rw [PyData.eqv]; simp
  rw [this]; rfl
theorem same_ok (h : Tok T) {n : Nat} {v : D} (t : Tree n v) : ∀ (k : Nat) (S : Store), callF T (n + k + 1) ("_law_same" : Str) [v, v] S = .ok (.d (.bl true)) S := by
  induction t with
  | non => intro k S; rw [call_eq h.same rfl]; exact fin_val (by simp [bSame]) rfl
  | bl b => intro k S; rw [call_eq h.same rfl]; exact fin_val (by simp [bSame, cmp_eq_b]) rfl
  | int i => intro k S; rw [call_eq h.same rfl]; exact fin_val (by simp [bSame]) rfl
  | str z => intro k S; rw [call_eq h.same rfl]; exact fin_val (by simp [bSame, cmp_eq_s]) rfl
  | @tup n xs hl h1 ih =>
    intro k S
    rw [call_eq h.same rfl]
    refine fin_val ?_ rfl
    have r1 : rngOk 0 (xs.length : Int) := rngOk_of (by omega) (by omega) (by omega) (by omega)
    simp [bSame, r1]
    refine wp_then (wp_then ?_)
    refine wp_rng xs.length (fun m ρ S' => ∃ x2, ρ = [some (.tup xs), some (.tup xs), x2] ∧ S' = S) (by omega) ⟨none, rfl, rfl⟩ (fun m ρ S1 hm hI => ?_) (fun ρ S1 hI => ?_)
    · obtain ⟨x2, rfl, rfl⟩ := hI
      have e : n + 1 + k = n + k + 1 := by omega
      have hx := ih xs[m] (List.getElem_mem hm) k S1
      rw [← e] at hx
      simp [atI_nat, hm, hx]
    · obtain ⟨x2, rfl, rfl⟩ := hI
      simp
end CH
/-! PD: generators, step by step. -/
namespace CH
open PySem PySem.Spec PyProof.Rows L2
theorem allO_map {α : Type} (ys : List α) : allO (ys.map some) = some ys := by
  induction ys with
  | nil => rfl
  | cons y ys ih => show (allO (ys.map some)).map (y :: ·) = _; rw [ih]; rfl
theorem gen_tuple (ys : List D) (S : Store) (h : ys.length ≤ sizeLine) : genR .tuple (ys.map some) S = .ok (.d (.tup ys)) S := by
  show (match allO (ys.map some) with | none => R.bad | some xs => if xs.length ≤ sizeLine then _ else R.bad) = _
  rw [allO_map]
  exact if_pos h
theorem flat_some {α β : Type} (f : α → List (Option β)) (g : α → List β) (xs : List α) (h : ∀ x ∈ xs, f x = (g x).map some) : xs.flatMap f = (xs.flatMap g).map some := by
  induction xs with
  | nil => rfl
  | cons x xs ih =>
    rw [List.flatMap_cons, List.flatMap_cons, List.map_append, h x List.mem_cons_self, ih fun y hy => h y (List.mem_cons_of_mem _ hy)]
section
variable (cf : CF) (ρ : Env) (S : Store)
theorem turnG_t {ρ1 : Env} {t : Env → Option Bool} {f : Env → List (Option D)} (h : t ρ1 = some true) : turnG (some ρ1) t f = f ρ1 := by
  unfold turnG; simp only [h]
theorem turnG_f {ρ1 : Env} {t : Env → Option Bool} {f : Env → List (Option D)} (h : t ρ1 = some false) : turnG (some ρ1) t f = [] := by
  unfold turnG; simp only [h]
@[simp] theorem pureB_ok (b : Bool) : pureB (.ok b S) S = some b := by unfold pureB; simp
@[simp] theorem pureV_ok (v : D) : pureV (.ok (.d v) S) S = some v := by unfold pureV; simp
@[simp] theorem pureI_ok (xs : List D) : pureI (.ok (xs, .no) S) S = some xs := by unfold pureI; simp [Grd.ok]
@[simp] theorem strm_elt (e : Ex) : strm cf (.elt e) ρ S = [pureV (ev cf e ρ S) S] := by rw [strm]
/-- what the walked items come to -/
noncomputable def strK (cf : CF) (t : Tg) (ifs : Txs) (g : Gs) (ρ : Env) (S : Store) (o : Option (List D)) : List (Option D) := match o with
    | some xs => xs.flatMap fun x => turnG (bindT t [x] ρ) (fun ρ => pureB (tst cf ifs ρ S) S) (fun ρ => strm cf g ρ S)
    | none => [none]
@[simp] theorem strm_cons (t : Tg) (it : Ix) (ifs : Txs) (g : Gs) : strm cf (.cons t it ifs g) ρ S = strK cf t ifs g ρ S (pureI (evI cf it ρ S) S) := by
  rw [strm]; rfl
theorem strK_s (t : Tg) (ifs : Txs) (g : Gs) (xs : List D) : strK cf t ifs g ρ S (some xs) = xs.flatMap (genT cf [] t ifs g ρ S) := rfl
end
theorem range_split {n x : Nat} {done rest : List Nat} (e : List.range n = done ++ x :: rest) : x = done.length ∧ done.length < n := by
  have h1 : done.length < n := by
    have := congrArg List.length e
    rw [List.length_range, List.length_append, List.length_cons] at this; omega
  have h2 : (List.range n)[done.length]? = some x := by rw [e, List.getElem?_append_right (Nat.le_refl _), Nat.sub_self]; rfl
  rw [List.getElem?_range h1] at h2
  exact ⟨(Option.some.inj h2).symm, h1⟩
/-- a loop over a map of 0, 1, .. -/
theorem wp_rangeN {N : Env → Store → Prop} {Q : RV → Store → Prop} {B C : Env → Store → Prop} {f : Nat → D} {i : Nat} {b : Env → Store → RS} (n : Nat) (I : Nat → Env → Store → Prop) {ρ : Env} {S : Store} (h0 : I 0 ρ S)
    (hs : ∀ k ρ S, k < n → I k ρ S → RS.wp (I (k + 1)) Q N (I (k + 1)) (b (ρ.set i (some (f k))) S))
    (hN : ∀ ρ S, I n ρ S → N ρ S) : RS.wp N Q B C (forL .no (.var i .nil) b ((List.range n).map f) ρ S) := by
  refine wp_map (fun done ρ S => I done.length ρ S) h0 (fun _ _ _ _ => trivial) (fun done x rest ρ S e hI => ?_) (fun ρ S h => hN ρ S ?_)
  · obtain ⟨rfl, h1⟩ := range_split e
    have := hs done.length ρ S h1 hI
    simpa using this
  · rwa [List.length_range] at h
theorem cut_nat {α : Type} (xs : List α) (a b : Nat) : cutD xs (some (a : Int)) (some (b : Int)) = (xs.drop a).take (b - a) := by
  unfold cutD
  rw [HT.sIx_nat, HT.sIx_nat]
  by_cases h : a ≤ xs.length
  · rw [Nat.min_eq_left h]
    by_cases h2 : b ≤ xs.length
    · rw [Nat.min_eq_left h2]
    · rw [Nat.min_eq_right (by omega), List.take_of_length_le (by simp), List.take_of_length_le (by simp; omega)]
  · have e : min a xs.length = xs.length := Nat.min_eq_right (by omega)
    rw [e, List.drop_eq_nil_of_le (Nat.le_refl _), List.drop_eq_nil_of_le (by omega)]; simp
theorem cut_to {α : Type} (xs : List α) (b : Nat) : cutD xs none (some (b : Int)) = xs.take b := by
  unfold cutD
  rw [HT.sIx_nat, HT.sIx_none]
  simp [List.take_eq_take_min]
end CH
/-! PE: the store of a law: its digits, its box, what else. -/
namespace CH
open PySem PySem.Spec PyProof.Rows L2
def bx (is : List Int) (n : Nat) (E : Store) : Store := .lst (is.map D.int) :: .lst [.ref 0, .int n] :: E
@[simp] theorem bx_len (is : List Int) (n : Nat) (E : Store) : (bx is n E).length = E.length + 2 := nr rfl
@[simp] theorem bx_app (is : List Int) (n : Nat) (E F : Store) : bx is n E ++ F = bx is n (E ++ F) := nr rfl
@[simp high] theorem bx_get (is : List Int) (n : Nat) (E : Store) (k : Nat) : (bx is n E)[k + 2]? = E[k]? := nr rfl
@[simp high] theorem bx_set (is : List Int) (n : Nat) (E : Store) (k : Nat) (c : Cell) : (bx is n E).set (k + 2) c = bx is n (E.set k c) := nr rfl
@[simp high] theorem bx_g2 (is : List Int) (n : Nat) (E : Store) : (bx is n E)[2]? = E[0]? := nr rfl
@[simp high] theorem bx_g3 (is : List Int) (n : Nat) (E : Store) : (bx is n E)[3]? = E[1]? := nr rfl
@[simp high] theorem bx_g4 (is : List Int) (n : Nat) (E : Store) : (bx is n E)[4]? = E[2]? := nr rfl
@[simp high] theorem bx_g5 (is : List Int) (n : Nat) (E : Store) : (bx is n E)[5]? = E[3]? := nr rfl
@[simp high] theorem bx_g6 (is : List Int) (n : Nat) (E : Store) : (bx is n E)[6]? = E[4]? := nr rfl
@[simp high] theorem bx_s2 (is : List Int) (n : Nat) (E : Store) (c : Cell) : (bx is n E).set 2 c = bx is n (E.set 0 c) := nr rfl
@[simp high] theorem bx_s3 (is : List Int) (n : Nat) (E : Store) (c : Cell) : (bx is n E).set 3 c = bx is n (E.set 1 c) := nr rfl
@[simp high] theorem bx_s4 (is : List Int) (n : Nat) (E : Store) (c : Cell) : (bx is n E).set 4 c = bx is n (E.set 2 c) := nr rfl
@[simp high] theorem bx_s5 (is : List Int) (n : Nat) (E : Store) (c : Cell) : (bx is n E).set 5 c = bx is n (E.set 3 c) := nr rfl
@[simp high] theorem bx_s6 (is : List Int) (n : Nat) (E : Store) (c : Cell) : (bx is n E).set 6 c = bx is n (E.set 4 c) := nr rfl
theorem bx_mk (is : List Int) : [.lst (is.map D.int), .lst [.ref 0, .int 0]] = bx is 0 [] := rfl
variable {T : List (Str × Fn)}
theorem draw_bx (h : Tok T) (k : Nat) (is : List Int) (n : Nat) (E : Store) (m : Int) (hm : 0 < m) :
    callF T (k + 1) ("_law_draw" : Str) [.ref 1, .int m] (bx is n E) = .ok (.d (.int (dv is n m))) (bx is (n + 1) E) :=
  draw_ok h k (r := 1) (d := 0) rfl rfl hm
end CH
/-! PF: comprehensions, members, texts, while; defs that draw. -/
namespace CH
open PySem PySem.Spec PyProof.Rows L2
/-! ### comprehensions -/
section
variable {cf : CF} {e : Ex} {t : Tg} {ρ : Env} {ifs : Txs} {g : Grd}
/-- with what holds behind the items that are done -/
theorem comp_inv {xs : List D} (I : List D → List D → Store → Prop) {S : Store} (h0 : I [] [] S)
    (hg : ∀ done acc S, I done acc S → g.ok S)
    (hs : ∀ done x rest acc S, xs = done ++ x :: rest → I done acc S → ∃ ρ1 b S1, bindT t [x] ρ = some ρ1 ∧ tst cf ifs ρ1 S = .ok b S1 ∧
      ((b = false ∧ I (done ++ [x]) acc S1) ∨ (b = true ∧ ∃ d S2, matB (ev cf e ρ1 S1) = .ok d S2 ∧ I (done ++ [x]) (acc ++ [d]) S2))) :
    ∃ ys S', compL g t ρ (tst cf ifs) (lcB cf e) xs S [] = .ok ys S' ∧ I xs ys S' := by
  suffices h : ∀ rest done acc S, xs = done ++ rest → I done acc S → ∃ ys S', compL g t ρ (tst cf ifs) (lcB cf e) rest S acc = .ok ys S' ∧ I xs ys S' from h _ [] [] S rfl h0
  intro rest
  induction rest with
  | nil =>
    intro done acc S e1 hI
    rw [List.append_nil] at e1
    subst e1
    exact ⟨acc, S, by rw [compL, if_pos (hg _ _ _ hI)], hI⟩
  | cons x rest ih =>
    intro done acc S e1 hI
    obtain ⟨ρ1, b, S1, h1, h2, h3⟩ := hs done x rest acc S e1 hI
    have e2 : xs = (done ++ [x]) ++ rest := by rw [e1, List.append_assoc]; rfl
    rcases h3 with ⟨rfl, h3⟩ | ⟨rfl, d, S2, h4, h3⟩
    · obtain ⟨ys, S', h5, h6⟩ := ih _ _ _ e2 h3
      refine ⟨ys, S', ?_, h6⟩
      rw [compL, if_pos (hg _ _ _ hI), h1]
      show (R.bind (tst cf ifs ρ1 S) _) = _
      rw [h2, R.bind_ok, if_neg (by decide)]
      exact h5
    · obtain ⟨ys, S', h5, h6⟩ := ih _ _ _ e2 h3
      refine ⟨ys, S', ?_, h6⟩
      rw [compL, if_pos (hg _ _ _ hI), h1]
      show (R.bind (tst cf ifs ρ1 S) _) = _
      rw [h2, R.bind_ok, if_pos rfl, lcB, h4]
      exact h5
theorem comp_nil {α : Type} {f : Env → Store → α → R α} {S : Store} {acc : α} (hg : g.ok S) : compL g t ρ (tst cf ifs) f [] S acc = .ok acc S := by rw [compL, if_pos hg]
theorem comp_t {α : Type} {f : Env → Store → α → R α} {S S1 S2 : Store} {acc acc2 : α} {x : D} {xs : List D} {ρ1 : Env} (hg : g.ok S) (hb : bindT t [x] ρ = some ρ1) (ht : tst cf ifs ρ1 S = .ok true S1) (hf : f ρ1 S1 acc = .ok acc2 S2) :
    compL g t ρ (tst cf ifs) f (x :: xs) S acc = compL g t ρ (tst cf ifs) f xs S2 acc2 := by
  rw [compL, if_pos hg, hb]
  show (R.bind (tst cf ifs ρ1 S) _) = _
  rw [ht, R.bind_ok, if_pos rfl, hf, R.bind_ok]
theorem comp_f {α : Type} {f : Env → Store → α → R α} {S S1 : Store} {acc : α} {x : D} {xs : List D} {ρ1 : Env} (hg : g.ok S) (hb : bindT t [x] ρ = some ρ1) (ht : tst cf ifs ρ1 S = .ok false S1) :
    compL g t ρ (tst cf ifs) f (x :: xs) S acc = compL g t ρ (tst cf ifs) f xs S1 acc := by
  rw [compL, if_pos hg, hb]
  show (R.bind (tst cf ifs ρ1 S) _) = _
  rw [ht, R.bind_ok, if_neg (by decide)]
/-- one that leaves the store -/
theorem lc_pure {α : Type} {vs : List Nat} {it : Ix} {S : Store} (xs : List α) (inj : α → D) (p : α → Bool) (f : α → D) (hi : evI cf it ρ S = .ok (xs.map inj, g) S) (hg : g.ok S)
    (h : ∀ x ∈ xs, ∃ ρ1, bindT t [inj x] (wipeD ρ vs) = some ρ1 ∧ tst cf ifs ρ1 S = .ok (p x) S ∧ (p x = true → matB (ev cf e ρ1 S) = .ok (f x) S)) :
    lcC cf vs e t it ifs ρ S = .ok (.o (.lst ((xs.filter p).map f))) S := by
  have q : ∀ (xs : List α) acc, (∀ x ∈ xs, ∃ ρ1, bindT t [inj x] (wipeD ρ vs) = some ρ1 ∧ tst cf ifs ρ1 S = .ok (p x) S ∧ (p x = true → matB (ev cf e ρ1 S) = .ok (f x) S)) →
      compL g t (wipeD ρ vs) (tst cf ifs) (lcB cf e) (xs.map inj) S acc = .ok (acc ++ (xs.filter p).map f) S := by
    intro xs
    induction xs with
    | nil => intro acc _; rw [List.map_nil, compL, if_pos hg]; simp
    | cons x xs ih =>
      intro acc h
      obtain ⟨ρ1, h1, h2, h3⟩ := h x List.mem_cons_self
      rw [List.map_cons, compL, if_pos hg, h1]
      show (R.bind (tst cf ifs ρ1 S) _) = _
      rw [h2, R.bind_ok]
      cases hp : p x with
      | false =>
        rw [if_neg (by decide), ih _ fun y hy => h y (List.mem_cons_of_mem _ hy), List.filter_cons_of_neg (by rw [hp]; decide)]
      | true =>
        rw [if_pos rfl, lcB, h3 hp]
        show (compL g t (wipeD ρ vs) (tst cf ifs) (lcB cf e) (xs.map inj) S (acc ++ [f x])) = _
        rw [ih _ fun y hy => h y (List.mem_cons_of_mem _ hy), List.filter_cons_of_pos hp]
        simp
  unfold lcC
  rw [hi]
  show ((compL g t (wipeD ρ vs) (tst cf ifs) (lcB cf e) (xs.map inj) S []).noex.bind lstK) = _
  rw [q xs [] h]
  rfl
theorem lc_map {α : Type} {vs : List Nat} {it : Ix} {S : Store} (xs : List α) (inj : α → D) (f : α → D) (hi : evI cf it ρ S = .ok (xs.map inj, g) S) (hg : g.ok S)
    (h : ∀ x ∈ xs, ∃ ρ1, bindT t [inj x] (wipeD ρ vs) = some ρ1 ∧ tst cf ifs ρ1 S = .ok true S ∧ matB (ev cf e ρ1 S) = .ok (f x) S) :
    lcC cf vs e t it ifs ρ S = .ok (.o (.lst (xs.map f))) S := by
  rw [lc_pure xs inj (fun _ => true) f hi hg fun x hx => let ⟨ρ1, h1, h2, h3⟩ := h x hx; ⟨ρ1, h1, h2, fun _ => h3⟩, List.filter_eq_self.mpr fun _ _ => rfl]
/-- a dict's -/
theorem dc_pure {α : Type} {k v : Ex} {vs : List Nat} {it : Ix} {S : Store} (xs : List α) (inj : α → D) (fk : α → Key) (f : α → D) (hi : evI cf it ρ S = .ok (xs.map inj, g) S) (hg : g.ok S)
    (h : ∀ x ∈ xs, ∃ ρ1, bindT t [inj x] (wipeD ρ vs) = some ρ1 ∧ tst cf ifs ρ1 S = .ok true S ∧ matB (ev cf k ρ1 S) = .ok (keyD (fk x)) S ∧ matB (ev cf v ρ1 S) = .ok (f x) S) :
    dcC cf vs k v t it ifs ρ S = .ok (.o (.dic (xs.foldl (fun acc x => aput acc (fk x) (f x)) []))) S := by
  have q : ∀ (xs : List α) acc, (∀ x ∈ xs, ∃ ρ1, bindT t [inj x] (wipeD ρ vs) = some ρ1 ∧ tst cf ifs ρ1 S = .ok true S ∧ matB (ev cf k ρ1 S) = .ok (keyD (fk x)) S ∧ matB (ev cf v ρ1 S) = .ok (f x) S) →
      compL g t (wipeD ρ vs) (tst cf ifs) (dcB cf k v) (xs.map inj) S acc = .ok (xs.foldl (fun acc x => aput acc (fk x) (f x)) acc) S := by
    intro xs
    induction xs with
    | nil => intro acc _; rw [List.map_nil, compL, if_pos hg]; rfl
    | cons x xs ih =>
      intro acc h
      obtain ⟨ρ1, h1, h2, h3, h4⟩ := h x List.mem_cons_self
      have hk : (keyD (fk x)).key = some (fk x) := by cases fk x <;> rfl
      rw [List.map_cons, compL, if_pos hg, h1]
      show (R.bind (tst cf ifs ρ1 S) _) = _
      rw [h2, R.bind_ok, if_pos rfl, dcB, h3, R.bind_ok, h4, R.bind_ok, hk]
      show (compL g t (wipeD ρ vs) (tst cf ifs) (dcB cf k v) (xs.map inj) S (aput acc (fk x) (f x))) = _
      rw [ih _ fun y hy => h y (List.mem_cons_of_mem _ hy)]
      rfl
  unfold dcC
  rw [hi]
  show ((compL g t (wipeD ρ vs) (tst cf ifs) (dcB cf k v) (xs.map inj) S []).noex.bind dicK) = _
  rw [q xs [] h]
  rfl
/-- two clauses; A acc: the store with this behind the new list -/
theorem comp2_pure {α β : Type} {t1 : Tg} {it1 : Ix} {vs1 : List Nat} {ifs1 : Txs} (r : Nat) (A : List D → Store) (hr : ∀ acc, (A acc)[r]? = some (.lst acc)) (hset : ∀ acc acc', (A acc).set r (.lst acc') = A acc')
    (xs : List α) (inj : α → D) (G : α → List β) (inj1 : β → D) (p : β → Bool) (f : β → D) (hg : ∀ acc, g.ok (A acc))
    (h : ∀ x ∈ xs, ∃ ρ1, bindT t [inj x] ρ = some ρ1 ∧ ∀ acc, tst cf ifs ρ1 (A acc) = .ok true (A acc) ∧ (∃ g1 : Grd, evI cf it1 ρ1 (A acc) = .ok ((G x).map inj1, g1) (A acc) ∧ ∀ acc, g1.ok (A acc)) ∧
      ∀ y ∈ G x, ∃ ρ2, bindT t1 [inj1 y] (wipeD ρ1 vs1) = some ρ2 ∧ ∀ acc, tst cf ifs1 ρ2 (A acc) = .ok (p y) (A acc) ∧ (p y = true → matB (ev cf e ρ2 (A acc)) = .ok (f y) (A acc)))
    (hl : (xs.flatMap fun x => (G x).filter p).length ≤ sizeLine) :
    compL g t ρ (tst cf ifs) (lc2I cf e t1 it1 vs1 ifs1 r) (xs.map inj) (A []) () = .ok () (A ((xs.flatMap fun x => (G x).filter p).map f)) := by
  have inner : ∀ (g1 : Grd) (ρ1 : Env) (ys : List β) acc, (∀ acc, g1.ok (A acc)) → (∀ y ∈ ys, ∃ ρ2, bindT t1 [inj1 y] (wipeD ρ1 vs1) = some ρ2 ∧ ∀ acc, tst cf ifs1 ρ2 (A acc) = .ok (p y) (A acc) ∧ (p y = true → matB (ev cf e ρ2 (A acc)) = .ok (f y) (A acc))) →
      acc.length + (ys.filter p).length ≤ sizeLine → compL g1 t1 (wipeD ρ1 vs1) (tst cf ifs1) (lc2B cf e r) (ys.map inj1) (A acc) () = .ok () (A (acc ++ (ys.filter p).map f)) := by
    intro g1 ρ1 ys
    induction ys with
    | nil => intro acc hg1 _ _; rw [List.map_nil, compL, if_pos (hg1 _)]; simp
    | cons y ys ih =>
      intro acc hg1 hy hl
      obtain ⟨ρ2, h1, h2⟩ := hy y List.mem_cons_self
      obtain ⟨h2, h3⟩ := h2 acc
      rw [List.map_cons, compL, if_pos (hg1 _), h1]
      show (R.bind (tst cf ifs1 ρ2 (A acc)) _) = _
      rw [h2, R.bind_ok]
      cases hp : p y with
      | false =>
        rw [List.filter_cons_of_neg (by rw [hp]; decide)] at hl ⊢
        rw [if_neg (by decide), ih _ hg1 (fun z hz => hy z (List.mem_cons_of_mem _ hz)) hl]
      | true =>
        rw [List.filter_cons_of_pos hp] at hl ⊢
        rw [List.length_cons] at hl
        rw [if_pos rfl, lc2B, h3 hp, R.bind_ok, pushR, hr]
        show (R.bind (if acc.length < sizeLine then _ else _) _) = _
        rw [if_pos (by omega), R.bind_ok, hset, ih _ hg1 (fun z hz => hy z (List.mem_cons_of_mem _ hz)) (by rw [List.length_append]; simp; omega)]
        simp
  have q : ∀ (xs : List α) acc, (∀ x ∈ xs, ∃ ρ1, bindT t [inj x] ρ = some ρ1 ∧ ∀ acc, tst cf ifs ρ1 (A acc) = .ok true (A acc) ∧ (∃ g1 : Grd, evI cf it1 ρ1 (A acc) = .ok ((G x).map inj1, g1) (A acc) ∧ ∀ acc, g1.ok (A acc)) ∧
      ∀ y ∈ G x, ∃ ρ2, bindT t1 [inj1 y] (wipeD ρ1 vs1) = some ρ2 ∧ ∀ acc, tst cf ifs1 ρ2 (A acc) = .ok (p y) (A acc) ∧ (p y = true → matB (ev cf e ρ2 (A acc)) = .ok (f y) (A acc))) →
      acc.length + (xs.flatMap fun x => (G x).filter p).length ≤ sizeLine → compL g t ρ (tst cf ifs) (lc2I cf e t1 it1 vs1 ifs1 r) (xs.map inj) (A acc) () = .ok () (A (acc ++ (xs.flatMap fun x => (G x).filter p).map f)) := by
    intro xs
    induction xs with
    | nil => intro acc _ _; rw [List.map_nil, compL, if_pos (hg _)]; simp
    | cons x xs ih =>
      intro acc h hl
      obtain ⟨ρ1, h1, h2⟩ := h x List.mem_cons_self
      obtain ⟨h3, ⟨g1, h4, hg1⟩, h5⟩ := h2 acc
      rw [List.flatMap_cons, List.length_append] at hl
      rw [List.map_cons, compL, if_pos (hg _), h1]
      show (R.bind (tst cf ifs ρ1 (A acc)) _) = _
      rw [h3, R.bind_ok, if_pos rfl, lc2I, h4, R.bind_ok, lc2J]
      show (R.bind (compL g1 t1 (wipeD ρ1 vs1) (tst cf ifs1) (lc2B cf e r) ((G x).map inj1) (A acc) ()) _) = _
      rw [inner g1 ρ1 (G x) acc hg1 h5 (by omega), R.bind_ok, ih _ (fun z hz => h z (List.mem_cons_of_mem _ hz)) (by rw [List.length_append, List.length_map]; omega)]
      simp
  have := q xs [] h (by simpa using hl)
  simpa using this
end
/-- a tuple of a generator of one clause -/
theorem gen_pure {cf : CF} {e : Ex} {t : Tg} {ρ : Env} {ifs : Txs} {g : Grd} {α : Type} {vs : List Nat} {it : Ix} {S : Store} (xs : List α) (inj : α → D) (p : α → Bool) (f : α → D) (hi : evI cf it ρ S = .ok (xs.map inj, g) S) (hg : g.ok S) (hl : xs.length ≤ sizeLine)
    (h : ∀ x ∈ xs, ∃ ρ1, bindT t [inj x] (wipeD ρ vs) = some ρ1 ∧ tst cf ifs ρ1 S = .ok (p x) S ∧ (p x = true → ev cf e ρ1 S = .ok (.d (f x)) S)) :
    genC cf .tuple vs t it ifs (.elt e) ρ S = .ok (.d (.tup ((xs.filter p).map f))) S := by
  unfold genC
  rw [hi, R.bind_ok, if_pos hg]
  have q : (xs.map inj).flatMap (genT cf vs t ifs (.elt e) ρ S) = ((xs.filter p).map f).map some := by
    clear hi hl
    induction xs with
    | nil => rfl
    | cons x xs ih =>
      obtain ⟨ρ1, h1, h2, h3⟩ := h x List.mem_cons_self
      rw [List.map_cons, List.flatMap_cons, ih fun y hy => h y (List.mem_cons_of_mem _ hy), genT, h1]
      cases hp : p x with
      | false =>
        rw [turnG_f (by rw [h2, hp]; simp), List.filter_cons_of_neg (by rw [hp]; decide)]; rfl
      | true =>
        rw [turnG_t (by rw [h2, hp]; simp), strm_elt, h3 hp, pureV_ok, List.filter_cons_of_pos hp]; rfl
  rw [show (xs.map inj, g).1.flatMap (genT cf vs t ifs (.elt e) ρ S) = _ from q]
  exact gen_tuple _ _ (by rw [List.length_map]; exact Nat.le_trans (List.length_filter_le _ _) hl)
theorem gen_map {cf : CF} {e : Ex} {t : Tg} {ρ : Env} {ifs : Txs} {g : Grd} {α : Type} {vs : List Nat} {it : Ix} {S : Store} (xs : List α) (inj : α → D) (f : α → D) (hi : evI cf it ρ S = .ok (xs.map inj, g) S) (hg : g.ok S) (hl : xs.length ≤ sizeLine)
    (h : ∀ x ∈ xs, ∃ ρ1, bindT t [inj x] (wipeD ρ vs) = some ρ1 ∧ tst cf ifs ρ1 S = .ok true S ∧ ev cf e ρ1 S = .ok (.d (f x)) S) :
    genC cf .tuple vs t it ifs (.elt e) ρ S = .ok (.d (.tup (xs.map f))) S := by
  rw [gen_pure xs inj (fun _ => true) f hi hg hl fun x hx => let ⟨ρ1, h1, h2, h3⟩ := h x hx; ⟨ρ1, h1, h2, fun _ => h3⟩, List.filter_eq_self.mpr fun _ _ => rfl]
/-- .. of two -/
theorem gen2_pure {cf : CF} {e : Ex} {t t1 : Tg} {ρ : Env} {ifs ifs1 : Txs} {g : Grd} {α β : Type} {vs : List Nat} {it it1 : Ix} {S : Store} (xs : List α) (inj : α → D) (p : α → Bool) (G : α → List β) (inj1 : β → D) (q : α → β → Bool) (f : α → β → D) (hi : evI cf it ρ S = .ok (xs.map inj, g) S) (hg : g.ok S)
    (h : ∀ x ∈ xs, ∃ ρ1, bindT t [inj x] (wipeD ρ vs) = some ρ1 ∧ tst cf ifs ρ1 S = .ok (p x) S ∧ (p x = true → evI cf it1 ρ1 S = .ok ((G x).map inj1, .no) S ∧
      ∀ y ∈ G x, ∃ ρ2, bindT t1 [inj1 y] ρ1 = some ρ2 ∧ tst cf ifs1 ρ2 S = .ok (q x y) S ∧ (q x y = true → ev cf e ρ2 S = .ok (.d (f x y)) S)))
    (hl : ((xs.filter p).flatMap fun x => ((G x).filter (q x)).map (f x)).length ≤ sizeLine) :
    genC cf .tuple vs t it ifs (.cons t1 it1 ifs1 (.elt e)) ρ S = .ok (.d (.tup ((xs.filter p).flatMap fun x => ((G x).filter (q x)).map (f x)))) S := by
  unfold genC
  rw [hi, R.bind_ok, if_pos hg]
  have inner : ∀ (x : α) (ρ1 : Env) (ys : List β), (∀ y ∈ ys, ∃ ρ2, bindT t1 [inj1 y] ρ1 = some ρ2 ∧ tst cf ifs1 ρ2 S = .ok (q x y) S ∧ (q x y = true → ev cf e ρ2 S = .ok (.d (f x y)) S)) →
      (ys.map inj1).flatMap (genT cf [] t1 ifs1 (.elt e) ρ1 S) = ((ys.filter (q x)).map (f x)).map some := fun x ρ1 ys => by
    induction ys with
    | nil => intro _; rfl
    | cons y ys ih =>
      intro hy
      obtain ⟨ρ2, h1, h2, h3⟩ := hy y List.mem_cons_self
      rw [List.map_cons, List.flatMap_cons, ih fun z hz => hy z (List.mem_cons_of_mem _ hz), genT, show wipeD ρ1 [] = ρ1 from rfl, h1]
      cases hq : q x y with
      | false => rw [turnG_f (by rw [h2, hq]; simp), List.filter_cons_of_neg (by rw [hq]; decide)]; rfl
      | true => rw [turnG_t (by rw [h2, hq]; simp), strm_elt, h3 hq, pureV_ok, List.filter_cons_of_pos hq]; rfl
  have k : (xs.map inj).flatMap (genT cf vs t ifs (.cons t1 it1 ifs1 (.elt e)) ρ S) = ((xs.filter p).flatMap fun x => ((G x).filter (q x)).map (f x)).map some := by
    clear hi hl
    induction xs with
    | nil => rfl
    | cons x xs ih =>
      obtain ⟨ρ1, h1, h2, h3⟩ := h x List.mem_cons_self
      rw [List.map_cons, List.flatMap_cons, ih fun y hy => h y (List.mem_cons_of_mem _ hy), genT, h1]
      cases hp : p x with
      | false => rw [turnG_f (by rw [h2, hp]; simp), List.filter_cons_of_neg (by rw [hp]; decide)]; rfl
      | true =>
        obtain ⟨h4, h5⟩ := h3 hp
        rw [turnG_t (by rw [h2, hp]; simp), strm_cons, h4, pureI_ok, strK_s, inner x ρ1 (G x) h5, List.filter_cons_of_pos hp, List.flatMap_cons, List.map_append]
  rw [show (xs.map inj, g).1.flatMap (genT cf vs t ifs (.cons t1 it1 ifs1 (.elt e)) ρ S) = _ from k]
  exact gen_tuple _ _ hl
theorem allG_map (bs : List Bool) : allG (bs.map fun b => some (D.bl b)) = some (bs.all id) := by
  induction bs with
  | nil => rfl
  | cons b bs ih => cases b with
    | true => show allG (bs.map fun b => some (D.bl b)) = _; rw [ih]; rfl
    | false => rfl
/-- all(.. for ..) -/
theorem gen_all {cf : CF} {e : Ex} {t : Tg} {ρ : Env} {g : Grd} {α : Type} {vs : List Nat} {it : Ix} {S : Store} (xs : List α) (inj : α → D) (p : α → Bool) (hi : evI cf it ρ S = .ok (xs.map inj, g) S) (hg : g.ok S)
    (h : ∀ x ∈ xs, ∃ ρ1, bindT t [inj x] (wipeD ρ vs) = some ρ1 ∧ ev cf e ρ1 S = .ok (.d (.bl (p x))) S) :
    genC cf .all vs t it .nil (.elt e) ρ S = .ok (.d (.bl (xs.all p))) S := by
  unfold genC
  rw [hi, R.bind_ok, if_pos hg]
  have q : (xs.map inj).flatMap (genT cf vs t .nil (.elt e) ρ S) = (xs.map p).map fun b => some (D.bl b) := by
    clear hi
    induction xs with
    | nil => rfl
    | cons x xs ih =>
      obtain ⟨ρ1, h1, h2⟩ := h x List.mem_cons_self
      rw [List.map_cons, List.flatMap_cons, ih fun y hy => h y (List.mem_cons_of_mem _ hy), genT, h1, turnG_t (by simp), strm_elt, h2, pureV_ok]; rfl
  rw [show (xs.map inj, g).1.flatMap (genT cf vs t .nil (.elt e) ρ S) = _ from q]
  show R.of ((allG _).map fun b => RV.d (.bl b)) S = _
  rw [allG_map]
  simp [List.all_map]
/-- a def that gives a new object -/
theorem fin_o {S : Store} {r : RS} {c : Cell} (h : RS.wp (fun _ _ => False) (fun x S' => (x = .o c ∧ ∃ E, S' = S ++ E) ∨ ∃ i E, x = .d (.ref (S.length + i)) ∧ S' = S ++ E ∧ E[i]? = some c) (fun _ _ => False) (fun _ _ => False) r) (hf : ∀ d, c ≠ .frz d) (hv : c.lo S.length = true) : fin S r = .ok (.o c) S := by
  cases h with
  | nx h => exact h.elim
  | rt h =>
    rcases h with ⟨rfl, E, rfl⟩ | ⟨i, E, rfl, rfl, he⟩
    · exact leave_app rfl hv
    · refine leave_app ?_ hv
      unfold out
      simp only []
      rw [if_neg (by omega), st_getA, he]
      cases c with
      | frz d => exact absurd rfl (hf d)
      | _ => rfl
  | bk h => exact h.elim
  | ct h => exact h.elim
@[simp] theorem walkC_f (S : Store) (r : Nat) (kvs : List (Key × D)) : walkC r (some (.frz (.dic kvs))) S = .ok (kvs.map fun kv => keyD kv.1, .no) S := nr rfl
@[simp] theorem lockC_d (r : Nat) (kvs : List (Key × D)) : lockC r (some (.dic kvs)) = some (r, .dic kvs) := nr rfl
theorem lockR_ok {α : Type} {r : Nat} {c : Cell} {f : Store → R α} {S S' : Store} {a : α} (h : f (S.set r (.frz c)) = .ok a S') (h2 : S'[r]? = some (.frz c)) : lockR (some (r, c)) f S = .ok a (S'.set r c) := by
  unfold lockR
  simp only [h]
  rw [if_pos h2]
/-! ### members, texts -/
section
variable (S : Store)
theorem eqv_str (a b : Str) : (D.str a).eqv (.str b) = decide (a = b) := by
  show PyData.eqv (.str a) (.str b) = _
  rw [PyData.eqv]; by_cases h : a = b <;> simp [h]
@[simp] theorem cmp_str (a b : Str) : cmpR .eq (.d (.str a)) (.d (.str b)) S = some (decide (a = b)) := by
  rw [← eqv_str]; rfl
@[simp] theorem cmp_strn (a b : Str) : cmpR .ne (.d (.str a)) (.d (.str b)) S = some (!decide (a = b)) := by
  rw [← eqv_str]; rfl
def oD : Option Int → D
  | none => .non
  | some z => .int z
@[simp] theorem cmp_is_o (o : Option Int) : cmpR .is (.d (oD o)) (.d .non) S = some o.isNone := by cases o <;> rfl
@[simp] theorem cmp_isn_o (o : Option Int) : cmpR .isn (.d (oD o)) (.d .non) S = some o.isSome := by cases o <;> rfl
@[simp] theorem cmp_is_i (z : Int) : cmpR .is (.d (.int z)) (.d .non) S = some false := nr rfl
@[simp] theorem cmp_isn_i (z : Int) : cmpR .isn (.d (.int z)) (.d .non) S = some true := nr rfl
@[simp] theorem cmp_is_nn : cmpR .is (.d .non) (.d .non) S = some true := nr rfl
@[simp] theorem cmp_isn_nn : cmpR .isn (.d .non) (.d .non) S = some false := nr rfl
@[simp] theorem cmp_is_t (xs : List D) : cmpR .is (.d (.tup xs)) (.d .non) S = some false := nr rfl
@[simp] theorem cmp_isn_t (xs : List D) : cmpR .isn (.d (.tup xs)) (.d .non) S = some true := nr rfl
@[simp] theorem cmp_is_bb (a b : Bool) : cmpR .is (.d (.bl a)) (.d (.bl b)) S = some (a == b) := nr rfl
@[simp] theorem cmp_isn_bb (a b : Bool) : cmpR .isn (.d (.bl a)) (.d (.bl b)) S = some (!(a == b)) := nr rfl
theorem inOk_ints (z : Int) (is : List Int) : inOk (.int z) (is.map D.int) = true := by
  have : (is.map D.int).all D.flat = true := by
    rw [List.all_eq_true]; intro x hx; obtain ⟨i, _, rfl⟩ := List.mem_map.mp hx; rfl
  unfold inOk
  rw [this]; rfl
theorem any_ints (z : Int) (is : List Int) : (is.map D.int).any (fun y => y.eqv (.int z)) = decide (z ∈ is) := by
  induction is with
  | nil => rfl
  | cons i is ih =>
    rw [List.map_cons, List.any_cons, ih, eqv_int]
    by_cases h : i = z
    · simp [h]
    · have : ¬ z = i := fun q => h q.symm
      simp [h, this]
def memL (u : D) (S : Store) (y : RV) (o : Option (List D)) : Option Bool := match o with
    | some xs => if inOk u xs then some (xs.any fun z => z.eqv u) else none
    | none => match dicv y S with
      | some kvs => match u.key with
        | some k => some (aval kvs k).isSome
        | none => if u.flat then (match u with
          | .non => some false
          | _ => none) else none
      | none => none
theorem cmp_mem (x y : RV) : cmpR .mem x y S = memR x y S := rfl
theorem memR_d (u : D) (y : RV) : memR (.d u) y S = memL u S y (seqv y S) := rfl
theorem memL_ints (z : Int) (is : List Int) (y : RV) : memL (.int z) S y (some (is.map D.int)) = some (decide (z ∈ is)) := by
  show (if inOk (.int z) (is.map D.int) = true then some ((is.map D.int).any fun y => y.eqv (.int z)) else none) = _
  rw [if_pos (inOk_ints z is), any_ints]
@[simp] theorem mem_ti (z : Int) (is : List Int) : cmpR .mem (.d (.int z)) (.d (.tup (is.map D.int))) S = some (decide (z ∈ is)) := by
  rw [cmp_mem, memR_d]; exact memL_ints S z is _
@[simp] theorem nmem_ti (z : Int) (is : List Int) : cmpR .nmem (.d (.int z)) (.d (.tup (is.map D.int))) S = some (!decide (z ∈ is)) := by
  show (memR _ _ _).map _ = _
  rw [memR_d, show memL (.int z) S (.d (.tup (is.map D.int))) (seqv (.d (.tup (is.map D.int))) S) = _ from memL_ints S z is _]; rfl
theorem mem_oi (z : Int) (is : List Int) : cmpR .mem (.d (.int z)) (.o (.lst (is.map D.int))) S = some (decide (z ∈ is)) := by
  rw [cmp_mem, memR_d]; exact memL_ints S z is _
theorem nmem_oi (z : Int) (is : List Int) : cmpR .nmem (.d (.int z)) (.o (.lst (is.map D.int))) S = some (!decide (z ∈ is)) := by
  show (memR _ _ _).map _ = _
  rw [memR_d, show memL (.int z) S (.o (.lst (is.map D.int))) (seqv (.o (.lst (is.map D.int))) S) = _ from memL_ints S z is _]; rfl
theorem mem_ri {r : Nat} {is : List Int} (h : S[r]? = some (.lst (is.map D.int))) (z : Int) : cmpR .mem (.d (.int z)) (.d (.ref r)) S = some (decide (z ∈ is)) := by
  rw [cmp_mem, memR_d, seqv_r, h]; exact memL_ints S z is _
theorem nmem_ri {r : Nat} {is : List Int} (h : S[r]? = some (.lst (is.map D.int))) (z : Int) : cmpR .nmem (.d (.int z)) (.d (.ref r)) S = some (!decide (z ∈ is)) := by
  show (memR _ _ _).map _ = _
  rw [memR_d, seqv_r, h, show memL (.int z) S (.d (.ref r)) (seqC ((some (Cell.lst (is.map D.int))).map Cell.core)) = _ from memL_ints S z is _]; rfl
theorem mem_rd {r : Nat} {kvs : List (Key × D)} (h : S[r]?.map Cell.core = some (.dic kvs)) (z : Int) : cmpR .mem (.d (.int z)) (.d (.ref r)) S = some (aval kvs (.inl z)).isSome := by
  rw [cmp_mem, memR_d, seqv_r, h, show seqC (some (Cell.dic kvs)) = none from rfl]
  show (match dicv (.d (.ref r)) S with | some kvs => some (aval kvs (.inl z)).isSome | none => none) = _
  have : dicv (.d (.ref r)) S = some kvs := by unfold dicv; rw [cellOf_r, h]
  rw [this]
theorem nmem_rd {r : Nat} {kvs : List (Key × D)} (h : S[r]?.map Cell.core = some (.dic kvs)) (z : Int) : cmpR .nmem (.d (.int z)) (.d (.ref r)) S = some (!(aval kvs (.inl z)).isSome) := by
  show (memR _ _ _).map _ = _
  have := mem_rd S h z
  rw [show memR (.d (.int z)) (.d (.ref r)) S = _ from this]; rfl
end
theorem bin_add_ro {S : Store} {r : Nat} {xs ys : List D} (h : S[r]? = some (.lst xs)) (hl : xs.length + ys.length ≤ sizeLine) : binR .add (.d (.ref r)) (.o (.lst ys)) S = .ok (.o (.lst (xs ++ ys))) S := by
  unfold binR
  simp [lstw, h, hl]
theorem sorted_oi (S : Store) (is : List Int) : b1R .sorted (.o (.lst (is.map D.int))) S = .ok (.o (.lst ((srt is).map D.int))) S := by
  have e2 : seqv (.o (.lst (is.map D.int))) S = some (is.map D.int) := rfl
  unfold b1R
  simp only [e2, Option.bind_some, asI_map]
/-! ### while -/
theorem wp_while {N : Env → Store → Prop} {Q : RV → Store → Prop} {B C : Env → Store → Prop} {c : Env → Store → R Bool} {b : Env → Store → RS} (I : Nat → Env → Store → Prop) (n : Nat) {ρ : Env} {S : Store} (h0 : I n ρ S)
    (hs : ∀ n ρ S, I n ρ S → ∃ t S1, c ρ S = .ok t S1 ∧ ((t = false ∧ N ρ S1) ∨ (t = true ∧ RS.wp (fun ρ S => ∃ m, m < n ∧ I m ρ S) Q N (fun ρ S => ∃ m, m < n ∧ I m ρ S) (b ρ S1)))) :
    ∀ fu, n < fu → RS.wp N Q B C (whileN c b fu ρ S) := by
  intro fu
  induction fu generalizing n ρ S with
  | zero => intro h; omega
  | succ fu ih =>
    intro hf
    obtain ⟨t, S1, e, h⟩ := hs n ρ S h0
    rw [whileN, e]
    rcases h with ⟨rfl, h⟩ | ⟨rfl, h⟩
    · exact .nx h
    · show RS.wp N Q B C (match b ρ S1 with | .nx ρ2 S2 => _ | .ct ρ2 S2 => _ | .bk ρ2 S2 => _ | .rt x S2 => _ | .ex x S2 => _ | .bad => _)
      generalize b ρ S1 = r at h
      cases h with
      | nx h => obtain ⟨m, hm, h⟩ := h; exact ih m h (by omega)
      | ct h => obtain ⟨m, hm, h⟩ := h; exact ih m h (by omega)
      | bk h => exact .nx h
      | rt h => exact .rt h
theorem wp_whl {cf : CF} {cc : Tx} {bb : Sts} {N : Env → Store → Prop} {Q : RV → Store → Prop} {B C : Env → Store → Prop} (I : Nat → Env → Store → Prop) (n : Nat) (hn : n < 1000000) {ρ : Env} {S : Store} (h0 : I n ρ S)
    (hs : ∀ n ρ S, I n ρ S → ∃ t S1, tt cf cc ρ S = .ok t S1 ∧ ((t = false ∧ N ρ S1) ∨ (t = true ∧ RS.wp (fun ρ S => ∃ m, m < n ∧ I m ρ S) Q N (fun ρ S => ∃ m, m < n ∧ I m ρ S) (exs cf bb ρ S1)))) :
    RS.wp N Q B C (ex cf (.whl cc bb) ρ S) := by
  rw [ex_whl]
  exact wp_while I n h0 hs FU (by unfold FU; omega)
/-! ### defs that draw -/
theorem fin_draw {is : List Int} {n : Nat} {E : Store} {r : RS} {P : D → Prop} (hp : ∀ v, P v → v.lo (E.length + 2) = true) (h : RS.wp (fun _ _ => False) (fun x S' => ∃ v n' F, x = .d v ∧ P v ∧ S' = bx is n' (E ++ F)) (fun _ _ => False) (fun _ _ => False) r) :
    ∃ v n', P v ∧ fin (bx is n E) r = .ok (.d v) (bx is n' E) := by
  cases h with
  | nx h => exact h.elim
  | bk h => exact h.elim
  | ct h => exact h.elim
  | rt h =>
    obtain ⟨v, n', F, rfl, hP, rfl⟩ := h
    refine ⟨v, n', hP, ?_⟩
    show leave _ _ _ = _
    have ho : out (bx is n E).length (.d v) (bx is n' (E ++ F)) = .d v := by
      have := hp v hP
      cases v with
      | ref q => exact if_pos (by simpa [D.lo] using this)
      | _ => rfl
    have old : oldOk (bx is n E) (bx is n' (E ++ F)) := by
      refine ⟨by simp [List.length_append], fun i hi => ?_⟩
      match i, hi with
      | 0, _ => exact .inl rfl
      | 1, _ => exact .inr ⟨_, rfl, by simp [Cell.lo, los, D.lo]⟩
      | i + 2, hi =>
        refine .inl ?_
        rw [bx_get, bx_get, List.getElem?_append_left (by rw [bx_len] at hi; omega)]
    have tk : (bx is n' (E ++ F)).take (bx is n E).length = bx is n' E := by
      show List.take (E.length + 2) (_ :: _ :: (E ++ F)) = _
      rw [List.take_succ_cons, List.take_succ_cons, List.take_left] <;> rfl
    unfold leave
    rw [ho, if_pos ⟨old, hp v hP⟩, tk]
end CH
/-! PG: enumerate, truth values, index. -/
namespace CH
open PySem PySem.Spec PyProof.Rows L2
theorem los_mapG {α : Type} {f : α → D} {n : Nat} (h : ∀ a, (f a).lo n = true) (xs : List α) : los n (xs.map f) = true := by
  induction xs with
  | nil => rfl
  | cons x xs ih => simp [los, h, ih]
def enuK (x : RV) (S : Store) : R (List D × Grd) := R.of ((walkS x S).map fun w => (enuD w.1, w.2)) S
@[simp] theorem evI_enu (cf : CF) (a : Ex) (ρ : Env) (S : Store) : evI cf (.enu a) ρ S = (ev cf a ρ S).bind enuK := by rw [evI]; rfl
@[simp] theorem enuK_t (xs : List D) (S : Store) : enuK (.d (.tup xs)) S = .ok (enuD xs, .no) S := nr rfl
@[simp] theorem enuK_o (xs : List D) (S : Store) : enuK (.o (.lst xs)) S = .ok (enuD xs, .no) S := nr rfl
theorem enuD_zip {α : Type} (f : α → D) (xs : List α) : enuD (xs.map f) = xs.zipIdx.map fun q => .tup [.int (q.2 : Nat), f q.1] := by
  apply List.ext_getElem
  · simp [enuD]
  · intro i h1 h2
    simp [enuD]
/-- a loop over numbered items -/
theorem wp_enu {α : Type} {f : α → D} {g : Grd} {t : Tg} {b : Env → Store → RS} {xs : List α} {N : Env → Store → Prop} {Q : RV → Store → Prop} {B C : Env → Store → Prop} (I : List α → Env → Store → Prop) {ρ : Env} {S : Store} (h0 : I [] ρ S)
    (hg : ∀ done ρ S, I done ρ S → g.ok S)
    (hs : ∀ done x rest ρ S, xs = done ++ x :: rest → I done ρ S → ∃ ρ1, bindT t [.tup [.int (done.length : Nat), f x]] ρ = some ρ1 ∧ RS.wp (I (done ++ [x])) Q N (I (done ++ [x])) (b ρ1 S))
    (hN : ∀ ρ S, I xs ρ S → N ρ S) : RS.wp N Q B C (forL g t b (enuD (xs.map f)) ρ S) := by
  have hl : (enuD (xs.map f)).length = xs.length := by simp [enuD]
  have hx : ∀ (i : Nat) (h : i < xs.length), (enuD (xs.map f))[i]? = some (.tup [.int (i : Nat), f xs[i]]) := fun i h => by
    rw [enuD_zip, List.getElem?_map, List.getElem?_eq_getElem (by simpa using h)]
    simp
  refine wp_for (fun done ρ S => ∃ ys zs, xs = ys ++ zs ∧ done.length = ys.length ∧ I ys ρ S) ⟨[], xs, rfl, rfl, h0⟩ (fun _ _ _ ⟨_, _, _, _, h⟩ => hg _ _ _ h) (fun done x rest ρ S e ⟨ys, zs, ez, el, hI⟩ => ?_) (fun ρ S ⟨ys, zs, ez, el, h⟩ => hN ρ S ?_)
  · have h1 : done.length < xs.length := by
      have := congrArg List.length e
      rw [hl, List.length_append, List.length_cons] at this; omega
    have h2 := hx done.length h1
    rw [e, List.getElem?_append_right (Nat.le_refl _), Nat.sub_self] at h2
    cases zs with
    | nil =>
      rw [List.append_nil] at ez
      have := congrArg List.length ez
      omega
    | cons z zs =>
      have h3 : xs[done.length] = z := by
        have : xs[done.length]? = some z := by rw [ez, el, List.getElem?_append_right (Nat.le_refl _), Nat.sub_self]; rfl
        rw [List.getElem?_eq_getElem h1] at this
        exact Option.some.inj this
      rw [h3, el] at h2
      have hx2 : x = .tup [.int (ys.length : Nat), f z] := Option.some.inj h2
      obtain ⟨ρ1, hb, hw⟩ := hs ys z zs ρ S ez hI
      rw [← hx2] at hb
      refine ⟨ρ1, hb, wp_mono hw (fun ρ S h => ⟨ys ++ [z], zs, by rw [ez]; simp, by simp [el], h⟩) (fun _ _ h => h) (fun _ _ h => h) (fun ρ S h => ⟨ys ++ [z], zs, by rw [ez]; simp, by simp [el], h⟩)⟩
  · rw [hl] at el
    have : zs = [] := by
      have := congrArg List.length ez
      rw [List.length_append] at this
      exact List.eq_nil_of_length_eq_zero (by omega)
    rw [this, List.append_nil] at ez
    rw [ez]; exact h
/-! ### truth values -/
theorem eqv_bl (a b : Bool) : (D.bl a).eqv (.bl b) = (a == b) := by
  show PyData.eqv (.bool a) (.bool b) = _
  rw [PyData.eqv]
theorem any_bls (b : Bool) (bs : List Bool) : (bs.map D.bl).any (fun y => y.eqv (.bl b)) = decide (b ∈ bs) := by
  induction bs with
  | nil => rfl
  | cons c bs ih =>
    rw [List.map_cons, List.any_cons, ih, eqv_bl]
    cases b <;> cases c <;> simp
theorem flat_bls (bs : List Bool) : (bs.map D.bl).all D.flat = true := by
  rw [List.all_eq_true]; intro x hx; obtain ⟨i, _, rfl⟩ := List.mem_map.mp hx; rfl
theorem inOk_bls (b : Bool) (bs : List Bool) : inOk (.bl b) (bs.map D.bl) = true := by
  unfold inOk
  rw [flat_bls]; rfl
theorem memL_bls (S : Store) (b : Bool) (bs : List Bool) (y : RV) : memL (.bl b) S y (some (bs.map D.bl)) = some (decide (b ∈ bs)) := by
  show (if inOk (.bl b) (bs.map D.bl) = true then some ((bs.map D.bl).any fun y => y.eqv (.bl b)) else none) = _
  rw [if_pos (inOk_bls b bs), any_bls]
@[simp] theorem mem_tb (S : Store) (b : Bool) (bs : List Bool) : cmpR .mem (.d (.bl b)) (.d (.tup (bs.map D.bl))) S = some (decide (b ∈ bs)) := by
  rw [cmp_mem, memR_d]; exact memL_bls S b bs _
theorem nmem_rb {S : Store} {r : Nat} {bs : List Bool} (h : S[r]? = some (.lst (bs.map D.bl))) (b : Bool) : cmpR .nmem (.d (.bl b)) (.d (.ref r)) S = some (!decide (b ∈ bs)) := by
  show (memR _ _ _).map _ = _
  rw [memR_d, seqv_r, h, show memL (.bl b) S (.d (.ref r)) (seqC ((some (Cell.lst (bs.map D.bl))).map Cell.core)) = _ from memL_bls S b bs _]; rfl
theorem idxOf_bls (b : Bool) (bs : List Bool) (h : b ∈ bs) : CH.idxOf (.bl b) (bs.map D.bl) = some (bs.idxOf b) := by
  unfold CH.idxOf
  induction bs with
  | nil => cases h
  | cons c bs ih =>
    rw [List.map_cons, List.findIdx?_cons, eqv_bl, List.idxOf_cons]
    by_cases e : c = b
    · subst e; simp
    · have hb : b ∈ bs := by
        rcases List.mem_cons.mp h with q | q
        · exact (e q.symm).elim
        · exact q
      have e2 : (c == b) = false := by simpa using e
      rw [e2, ih hb]
      simp
theorem tindex_bl (S : Store) (b : Bool) (bs : List Bool) (h : b ∈ bs) : m1R .tup .index (.d (.tup (bs.map D.bl))) (.bl b) S = .ok (.d (.int (bs.idxOf b : Nat))) S := by
  unfold m1R
  have e1 : tupv (.d (.tup (bs.map D.bl))) = some (bs.map D.bl) := rfl
  simp only [e1, flat_bls, idxOf_bls b bs h]
  rfl
theorem cut_from {α : Type} (xs : List α) (a : Nat) (h : a ≤ xs.length) : cutD xs (some (a : Int)) none = xs.drop a := by
  unfold cutD
  have e1 : HT.sIx xs.length 0 (some (a : Int)) = a := by
    unfold HT.sIx
    simp only []
    split <;> omega
  have e2 : HT.sIx xs.length xs.length none = xs.length := by unfold HT.sIx; rfl
  rw [e1, e2]
  exact List.take_of_length_le (by rw [List.length_drop]; omega)
theorem set_cut {α : Type} {xs : List α} {i : Nat} {x : α} (h : i < xs.length) : xs.take i ++ (x :: xs.drop (i + 1)) = xs.set i x := (List.set_eq_take_append_cons_drop (l := xs) (i := i) (a := x) ▸ by simp [h])
theorem mul_t {S : Store} {xs : List D} {k : Nat} (h1 : 1 ≤ k) (h2 : k ≤ 1000) (h3 : xs.length ≤ 1000) (h4 : 0 < xs.length) : binR .mul (.d (.tup xs)) (.d (.int (k : Nat))) S = .ok (.d (.tup (List.replicate k xs).flatten)) S := by
  show (if 1 ≤ (k : Int) ∧ (k : Int) ≤ 1000 ∧ xs.length ≤ 1000 ∧ 0 < xs.length then R.ok (RV.d (.tup (List.replicate (k : Int).toNat xs).flatten)) S else .bad) = _
  rw [if_pos ⟨by omega, by omega, h3, h4⟩, Int.toNat_natCast]
theorem mul_o {S : Store} {xs : List D} {k : Nat} (h2 : k ≤ 1000) (h3 : xs.length ≤ 1000) : binR .mul (.o (.lst xs)) (.d (.int (k : Nat))) S = .ok (.o (.lst (List.replicate k xs).flatten)) S := by
  have e : lstw (.o (.lst xs)) S = some xs := rfl
  have hm : xs.length * k ≤ 1000 * 1000 := Nat.mul_le_mul h3 h2
  show (match lstw (.o (.lst xs)) S with | some xs => if -(2 ^ 63) ≤ (k : Int) ∧ (k : Int) < 2 ^ 63 ∧ xs.length * (k : Int).toNat ≤ sizeLine then R.ok (RV.o (.lst (List.replicate (k : Int).toNat xs).flatten)) S else .bad | none => .bad) = _
  rw [e]
  show (if _ then _ else _) = _
  rw [if_pos ⟨by omega, by omega, by rw [Int.toNat_natCast, sl_pos]; omega⟩, Int.toNat_natCast]
theorem flat_rep {α : Type} (x : α) (k : Nat) : (List.replicate k [x]).flatten = List.replicate k x := by
  induction k with
  | zero => rfl
  | succ k ih => rw [List.replicate_succ, List.flatten_cons, ih, List.replicate_succ]; rfl
end CH
/-! HA: heaps, as the laws draw them. -/
namespace CH
open PySem PySem.Spec PyProof.Rows L2
inductive Ob where
  | recd (n : Int) (fs : List (Option Int)) | weak (n : Int) (t : Option Int) | tab (n : Int) (es : List (Int × Int))
def Ob.num : Ob → Int
  | .recd n _ => n
  | .weak n _ => n
  | .tab n _ => n
def pairD (p : Int × Int) : D := .tup [.int p.1, .int p.2]
def Ob.d : Ob → D
  | .recd n fs => .tup [.str ("record" : PySem.Str), .int n, .tup (fs.map oD)]
  | .weak n t => .tup [.str ("weak" : PySem.Str), .int n, oD t]
  | .tab n es => .tup [.str ("table" : PySem.Str), .int n, .tup (es.map pairD)]
/-- the objects that it names -/
def Ob.refs : Ob → List Int
  | .recd _ fs => fs.filterMap id
  | .weak _ t => t.toList
  | .tab _ es => es.flatMap fun e => [e.1, e.2]
def Ob.small : Ob → Prop
  | .recd _ fs => fs.length ≤ 60
  | .weak _ _ => True
  | .tab _ es => es.length ≤ 60 ∧ (es.map (·.1)).Nodup
structure Hv where
  nxt : Int
  regs : List (Option Int)
  kept : List Int
  objs : List Ob
  ws : List (Int × Int)
def Hv.d (h : Hv) : D := .tup [.str ("heap" : PySem.Str), .int h.nxt, .tup (h.regs.map oD), .tup (h.kept.map D.int), .tup (h.objs.map Ob.d), .tup (h.ws.map pairD)]
def Hv.nums (h : Hv) : List Int := h.objs.map Ob.num
structure Hv.ok (most : Nat) (h : Hv) : Prop where
  len : h.objs.length ≤ most
  inc : h.nums.Pairwise (· < ·)
  nxt : ∀ z ∈ h.nums, z < h.nxt
  lo : ∀ z ∈ h.nums, 0 ≤ z
  regs : ∀ z, some z ∈ h.regs → z ∈ h.nums
  rlen : h.regs.length ≤ 12
  refs : ∀ o ∈ h.objs, ∀ z ∈ o.refs, z ∈ h.nums
  small : ∀ o ∈ h.objs, o.small
  kept : h.kept.Sublist h.nums
  ws : ∀ p ∈ h.ws, p.1 ∈ h.nums
  wlen : h.ws.length ≤ most
theorem lo_oD (n : Nat) (o : Option Int) : (oD o).lo n = true := by cases o <;> rfl
theorem los_map {α : Type} {f : α → D} {n : Nat} (h : ∀ a, (f a).lo n = true) (xs : List α) : los n (xs.map f) = true := by
  induction xs with
  | nil => rfl
  | cons x xs ih => show ((f x).lo n && los n (xs.map f)) = true; rw [h, ih]; rfl
theorem lo_pairD (n : Nat) (p : Int × Int) : (pairD p).lo n = true := rfl
theorem lo_ob (n : Nat) (o : Ob) : o.d.lo n = true := by
  cases o with
  | recd m fs => show (true && (true && (los n (fs.map oD) && true))) = true; rw [los_map (lo_oD n)]; rfl
  | weak m t => show (true && (true && ((oD t).lo n && true))) = true; rw [lo_oD]; rfl
  | tab m es => show (true && (true && (los n (es.map pairD) && true))) = true; rw [los_map (lo_pairD n)]; rfl
theorem lo_heap (n : Nat) (h : Hv) : h.d.lo n = true := by
  show (true && (true && (los n (h.regs.map oD) && (los n (h.kept.map D.int) && (los n (h.objs.map Ob.d) && (los n (h.ws.map pairD) && true)))))) = true
  rw [los_map (lo_oD n), los_ints, los_map (lo_ob n), los_map (lo_pairD n)]; rfl
def bNumber : Sts := (.cons (.ite (.or (.ex (.cmp .eq (.b1 .len (.var 1)) (.con (.int 0)))) (.ex (.cmp .eq (.call ("_law_draw" : PySem.Str) (.cons (.var 0) (.cons (.con (.int 5)) .nil))) (.con (.int 0))))) (.cons (.ret (.con .non))
  .nil) .nil)
  (.cons (.ret (.idx (.var 1) (.bin .mod (.b1 .int (.call ("_law_draw" : PySem.Str) (.cons (.var 0) (.cons (.con (.int 1000)) .nil)))) (.b1 .len (.var 1)))))
  .nil))
def bObject : Sts := (.cons (.set (.var 3) (.call ("_law_draw" : PySem.Str) (.cons (.var 0) (.cons (.con (.int 7)) .nil))))
  (.cons (.ite (.or (.ex (.cmp .lt (.var 3) (.con (.int 3)))) (.and (.ex (.cmp .gt (.var 3) (.con (.int 4)))) (.ex (.cmp .eq (.b1 .len (.var 2)) (.con (.int 0)))))) (.cons (.ret (.tup (.cons (.con (.str ("record" : PySem.Str))) (.cons (.var 1) (.cons (.b1 .tuple (.lc [5] (.call ("_law_number" : PySem.Str) (.cons (.var 0) (.cons (.var 2) .nil))) (.var 5 .nil) (.rng (.con (.int 0)) (.call ("_law_draw" : PySem.Str) (.cons (.var 0) (.cons (.con (.int 4)) .nil)))) .nil)) .nil)))))
  .nil) .nil)
  (.cons (.ite (.ex (.cmp .lt (.var 3) (.con (.int 5)))) (.cons (.ret (.tup (.cons (.con (.str ("weak" : PySem.Str))) (.cons (.var 1) (.cons (.call ("_law_number" : PySem.Str) (.cons (.var 0) (.cons (.var 2) .nil))) .nil)))))
  .nil) .nil)
  (.cons (.set (.var 4) (.lst .nil))
  (.cons (.for (.var 5 .nil) (.rng (.con (.int 0)) (.call ("_law_draw" : PySem.Str) (.cons (.var 0) (.cons (.con (.int 4)) .nil)))) (.cons (.set (.var 6) (.idx (.var 2) (.bin .mod (.b1 .int (.call ("_law_draw" : PySem.Str) (.cons (.var 0) (.cons (.con (.int 1000)) .nil)))) (.b1 .len (.var 2)))))
  (.cons (.set (.var 7) (.idx (.var 2) (.bin .mod (.b1 .int (.call ("_law_draw" : PySem.Str) (.cons (.var 0) (.cons (.con (.int 1000)) .nil)))) (.b1 .len (.var 2)))))
  (.cons (.ite (.ex (.cmp .nmem (.var 6) (.lc [8] (.idx (.var 8) (.con (.int 0))) (.var 8 .nil) (.ex (.var 4)) .nil))) (.cons (.ex (.m1 .append (.var 4) (.tup (.cons (.var 6) (.cons (.var 7) .nil)))))
  .nil) .nil)
  .nil))))
  (.cons (.ret (.tup (.cons (.con (.str ("table" : PySem.Str))) (.cons (.var 1) (.cons (.b1 .tuple (.var 4)) .nil)))))
  .nil))))))
/-- the heap maker; `c` bounds the registers -/
def bHeap (c : Nat) : Sts := (.cons (.set (.var 2) (.call ("_law_draw" : PySem.Str) (.cons (.var 0) (.cons (.bin .add (.var 1) (.con (.int 1))) .nil))))
  (.cons (.set (.var 3) (.lst .nil))
  (.cons (.set (.var 4) (.con (.int 0)))
  (.cons (.for (.var 5 .nil) (.rng (.con (.int 0)) (.var 2)) (.cons (.set (.var 4) (.bin .add (.var 4) (.idx (.lst (.cons (.con (.int 0)) (.cons (.con (.int 0)) (.cons (.con (.int 0)) (.cons (.con (.int 2)) .nil))))) (.call ("_law_draw" : PySem.Str) (.cons (.var 0) (.cons (.con (.int 4)) .nil))))))
  (.cons (.ex (.m1 .append (.var 3) (.var 4)))
  (.cons (.set (.var 4) (.bin .add (.var 4) (.con (.int 1))))
  .nil))))
  (.cons (.set (.var 6) (.b1 .tuple (.lc [10] (.call ("_law_object" : PySem.Str) (.cons (.var 0) (.cons (.var 10) (.cons (.var 3) .nil)))) (.var 10 .nil) (.ex (.var 3)) .nil)))
  (.cons (.set (.var 7) (.b1 .tuple (.lc [5] (.call ("_law_number" : PySem.Str) (.cons (.var 0) (.cons (.var 3) .nil))) (.var 5 .nil) (.rng (.con (.int 0)) (.bin .add (.con (.int 1)) (.call ("_law_draw" : PySem.Str) (.cons (.var 0) (.cons (.con (.int (c : Int))) .nil))))) .nil)))
  (.cons (.set (.var 8) (.b1 .tuple (.lc [10] (.var 10) (.var 10 .nil) (.ex (.var 3)) (.cons (.ex (.cmp .eq (.call ("_law_draw" : PySem.Str) (.cons (.var 0) (.cons (.con (.int 6)) .nil))) (.con (.int 0)))) .nil))))
  (.cons (.set (.var 9) (.lst .nil))
  (.cons (.for (.var 10 .nil) (.ex (.var 3)) (.cons (.ite (.ex (.cmp .eq (.call ("_law_draw" : PySem.Str) (.cons (.var 0) (.cons (.con (.int 3)) .nil))) (.con (.int 0)))) (.cons (.ex (.m1 .append (.var 9) (.tup (.cons (.var 10) (.cons (.bin .add (.con (.int 7)) (.call ("_law_draw" : PySem.Str) (.cons (.var 0) (.cons (.con (.int 2)) .nil)))) .nil)))))
  .nil) .nil)
  .nil))
  (.cons (.ret (.tup (.cons (.con (.str ("heap" : PySem.Str))) (.cons (.bin .add (.var 4) (.call ("_law_draw" : PySem.Str) (.cons (.var 0) (.cons (.con (.int 2)) .nil)))) (.cons (.var 7) (.cons (.var 8) (.cons (.var 6) (.cons (.b1 .tuple (.var 9)) .nil))))))))
  .nil))))))))))
def bNumbers : Sts := (.cons (.ret (.lc [1] (.idx (.var 1) (.con (.int 1))) (.var 1 .nil) (.ex (.idx (.var 0) (.con (.int 4)))) .nil))
  .nil)
def bSome : Sts := (.cons (.ret (.b1 .tuple (.lc [2] (.var 2) (.var 2 .nil) (.ex (.var 1)) (.cons (.ex (.cmp .eq (.call ("_law_draw" : PySem.Str) (.cons (.var 0) (.cons (.con (.int 2)) .nil))) (.con (.int 0)))) .nil))))
  .nil)
structure HeapT (T : List (Str × Fn)) : Prop where
  number : T.lookup ("_law_number" : Str) = some ⟨2, 2, bNumber⟩
  object : T.lookup ("_law_object" : Str) = some ⟨3, 9, bObject⟩
  heap : ∃ c : Nat, (0 < c ∧ c ≤ 12) ∧ T.lookup ("_law_heap" : Str) = some ⟨2, 11, bHeap c⟩
variable {T : List (Str × Fn)}
theorem bx_nil {is : List Int} {n : Nat} {E : Store} : ∃ n' F, bx is n E = bx is n' (E ++ F) := ⟨n, [], by rw [List.append_nil]⟩
theorem bx_snoc {is : List Int} {n : Nat} {E F : Store} : ∃ n' F', bx is n (E ++ F) = bx is n' (E ++ F') := ⟨n, F, rfl⟩
theorem nat_of {z : Int} (h : 0 ≤ z) : ∃ j : Nat, z = (j : Int) := ⟨z.toNat, by omega⟩
theorem number_ok (h : Tok T) (hh : HeapT T) (k : Nat) {is : List Int} {n r : Nat} {E : Store} {ns : List Int} (hE : E[r]? = some (.lst (ns.map D.int))) :
    ∃ (o : Option Int) (n' : Nat), (∀ z, o = some z → z ∈ ns) ∧ callF T (k + 2) ("_law_number" : Str) [.ref 1, .ref (r + 2)] (bx is n E) = .ok (.d (oD o)) (bx is n' E) := by
  rw [call_eq hh.number rfl]
  obtain ⟨v, n', ⟨o, rfl, ho⟩, e⟩ := fin_draw (is := is) (n := n) (E := E) (P := fun v => ∃ o : Option Int, v = oD o ∧ ∀ z, o = some z → z ∈ ns) (fun v ⟨o, e, _⟩ => e ▸ lo_oD _ o)
    (show RS.wp _ _ _ _ (exs (callF T (k + 1)) bNumber ([D.ref 1, .ref (r + 2)].map some ++ List.replicate (2 - 2) none) (bx is n E)) from by
      by_cases hn : ns = []
      · subst hn
        simp [bNumber, hE]
        exact ⟨⟨none, rfl, by simp⟩, bx_nil⟩
      · have hl : 0 < ns.length := List.length_pos_iff.mpr hn
        have hl1 : (0 : Int) < (ns.length : Int) := Int.ofNat_lt.mpr hl
        by_cases hd : dv is n 5 = 0
        · simp [bNumber, hE, hn, draw_bx h, hd]
          exact ⟨⟨none, rfl, by simp⟩, bx_nil⟩
        · obtain ⟨j, hj⟩ := nat_of (Int.emod_nonneg (dv is (n + 1) 1000) (by omega : (ns.length : Int) ≠ 0))
          have hj2 : j < ns.length := by have := Int.emod_lt_of_pos (dv is (n + 1) 1000) hl1; omega
          simp [bNumber, hE, hn, draw_bx h, hd, hl, hj, atI_map, CH.atI_nat, hj2]
          exact ⟨⟨some ns[j], rfl, by simp⟩, bx_nil⟩)
  exact ⟨o, n', ho, e⟩
theorem draw_nat {is : List Int} {n : Nat} {m : Nat} (h : 0 < m) : ∃ j : Nat, dv is n (m : Int) = (j : Int) ∧ j < m := by
  have h1 : (0 : Int) < (m : Int) := by omega
  have a := dv_lo (is := is) (n := n) h1
  have b := dv_hi (is := is) (n := n) h1
  exact ⟨(dv is n m).toNat, by omega, by omega⟩
theorem num_iff (fs : List (Option Int)) (ns : List Int) : (∀ z, some z ∈ fs → z ∈ ns) → ∀ z ∈ fs.filterMap id, z ∈ ns := fun h z hz => by
  obtain ⟨o, ho, e⟩ := List.mem_filterMap.mp hz
  cases o with
  | none => cases e
  | some y => cases e; exact h _ ho
/-- a row of drawn numbers -/
theorem numbers_lc (h : Tok T) (hh : HeapT T) (k : Nat) {is : List Int} {r i : Nat} {E : Store} {ns : List Int} (hE : E[r]? = some (.lst (ns.map D.int))) {ρ : Env} (m : Nat) {hi : Int} (hm : hi = (m : Int)) {n : Nat} {e : Ex} {n1 : Nat}
    (he : ∀ j n, matB (ev (callF T (k + 2)) e ((wipeD ρ [i]).set i (some (.int j))) (bx is n E)) = matB (callF T (k + 2) ("_law_number" : Str) [.ref 1, .ref (r + 2)] (bx is n E))) :
    ∃ (fs : List (Option Int)) (n' : Nat), fs.length = m ∧ (∀ z, some z ∈ fs → z ∈ ns) ∧
      compL .no (.var i .nil) (wipeD ρ [i]) (tst (callF T (k + 2)) .nil) (lcB (callF T (k + 2)) e) (rngD 0 hi) (bx is n1 E) [] = .ok (fs.map oD) (bx is n' E) := by
  obtain ⟨ys, S', e1, fs, rfl, hl, hz, n', rfl⟩ := comp_rng (cf := callF T (k + 2)) (i := i) (e := e) (ρ := wipeD ρ [i]) (lo := 0) (hi := hi) (S := bx is n1 E) m
    (fun k acc S => ∃ fs : List (Option Int), acc = fs.map oD ∧ fs.length = k ∧ (∀ z, some z ∈ fs → z ∈ ns) ∧ ∃ n, S = bx is n E) (by omega) ⟨[], rfl, rfl, by simp, _, rfl⟩ (by
      rintro j _ _ hj ⟨fs, rfl, hl, hz, n2, rfl⟩
      obtain ⟨o, n3, ho, e2⟩ := number_ok h hh k (is := is) (n := n2) hE
      refine ⟨oD o, bx is n3 E, ?_, fs ++ [o], by simp, by simp [hl], ?_, _, rfl⟩
      · rw [he, e2]; simp
      · intro z hz2
        rcases List.mem_append.mp hz2 with q | q
        · exact hz z q
        · exact ho z (List.mem_singleton.mp q).symm)
  exact ⟨fs, n', hl, hz, e1⟩
def EntI (ns : List Int) (c : Nat) (es : List (Int × Int)) : Prop := es.length ≤ c ∧ (es.map (·.1)).Nodup ∧ ∀ y ∈ es.flatMap (fun e => [e.1, e.2]), y ∈ ns
theorem object_ok (h : Tok T) (hh : HeapT T) (k : Nat) {is : List Int} {n r : Nat} {E : Store} {ns : List Int} (hE : E[r]? = some (.lst (ns.map D.int))) (hn : ns ≠ []) (z : Int) :
    ∃ (o : Ob) (n' : Nat), (o.num = z ∧ (∀ y ∈ o.refs, y ∈ ns) ∧ o.small) ∧ callF T (k + 3) ("_law_object" : Str) [.ref 1, .int z, .ref (r + 2)] (bx is n E) = .ok (.d o.d) (bx is n' E) := by
  have hl : 0 < ns.length := List.length_pos_iff.mpr hn
  have hl1 : (0 : Int) < (ns.length : Int) := Int.ofNat_lt.mpr hl
  rw [call_eq hh.object rfl]
  obtain ⟨v, n', ⟨o, rfl, ho⟩, e⟩ := fin_draw (is := is) (n := n) (E := E) (P := fun v => ∃ o : Ob, v = o.d ∧ o.num = z ∧ (∀ y ∈ o.refs, y ∈ ns) ∧ o.small) (fun v ⟨o, e, _⟩ => e ▸ lo_ob _ o)
    (show RS.wp _ _ _ _ (exs (callF T (k + 2)) bObject ([D.ref 1, .int z, .ref (r + 2)].map some ++ List.replicate (9 - 3) none) (bx is n E)) from by
      obtain ⟨kd, hk, hk7⟩ := draw_nat (is := is) (n := n) (m := 7) (by decide)
      have hk : dv is n 7 = (kd : Int) := hk
      by_cases h3 : kd < 3
      · obtain ⟨m, hm, hm4⟩ := draw_nat (is := is) (n := n + 1) (m := 4) (by decide)
        have hm : dv is (n + 1) 4 = (m : Int) := hm
        have r1 : rngOk 0 (m : Int) := rngOk_of (by omega) (by omega) (by omega) (by omega)
        have h3' : (kd : Int) < 3 := by omega
        obtain ⟨fs, n', f1, f2, f3⟩ := numbers_lc h hh k (i := 5) (ρ := [some (.ref 1), some (.int z), some (.ref (r + 2)), some (.int kd), none, none, none, none, none]) (is := is) hE m rfl (n := n) (e := .call ("_law_number" : PySem.Str) (.cons (.var 0) (.cons (.var 2) .nil))) (n1 := n + 1 + 1) (by intro j n; simp [wipeD])
        simp [wipeD] at f3
        simp [bObject, draw_bx h, hk, h3', hm, lcC, r1, wipeD, f3]
        exact ⟨⟨.recd z fs, rfl, rfl, num_iff fs ns f2, by show fs.length ≤ 60; omega⟩, bx_nil⟩
      · have h3' : ¬ (kd : Int) < 3 := by omega
        by_cases h5 : kd < 5
        · have h5' : (kd : Int) < 5 := by omega
          have hne : ¬ ns.length = 0 := by omega
          obtain ⟨o, n3, ho, e2⟩ := number_ok h hh k (is := is) (n := n + 1) hE
          have h4 : ¬ (4 : Int) < (kd : Int) := by omega
          simp [bObject, draw_bx h, hk, h3', h4, h5', hE, hn, e2]
          exact ⟨⟨.weak z o, rfl, rfl, fun y hy => ho y (by cases o with
            | none => cases hy
            | some w => rw [List.mem_singleton.mp (show y ∈ [w] from hy)]), trivial⟩, bx_nil⟩
        · have h5' : ¬ (kd : Int) < 5 := by omega
          have h4 : (4 : Int) < (kd : Int) := by omega
          obtain ⟨m, hm, hm4⟩ := draw_nat (is := is) (n := n + 1) (m := 4) (by decide)
          have hm : dv is (n + 1) 4 = (m : Int) := hm
          have r1 : rngOk 0 (m : Int) := rngOk_of (by omega) (by omega) (by omega) (by omega)
          simp [bObject, draw_bx h, hk, h3', h4, h5', hE, hn, hm, r1]
          refine wp_then ?_
          refine wp_rng m (fun c ρ S' => ∃ (es : List (Int × Int)) (x5 x6 x7 x8 : Option D) (n' : Nat), EntI ns c es ∧
            ρ = [some (.ref 1), some (.int z), some (.ref (r + 2)), some (.int kd), some (.ref (E.length + 2)), x5, x6, x7, x8] ∧ S' = bx is n' (E ++ [.lst (es.map pairD)])) (by omega) ⟨[], _, _, _, _, _, ⟨Nat.le_refl _, List.nodup_nil, by simp⟩, rfl, rfl⟩ (fun c ρ S1 hc hI => ?_) (fun ρ S1 hI => ?_)
          · obtain ⟨es, x5, x6, x7, x8, n', ⟨i1, i2, i3⟩, rfl, rfl⟩ := hI
            have hr : r < E.length := (List.getElem?_eq_some_iff.mp hE).1
            have hE2 : ∀ F, (E ++ F)[r]? = some (.lst (ns.map D.int)) := fun F => by rw [List.getElem?_append_left hr]; exact hE
            obtain ⟨j, hj⟩ := nat_of (Int.emod_nonneg (dv is n' 1000) (by omega : (ns.length : Int) ≠ 0))
            have hj2 : j < ns.length := by have := Int.emod_lt_of_pos (dv is n' 1000) hl1; omega
            obtain ⟨j1, hj1⟩ := nat_of (Int.emod_nonneg (dv is (n' + 1) 1000) (by omega : (ns.length : Int) ≠ 0))
            have hj12 : j1 < ns.length := by have := Int.emod_lt_of_pos (dv is (n' + 1) 1000) hl1; omega
            have lc : ∀ a0 a1 a2 a3 a5 a6 a7 a8 : Option D, lcC (callF T (k + 2)) [8] (.idx (.var 8) (.con (.int 0))) (.var 8 .nil) (.ex (.var 4)) .nil [a0, a1, a2, a3, some (.ref (E.length + 2)), a5, a6, a7, a8] (bx is (n' + 1 + 1) (E ++ [.lst (es.map pairD)])) = .ok (.o (.lst ((es.map (·.1)).map D.int))) (bx is (n' + 1 + 1) (E ++ [.lst (es.map pairD)])) := fun a0 a1 a2 a3 a5 a6 a7 a8 => by
              rw [lc_map (g := .at (E.length + 2) (.lst (es.map pairD))) es pairD (fun e => .int e.1) (by simp) (by simp [Grd.ok]) (fun x hx => ⟨_, rfl, by simp, by simp [wipeD, pairD]⟩), List.map_map]
              rfl
            simp [-List.mem_map, -List.map_map, draw_bx h, hE2, hj, hj1, hl, atI_map, CH.atI_nat, hj2, hj12, lc, nmem_oi]
            by_cases hm : ns[j] ∈ es.map (·.1)
            · simp [-List.mem_map, hm]
              exact ⟨es, ⟨by omega, i2, i3⟩, _, rfl⟩
            · have hs : es.length < 16777216 := by omega
              simp [-List.mem_map, hm, sl_pos, hs]
              refine ⟨es ++ [(ns[j], ns[j1])], ⟨by simp; omega, ?_, ?_⟩, n' + 1 + 1, by simp [pairD]⟩
              · rw [List.map_append]
                refine List.nodup_append.mpr ⟨i2, by simp, ?_⟩
                intro a ha b hb e
                rw [List.map_singleton, List.mem_singleton] at hb
                subst hb e
                exact hm ha
              · intro y hy
                rw [List.flatMap_append] at hy
                rcases List.mem_append.mp hy with hy | hy
                · exact i3 y hy
                · simp at hy
                  rcases hy with rfl | rfl <;> exact List.getElem_mem _
          · obtain ⟨es, x5, x6, x7, x8, n', ⟨i1, i2, i3⟩, rfl, rfl⟩ := hI
            simp
            exact ⟨⟨.tab z es, rfl, rfl, i3, by show es.length ≤ 60; omega, i2⟩, bx_snoc⟩)
  exact ⟨o, n', ho, e⟩
/-- numbers that are drawn for -/
theorem draws_lc {cf : CF} {is : List Int} {E : Store} {ρ : Env} {i : Nat} {g : Grd} {c : Int} {ifs : Txs} {e : Ex} (hg : ∀ n, g.ok (bx is n E))
    (ht : ∀ z n, tst cf ifs (ρ.set i (some (.int z))) (bx is n E) = .ok (decide (dv is n c = 0)) (bx is (n + 1) E)) (he : ∀ z n, matB (ev cf e (ρ.set i (some (.int z))) (bx is n E)) = .ok (.int z) (bx is n E)) :
    ∀ (ns : List Int) (acc : List D) (n : Nat), ∃ (ks : List Int) (n' : Nat), ks.Sublist ns ∧ compL g (.var i .nil) ρ (tst cf ifs) (lcB cf e) (ns.map D.int) (bx is n E) acc = .ok (acc ++ ks.map D.int) (bx is n' E)
  | [], acc, n => ⟨[], n, .slnil, by rw [List.map_nil, comp_nil (hg n)]; simp⟩
  | z :: ns, acc, n => by
    by_cases hd : dv is n c = 0
    · obtain ⟨ks, n', h1, h2⟩ := draws_lc hg ht he ns (acc ++ [.int z]) (n + 1)
      refine ⟨z :: ks, n', h1.cons_cons z, ?_⟩
      rw [List.map_cons, comp_t (hg n) (show bindT _ _ _ = some (ρ.set i (some (.int z))) from rfl) (by rw [ht, hd]; rfl) (show lcB cf e _ _ _ = .ok (acc ++ [.int z]) (bx is (n + 1) E) by rw [lcB, he]; rfl), h2]
      simp
    · obtain ⟨ks, n', h1, h2⟩ := draws_lc hg ht he ns acc (n + 1)
      refine ⟨ks, n', h1.cons z, ?_⟩
      rw [List.map_cons, comp_f (hg n) (show bindT _ _ _ = some (ρ.set i (some (.int z))) from rfl) (by rw [ht, decide_eq_false hd]), h2]
theorem objects_lc (h : Tok T) (hh : HeapT T) (k : Nat) {is : List Int} {r i : Nat} {E : Store} {ns : List Int} (hE : E[r]? = some (.lst (ns.map D.int))) {ρ : Env} {g : Grd} {e : Ex} (hg : ∀ n, g.ok (bx is n E))
    (he : ∀ z n, matB (ev (callF T (k + 3)) e (ρ.set i (some (.int z))) (bx is n E)) = matB (callF T (k + 3) ("_law_object" : Str) [.ref 1, .int z, .ref (r + 2)] (bx is n E))) :
    ∀ (l : List Int) (acc : List D) (n : Nat), (∀ z ∈ l, z ∈ ns) → ∃ (os : List Ob) (n' : Nat), os.map Ob.num = l ∧ (∀ o ∈ os, (∀ y ∈ o.refs, y ∈ ns) ∧ o.small) ∧
      compL g (.var i .nil) ρ (tst (callF T (k + 3)) .nil) (lcB (callF T (k + 3)) e) (l.map D.int) (bx is n E) acc = .ok (acc ++ os.map Ob.d) (bx is n' E)
  | [], acc, n, _ => ⟨[], n, rfl, by simp, by rw [List.map_nil, comp_nil (hg n)]; simp⟩
  | z :: l, acc, n, hl => by
    have hn : ns ≠ [] := fun q => by have := hl z List.mem_cons_self; rw [q] at this; cases this
    obtain ⟨o, n1, ⟨o1, o2, o3⟩, e1⟩ := object_ok h hh k (is := is) (n := n) hE hn z
    obtain ⟨os, n', h1, h2, h3⟩ := objects_lc h hh k hE hg he l (acc ++ [o.d]) n1 fun y hy => hl y (List.mem_cons_of_mem _ hy)
    refine ⟨o :: os, n', by rw [List.map_cons, o1, h1], fun x hx => ?_, ?_⟩
    · rcases List.mem_cons.mp hx with rfl | hx
      · exact ⟨o2, o3⟩
      · exact h2 x hx
    · rw [List.map_cons, comp_t (hg n) (show bindT _ _ _ = some (ρ.set i (some (.int z))) from rfl) (tst_nil _ _ _) (show lcB _ e _ _ _ = .ok (acc ++ [o.d]) (bx is n1 E) by rw [lcB, he, e1]; rfl), h3]
      simp
def NumI (c : Nat) (ns : List Int) (at_ : Int) : Prop := ns.length = c ∧ ns.Pairwise (· < ·) ∧ (∀ z ∈ ns, 0 ≤ z ∧ z < at_) ∧ 0 ≤ at_
theorem gap (j : Nat) (h : j < 4) : ∃ d : Int, 0 ≤ d ∧ atI [D.int 0, .int 0, .int 0, .int 2] (j : Int) = some (.int d) := by
  match j, h with
  | 0, _ => exact ⟨0, by decide, rfl⟩
  | 1, _ => exact ⟨0, by decide, rfl⟩
  | 2, _ => exact ⟨0, by decide, rfl⟩
  | 3, _ => exact ⟨2, by decide, rfl⟩
theorem heap_ok2 (h : Tok T) (hh : HeapT T) (k : Nat) {is : List Int} {n : Nat} {E : Store} (most : Nat) (hm : most ≤ 60) :
    ∃ (v : Hv) (n' : Nat), (v.ok most ∧ 0 ≤ v.nxt ∧ 0 < v.regs.length) ∧ callF T (k + 4) ("_law_heap" : Str) [.ref 1, .int most] (bx is n E) = .ok (.d v.d) (bx is n' E) := by
  obtain ⟨rg, ⟨rg0, rg12⟩, hhp⟩ := hh.heap
  rw [call_eq hhp rfl]
  obtain ⟨v, n', ⟨o, rfl, ho⟩, e⟩ := fin_draw (is := is) (n := n) (E := E) (P := fun v => ∃ o : Hv, v = o.d ∧ (o.ok most ∧ 0 ≤ o.nxt ∧ 0 < o.regs.length)) (fun v ⟨o, e, _⟩ => e ▸ lo_heap _ o)
    (show RS.wp _ _ _ _ (exs (callF T (k + 3)) (bHeap rg) ([D.ref 1, .int most].map some ++ List.replicate (11 - 2) none) (bx is n E)) from by
      obtain ⟨m, hm1, hm2⟩ := draw_nat (is := is) (n := n) (m := most + 1) (by omega)
      have hm1 : dv is n ((most : Int) + 1) = (m : Int) := hm1
      have p0 : (0 : Int) < (most : Int) + 1 := by omega
      have r1 : rngOk 0 (m : Int) := rngOk_of (by omega) (by omega) (by omega) (by omega)
      simp [bHeap, draw_bx h, p0, hm1, r1]
      refine wp_then ?_
      refine wp_rng m (fun c ρ S' => ∃ (ns : List Int) (a : Int) (x5 : Option D) (n' : Nat), NumI c ns a ∧
          ρ = [some (.ref 1), some (.int most), some (.int m), some (.ref (E.length + 2)), some (.int a), x5, none, none, none, none, none] ∧ S' = bx is n' (E ++ [.lst (ns.map D.int)])) (by omega) ⟨[], _, _, _, ⟨rfl, .nil, by simp, Int.le_refl _⟩, rfl, rfl⟩ (fun c ρ S1 hc hI => ?_) (fun ρ S1 hI => ?_)
      · obtain ⟨ns, a, x5, n', ⟨i1, i2, i3, i4⟩, rfl, rfl⟩ := hI
        obtain ⟨j, hj, hj4⟩ := draw_nat (is := is) (n := n') (m := 4) (by decide)
        have hj : dv is n' 4 = (j : Int) := hj
        obtain ⟨d, hd, hd2⟩ := gap j hj4
        have hs : ns.length < 16777216 := by omega
        simp [draw_bx h, hj, hd2, sl_pos, hs]
        refine ⟨ns ++ [a + d], a + d + 1, ⟨by simp [i1], ?_, ?_, by omega⟩, rfl, n' + 1, by simp⟩
        · refine List.pairwise_append.mpr ⟨i2, by simp, ?_⟩
          intro x hx y hy
          rw [List.mem_singleton.mp hy]
          have := (i3 x hx).2; omega
        · intro z hz
          rcases List.mem_append.mp hz with hz | hz
          · have := i3 z hz; omega
          · rw [List.mem_singleton.mp hz]; omega
      · obtain ⟨ns, a, x5, n', ⟨i1, i2, i3, i4⟩, rfl, rfl⟩ := hI
        have hE1 : (E ++ [Cell.lst (ns.map D.int)])[E.length]? = some (.lst (ns.map D.int)) := by simp
        obtain ⟨os, n1, o1, o2, o3⟩ := objects_lc h hh k (is := is) (r := E.length) (i := 10) hE1 (ρ := wipeD [some (.ref 1), some (.int most), some (.int m), some (.ref (E.length + 2)), some (.int a), x5, none, none, none, none, none] [10]) (g := .at (E.length + 2) (.lst (ns.map D.int)))
          (e := .call ("_law_object" : PySem.Str) (.cons (.var 0) (.cons (.var 10) (.cons (.var 3) .nil)))) (by simp [Grd.ok]) (by intro z n; simp [wipeD]) ns [] n' (fun z h => h)
        obtain ⟨q, hq, hq12⟩ := draw_nat (is := is) (n := n1) (m := rg) rg0
        have rgp : (0 : Int) < (rg : Int) := by omega
        have r2 : rngOk 0 (1 + (q : Int)) := rngOk_of (by omega) (by omega) (by omega) (by omega)
        obtain ⟨fs, n2, f1, f2, f3⟩ := numbers_lc h hh (k + 1) (i := 5) (ρ := [some (.ref 1), some (.int most), some (.int m), some (.ref (E.length + 2)), some (.int a), x5, some (.tup (os.map Ob.d)), none, none, none, none]) (is := is) hE1 (q + 1) (hi := 1 + (q : Int)) (by omega) (n := n1) (n1 := n1 + 1)
          (e := .call ("_law_number" : PySem.Str) (.cons (.var 0) (.cons (.var 3) .nil))) (by intro j n; simp [wipeD])
        obtain ⟨ks, n3, k1, k2⟩ := draws_lc (cf := callF T (k + 3)) (is := is) (E := E ++ [Cell.lst (ns.map D.int)]) (i := 10) (g := .at (E.length + 2) (.lst (ns.map D.int))) (c := 6)
          (ρ := wipeD [some (.ref 1), some (.int most), some (.int m), some (.ref (E.length + 2)), some (.int a), x5, some (.tup (os.map Ob.d)), some (.tup (fs.map oD)), none, none, none] [10])
          (ifs := .cons (.ex (.cmp .eq (.call ("_law_draw" : PySem.Str) (.cons (.var 0) (.cons (.con (.int 6)) .nil))) (.con (.int 0)))) .nil) (e := .var 10)
          (by simp [Grd.ok]) (by intro z n; by_cases hd : dv is n 6 = 0 <;> simp [wipeD, draw_bx h, hd]) (by intro z n; simp [wipeD]) ns [] n2
        simp [wipeD] at o3 f3 k2
        simp [lcC, wipeD, o3, draw_bx h, rgp, rg0, hq, r2, f3, k2]
        refine wp_then ?_
        refine wp_map (fun done ρ S' => ∃ (ws : List (Int × Int)) (x10 : Option D) (n' : Nat), (ws.map (·.1)).Sublist done ∧ ρ = [some (.ref 1), some (.int most), some (.int m), some (.ref (E.length + 2)), some (.int a), x5, some (.tup (os.map Ob.d)), some (.tup (fs.map oD)), some (.tup (ks.map D.int)), some (.ref (E.length + 1 + 2)), x10] ∧
          S' = bx is n' (E ++ [.lst (ns.map D.int), .lst (ws.map pairD)])) ⟨[], _, _, .slnil, rfl, rfl⟩ (fun done ρ S1 hI => ?_) (fun done z rest ρ S1 e hI => ?_) (fun ρ S1 hI => ?_)
        · obtain ⟨ws, x10, n', w1, rfl, rfl⟩ := hI
          simp [Grd.ok]
        · obtain ⟨ws, x10, n', w1, rfl, rfl⟩ := hI
          have hs : ws.length < 16777216 := by
            have a1 := w1.length_le
            have a2 := congrArg List.length e
            simp at a1 a2; omega
          by_cases hd : dv is n' 3 = 0
          · simp [-List.map_append, draw_bx h, hd, sl_pos, hs]
            refine ⟨ws ++ [(z, 7 + dv is (n' + 1) 2)], ?_, n' + 1 + 1, by simp [pairD]⟩
            rw [List.map_append]
            exact List.Sublist.append w1 (List.Sublist.refl [z])
          · simp [draw_bx h, hd]
            exact ⟨ws, w1.trans (List.sublist_append_left _ _), _, rfl⟩
        · obtain ⟨ws, x10, n', w1, rfl, rfl⟩ := hI
          have d1 := dv_lo (is := is) (n := n') (m := 2) (by decide)
          simp [draw_bx h]
          refine ⟨⟨⟨a + dv is n' 2, fs, ks, os, ws⟩, rfl, ?_⟩, bx_snoc⟩
          have hn : (Hv.mk (a + dv is n' 2) fs ks os ws).nums = ns := o1
          refine ⟨⟨?_, by rw [hn]; exact i2, ?_, ?_, by rw [hn]; exact f2, by show fs.length ≤ 12; omega, ?_, fun o ho => (o2 o ho).2, by rw [hn]; exact k1, by rw [hn]; exact fun p hp => w1.subset (List.mem_map.mpr ⟨p, hp, rfl⟩), by have := w1.length_le; rw [List.length_map] at this; show ws.length ≤ most; omega⟩, by show 0 ≤ a + dv is n' 2; omega, by show 0 < fs.length; omega⟩
          · show os.length ≤ most
            have := congrArg List.length o1
            rw [List.length_map] at this; omega
          · rw [hn]; intro z hz; have := (i3 z hz).2; show z < a + dv is n' 2; omega
          · rw [hn]; exact fun z hz => (i3 z hz).1
          · rw [hn]; exact fun o ho => (o2 o ho).1)
  exact ⟨o, n', ho, e⟩
theorem heap_ok (h : Tok T) (hh : HeapT T) (k : Nat) {is : List Int} {n : Nat} {E : Store} (most : Nat) (hm : most ≤ 60) :
    ∃ (v : Hv) (n' : Nat), v.ok most ∧ callF T (k + 4) ("_law_heap" : Str) [.ref 1, .int most] (bx is n E) = .ok (.d v.d) (bx is n' E) := by
  obtain ⟨v, n', ⟨h1, _, _⟩, h2⟩ := heap_ok2 h hh k (is := is) (n := n) (E := E) most hm
  exact ⟨v, n', h1, h2⟩
end CH
namespace K58
open PySem PySem.Spec PyProof.Rows L2 CH
def top (i : Nat) : Stmt := PySem.Challenge.pw_courthouse_k58_pages_of_one_size.main.body.getD i (.Pass ⟨0, 0, 0, 0⟩)
def con : List Con := []
def blt : List Str := [("len" : PySem.Str), ("int" : PySem.Str), ("tuple" : PySem.Str), ("list" : PySem.Str), ("sorted" : PySem.Str), ("bool" : PySem.Str), ("isinstance" : PySem.Str), ("str" : PySem.Str), ("range" : PySem.Str), ("enumerate" : PySem.Str), ("set" : PySem.Str)]
def wr : Wr := ⟨[], []⟩
def b_class_of : Sts := (.cons (.for (.var 2 .nil) (.ex (.var 0)) (.cons (.ite (.ex (.cmp .ge (.var 2) (.var 1))) (.cons (.ret (.var 2))
  .nil) .nil)
  .nil))
  (.cons (.ret (.con .non))
  .nil))
def d_class_of : Dsc := ⟨("class_of" : PySem.Str), [("classes" : PySem.Str), ("size" : PySem.Str)], [("classes" : PySem.Str), ("size" : PySem.Str), ("known" : PySem.Str)], top 1, b_class_of, false, ("class_of" : PySem.Str)⟩
def b_new_pages : Sts := (.cons (.ret (.tup (.cons (.con (.str ("pages" : PySem.Str))) (.cons (.var 0) (.cons (.var 2) (.cons (.bin .mul (.tup (.cons (.tup (.cons (.con (.int 0)) (.cons (.tup .nil) .nil))) .nil)) (.var 1)) .nil))))))
  .nil)
def d_new_pages : Dsc := ⟨("new_pages" : PySem.Str), [("cells" : PySem.Str), ("many" : PySem.Str), ("classes" : PySem.Str)], [("cells" : PySem.Str), ("many" : PySem.Str), ("classes" : PySem.Str)], top 2, b_new_pages, false, ("new_pages" : PySem.Str)⟩
def b_slots : Sts := (.cons (.ret (.bin .fdiv (.idx (.var 0) (.con (.int 1))) (.var 1)))
  .nil)
def d_slots : Dsc := ⟨("slots" : PySem.Str), [("store" : PySem.Str), ("size" : PySem.Str)], [("store" : PySem.Str), ("size" : PySem.Str)], top 3, b_slots, false, ("slots" : PySem.Str)⟩
def b_open_page : Sts := (.cons (.for (.tup (.var 2 (.tup (.var 3 (.var 4 .nil)) .nil)) .nil) (.enu (.idx (.var 0) (.con (.int 3)))) (.cons (.ite (.and (.ex (.cmp .eq (.var 3) (.var 1))) (.ex (.cmp .mem (.con (.bl false)) (.var 4)))) (.cons (.ret (.var 2))
  .nil) .nil)
  .nil))
  (.cons (.for (.tup (.var 2 (.tup (.var 3 (.var 5 .nil)) .nil)) .nil) (.enu (.idx (.var 0) (.con (.int 3)))) (.cons (.ite (.ex (.cmp .eq (.var 3) (.con (.int 0)))) (.cons (.ret (.var 2))
  .nil) .nil)
  .nil))
  (.cons (.ret (.con .non))
  .nil)))
def d_open_page : Dsc := ⟨("open_page" : PySem.Str), [("store" : PySem.Str), ("size" : PySem.Str)], [("store" : PySem.Str), ("size" : PySem.Str), ("place" : PySem.Str), ("own" : PySem.Str), ("lent" : PySem.Str), ("_" : PySem.Str)], top 4, b_open_page, false, ("open_page" : PySem.Str)⟩
def b_with_page : Sts := (.cons (.ret (.bin .add (.slc (.var 0) (.con .non) (.con (.int 3))) (.tup (.cons (.bin .add (.bin .add (.slc (.idx (.var 0) (.con (.int 3))) (.con .non) (.var 1)) (.tup (.cons (.var 2) .nil))) (.slc (.idx (.var 0) (.con (.int 3))) (.bin .add (.var 1) (.con (.int 1))) (.con .non))) .nil))))
  .nil)
def d_with_page : Dsc := ⟨("with_page" : PySem.Str), [("store" : PySem.Str), ("place" : PySem.Str), ("page" : PySem.Str)], [("store" : PySem.Str), ("place" : PySem.Str), ("page" : PySem.Str)], top 5, b_with_page, false, ("with_page" : PySem.Str)⟩
def b_lend_slot : Sts := (.cons (.set (.var 2) (.call ("class_of" : PySem.Str) (.cons (.idx (.var 0) (.con (.int 2))) (.cons (.var 1) .nil))))
  (.cons (.set (.var 3) (.ite (.ex (.cmp .is (.var 2) (.con .non))) (.con .non) (.call ("open_page" : PySem.Str) (.cons (.var 0) (.cons (.var 2) .nil)))))
  (.cons (.ite (.ex (.cmp .is (.var 3) (.con .non))) (.cons (.ret (.tup (.cons (.var 0) (.cons (.con .non) .nil))))
  .nil) .nil)
  (.cons (.set (.tup (.var 6 (.var 7 .nil))) (.idx (.idx (.var 0) (.con (.int 3))) (.var 3)))
  (.cons (.ite (.ex (.cmp .eq (.var 6) (.con (.int 0)))) (.cons (.set (.var 7) (.bin .mul (.tup (.cons (.con (.bl false)) .nil)) (.call ("slots" : PySem.Str) (.cons (.var 0) (.cons (.var 2) .nil)))))
  .nil) .nil)
  (.cons (.set (.var 4) (.m1 .index (.var 7) (.con (.bl false))))
  (.cons (.set (.var 5) (.tup (.cons (.var 2) (.cons (.bin .add (.bin .add (.slc (.var 7) (.con .non) (.var 4)) (.tup (.cons (.con (.bl true)) .nil))) (.slc (.var 7) (.bin .add (.var 4) (.con (.int 1))) (.con .non))) .nil))))
  (.cons (.ret (.tup (.cons (.call ("with_page" : PySem.Str) (.cons (.var 0) (.cons (.var 3) (.cons (.var 5) .nil)))) (.cons (.bin .add (.bin .mul (.var 3) (.idx (.var 0) (.con (.int 1)))) (.bin .mul (.var 4) (.var 2))) .nil))))
  .nil))))))))
def d_lend_slot : Dsc := ⟨("lend_slot" : PySem.Str), [("store" : PySem.Str), ("size" : PySem.Str)], [("store" : PySem.Str), ("size" : PySem.Str), ("known" : PySem.Str), ("place" : PySem.Str), ("slot" : PySem.Str), ("page" : PySem.Str), ("own" : PySem.Str), ("lent" : PySem.Str)], top 6, b_lend_slot, false, ("lend_slot" : PySem.Str)⟩
def b_slot_at : Sts := (.cons (.set (.var 2) (.bin .fdiv (.var 1) (.idx (.var 0) (.con (.int 1)))))
  (.cons (.ite (.or (.ex (.cmp .ge (.var 2) (.b1 .len (.idx (.var 0) (.con (.int 3)))))) (.ex (.cmp .eq (.idx (.idx (.idx (.var 0) (.con (.int 3))) (.var 2)) (.con (.int 0))) (.con (.int 0))))) (.cons (.ret (.con .non))
  .nil) .nil)
  (.cons (.set (.tup (.var 4 (.var 5 .nil))) (.idx (.idx (.var 0) (.con (.int 3))) (.var 2)))
  (.cons (.set (.var 3) (.bin .sub (.var 1) (.bin .mul (.var 2) (.idx (.var 0) (.con (.int 1))))))
  (.cons (.ite (.or (.ex (.cmp .ne (.bin .mod (.var 3) (.var 4)) (.con (.int 0)))) (.or (.ex (.cmp .ge (.bin .fdiv (.var 3) (.var 4)) (.b1 .len (.var 5)))) (.not (.ex (.idx (.var 5) (.bin .fdiv (.var 3) (.var 4))))))) (.cons (.ret (.con .non))
  .nil) .nil)
  (.cons (.ret (.tup (.cons (.var 2) (.cons (.bin .fdiv (.var 3) (.var 4)) .nil))))
  .nil))))))
def d_slot_at : Dsc := ⟨("slot_at" : PySem.Str), [("store" : PySem.Str), ("address" : PySem.Str)], [("store" : PySem.Str), ("address" : PySem.Str), ("place" : PySem.Str), ("rest" : PySem.Str), ("own" : PySem.Str), ("lent" : PySem.Str)], top 7, b_slot_at, false, ("slot_at" : PySem.Str)⟩
def b_back_slot : Sts := (.cons (.set (.var 2) (.call ("slot_at" : PySem.Str) (.cons (.var 0) (.cons (.var 1) .nil))))
  (.cons (.ite (.ex (.cmp .is (.var 2) (.con .non))) (.cons (.ret (.con .non))
  .nil) .nil)
  (.cons (.set (.tup (.var 4 (.var 5 .nil))) (.var 2))
  (.cons (.set (.tup (.var 6 (.var 7 .nil))) (.idx (.idx (.var 0) (.con (.int 3))) (.var 4)))
  (.cons (.set (.var 3) (.bin .add (.bin .add (.slc (.var 7) (.con .non) (.var 5)) (.tup (.cons (.con (.bl false)) .nil))) (.slc (.var 7) (.bin .add (.var 5) (.con (.int 1))) (.con .non))))
  (.cons (.ret (.call ("with_page" : PySem.Str) (.cons (.var 0) (.cons (.var 4) (.cons (.ite (.ex (.cmp .mem (.con (.bl true)) (.var 3))) (.tup (.cons (.var 6) (.cons (.var 3) .nil))) (.tup (.cons (.con (.int 0)) (.cons (.tup .nil) .nil)))) .nil)))))
  .nil))))))
def d_back_slot : Dsc := ⟨("back_slot" : PySem.Str), [("store" : PySem.Str), ("address" : PySem.Str)], [("store" : PySem.Str), ("address" : PySem.Str), ("found" : PySem.Str), ("left" : PySem.Str), ("place" : PySem.Str), ("slot" : PySem.Str), ("own" : PySem.Str), ("lent" : PySem.Str)], top 8, b_back_slot, false, ("back_slot" : PySem.Str)⟩
def b_lent_slots : Sts := (.cons (.ret (.gen .tuple [1, 4, 5, 2, 3] (.tup (.var 1 (.tup (.var 4 (.var 5 .nil)) .nil)) .nil) (.enu (.idx (.var 0) (.con (.int 3)))) .nil (.cons (.tup (.var 2 (.var 3 .nil)) .nil) (.enu (.var 5)) (.cons (.ex (.var 3)) .nil) (.elt (.tup (.cons (.bin .add (.bin .mul (.var 1) (.idx (.var 0) (.con (.int 1)))) (.bin .mul (.var 2) (.var 4))) (.cons (.var 4) .nil)))))))
  .nil)
def d_lent_slots : Dsc := ⟨("lent_slots" : PySem.Str), [("store" : PySem.Str)], [("store" : PySem.Str), ("place" : PySem.Str), ("slot" : PySem.Str), ("taken" : PySem.Str), ("own" : PySem.Str), ("lent" : PySem.Str)], top 9, b_lent_slots, true, ("lent_slots" : PySem.Str)⟩
def b_run_pages : Sts := (.cons (.set (.var 4) (.call ("new_pages" : PySem.Str) (.cons (.var 0) (.cons (.var 1) (.cons (.var 2) .nil)))))
  (.cons (.set (.var 5) (.lst .nil))
  (.cons (.for (.var 6 .nil) (.ex (.var 3)) (.cons (.ite (.ex (.cmp .eq (.idx (.var 6) (.con (.int 0))) (.con (.str ("lend" : PySem.Str))))) (.cons (.set (.tup (.var 4 (.var 8 .nil))) (.call ("lend_slot" : PySem.Str) (.cons (.var 4) (.cons (.idx (.var 6) (.con (.int 1))) .nil))))
  (.cons (.ex (.m1 .append (.var 5) (.var 8)))
  .nil)) (.cons (.set (.var 7) (.call ("back_slot" : PySem.Str) (.cons (.var 4) (.cons (.idx (.var 6) (.con (.int 1))) .nil))))
  (.cons (.ex (.m1 .append (.var 5) (.cmp .isn (.var 7) (.con .non))))
  (.cons (.set (.var 4) (.ite (.ex (.cmp .is (.var 7) (.con .non))) (.var 4) (.var 7)))
  .nil))))
  .nil))
  (.cons (.ret (.tup (.cons (.b1 .tuple (.var 5)) (.cons (.var 4) .nil))))
  .nil))))
def d_run_pages : Dsc := ⟨("run_pages" : PySem.Str), [("cells" : PySem.Str), ("many" : PySem.Str), ("classes" : PySem.Str), ("script" : PySem.Str)], [("cells" : PySem.Str), ("many" : PySem.Str), ("classes" : PySem.Str), ("script" : PySem.Str), ("store" : PySem.Str), ("results" : PySem.Str), ("order" : PySem.Str), ("behind" : PySem.Str), ("found" : PySem.Str)], top 10, b_run_pages, false, ("run_pages" : PySem.Str)⟩
def b_law_box : Sts := (.cons (.ret (.lst (.cons (.call ("_law_digits" : PySem.Str) (.cons (.var 0) (.cons (.var 1) (.cons (.var 2) .nil)))) (.cons (.con (.int 0)) .nil))))
  .nil)
def d_law_box : Dsc := ⟨("_law_box" : PySem.Str), [("script" : PySem.Str), ("first" : PySem.Str), ("last" : PySem.Str)], [("script" : PySem.Str), ("first" : PySem.Str), ("last" : PySem.Str)], top 12, b_law_box, false, ("_law_box" : PySem.Str)⟩
def b_law_digits : Sts := (.cons (.set (.var 3) (.lst .nil))
  (.cons (.for (.var 4 .nil) (.rng (.var 1) (.var 2)) (.cons (.set (.var 5) (.call ("_law_cell" : PySem.Str) (.cons (.var 0) (.cons (.var 4) .nil))))
  (.cons (.ite (.ex (.cmp .lt (.var 5) (.con (.int 0)))) (.cons (.set (.var 5) (.bin .sub (.con (.int 1)) (.bin .mul (.con (.int 2)) (.var 5))))
  .nil) .nil)
  (.cons (.ite (.ex (.cmp .ge (.var 5) (.bin .pow (.con (.int 10)) (.con (.int 18))))) (.cons (.for (.var 6 .nil) (.rng (.con (.int 0)) (.con (.int 60))) (.cons (.ite (.ex (.cmp .gt (.var 5) (.con (.int 0)))) (.cons (.ex (.m1 .append (.var 3) (.bin .mod (.b1 .int (.var 5)) (.con (.int 1000)))))
  (.cons (.set (.var 5) (.bin .fdiv (.var 5) (.con (.int 1000))))
  .nil)) .nil)
  .nil))
  .nil) (.cons (.set (.var 7) (.bin .mod (.b1 .int (.bin .add (.bin .add (.bin .mul (.var 5) (.con (.int 48271))) (.bin .mul (.var 4) (.con (.int 69621)))) (.con (.int 11)))) (.con (.int 2147483647))))
  (.cons (.for (.var 6 .nil) (.rng (.con (.int 0)) (.con (.int 12))) (.cons (.set (.var 7) (.bin .mod (.b1 .int (.bin .add (.bin .add (.bin .mul (.var 7) (.con (.int 16807))) (.bin .mul (.con (.int 7)) (.var 6))) (.con (.int 1)))) (.con (.int 2147483647))))
  (.cons (.ex (.m1 .append (.var 3) (.bin .mod (.b1 .int (.bin .fdiv (.var 7) (.con (.int 997)))) (.con (.int 1000)))))
  .nil)))
  .nil)))
  .nil))))
  (.cons (.ret (.var 3))
  .nil)))
def d_law_digits : Dsc := ⟨("_law_digits" : PySem.Str), [("script" : PySem.Str), ("first" : PySem.Str), ("last" : PySem.Str)], [("script" : PySem.Str), ("first" : PySem.Str), ("last" : PySem.Str), ("digits" : PySem.Str), ("k" : PySem.Str), ("cell" : PySem.Str), ("turn" : PySem.Str), ("seed" : PySem.Str)], top 13, b_law_digits, false, ("_law_digits" : PySem.Str)⟩
def b_law_cell : Sts := (.cons (.ite (.ex (.cmp .lt (.var 1) (.b1 .len (.var 0)))) (.cons (.ret (.idx (.var 0) (.var 1)))
  .nil) .nil)
  (.cons (.ret (.con (.int 0)))
  .nil))
def d_law_cell : Dsc := ⟨("_law_cell" : PySem.Str), [("script" : PySem.Str), ("k" : PySem.Str)], [("script" : PySem.Str), ("k" : PySem.Str)], top 14, b_law_cell, false, ("_law_cell" : PySem.Str)⟩
def b_law_draw : Sts := (.cons (.set (.var 2) (.idx (.var 0) (.con (.int 1))))
  (.cons (.set (.sub (.var 0) (.con (.int 1))) (.bin .add (.var 2) (.con (.int 1))))
  (.cons (.ite (.ex (.cmp .lt (.var 2) (.b1 .len (.idx (.var 0) (.con (.int 0)))))) (.cons (.ret (.bin .mod (.b1 .int (.idx (.idx (.var 0) (.con (.int 0))) (.var 2))) (.var 1)))
  .nil) .nil)
  (.cons (.ret (.con (.int 0)))
  .nil))))
def d_law_draw : Dsc := ⟨("_law_draw" : PySem.Str), [("box" : PySem.Str), ("many" : PySem.Str)], [("box" : PySem.Str), ("many" : PySem.Str), ("at" : PySem.Str)], top 15, b_law_draw, false, ("_law_draw" : PySem.Str)⟩
def b_law_same : Sts := (.cons (.ite (.ex (.isi (.var 1) .tuple)) (.cons (.ite (.or (.not (.ex (.isi (.var 0) .tuple))) (.ex (.cmp .ne (.b1 .len (.var 0)) (.b1 .len (.var 1))))) (.cons (.ret (.con (.bl false)))
  .nil) .nil)
  (.cons (.for (.var 2 .nil) (.rng (.con (.int 0)) (.b1 .len (.var 1))) (.cons (.ite (.not (.ex (.call ("_law_same" : PySem.Str) (.cons (.idx (.var 0) (.var 2)) (.cons (.idx (.var 1) (.var 2)) .nil))))) (.cons (.ret (.con (.bl false)))
  .nil) .nil)
  .nil))
  (.cons (.ret (.con (.bl true)))
  .nil))) .nil)
  (.cons (.ite (.ex (.cmp .is (.var 1) (.con .non))) (.cons (.ret (.cmp .is (.var 0) (.con .non)))
  .nil) .nil)
  (.cons (.ite (.ex (.isi (.var 1) .bool)) (.cons (.ret (.and (.isi (.var 0) .bool) (.cmp .eq (.var 0) (.var 1))))
  .nil) .nil)
  (.cons (.ite (.ex (.isi (.var 1) .int)) (.cons (.ret (.and (.isi (.var 0) .int) (.and (.not (.isi (.var 0) .bool)) (.cmp .eq (.var 0) (.var 1)))))
  .nil) .nil)
  (.cons (.ret (.and (.isi (.var 0) .str) (.cmp .eq (.var 0) (.var 1))))
  .nil)))))
def d_law_same : Dsc := ⟨("_law_same" : PySem.Str), [("actual" : PySem.Str), ("expected" : PySem.Str)], [("actual" : PySem.Str), ("expected" : PySem.Str), ("k" : PySem.Str)], top 16, b_law_same, false, ("_law_same" : PySem.Str)⟩
def b_law_lend : Sts := (.cons (.set (.var 3) (.lc [4] (.var 4) (.var 4 .nil) (.ex (.var 1)) (.cons (.ex (.cmp .ge (.var 4) (.var 2))) .nil)))
  (.cons (.ite (.ex (.cmp .eq (.b1 .len (.var 3)) (.con (.int 0)))) (.cons (.ret (.con .non))
  .nil) .nil)
  (.cons (.set (.var 4) (.idx (.var 3) (.con (.int 0))))
  (.cons (.for (.var 5 .nil) (.rng (.con (.int 0)) (.b1 .len (.var 0))) (.cons (.ite (.and (.ex (.cmp .eq (.idx (.idx (.var 0) (.var 5)) (.con (.int 0))) (.var 4))) (.ex (.cmp .mem (.con (.bl false)) (.idx (.idx (.var 0) (.var 5)) (.con (.int 1)))))) (.cons (.ret (.tup (.cons (.var 5) (.cons (.m1 .index (.idx (.idx (.var 0) (.var 5)) (.con (.int 1))) (.con (.bl false))) (.cons (.var 4) .nil)))))
  .nil) .nil)
  .nil))
  (.cons (.for (.var 5 .nil) (.rng (.con (.int 0)) (.b1 .len (.var 0))) (.cons (.ite (.ex (.cmp .eq (.idx (.idx (.var 0) (.var 5)) (.con (.int 0))) (.con (.int 0)))) (.cons (.ret (.tup (.cons (.var 5) (.cons (.con (.int 0)) (.cons (.var 4) .nil)))))
  .nil) .nil)
  .nil))
  (.cons (.ret (.con .non))
  .nil))))))
def d_law_lend : Dsc := ⟨("_law_lend" : PySem.Str), [("pages" : PySem.Str), ("classes" : PySem.Str), ("many" : PySem.Str)], [("pages" : PySem.Str), ("classes" : PySem.Str), ("many" : PySem.Str), ("fits" : PySem.Str), ("size" : PySem.Str), ("k" : PySem.Str)], top 17, b_law_lend, false, ("_law_lend" : PySem.Str)⟩
def b_law_lent : Sts := (.cons (.set (.var 2) (.lst .nil))
  (.cons (.for (.var 3 .nil) (.rng (.con (.int 0)) (.b1 .len (.var 0))) (.cons (.set (.tup (.var 4 (.var 5 .nil))) (.idx (.var 0) (.var 3)))
  (.cons (.set (.var 2) (.bin .add (.var 2) (.lc [6] (.tup (.cons (.bin .add (.bin .mul (.var 3) (.var 1)) (.bin .mul (.var 6) (.var 4))) (.cons (.var 4) .nil))) (.var 6 .nil) (.rng (.con (.int 0)) (.b1 .len (.var 5))) (.cons (.ex (.idx (.var 5) (.var 6))) .nil))))
  .nil)))
  (.cons (.ret (.var 2))
  .nil)))
def d_law_lent : Dsc := ⟨("_law_lent" : PySem.Str), [("pages" : PySem.Str), ("cells" : PySem.Str)], [("pages" : PySem.Str), ("cells" : PySem.Str), ("rows" : PySem.Str), ("place" : PySem.Str), ("size" : PySem.Str), ("lent" : PySem.Str), ("slot" : PySem.Str)], top 18, b_law_lent, false, ("_law_lent" : PySem.Str)⟩
def b_law : Sts := (.cons (.set (.var 1) (.call ("_law_box" : PySem.Str) (.cons (.var 0) (.cons (.con (.int 0)) (.cons (.con (.int 63)) .nil)))))
  (.cons (.set (.var 2) (.bin .add (.con (.int 4)) (.call ("_law_draw" : PySem.Str) (.cons (.var 1) (.cons (.con (.int 21)) .nil)))))
  (.cons (.set (.var 3) (.bin .add (.con (.int 1)) (.call ("_law_draw" : PySem.Str) (.cons (.var 1) (.cons (.con (.int 6)) .nil)))))
  (.cons (.set (.var 4) (.b1 .tuple (.sset (.lc [9] (.bin .add (.con (.int 1)) (.call ("_law_draw" : PySem.Str) (.cons (.var 1) (.cons (.var 2) .nil)))) (.var 9 .nil) (.rng (.con (.int 0)) (.bin .add (.con (.int 1)) (.call ("_law_draw" : PySem.Str) (.cons (.var 1) (.cons (.con (.int 3)) .nil))))) .nil))))
  (.cons (.set (.var 5) (.call ("new_pages" : PySem.Str) (.cons (.var 2) (.cons (.var 3) (.cons (.var 4) .nil)))))
  (.cons (.set (.var 6) (.bin .mul (.lst (.cons (.tup (.cons (.con (.int 0)) (.cons (.tup .nil) .nil))) .nil)) (.var 3)))
  (.cons (.set (.var 7) (.lst .nil))
  (.cons (.set (.var 8) (.lst .nil))
  (.cons (.for (.var 9 .nil) (.rng (.con (.int 0)) (.call ("_law_draw" : PySem.Str) (.cons (.var 1) (.cons (.con (.int 21)) .nil)))) (.cons (.ite (.ex (.cmp .gt (.call ("_law_draw" : PySem.Str) (.cons (.var 1) (.cons (.con (.int 3)) .nil))) (.con (.int 0)))) (.cons (.set (.var 10) (.bin .add (.con (.int 1)) (.call ("_law_draw" : PySem.Str) (.cons (.var 1) (.cons (.var 2) .nil)))))
  (.cons (.set (.var 11) (.con .non))
  (.cons (.set (.var 12) (.call ("_law_lend" : PySem.Str) (.cons (.var 6) (.cons (.var 4) (.cons (.var 10) .nil)))))
  (.cons (.ite (.ex (.cmp .isn (.var 12) (.con .non))) (.cons (.set (.tup (.var 17 (.var 19 (.var 18 .nil)))) (.var 12))
  (.cons (.set (.var 16) (.b1 .list (.idx (.idx (.var 6) (.var 17)) (.con (.int 1)))))
  (.cons (.ite (.ex (.cmp .eq (.idx (.idx (.var 6) (.var 17)) (.con (.int 0))) (.con (.int 0)))) (.cons (.set (.var 16) (.bin .mul (.lst (.cons (.con (.bl false)) .nil)) (.bin .fdiv (.var 2) (.var 18))))
  .nil) .nil)
  (.cons (.set (.sub (.var 16) (.var 19)) (.con (.bl true)))
  (.cons (.set (.sub (.var 6) (.var 17)) (.tup (.cons (.var 18) (.cons (.b1 .tuple (.var 16)) .nil))))
  (.cons (.set (.var 11) (.bin .add (.bin .mul (.var 17) (.var 2)) (.bin .mul (.var 19) (.var 18))))
  .nil)))))) .nil)
  (.cons (.set (.var 13) (.call ("lend_slot" : PySem.Str) (.cons (.var 5) (.cons (.var 10) .nil))))
  (.cons (.set (.var 5) (.idx (.var 13) (.con (.int 0))))
  (.cons (.ite (.not (.ex (.call ("_law_same" : PySem.Str) (.cons (.idx (.var 13) (.con (.int 1))) (.cons (.var 11) .nil))))) (.cons (.ret (.con (.bl false)))
  .nil) .nil)
  (.cons (.ex (.m1 .append (.var 7) (.tup (.cons (.con (.str ("lend" : PySem.Str))) (.cons (.var 10) .nil)))))
  (.cons (.ex (.m1 .append (.var 8) (.var 11)))
  .nil))))))))) (.cons (.set (.var 14) (.call ("_law_draw" : PySem.Str) (.cons (.var 1) (.cons (.bin .add (.bin .mul (.var 2) (.var 3)) (.con (.int 3))) .nil))))
  (.cons (.set (.var 15) (.call ("_law_lent" : PySem.Str) (.cons (.var 6) (.cons (.var 2) .nil))))
  (.cons (.ite (.and (.ex (.cmp .gt (.b1 .len (.var 15)) (.con (.int 0)))) (.ex (.cmp .gt (.call ("_law_draw" : PySem.Str) (.cons (.var 1) (.cons (.con (.int 3)) .nil))) (.con (.int 0))))) (.cons (.set (.var 14) (.idx (.idx (.var 15) (.bin .mod (.b1 .int (.call ("_law_draw" : PySem.Str) (.cons (.var 1) (.cons (.con (.int 1000)) .nil)))) (.b1 .len (.var 15)))) (.con (.int 0))))
  .nil) .nil)
  (.cons (.set (.var 11) (.cmp .mem (.var 14) (.lc [20] (.idx (.var 20) (.con (.int 0))) (.var 20 .nil) (.ex (.var 15)) .nil)))
  (.cons (.set (.var 13) (.call ("back_slot" : PySem.Str) (.cons (.var 5) (.cons (.var 14) .nil))))
  (.cons (.ite (.ex (.cmp .ne (.cmp .isn (.var 13) (.con .non)) (.var 11))) (.cons (.ret (.con (.bl false)))
  .nil) .nil)
  (.cons (.ite (.ex (.var 11)) (.cons (.set (.var 17) (.bin .fdiv (.var 14) (.var 2)))
  (.cons (.set (.var 18) (.idx (.idx (.var 6) (.var 17)) (.con (.int 0))))
  (.cons (.set (.var 16) (.b1 .list (.idx (.idx (.var 6) (.var 17)) (.con (.int 1)))))
  (.cons (.set (.sub (.var 16) (.bin .fdiv (.bin .sub (.var 14) (.bin .mul (.var 17) (.var 2))) (.var 18))) (.con (.bl false)))
  (.cons (.set (.sub (.var 6) (.var 17)) (.tup (.cons (.var 18) (.cons (.b1 .tuple (.var 16)) .nil))))
  (.cons (.ite (.ex (.cmp .nmem (.con (.bl true)) (.var 16))) (.cons (.set (.sub (.var 6) (.var 17)) (.tup (.cons (.con (.int 0)) (.cons (.tup .nil) .nil))))
  .nil) .nil)
  (.cons (.set (.var 5) (.var 13))
  .nil))))))) .nil)
  (.cons (.ex (.m1 .append (.var 7) (.tup (.cons (.con (.str ("back" : PySem.Str))) (.cons (.var 14) .nil)))))
  (.cons (.ex (.m1 .append (.var 8) (.var 11)))
  .nil))))))))))
  (.cons (.ite (.or (.not (.ex (.call ("_law_same" : PySem.Str) (.cons (.var 5) (.cons (.tup (.cons (.con (.str ("pages" : PySem.Str))) (.cons (.var 2) (.cons (.var 4) (.cons (.b1 .tuple (.var 6)) .nil))))) .nil))))) (.not (.ex (.call ("_law_same" : PySem.Str) (.cons (.call ("lent_slots" : PySem.Str) (.cons (.var 5) .nil)) (.cons (.b1 .tuple (.call ("_law_lent" : PySem.Str) (.cons (.var 6) (.cons (.var 2) .nil)))) .nil)))))) (.cons (.ret (.con (.bl false)))
  .nil) .nil)
  .nil)))
  (.cons (.ret (.call ("_law_same" : PySem.Str) (.cons (.call ("run_pages" : PySem.Str) (.cons (.var 2) (.cons (.var 3) (.cons (.var 4) (.cons (.b1 .tuple (.var 7)) .nil))))) (.cons (.tup (.cons (.b1 .tuple (.var 8)) (.cons (.var 5) .nil))) .nil))))
  .nil))))))))))
def d_law : Dsc := ⟨("law" : PySem.Str), [("script" : PySem.Str)], [("script" : PySem.Str), ("box" : PySem.Str), ("cells" : PySem.Str), ("many" : PySem.Str), ("classes" : PySem.Str), ("store" : PySem.Str), ("pages" : PySem.Str), ("orders" : PySem.Str), ("results" : PySem.Str), ("k" : PySem.Str), ("wanted" : PySem.Str), ("due" : PySem.Str), ("found" : PySem.Str), ("told" : PySem.Str), ("address" : PySem.Str), ("known" : PySem.Str), ("lent" : PySem.Str), ("place" : PySem.Str), ("size" : PySem.Str), ("slot" : PySem.Str), ("row" : PySem.Str)], top 19, b_law, false, ("law" : PySem.Str)⟩
def ds : List Dsc := [d_class_of, d_new_pages, d_slots, d_open_page, d_with_page, d_lend_slot, d_slot_at, d_back_slot, d_lent_slots, d_run_pages, d_law_box, d_law_digits, d_law_cell, d_law_draw, d_law_same, d_law_lend, d_law_lent, d_law]
theorem ok_class_of : DefOk (prgOf ds con blt wr) 400 d_class_of := ⟨fun kV doc pm an cdv ct us hl => match us, hl with | [_, _], _ => rfl, ⟨rfl, rfl, rfl, by decide +kernel, rfl, by decide +kernel, by decide +kernel⟩, by kernel_rfl⟩
theorem ok_new_pages : DefOk (prgOf ds con blt wr) 400 d_new_pages := ⟨fun kV doc pm an cdv ct us hl => match us, hl with | [_, _, _], _ => rfl, ⟨rfl, rfl, rfl, by decide +kernel, rfl, by decide +kernel, by decide +kernel⟩, by kernel_rfl⟩
theorem ok_slots : DefOk (prgOf ds con blt wr) 400 d_slots := ⟨fun kV doc pm an cdv ct us hl => match us, hl with | [_, _], _ => rfl, ⟨rfl, rfl, rfl, by decide +kernel, rfl, by decide +kernel, by decide +kernel⟩, by kernel_rfl⟩
theorem ok_open_page : DefOk (prgOf ds con blt wr) 400 d_open_page := ⟨fun kV doc pm an cdv ct us hl => match us, hl with | [_, _], _ => rfl, ⟨rfl, rfl, rfl, by decide +kernel, rfl, by decide +kernel, by decide +kernel⟩, by kernel_rfl⟩
theorem ok_with_page : DefOk (prgOf ds con blt wr) 400 d_with_page := ⟨fun kV doc pm an cdv ct us hl => match us, hl with | [_, _, _], _ => rfl, ⟨rfl, rfl, rfl, by decide +kernel, rfl, by decide +kernel, by decide +kernel⟩, by kernel_rfl⟩
theorem ok_lend_slot : DefOk (prgOf ds con blt wr) 400 d_lend_slot := ⟨fun kV doc pm an cdv ct us hl => match us, hl with | [_, _], _ => rfl, ⟨rfl, rfl, rfl, by decide +kernel, rfl, by decide +kernel, by decide +kernel⟩, by kernel_rfl⟩
theorem ok_slot_at : DefOk (prgOf ds con blt wr) 400 d_slot_at := ⟨fun kV doc pm an cdv ct us hl => match us, hl with | [_, _], _ => rfl, ⟨rfl, rfl, rfl, by decide +kernel, rfl, by decide +kernel, by decide +kernel⟩, by kernel_rfl⟩
theorem ok_back_slot : DefOk (prgOf ds con blt wr) 400 d_back_slot := ⟨fun kV doc pm an cdv ct us hl => match us, hl with | [_, _], _ => rfl, ⟨rfl, rfl, rfl, by decide +kernel, rfl, by decide +kernel, by decide +kernel⟩, by kernel_rfl⟩
theorem ok_lent_slots : DefOk (prgOf ds con blt wr) 400 d_lent_slots := ⟨fun kV doc pm an cdv ct us hl => match us, hl with | [_], _ => rfl, ⟨rfl, rfl, rfl, by decide +kernel, rfl, by decide +kernel, by decide +kernel⟩, by kernel_rfl⟩
theorem ok_run_pages : DefOk (prgOf ds con blt wr) 400 d_run_pages := ⟨fun kV doc pm an cdv ct us hl => match us, hl with | [_, _, _, _], _ => rfl, ⟨rfl, rfl, rfl, by decide +kernel, rfl, by decide +kernel, by decide +kernel⟩, by kernel_rfl⟩
theorem ok_law_box : DefOk (prgOf ds con blt wr) 400 d_law_box := ⟨fun kV doc pm an cdv ct us hl => match us, hl with | [_, _, _], _ => rfl, ⟨rfl, rfl, rfl, by decide +kernel, rfl, by decide +kernel, by decide +kernel⟩, by kernel_rfl⟩
theorem ok_law_digits : DefOk (prgOf ds con blt wr) 400 d_law_digits := ⟨fun kV doc pm an cdv ct us hl => match us, hl with | [_, _, _], _ => rfl, ⟨rfl, rfl, rfl, by decide +kernel, rfl, by decide +kernel, by decide +kernel⟩, by kernel_rfl⟩
theorem ok_law_cell : DefOk (prgOf ds con blt wr) 400 d_law_cell := ⟨fun kV doc pm an cdv ct us hl => match us, hl with | [_, _], _ => rfl, ⟨rfl, rfl, rfl, by decide +kernel, rfl, by decide +kernel, by decide +kernel⟩, by kernel_rfl⟩
theorem ok_law_draw : DefOk (prgOf ds con blt wr) 400 d_law_draw := ⟨fun kV doc pm an cdv ct us hl => match us, hl with | [_, _], _ => rfl, ⟨rfl, rfl, rfl, by decide +kernel, rfl, by decide +kernel, by decide +kernel⟩, by kernel_rfl⟩
theorem ok_law_same : DefOk (prgOf ds con blt wr) 400 d_law_same := ⟨fun kV doc pm an cdv ct us hl => match us, hl with | [_, _], _ => rfl, ⟨rfl, rfl, rfl, by decide +kernel, rfl, by decide +kernel, by decide +kernel⟩, by kernel_rfl⟩
theorem ok_law_lend : DefOk (prgOf ds con blt wr) 400 d_law_lend := ⟨fun kV doc pm an cdv ct us hl => match us, hl with | [_, _, _], _ => rfl, ⟨rfl, rfl, rfl, by decide +kernel, rfl, by decide +kernel, by decide +kernel⟩, by kernel_rfl⟩
theorem ok_law_lent : DefOk (prgOf ds con blt wr) 400 d_law_lent := ⟨fun kV doc pm an cdv ct us hl => match us, hl with | [_, _], _ => rfl, ⟨rfl, rfl, rfl, by decide +kernel, rfl, by decide +kernel, by decide +kernel⟩, by kernel_rfl⟩
theorem ok_law : DefOk (prgOf ds con blt wr) 400 d_law := ⟨fun kV doc pm an cdv ct us hl => match us, hl with | [_], _ => rfl, ⟨rfl, rfl, rfl, by decide +kernel, rfl, by decide +kernel, by decide +kernel⟩, by kernel_rfl⟩
theorem ok_all : ∀ d ∈ ds, DefOk (prgOf ds con blt wr) 400 d := by
  intro d hd
  simp only [ds, List.mem_cons, List.not_mem_nil, or_false] at hd
  rcases hd with rfl | rfl | rfl | rfl | rfl | rfl | rfl | rfl | rfl | rfl | rfl | rfl | rfl | rfl | rfl | rfl | rfl | rfl
  · exact ok_class_of
  · exact ok_new_pages
  · exact ok_slots
  · exact ok_open_page
  · exact ok_with_page
  · exact ok_lend_slot
  · exact ok_slot_at
  · exact ok_back_slot
  · exact ok_lent_slots
  · exact ok_run_pages
  · exact ok_law_box
  · exact ok_law_digits
  · exact ok_law_cell
  · exact ok_law_draw
  · exact ok_law_same
  · exact ok_law_lend
  · exact ok_law_lent
  · exact ok_law
theorem nd : (ds.map (·.nm)).Nodup := by decide +kernel
abbrev R : PySem.W.OpenRow := PySem.W.OpenLaw.row PySem.Challenge.rw_courthouse_k58_pages_of_one_size
abbrev hk : PySem.W.Hook := He.hookX 4 (faOf ds con blt wr) (ds.map Dsc.dd) wr.ts (tfOf ds) wr.ex
def ob (s : PySem.W.SharedT) : He.AlX := He.obsX 4 (faOf ds con blt wr) (ds.map Dsc.dd) wr.ts (tfOf ds) wr.ex (HandSHeadRun.getT s)
theorem ob_eq (s : PySem.W.SharedT) : ob s = hk.obs s.abs := He.obsX_eq (HandSHeadRun.getT_eq s)
def lsNm : List PySem.Str := [("class_of" : PySem.Str), ("new_pages" : PySem.Str), ("slots" : PySem.Str), ("open_page" : PySem.Str), ("with_page" : PySem.Str), ("lend_slot" : PySem.Str), ("slot_at" : PySem.Str), ("back_slot" : PySem.Str), ("lent_slots" : PySem.Str), ("run_pages" : PySem.Str), ("_law_box" : PySem.Str), ("_law_digits" : PySem.Str), ("_law_cell" : PySem.Str), ("_law_draw" : PySem.Str), ("_law_same" : PySem.Str), ("_law_lend" : PySem.Str), ("_law_lent" : PySem.Str), ("__name__" : PySem.Str), ("__name__" : PySem.Str)]
theorem run (w : World) : HandSHeadRun.RunEq R (PySem.W.view R.prog [19]) hk ob 1500 lsNm w := by
  intro os
  kernel_rfl
abbrev T : List (Str × Fn) := tabOf ds
end K58
namespace K58
open PySem PySem.Spec PyProof.Rows L2 CH
theorem tok : Tok T := ⟨rfl, rfl, rfl, rfl, rfl⟩
/-- a page: the size of its blocks, which are lent -/
abbrev Pg := Nat × List Bool
def pgD (p : Pg) : D := .tup [.int (p.1 : Nat), .tup (p.2.map D.bl)]
def natD (n : Nat) : D := .int (n : Nat)
def stD (cells : Nat) (cl : List Nat) (ps : List Pg) : D := .tup [.str ("pages" : PySem.Str), natD cells, .tup (cl.map natD), .tup (ps.map pgD)]
def oN : Option Nat → D
  | none => .non
  | some n => natD n
theorem lo_pg (n : Nat) (p : Pg) : (pgD p).lo n = true := by
  have : los n (p.2.map D.bl) = true := los_mapG (fun _ => rfl) _
  simp [pgD, D.lo, los, this]
theorem lo_st (n cells : Nat) (cl : List Nat) (ps : List Pg) : (stD cells cl ps).lo n = true := by
  have h1 : los n (cl.map natD) = true := los_mapG (fun _ => rfl) _
  have h2 : los n (ps.map pgD) = true := los_mapG (lo_pg n) _
  simp [stD, D.lo, los, h1, h2, natD]
theorem lo_oN (n : Nat) (o : Option Nat) : (oN o).lo n = true := by cases o <;> rfl
def clsOf (cl : List Nat) (n : Nat) : Option Nat := cl.find? fun c => decide (n ≤ c)
def openP (ps : List Pg) (c : Nat) : Option Nat := match ps.findIdx? fun p => decide (p.1 = c) && decide (false ∈ p.2) with
  | some k => some k
  | none => ps.findIdx? fun p => decide (p.1 = 0)
theorem class_ok (k : Nat) (cl : List Nat) (n : Nat) (S : Store) : callF T (k + 1) ("class_of" : PySem.Str) [.tup (cl.map natD), .int (n : Nat)] S = .ok (.d (oN (clsOf cl n))) S := by
  rw [call_eq (T := T) (p := 2) (n := 3) (b := b_class_of) rfl rfl]
  refine fin_val ?_ (lo_oN _ _)
  simp [b_class_of]
  refine wp_then ?_
  refine wp_map (fun done ρ S' => ∃ x2, ρ = [some (.tup (cl.map natD)), some (.int n), x2] ∧ S' = S ∧ ∀ c ∈ done, ¬ n ≤ c) ⟨_, rfl, rfl, by simp⟩ (fun _ _ _ _ => trivial) (fun done c rest ρ S1 e hI => ?_) (fun ρ S1 hI => ?_)
  · obtain ⟨x2, rfl, rfl, hd⟩ := hI
    by_cases q : n ≤ c
    · have : clsOf cl n = some c := by
        unfold clsOf
        rw [e, List.find?_append, List.find?_eq_none.mpr fun y hy => by simpa using hd y hy]
        simp [q]
      simp [natD, q, this, oN]
    · simp [natD, q]
      exact fun y hy => by rcases hy with hy | hy; exact Nat.lt_of_not_le (hd y hy); rw [hy]; exact Nat.lt_of_not_le q
  · obtain ⟨x2, rfl, rfl, hd⟩ := hI
    have : clsOf cl n = none := List.find?_eq_none.mpr fun y hy => by simpa using hd y hy
    simp [this, oN]
theorem find_here {α : Type} {p : α → Bool} {done rest : List α} {x : α} (hd : ∀ y ∈ done, p y = false) (hx : p x = true) : (done ++ x :: rest).findIdx? p = some done.length := by
  rw [List.findIdx?_append, List.findIdx?_eq_none_iff.mpr hd]
  simp [List.findIdx?_cons, hx]
theorem st3 (cells : Nat) (cl : List Nat) (ps : List Pg) : idxR (.d (stD cells cl ps)) (.d (.int 3)) = fun S => some (.d (.tup (ps.map pgD))) := by funext S; simp [stD]
theorem st1 (cells : Nat) (cl : List Nat) (ps : List Pg) : idxR (.d (stD cells cl ps)) (.d (.int 1)) = fun S => some (.d (.int cells)) := by funext S; simp [stD, natD]
theorem st2 (cells : Nat) (cl : List Nat) (ps : List Pg) : idxR (.d (stD cells cl ps)) (.d (.int 2)) = fun S => some (.d (.tup (cl.map natD))) := by funext S; simp [stD]
theorem open_ok (k : Nat) (cells : Nat) (cl : List Nat) (ps : List Pg) (c : Nat) (S : Store) : callF T (k + 1) ("open_page" : PySem.Str) [stD cells cl ps, .int (c : Nat)] S = .ok (.d (oN (openP ps c))) S := by
  rw [call_eq (T := T) (p := 2) (n := 6) (b := b_open_page) rfl rfl]
  refine fin_val ?_ (lo_oN _ _)
  simp [b_open_page, st3]
  refine wp_then ?_
  refine wp_enu (fun done ρ S' => ∃ x2 x3 x4, ρ = [some (stD cells cl ps), some (.int c), x2, x3, x4, none] ∧ S' = S ∧ ∀ p ∈ done, (decide (p.1 = c) && decide (false ∈ p.2)) = false) ⟨_, _, _, rfl, rfl, by simp⟩ (fun _ _ _ _ => trivial) (fun done p rest ρ S1 e hI => ?_) (fun ρ S1 hI => ?_)
  · obtain ⟨x2, x3, x4, rfl, rfl, hd⟩ := hI
    refine ⟨_, rfl, ?_⟩
    by_cases q1 : p.1 = c
    · by_cases q2 : false ∈ p.2
      · have : openP ps c = some done.length := by
          unfold openP
          rw [e, find_here hd (by simp [q1, q2])]
        simp [q1, q2, this, oN, natD]
      · simp [q1, q2]
        exact fun a b hy => by
          rcases hy with hy | hy
          · simpa using hd (a, b) hy
          · subst hy; intro _; exact q2
    · have q1' : ¬ (p.1 : Int) = (c : Int) := by omega
      simp [q1']
      exact fun a b hy => by
          rcases hy with hy | hy
          · simpa using hd (a, b) hy
          · subst hy; intro z; exact (q1 z).elim
  · obtain ⟨x2, x3, x4, rfl, rfl, hd⟩ := hI
    have n1 : ps.findIdx? (fun p => decide (p.1 = c) && decide (false ∈ p.2)) = none := List.findIdx?_eq_none_iff.mpr hd
    simp [st3]
    refine wp_then ?_
    refine wp_enu (fun done ρ S' => ∃ x2 x3 x5, ρ = [some (stD cells cl ps), some (.int c), x2, x3, x4, x5] ∧ S' = S1 ∧ ∀ p ∈ done, decide (p.1 = 0) = false) ⟨_, _, _, rfl, rfl, by simp⟩ (fun _ _ _ _ => trivial) (fun done p rest ρ S2 e hI => ?_) (fun ρ S2 hI => ?_)
    · obtain ⟨x2, x3, x5, rfl, rfl, hd⟩ := hI
      refine ⟨_, rfl, ?_⟩
      by_cases q1 : p.1 = 0
      · have : openP ps c = some done.length := by
          unfold openP
          rw [n1, e, find_here hd (by simp [q1])]
        simp [q1, this, oN, natD]
      · simp [q1]
        exact fun a b hy => by
            rcases hy with hy | hy
            · simpa using hd (a, b) hy
            · subst hy; exact q1
    · obtain ⟨x2, x3, x5, rfl, rfl, hd⟩ := hI
      have n2 : ps.findIdx? (fun p => decide (p.1 = 0)) = none := List.findIdx?_eq_none_iff.mpr hd
      have : openP ps c = none := by unfold openP; rw [n1, n2]
      simp [this, oN]
/-! lending -/
def PgOk (cells : Nat) (cl : List Nat) (p : Pg) : Prop := p = (0, []) ∨ (p.1 ∈ cl ∧ p.2.length = cells / p.1 ∧ true ∈ p.2)
structure StOk (cells : Nat) (cl : List Nat) (ps : List Pg) : Prop where
  clb : ∀ c ∈ cl, 1 ≤ c ∧ c ≤ cells
  ceb : 1 ≤ cells ∧ cells ≤ 24
  len : ps.length ≤ 6
  cls : cl.length ≤ 3
  pg : ∀ p ∈ ps, PgOk cells cl p
def slotIn (ps : List Pg) (k : Nat) : Nat := if (ps.getD k (0, [])).1 = 0 then 0 else (ps.getD k (0, [])).2.idxOf false
def rowOf (cells : Nat) (ps : List Pg) (k c : Nat) : List Bool := if (ps.getD k (0, [])).1 = 0 then List.replicate (cells / c) false else (ps.getD k (0, [])).2
def lendP (cl : List Nat) (ps : List Pg) (n : Nat) : Option (Nat × Nat × Nat) := match clsOf cl n with
  | none => none
  | some c => (match openP ps c with
    | none => none
    | some k => some (k, slotIn ps k, c))
def lentPs (cells : Nat) (ps : List Pg) (x : Nat × Nat × Nat) : List Pg := ps.set x.1 (x.2.2, (rowOf cells ps x.1 x.2.2).set x.2.1 true)
theorem cls_mem {cl : List Nat} {n c : Nat} (h : clsOf cl n = some c) : c ∈ cl := List.mem_of_find?_eq_some h
theorem open_at {ps : List Pg} {c k : Nat} (h : openP ps c = some k) : ∃ p, ps[k]? = some p ∧ ((p.1 = c ∧ false ∈ p.2) ∨ p.1 = 0) := by
  unfold openP at h
  split at h
  · rename_i j e
    cases h
    obtain ⟨hl, h1, _⟩ := List.findIdx?_eq_some_iff_getElem.mp e
    refine ⟨ps[k], List.getElem?_eq_getElem hl, .inl ?_⟩
    simpa using h1
  · obtain ⟨hl, h1, _⟩ := List.findIdx?_eq_some_iff_getElem.mp h
    refine ⟨ps[k], List.getElem?_eq_getElem hl, .inr ?_⟩
    simpa using h1
theorem pg_len {cells : Nat} {cl : List Nat} {ps : List Pg} (ok : StOk cells cl ps) {p : Pg} (hp : p ∈ ps) : p.2.length ≤ 24 := by
  rcases ok.pg p hp with e | ⟨_, e, _⟩
  · rw [e]; exact Nat.zero_le _
  · rw [e]; exact Nat.le_trans (Nat.div_le_self _ _) ok.ceb.2
theorem row_ok {cells : Nat} {cl : List Nat} {ps : List Pg} (ok : StOk cells cl ps) {c k : Nat} (hc : c ∈ cl) (h : openP ps c = some k) : (rowOf cells ps k c).length = cells / c ∧ 1 ≤ cells / c ∧ false ∈ rowOf cells ps k c ∧ slotIn ps k = (rowOf cells ps k c).idxOf false ∧ slotIn ps k < cells / c := by
  obtain ⟨p, hp, hk⟩ := open_at h
  obtain ⟨c1, c2⟩ := ok.clb c hc
  have hd : 1 ≤ cells / c := Nat.div_pos c2 c1
  have eg : ps.getD k (0, []) = p := by rw [List.getD_eq_getElem?_getD, hp]; rfl
  unfold rowOf slotIn
  rw [eg]
  by_cases q : p.1 = 0
  · rw [if_pos q, if_pos q]
    have hm : false ∈ List.replicate (cells / c) false := by
      rw [List.mem_replicate]; exact ⟨by omega, rfl⟩
    refine ⟨by simp, hd, hm, ?_, hd⟩
    obtain ⟨j, hj⟩ : ∃ j, cells / c = j + 1 := ⟨cells / c - 1, by omega⟩
    rw [hj, List.replicate_succ, List.idxOf_cons]
    simp
  · rw [if_neg q, if_neg q]
    rcases hk with ⟨h1, h2⟩ | h1
    · rcases ok.pg p (List.mem_of_getElem? hp) with e | ⟨_, e, _⟩
      · rw [e] at q; exact (q rfl).elim
      · rw [h1] at e
        refine ⟨e, hd, h2, rfl, ?_⟩
        rw [← e]
        exact List.idxOf_lt_length_iff.mpr h2
    · exact (q h1).elim
theorem with_ok (k : Nat) {cells : Nat} {cl : List Nat} {ps : List Pg} (ok : StOk cells cl ps) {j : Nat} (hj : j < ps.length) (pg : Pg) (S : Store) :
    callF T (k + 1) ("with_page" : PySem.Str) [stD cells cl ps, .int (j : Nat), pgD pg] S = .ok (.d (stD cells cl (ps.set j pg))) S := by
  have hl := ok.len
  rw [call_eq (T := T) (p := 3) (n := 3) (b := b_with_page) rfl rfl]
  refine fin_val ?_ (lo_st _ _ _ _)
  have s3 : ∀ S, slcR (.d (stD cells cl ps)) none (some 3) S = some (.d (.tup [.str ("pages" : PySem.Str), natD cells, .tup (cl.map natD)])) := fun S => rfl
  have c1 := cut_to (ps.map pgD) j
  have c2 := cut_from (ps.map pgD) (j + 1) (by rw [List.length_map]; omega)
  have c2 : cutD (ps.map pgD) (some ((j : Int) + 1)) none = (ps.map pgD).drop (j + 1) := c2
  have c3 : (ps.map pgD).take j ++ (pgD pg :: (ps.map pgD).drop (j + 1)) = (ps.set j pg).map pgD := by
    rw [set_cut (by rw [List.length_map]; exact hj), List.map_set]
  have z1 : min j ps.length + 1 ≤ 16777216 := by omega
  have z2 : min j ps.length + (1 + (ps.length - (j + 1))) ≤ 16777216 := by omega
  have z3 : min j ps.length + 1 + (ps.length - (j + 1)) ≤ 16777216 := by omega
  simp [-List.map_set, -List.map_take, -List.map_drop, b_with_page, s3, st3, c1, c2, sl_pos, z1, z2, z3, c3]
  rfl
def lendD (cells : Nat) (cl : List Nat) (ps : List Pg) : Option (Nat × Nat × Nat) → D
  | none => .tup [stD cells cl ps, .non]
  | some x => .tup [stD cells cl (lentPs cells ps x), natD (x.1 * cells + x.2.1 * x.2.2)]
theorem lo_lend (n cells : Nat) (cl : List Nat) (ps : List Pg) (o : Option (Nat × Nat × Nat)) : (lendD cells cl ps o).lo n = true := by
  cases o with
  | none => simp [lendD, D.lo, los, lo_st]
  | some x => simp [lendD, D.lo, los, lo_st, natD]
theorem slots_ok (k : Nat) {cells : Nat} {cl : List Nat} {ps : List Pg} {c : Nat} (h1 : 1 ≤ c) (h2 : c ≤ 1000) (S : Store) : callF T (k + 1) ("slots" : PySem.Str) [stD cells cl ps, .int (c : Nat)] S = .ok (.d (.int ((cells / c : Nat) : Int))) S := by
  rw [call_eq (T := T) (p := 2) (n := 2) (b := b_slots) rfl rfl]
  refine fin_val ?_ rfl
  have hc : CDiv (cells : Int) (c : Int) := ⟨by omega, by omega⟩
  simp [b_slots, st1, hc]
theorem lend_ok (k : Nat) {cells : Nat} {cl : List Nat} {ps : List Pg} (ok : StOk cells cl ps) (n : Nat) (S : Store) :
    callF T (k + 2) ("lend_slot" : PySem.Str) [stD cells cl ps, .int (n : Nat)] S = .ok (.d (lendD cells cl ps (lendP cl ps n))) S := by
  have hl := ok.len
  have hcl := ok.ceb
  rw [call_eq (T := T) (p := 2) (n := 8) (b := b_lend_slot) rfl rfl]
  refine fin_val ?_ (lo_lend _ _ _ _ _)
  have a1 := fun S => class_ok k cl n S
  cases e1 : clsOf cl n with
  | none =>
    have : lendP cl ps n = none := by unfold lendP; rw [e1]
    rw [e1] at a1
    simp [b_lend_slot, st2, a1, this, oN, lendD]
  | some c =>
    have hc := cls_mem e1
    obtain ⟨c1, c2⟩ := ok.clb c hc
    rw [e1] at a1
    have a2 := fun S => open_ok k cells cl ps c S
    cases e2 : openP ps c with
    | none =>
      have : lendP cl ps n = none := by unfold lendP; rw [e1]; simp only [e2]
      rw [e2] at a2
      simp [b_lend_slot, st2, a1, a2, this, oN, natD, lendD]
    | some j =>
      have : lendP cl ps n = some (j, slotIn ps j, c) := by unfold lendP; rw [e1]; simp only [e2]
      rw [e2] at a2
      obtain ⟨p, hp, _⟩ := open_at e2
      obtain ⟨r1, r2, r3, r4, r5⟩ := row_ok ok hc e2
      have hj : j < ps.length := (List.getElem?_eq_some_iff.mp hp).1
      have ep : atI (ps.map pgD) (j : Int) = some (pgD p) := by rw [CH.atI_nat, List.getElem?_map, hp]; rfl
      have eg : ps.getD j (0, []) = p := by rw [List.getD_eq_getElem?_getD, hp]; rfl
      have sl := fun S => slots_ok k (cells := cells) (cl := cl) (ps := ps) (c := c) c1 (by omega) S
      have ti := fun S => tindex_bl S false (rowOf cells ps j c) r3
      rw [← r4] at ti
      have wi := fun S => with_ok k ok hj (c, (rowOf cells ps j c).set (slotIn ps j) true) S
      have wi : ∀ S, callF T (k + 1) ("with_page" : PySem.Str) [stD cells cl ps, .int (j : Nat), .tup [.int (c : Nat), .tup (((rowOf cells ps j c).set (slotIn ps j) true).map D.bl)]] S = .ok (.d (stD cells cl (ps.set j (c, (rowOf cells ps j c).set (slotIn ps j) true)))) S := wi
      have cc1 := cut_to ((rowOf cells ps j c).map D.bl) (slotIn ps j)
      have cc2 : cutD ((rowOf cells ps j c).map D.bl) (some ((slotIn ps j : Int) + 1)) none = ((rowOf cells ps j c).map D.bl).drop (slotIn ps j + 1) := cut_from ((rowOf cells ps j c).map D.bl) (slotIn ps j + 1) (by rw [List.length_map, r1]; omega)
      have cc3 : ((rowOf cells ps j c).map D.bl).take (slotIn ps j) ++ (D.bl true :: ((rowOf cells ps j c).map D.bl).drop (slotIn ps j + 1)) = ((rowOf cells ps j c).set (slotIn ps j) true).map D.bl := by
        rw [set_cut (by rw [List.length_map, r1]; exact r5), List.map_set]
      have dle : cells / c ≤ 24 := Nat.le_trans (Nat.div_le_self _ _) hcl.2
      have z1 : min (slotIn ps j) (rowOf cells ps j c).length + 1 ≤ 16777216 := by omega
      have z2 : min (slotIn ps j) (rowOf cells ps j c).length + 1 + ((rowOf cells ps j c).length - (slotIn ps j + 1)) ≤ 16777216 := by omega
      have m1 : CMul (j : Int) (cells : Int) := cmul_r (by omega) (by omega)
      have m2 : CMul (slotIn ps j : Int) (c : Int) := cmul_r (by omega) (by omega)
      have cast : (j : Int) * (cells : Int) + (slotIn ps j : Int) * (c : Int) = ((j * cells + slotIn ps j * c : Nat) : Int) := by rw [Int.natCast_add, Int.natCast_mul, Int.natCast_mul]
      have hr : rowOf cells ps j c = if p.1 = 0 then List.replicate (cells / c) false else p.2 := by unfold rowOf; rw [eg]
      by_cases q : p.1 = 0
      · rw [if_pos q] at hr
        have mu := fun S => mul_t (S := S) (xs := [D.bl false]) (k := cells / c) r2 (by omega) (by simp) (by simp)
        rw [flat_rep] at mu
        have er : List.replicate (cells / c) (D.bl false) = (rowOf cells ps j c).map D.bl := by rw [hr, List.map_replicate]
        rw [er] at mu
        have q0 : ((p.1 : Nat) : Int) = 0 := by omega
        simp [-Int.natCast_ediv, -List.map_set, -List.map_take, -List.map_drop, -Int.natCast_mul, -Int.natCast_add, b_lend_slot, st2, st3, a1, a2, oN, natD, ep, pgD, q0, q, bindT, sl, mu, ti, cc1, cc2, sl_pos, z1, z2, cc3, wi, st1, m1, m2, this, lendD, lentPs]
        exact cast
      · rw [if_neg q] at hr
        have q0 : ¬ ((p.1 : Nat) : Int) = 0 := by omega
        rw [hr] at ti cc1 cc2 cc3 z1 z2 wi
        have this2 : lendP cl ps n = some (j, slotIn ps j, c) := this
        simp [-Int.natCast_ediv, -List.map_set, -List.map_take, -List.map_drop, -Int.natCast_mul, -Int.natCast_add, b_lend_slot, st2, st3, a1, a2, oN, natD, ep, pgD, q0, q, bindT, sl, ti, cc1, cc2, sl_pos, z1, z2, cc3, wi, st1, m1, m2, this, lendD, lentPs, hr]
        exact cast
end K58
namespace K58
open PySem PySem.Spec PyProof.Rows L2 CH
theorem flat_len {α β : Type} {g : α → List β} {c : Nat} : ∀ {l : List α}, (∀ x ∈ l, (g x).length ≤ c) → (l.flatMap g).length ≤ c * l.length
  | [], _ => by simp
  | x :: l, h => by
    have h1 := h x List.mem_cons_self
    have h2 := flat_len (l := l) fun y hy => h y (List.mem_cons_of_mem _ hy)
    rw [List.flatMap_cons, List.length_append, List.length_cons, Nat.mul_succ]; omega
theorem cne_of {x y : RV} {S : Store} {b : Bool} (h : cmpR .eq x y S = some b) : cmpR .ne x y S = some (!b) := by
  show (cmpR .eq x y S).map (!·) = _
  rw [h]; rfl
theorem fdiv_n (a b : Nat) (h : 0 < b) (hb : b < 1000000) (ha : a < 1000000) (S : Store) : binR .fdiv (.d (.int (a : Nat))) (.d (.int (b : Nat))) S = .ok (.d (.int ((a / b : Nat) : Int))) S := by
  rw [CH.bin_fdiv, if_pos (show CDiv (a : Int) (b : Int) from ⟨by omega, by omega⟩)]
  congr 3
theorem mod_n (a b : Nat) (h : 0 < b) (S : Store) : binR .mod (.d (.int (a : Nat))) (.d (.int (b : Nat))) S = .ok (.d (.int ((a % b : Nat) : Int))) S := by
  rw [CH.bin_mod, if_pos (by omega)]
  congr 3
theorem mul_n (a b : Nat) (hb : b < 1000000) (S : Store) : binR .mul (.d (.int (a : Nat))) (.d (.int (b : Nat))) S = .ok (.d (.int ((a * b : Nat) : Int))) S := by
  rw [CH.bin_mul, if_pos (cmul_r (by omega) (by omega))]
  congr 3
theorem add_n (a b : Nat) (S : Store) : binR .add (.d (.int (a : Nat))) (.d (.int (b : Nat))) S = .ok (.d (.int ((a + b : Nat) : Int))) S := by
  rw [CH.bin_add]; congr 3
theorem sub_n (a b : Nat) (h : b ≤ a) (S : Store) : binR .sub (.d (.int (a : Nat))) (.d (.int (b : Nat))) S = .ok (.d (.int ((a - b : Nat) : Int))) S := by
  rw [CH.bin_sub]; congr 3; omega
theorem ge_n (a b : Nat) (S : Store) : cmpR .ge (.d (.int (a : Nat))) (.d (.int (b : Nat))) S = some (decide (b ≤ a)) := by
  rw [CH.cmp_ge]; congr 1; exact decide_eq_decide.mpr (by omega)
theorem eq_n0 (a : Nat) (S : Store) : cmpR .eq (.d (.int (a : Nat))) (.d (.int 0)) S = some (decide (a = 0)) := by
  rw [CH.cmp_eq]; congr 1; exact decide_eq_decide.mpr (by omega)
theorem ne_n0 (a : Nat) (S : Store) : cmpR .ne (.d (.int (a : Nat))) (.d (.int 0)) S = some (!decide (a = 0)) := cne_of (eq_n0 a S)
/-- the slot that an address names -/
def slotP (cells : Nat) (ps : List Pg) (ad : Nat) : Option (Nat × Nat) :=
  match ps[ad / cells]? with
  | none => none
  | some p => if p.1 = 0 then none else if (ad % cells) % p.1 = 0 ∧ p.2[(ad % cells) / p.1]? = some true then some (ad / cells, (ad % cells) / p.1) else none
def oNN : Option (Nat × Nat) → D
  | none => .non
  | some x => .tup [natD x.1, natD x.2]
theorem lo_oNN (n : Nat) (o : Option (Nat × Nat)) : (oNN o).lo n = true := by cases o <;> rfl
theorem slot_ok (k : Nat) {cells : Nat} {cl : List Nat} {ps : List Pg} (ok : StOk cells cl ps) {ad : Nat} (ha : ad < 1000) (S : Store) :
    callF T (k + 1) ("slot_at" : PySem.Str) [stD cells cl ps, .int (ad : Nat)] S = .ok (.d (oNN (slotP cells ps ad))) S := by
  rw [call_eq (T := T) (p := 2) (n := 6) (b := b_slot_at) rfl rfl]
  refine fin_val ?_ (lo_oNN _ _)
  have hc := ok.ceb
  have d1 := fun S => fdiv_n ad cells (by omega) (by omega) (by omega) S
  have m1 := fun S => mul_n (ad / cells) cells (by omega) S
  have hdm := Nat.div_add_mod ad cells
  have hle : ad / cells * cells ≤ ad := Nat.div_mul_le_self _ _
  have s1 := fun S => sub_n ad (ad / cells * cells) hle S
  have er : ad - ad / cells * cells = ad % cells := by rw [Nat.mul_comm] at hdm; omega
  rw [er] at s1
  have st3 := st3 cells cl ps
  have st1 := st1 cells cl ps
  generalize hq : ad / cells = q at *
  generalize hr : ad % cells = r at *
  have hr24 : r < 1000 := by have := Nat.mod_lt ad (show 0 < cells by omega); omega
  cases hp : ps[q]? with
  | none =>
    have e : slotP cells ps ad = none := by unfold slotP; rw [hq, hp]
    have hl : ps.length ≤ q := List.getElem?_eq_none_iff.mp hp
    rw [e]
    simp [-Int.natCast_mul, -Int.natCast_add, -Int.natCast_ediv, -Int.natCast_emod, b_slot_at, st1, st3, -CH.bin_fdiv, d1, -CH.cmp_ge, ge_n, hl, oNN]
  | some p =>
    have hl : ¬ ps.length ≤ q := by have := (List.getElem?_eq_some_iff.mp hp).1; omega
    have ep : atI (ps.map pgD) (q : Int) = some (pgD p) := by rw [CH.atI_nat, List.getElem?_map, hp]; rfl
    have hpm := List.mem_of_getElem? hp
    by_cases h0 : p.1 = 0
    · have e : slotP cells ps ad = none := by unfold slotP; rw [hq, hp]; exact if_pos h0
      rw [e]
      simp [-Int.natCast_mul, -Int.natCast_add, -Int.natCast_ediv, -Int.natCast_emod, b_slot_at, st1, st3, -CH.bin_fdiv, d1, -CH.cmp_ge, ge_n, hl, oNN, ep, pgD, h0]
    · have h0i : ¬ ((p.1 : Nat) : Int) = 0 := by omega
      have hp24 := pg_len ok hpm
      have hown : p.1 ≤ 24 := by
        rcases ok.pg p hpm with e | ⟨e, _⟩
        · rw [e] at h0; exact absurd rfl h0
        · have := (ok.clb _ e).2; omega
      have mo := fun S => mod_n r p.1 (by omega) S
      have dv2 := fun S => fdiv_n r p.1 (by omega) (by omega) (by omega) S
      have ss : slotP cells ps ad = if r % p.1 = 0 ∧ p.2[r / p.1]? = some true then some (q, r / p.1) else none := by unfold slotP; rw [hq, hp, hr]; exact if_neg h0
      rw [ss]
      generalize hs : r / p.1 = s at *
      by_cases g1 : r % p.1 = 0
      · by_cases g2 : p.2.length ≤ s
        · have g3 : p.2[s]? = none := List.getElem?_eq_none_iff.mpr g2
          simp [-Int.natCast_mul, -Int.natCast_add, -Int.natCast_ediv, -Int.natCast_emod, b_slot_at, st1, st3, -CH.bin_fdiv, d1, -CH.cmp_ge, ge_n, hl, oNN, ep, pgD, h0, h0i, bindT, -CH.bin_mul, m1, -CH.bin_sub, s1, -CH.bin_mod, mo, dv2, g1, g2, g3]
        · have g4 : s < p.2.length := by omega
          have eb : atI (p.2.map D.bl) (s : Int) = some (.bl p.2[s]) := by rw [CH.atI_nat, List.getElem?_map, List.getElem?_eq_getElem g4]; rfl
          have g3 : p.2[s]? = some p.2[s] := List.getElem?_eq_getElem g4
          cases hb : p.2[s] with
          | true =>
            rw [hb] at eb g3
            simp [-Int.natCast_mul, -Int.natCast_add, -Int.natCast_ediv, -Int.natCast_emod, b_slot_at, st1, st3, -CH.bin_fdiv, d1, -CH.cmp_ge, ge_n, hl, oNN, ep, pgD, h0, h0i, bindT, -CH.bin_mul, m1, -CH.bin_sub, s1, -CH.bin_mod, mo, dv2, g1, g2, g3, eb, natD]
          | false =>
            rw [hb] at eb g3
            simp [-Int.natCast_mul, -Int.natCast_add, -Int.natCast_ediv, -Int.natCast_emod, b_slot_at, st1, st3, -CH.bin_fdiv, d1, -CH.cmp_ge, ge_n, hl, oNN, ep, pgD, h0, h0i, bindT, -CH.bin_mul, m1, -CH.bin_sub, s1, -CH.bin_mod, mo, dv2, g1, g2, g3, eb, natD]
      · simp [-Int.natCast_mul, -Int.natCast_add, -Int.natCast_ediv, -Int.natCast_emod, b_slot_at, st1, st3, -CH.bin_fdiv, d1, -CH.cmp_ge, ge_n, hl, oNN, ep, pgD, h0, h0i, bindT, -CH.bin_mul, m1, -CH.bin_sub, s1, -CH.bin_mod, mo, dv2, g1]
/-! giving back -/
def leftP (ps : List Pg) (x : Nat × Nat) : Pg :=
  if true ∈ (ps.getD x.1 (0, [])).2.set x.2 false then ((ps.getD x.1 (0, [])).1, (ps.getD x.1 (0, [])).2.set x.2 false) else (0, [])
def backPs (ps : List Pg) (x : Nat × Nat) : List Pg := ps.set x.1 (leftP ps x)
def backD (cells : Nat) (cl : List Nat) (ps : List Pg) : Option (Nat × Nat) → D
  | none => .non
  | some x => stD cells cl (backPs ps x)
theorem lo_back (n cells : Nat) (cl : List Nat) (ps : List Pg) (o : Option (Nat × Nat)) : (backD cells cl ps o).lo n = true := by
  cases o with
  | none => rfl
  | some x => exact lo_st _ _ _ _
theorem slot_some {cells : Nat} {ps : List Pg} {ad : Nat} {x : Nat × Nat} (h : slotP cells ps ad = some x) : ∃ p, ps[x.1]? = some p ∧ p.1 ≠ 0 ∧ p.2[x.2]? = some true ∧ x = (ad / cells, (ad % cells) / p.1) ∧ (ad % cells) % p.1 = 0 := by
  unfold slotP at h
  split at h
  · cases h
  · rename_i p hp
    split at h
    · cases h
    · rename_i h0
      split at h
      · rename_i h1
        cases h
        exact ⟨p, hp, h0, h1.2, rfl, h1.1⟩
      · cases h
theorem back_ok (k : Nat) {cells : Nat} {cl : List Nat} {ps : List Pg} (ok : StOk cells cl ps) {ad : Nat} (ha : ad < 1000) (S : Store) :
    callF T (k + 2) ("back_slot" : PySem.Str) [stD cells cl ps, .int (ad : Nat)] S = .ok (.d (backD cells cl ps (slotP cells ps ad))) S := by
  rw [call_eq (T := T) (p := 2) (n := 8) (b := b_back_slot) rfl rfl]
  refine fin_val ?_ (lo_back _ _ _ _ _)
  have sl := fun S => slot_ok k ok ha S
  cases hs : slotP cells ps ad with
  | none =>
    rw [hs] at sl
    simp [b_back_slot, sl, oNN, backD]
  | some x =>
    rw [hs] at sl
    obtain ⟨p, hp, h0, h1, _, _⟩ := slot_some hs
    obtain ⟨q, s⟩ := x
    have hj : q < ps.length := (List.getElem?_eq_some_iff.mp hp).1
    have hs2 : s < p.2.length := (List.getElem?_eq_some_iff.mp h1).1
    have hp24 := pg_len ok (List.mem_of_getElem? hp)
    have ep : atI (ps.map pgD) (q : Int) = some (pgD p) := by rw [CH.atI_nat, List.getElem?_map, hp]; rfl
    have eg : ps.getD q (0, []) = p := by rw [List.getD_eq_getElem?_getD, hp]; rfl
    have cc1 := cut_to (p.2.map D.bl) s
    have cc2 : cutD (p.2.map D.bl) (some ((s : Int) + 1)) none = (p.2.map D.bl).drop (s + 1) := cut_from (p.2.map D.bl) (s + 1) (by rw [List.length_map]; omega)
    have cc3 : (p.2.map D.bl).take s ++ (D.bl false :: (p.2.map D.bl).drop (s + 1)) = (p.2.set s false).map D.bl := by
      rw [set_cut (by rw [List.length_map]; exact hs2), List.map_set]
    have z1 : min s p.2.length + 1 ≤ 16777216 := by omega
    have z2 : min s p.2.length + 1 + (p.2.length - (s + 1)) ≤ 16777216 := by omega
    have st3 := st3 cells cl ps
    by_cases g : true ∈ p.2.set s false
    · have wi : ∀ S, callF T (k + 1) ("with_page" : PySem.Str) [stD cells cl ps, .int (q : Nat), .tup [.int (p.1 : Nat), .tup ((p.2.set s false).map D.bl)]] S = .ok (.d (stD cells cl (ps.set q (p.1, p.2.set s false)))) S := fun S => with_ok k ok hj (p.1, p.2.set s false) S
      have e : backD cells cl ps (some (q, s)) = stD cells cl (ps.set q (p.1, p.2.set s false)) := by
        show stD cells cl (ps.set q (leftP ps (q, s))) = _
        unfold leftP
        rw [eg, if_pos g]
      rw [e]
      simp [-List.map_set, -List.map_take, -List.map_drop, b_back_slot, sl, oNN, natD, bindT, st3, ep, pgD, cc1, cc2, sl_pos, z1, z2, cc3, g, wi]
    · have wi : ∀ S, callF T (k + 1) ("with_page" : PySem.Str) [stD cells cl ps, .int (q : Nat), .tup [.int 0, .tup []]] S = .ok (.d (stD cells cl (ps.set q (0, [])))) S := fun S => with_ok k ok hj (0, []) S
      have e : backD cells cl ps (some (q, s)) = stD cells cl (ps.set q (0, [])) := by
        show stD cells cl (ps.set q (leftP ps (q, s))) = _
        unfold leftP
        rw [eg, if_neg g]
      rw [e]
      simp [-List.map_set, -List.map_take, -List.map_drop, b_back_slot, sl, oNN, natD, bindT, st3, ep, pgD, cc1, cc2, sl_pos, z1, z2, cc3, g, wi]
/-! what is lent -/
def prD (x : Nat × Nat) : D := .tup [.int (x.1 : Nat), .int (x.2 : Nat)]
def lentOf (cells : Nat) (p : Pg) (i : Nat) : List (Nat × Nat) := ((p.2.zipIdx).filter fun y => y.1).map fun y => (i * cells + y.2 * p.1, p.1)
def lentL (cells : Nat) (ps : List Pg) : List (Nat × Nat) := ps.zipIdx.flatMap fun x => lentOf cells x.1 x.2
theorem lent_len {cells : Nat} {cl : List Nat} {ps : List Pg} (ok : StOk cells cl ps) : (lentL cells ps).length ≤ 24 * 6 := by
  have h1 : ∀ x ∈ ps.zipIdx, (lentOf cells x.1 x.2).length ≤ 24 := fun x hx => by
    unfold lentOf
    rw [List.length_map]
    refine Nat.le_trans (List.length_filter_le _ _) ?_
    rw [List.length_zipIdx]
    exact pg_len ok (List.fst_mem_of_mem_zipIdx hx)
  have h2 := flat_len h1
  rw [List.length_zipIdx] at h2
  exact Nat.le_trans h2 (Nat.mul_le_mul_left _ ok.len)
theorem lentSlots_ok (k : Nat) {cells : Nat} {cl : List Nat} {ps : List Pg} (ok : StOk cells cl ps) (S : Store) :
    callF T (k + 1) ("lent_slots" : PySem.Str) [stD cells cl ps] S = .ok (.d (.tup ((lentL cells ps).map prD))) S := by
  rw [call_eq (T := T) (p := 1) (n := 6) (b := b_lent_slots) rfl rfl]
  refine fin_val ?_ (los_mapG (fun _ => rfl) _)
  have st3 := st3 cells cl ps
  have st1 := st1 cells cl ps
  have hc := ok.ceb
  have ll := lent_len ok
  have g := gen2_pure (cf := callF T k) (g := .no) (vs := [1, 4, 5, 2, 3]) (t := .tup (.var 1 (.tup (.var 4 (.var 5 .nil)) .nil)) .nil) (it := .enu (.idx (.var 0) (.con (.int 3)))) (ifs := .nil) (t1 := .tup (.var 2 (.var 3 .nil)) .nil) (it1 := .enu (.var 5)) (ifs1 := .cons (.ex (.var 3)) .nil)
    (e := .tup (.cons (.bin .add (.bin .mul (.var 1) (.idx (.var 0) (.con (.int 1)))) (.bin .mul (.var 2) (.var 4))) (.cons (.var 4) .nil))) (ρ := [some (stD cells cl ps), none, none, none, none, none]) (S := S)
    ps.zipIdx (fun x => .tup [.int (x.2 : Nat), pgD x.1]) (fun _ => true) (fun x => x.1.2.zipIdx) (fun y => .tup [.int (y.2 : Nat), .bl y.1]) (fun _ y => y.1) (fun x y => prD (x.2 * cells + y.2 * x.1.1, x.1.1))
    (by simp [st3, enuD_zip]) trivial
    (fun x hx => ⟨_, rfl, by simp, fun _ => ⟨by simp [wipeD, pgD, enuD_zip], fun y hy => ⟨_, rfl, by simp [wipeD, pgD], fun _ => by
      have hm := List.fst_mem_of_mem_zipIdx hx
      have ho : x.1.1 ≤ 24 := by
        rcases ok.pg _ hm with e | ⟨e, _⟩
        · rw [e]; exact Nat.zero_le _
        · have := (ok.clb _ e).2; omega
      have a1 := fun S => mul_n x.2 cells (by omega) S
      have a2 := fun S => mul_n y.2 x.1.1 (by omega) S
      have a3 := fun S => add_n (x.2 * cells) (y.2 * x.1.1) S
      simp [-Int.natCast_mul, -Int.natCast_add, -CH.bin_mul, -CH.bin_add, wipeD, pgD, st1, a1, a2, a3, prD]⟩⟩⟩)
    (by
      have : ((ps.zipIdx.filter fun _ => true).flatMap fun x => (x.1.2.zipIdx.filter fun y => y.1).map fun y => prD (x.2 * cells + y.2 * x.1.1, x.1.1)).length = (lentL cells ps).length := by
        rw [List.filter_eq_self.mpr fun _ _ => rfl]
        unfold lentL lentOf
        rw [List.length_flatMap, List.length_flatMap]
        simp
      rw [this, sl_pos]; omega)
  have e : ((ps.zipIdx.filter fun _ => true).flatMap fun x => (x.1.2.zipIdx.filter fun y => y.1).map fun y => prD (x.2 * cells + y.2 * x.1.1, x.1.1)) = (lentL cells ps).map prD := by
    rw [List.filter_eq_self.mpr fun _ _ => rfl]
    unfold lentL lentOf
    rw [List.map_flatMap]
    simp [List.map_map, Function.comp_def]
  rw [e] at g
  simp [b_lent_slots, g]
end K58
namespace K58
open PySem PySem.Spec PyProof.Rows L2 CH
theorem rngD0 (n : Nat) : rngD 0 (n : Int) = (List.range n).map fun i => D.int (i : Nat) := by
  unfold rngD
  rw [show ((n : Int) - 0).toNat = n from by omega]
  exact List.map_congr_left fun i _ => by simp
theorem newPages_ok (k : Nat) (cells many : Nat) (cl : List Nat) (h1 : 1 ≤ many) (h2 : many ≤ 1000) (S : Store) : callF T (k + 1) ("new_pages" : PySem.Str) [.int (cells : Nat), .int (many : Nat), .tup (cl.map natD)] S = .ok (.d (stD cells cl (List.replicate many (0, [])))) S := by
  rw [call_eq (T := T) (p := 3) (n := 3) (b := b_new_pages) rfl rfl]
  refine fin_val ?_ (lo_st _ _ _ _)
  have mu := fun S => mul_t (S := S) (xs := [D.tup [.int 0, .tup []]]) (k := many) h1 h2 (by simp) (by simp)
  rw [flat_rep] at mu
  simp [b_new_pages, mu, stD, natD, pgD]
/-! the law's own -/
theorem filter_head (cl : List Nat) (n : Nat) : (cl.filter fun c => decide (n ≤ c)).head? = clsOf cl n := by
  unfold clsOf
  rw [List.head?_filter]
theorem fi_some {p : Pg → Bool} {ps : List Pg} {j : Nat} (hj : j < ps.length) (h1 : p ps[j] = true) (h2 : ∀ i, ∀ hi : i < j, p (ps[i]'(by omega)) = false) : ps.findIdx? p = some j :=
  List.findIdx?_eq_some_iff_getElem.mpr ⟨hj, h1, fun i hi => by rw [h2 i hi]; simp⟩
theorem fi_none {p : Pg → Bool} {ps : List Pg} (h : ∀ i, ∀ hi : i < ps.length, p ps[i] = false) : ps.findIdx? p = none :=
  List.findIdx?_eq_none_iff.mpr fun x hx => by
    obtain ⟨i, hi, e⟩ := List.getElem_of_mem hx
    rw [← e]; exact h i hi
def o3D : Option (Nat × Nat × Nat) → D
  | none => .non
  | some x => .tup [natD x.1, natD x.2.1, natD x.2.2]
theorem lo_o3 (n : Nat) (o : Option (Nat × Nat × Nat)) : (o3D o).lo n = true := by cases o <;> rfl
theorem lawLend_ok (k : Nat) {cells : Nat} {cl : List Nat} {ps : List Pg} (ok : StOk cells cl ps) {r n : Nat} {S : Store} (hr : S[r]? = some (.lst (ps.map pgD))) :
    callF T (k + 1) ("_law_lend" : PySem.Str) [.ref r, .tup (cl.map natD), .int (n : Nat)] S = .ok (.d (o3D (lendP cl ps n))) S := by
  rw [call_eq (T := T) (p := 3) (n := 6) (b := b_law_lend) rfl rfl]
  refine fin_val ?_ (lo_o3 _ _)
  have hl := ok.len
  have hrl := (List.getElem?_eq_some_iff.mp hr).1
  have lc : ∀ x3 x4 x5, lcC (callF T k) [4] (.var 4) (.var 4 .nil) (.ex (.var 1)) (.cons (.ex (.cmp .ge (.var 4) (.var 2))) .nil) [some (.ref r), some (.tup (cl.map natD)), some (.int (n : Nat)), x3, x4, x5] S = .ok (.o (.lst ((cl.filter fun c => decide (n ≤ c)).map natD))) S := fun x3 x4 x5 =>
    lc_pure (g := .no) cl natD (fun c => decide (n ≤ c)) natD (by simp) trivial (fun c hc => ⟨_, rfl, by simp [wipeD, natD], fun _ => by simp [wipeD]⟩)
  have fh := filter_head cl n
  cases hf : cl.filter fun c => decide (n ≤ c) with
  | nil =>
    rw [hf] at fh lc
    have e : lendP cl ps n = none := by unfold lendP; rw [← fh]; rfl
    rw [e]
    simp [b_law_lend, lc, o3D]
  | cons c cs =>
    rw [hf] at fh lc
    have fh : clsOf cl n = some c := fh.symm
    have hc := cls_mem fh
    have c1 := (ok.clb c hc).1
    have hr2 : ∀ F, (S ++ F)[r]? = some (.lst (ps.map pgD)) := fun F => by rw [List.getElem?_append_left hrl]; exact hr
    have ep : ∀ j, ∀ hj : j < ps.length, atI (ps.map pgD) (j : Int) = some (pgD ps[j]) := fun j hj => by rw [CH.atI_nat, List.getElem?_map, List.getElem?_eq_getElem hj]; rfl
    have r1 : rngOk 0 (ps.length : Int) := rngOk_of (by omega) (by omega) (by omega) (by omega)
    have lp : ∀ j, openP ps c = some j → lendP cl ps n = some (j, slotIn ps j, c) := fun j e => by unfold lendP; rw [fh]; simp only [e]
    have gd : ∀ j, ∀ hj : j < ps.length, ps.getD j (0, []) = ps[j] := fun j hj => by rw [List.getD_eq_getElem?_getD, List.getElem?_eq_getElem hj]; rfl
    have nz : ¬ ((cs.length : Int) + 1 = 0) := by omega
    simp [b_law_lend, lc, hr, hr2, r1, natD, nz]
    refine wp_then ?_
    refine wp_rng ps.length (fun i ρ S' => ∃ x5, ρ = [some (.ref r), some (.tup (cl.map natD)), some (.int (n : Nat)), some (.ref S.length), some (.int (c : Nat)), x5] ∧ S' = S ++ [.lst (.int (c : Nat) :: cs.map natD)] ∧ ∀ j, ∀ hj : j < ps.length, j < i → (decide (ps[j].1 = c) && decide (false ∈ ps[j].2)) = false) (by omega) ⟨_, rfl, rfl, by simp⟩ (fun i ρ S1 hi hI => ?_) (fun ρ S1 hI => ?_)
    · obtain ⟨x5, rfl, rfl, hd⟩ := hI
      have e1 := ep i hi
      by_cases q1 : ps[i].1 = c
      · by_cases q2 : false ∈ ps[i].2
        · have op : openP ps c = some i := by
            unfold openP
            rw [fi_some hi (by simp [q1, q2]) fun j hj => hd j (by omega) hj]
          have ti := fun S => tindex_bl S false ps[i].2 q2
          have sl : slotIn ps i = ps[i].2.idxOf false := by unfold slotIn; rw [gd i hi, if_neg (by omega)]
          rw [lp i op]
          simp [hr2, e1, pgD, q1, q2, ti, o3D, natD, sl]
        · simp [hr2, e1, pgD, q1, q2]
          intro j hj hji
          rcases Nat.lt_succ_iff_lt_or_eq.mp hji with h | h
          · simpa using hd j hj h
          · subst h; intro _; exact q2
      · have q1' : ¬ ((ps[i].1 : Nat) : Int) = (c : Int) := by omega
        simp [hr2, e1, pgD, q1']
        intro j hj hji
        rcases Nat.lt_succ_iff_lt_or_eq.mp hji with h | h
        · simpa using hd j hj h
        · subst h; intro z; exact absurd z q1
    · obtain ⟨x5, rfl, rfl, hd⟩ := hI
      have n1 : ps.findIdx? (fun p => decide (p.1 = c) && decide (false ∈ p.2)) = none := fi_none fun i hi => hd i hi hi
      simp [hr2, r1]
      refine wp_then ?_
      refine wp_rng ps.length (fun i ρ S' => ∃ x5, ρ = [some (.ref r), some (.tup (cl.map natD)), some (.int (n : Nat)), some (.ref S.length), some (.int (c : Nat)), x5] ∧ S' = S ++ [.lst (.int (c : Nat) :: cs.map natD)] ∧ ∀ j, ∀ hj : j < ps.length, j < i → decide (ps[j].1 = 0) = false) (by omega) ⟨_, rfl, rfl, by simp⟩ (fun i ρ S1 hi hI => ?_) (fun ρ S1 hI => ?_)
      · obtain ⟨x5, rfl, rfl, hd⟩ := hI
        have e1 := ep i hi
        by_cases q1 : ps[i].1 = 0
        · have op : openP ps c = some i := by
            unfold openP
            rw [n1, fi_some hi (by simp [q1]) fun j hj => hd j (by omega) hj]
          have sl : slotIn ps i = 0 := by unfold slotIn; rw [gd i hi, if_pos q1]
          rw [lp i op]
          simp [hr2, e1, pgD, q1, o3D, natD, sl]
        · simp [hr2, e1, pgD, q1]
          intro j hj hji
          rcases Nat.lt_succ_iff_lt_or_eq.mp hji with h | h
          · simpa using hd j hj h
          · subst h; exact q1
      · obtain ⟨x5, rfl, rfl, hd⟩ := hI
        have n2 : ps.findIdx? (fun p => decide (p.1 = 0)) = none := fi_none fun i hi => hd i hi hi
        have op : openP ps c = none := by unfold openP; rw [n1, n2]
        have e : lendP cl ps n = none := by unfold lendP; rw [fh]; simp only [op]
        rw [e]
        simp [o3D]
theorem zip_range (l : List Bool) : l.zipIdx = (List.range l.length).map fun i => (l.getD i false, i) := by
  apply List.ext_getElem
  · simp
  · intro i h1 h2
    simp at h1
    simp [List.getD_eq_getElem?_getD, h1]
theorem lentOf_range (cells : Nat) (p : Pg) (i : Nat) : lentOf cells p i = ((List.range p.2.length).filter fun s => p.2.getD s false).map fun s => (i * cells + s * p.1, p.1) := by
  unfold lentOf
  rw [zip_range, List.filter_map, List.map_map]
  rfl
theorem lentL_snoc (cells : Nat) (ps : List Pg) (p : Pg) : lentL cells (ps ++ [p]) = lentL cells ps ++ lentOf cells p ps.length := by
  unfold lentL
  rw [List.zipIdx_append, List.flatMap_append]
  simp
theorem take_snoc {ps : List Pg} {i : Nat} (h : i < ps.length) : ps.take (i + 1) = ps.take i ++ [ps[i]] := by
  rw [List.take_succ, List.getElem?_eq_getElem h]; rfl
theorem lent_pre {cells : Nat} {cl : List Nat} {ps : List Pg} (ok : StOk cells cl ps) (i : Nat) : StOk cells cl (ps.take i) :=
  ⟨ok.clb, ok.ceb, by rw [List.length_take]; have := ok.len; omega, ok.cls, fun p hp => ok.pg p (List.mem_of_mem_take hp)⟩
theorem bin_add_ro' {S : Store} {r : Nat} {xs ys : List D} (h : S[r]? = some (.lst xs)) (hl : xs.length + ys.length ≤ sizeLine) : binR .add (.d (.ref r)) (.o (.lst ys)) S = .ok (.o (.lst (xs ++ ys))) S := bin_add_ro h hl
theorem lawLent_ok (k : Nat) {cells : Nat} {cl : List Nat} {ps : List Pg} (ok : StOk cells cl ps) {r : Nat} {S : Store} (hr : S[r]? = some (.lst (ps.map pgD))) :
    callF T (k + 1) ("_law_lent" : PySem.Str) [.ref r, .int (cells : Nat)] S = .ok (.o (.lst ((lentL cells ps).map prD))) S := by
  rw [call_eq (T := T) (p := 2) (n := 7) (b := b_law_lent) rfl rfl]
  refine fin_new ?_ (los_mapG (fun _ => rfl) _)
  have hl := ok.len
  have hc := ok.ceb
  have hrl := (List.getElem?_eq_some_iff.mp hr).1
  have hr2 : ∀ F, (S ++ F)[r]? = some (.lst (ps.map pgD)) := fun F => by rw [List.getElem?_append_left hrl]; exact hr
  have ep : ∀ j, ∀ hj : j < ps.length, atI (ps.map pgD) (j : Int) = some (pgD ps[j]) := fun j hj => by rw [CH.atI_nat, List.getElem?_map, List.getElem?_eq_getElem hj]; rfl
  have r1 : rngOk 0 (ps.length : Int) := rngOk_of (by omega) (by omega) (by omega) (by omega)
  simp [b_law_lent, hr, hr2, r1]
  refine wp_then ?_
  refine wp_rng ps.length (fun i ρ S' => ∃ (g : Nat) (x3 x4 x5 : Option D) (G : Store), ρ = [some (.ref r), some (.int (cells : Nat)), some (.ref (S.length + g)), x3, x4, x5, none] ∧ S' = S ++ G ∧ G[g]? = some (.lst ((lentL cells (ps.take i)).map prD))) (by omega)
    ⟨0, none, none, none, [.lst []], rfl, rfl, by simp [lentL]⟩ (fun i ρ S1 hi hI => ?_) (fun ρ S1 hI => ?_)
  · obtain ⟨g, x3, x4, x5, G, rfl, rfl, hG⟩ := hI
    have e1 := ep i hi
    have hm : ps[i] ∈ ps := List.getElem_mem hi
    have h24 := pg_len ok hm
    have ho : ps[i].1 ≤ 24 := by
      rcases ok.pg _ hm with e | ⟨e, _⟩
      · rw [e]; exact Nat.zero_le _
      · have := (ok.clb _ e).2; omega
    have ll := lent_len (lent_pre ok i)
    have ll2 := lent_len (lent_pre ok (i + 1))
    have hG' : (S ++ G)[S.length + g]? = some (.lst ((lentL cells (ps.take i)).map prD)) := by simpa using hG
    have r2 : rngOk 0 (ps[i].2.length : Int) := rngOk_of (by omega) (by omega) (by omega) (by omega)
    have lc : ∀ x6, lcC (callF T k) [6] (.tup (.cons (.bin .add (.bin .mul (.var 3) (.var 1)) (.bin .mul (.var 6) (.var 4))) (.cons (.var 4) .nil))) (.var 6 .nil) (.rng (.con (.int 0)) (.b1 .len (.var 5))) (.cons (.ex (.idx (.var 5) (.var 6))) .nil)
        [some (.ref r), some (.int (cells : Nat)), some (.ref (S.length + g)), some (.int (i : Nat)), some (.int (ps[i].1 : Nat)), some (.tup (ps[i].2.map D.bl)), x6] (S ++ G) = .ok (.o (.lst ((lentOf cells ps[i] i).map prD))) (S ++ G) := fun x6 => by
      rw [lentOf_range, List.map_map]
      refine lc_pure (g := .no) (List.range ps[i].2.length) (fun s => .int (s : Nat)) (fun s => ps[i].2.getD s false) _ (by simp [r2, rngD0]) trivial (fun s hs => ⟨_, rfl, ?_, fun _ => ?_⟩)
      · have hs := List.mem_range.mp hs
        have eb : atI (ps[i].2.map D.bl) (s : Int) = some (.bl ps[i].2[s]) := by rw [CH.atI_nat, List.getElem?_map, List.getElem?_eq_getElem hs]; rfl
        simp [wipeD, eb, List.getD_eq_getElem?_getD, hs]
      · have a1 := fun S => mul_n i cells (by omega) S
        have a2 := fun S => mul_n s ps[i].1 (by omega) S
        have a3 := fun S => add_n (i * cells) (s * ps[i].1) S
        simp [-Int.natCast_mul, -Int.natCast_add, -CH.bin_mul, -CH.bin_add, wipeD, a1, a2, a3, prD]
    have tl : (ps.take i).length = i := by rw [List.length_take]; omega
    have es : lentL cells (ps.take (i + 1)) = lentL cells (ps.take i) ++ lentOf cells ps[i] i := by rw [take_snoc hi, lentL_snoc, tl]
    rw [es, List.length_append] at ll2
    have ad := bin_add_ro hG' (ys := (lentOf cells ps[i] i).map prD) (by rw [List.length_map, List.length_map, sl_pos]; omega)
    rw [es]
    simp [hr2, e1, pgD, bindT, lc, ad]
  · obtain ⟨g, x3, x4, x5, G, rfl, rfl, hG⟩ := hI
    rw [List.take_length] at hG
    simp [hG]
end K58
namespace K58
open PySem PySem.Spec PyProof.Rows L2 CH
theorem lend_some {cl : List Nat} {ps : List Pg} {n : Nat} {x : Nat × Nat × Nat} (h : lendP cl ps n = some x) : x.2.2 ∈ cl ∧ openP ps x.2.2 = some x.1 ∧ x.2.1 = slotIn ps x.1 := by
  unfold lendP at h
  cases e1 : clsOf cl n with
  | none => rw [e1] at h; cases h
  | some c =>
    rw [e1] at h
    dsimp only at h
    cases e2 : openP ps c with
    | none => rw [e2] at h; cases h
    | some k =>
      rw [e2] at h
      cases h
      exact ⟨cls_mem e1, e2, rfl⟩
theorem lentPs_ok {cells : Nat} {cl : List Nat} {ps : List Pg} (ok : StOk cells cl ps) {n : Nat} {x : Nat × Nat × Nat} (h : lendP cl ps n = some x) : StOk cells cl (lentPs cells ps x) := by
  obtain ⟨hc, ho, hs⟩ := lend_some h
  obtain ⟨r1, r2, r3, r4, r5⟩ := row_ok ok hc ho
  refine ⟨ok.clb, ok.ceb, by unfold lentPs; rw [List.length_set]; exact ok.len, ok.cls, fun p hp => ?_⟩
  rcases List.mem_or_eq_of_mem_set hp with q | q
  · exact ok.pg p q
  · right
    rw [q]
    refine ⟨hc, by show (List.set _ _ _).length = _; rw [List.length_set]; exact r1, ?_⟩
    show true ∈ (rowOf cells ps x.1 x.2.2).set x.2.1 true
    rw [hs]
    exact List.mem_iff_getElem.mpr ⟨slotIn ps x.1, by rw [List.length_set, r1]; exact r5, List.getElem_set_self _⟩
theorem backPs_ok {cells : Nat} {cl : List Nat} {ps : List Pg} (ok : StOk cells cl ps) {ad : Nat} {x : Nat × Nat} (h : slotP cells ps ad = some x) : StOk cells cl (backPs ps x) := by
  obtain ⟨p, hp, h0, h1, _, _⟩ := slot_some h
  have eg : ps.getD x.1 (0, []) = p := by rw [List.getD_eq_getElem?_getD, hp]; rfl
  refine ⟨ok.clb, ok.ceb, by unfold backPs; rw [List.length_set]; exact ok.len, ok.cls, fun q hq => ?_⟩
  rcases List.mem_or_eq_of_mem_set hq with e | e
  · exact ok.pg q e
  · rw [e]
    unfold leftP
    rw [eg]
    split
    · rename_i g
      rcases ok.pg p (List.mem_of_getElem? hp) with e2 | ⟨e2, e3, _⟩
      · rw [e2] at h0; exact absurd rfl h0
      · exact .inr ⟨e2, by show (List.set _ _ _).length = _; rw [List.length_set]; exact e3, g⟩
    · exact .inl rfl
/-! rows of orders -/
abbrev Or := Bool × Nat
def orD (o : Or) : D := .tup [.str (if o.1 then ("lend" : PySem.Str) else ("back" : PySem.Str)), .int (o.2 : Nat)]
def resD (cells : Nat) (cl : List Nat) (ps : List Pg) (o : Or) : D :=
  if o.1 then (match lendP cl ps o.2 with
    | none => .non
    | some x => natD (x.1 * cells + x.2.1 * x.2.2))
  else .bl (slotP cells ps o.2).isSome
def nxtP (cells : Nat) (cl : List Nat) (ps : List Pg) (o : Or) : List Pg :=
  if o.1 then (match lendP cl ps o.2 with
    | none => ps
    | some x => lentPs cells ps x)
  else (match slotP cells ps o.2 with
    | none => ps
    | some x => backPs ps x)
def runP (cells : Nat) (cl : List Nat) (ps : List Pg) (os : List Or) : List D × List Pg := os.foldl (fun a o => (a.1 ++ [resD cells cl a.2 o], nxtP cells cl a.2 o)) ([], ps)
theorem runP_snoc (cells : Nat) (cl : List Nat) (ps : List Pg) (os : List Or) (o : Or) : runP cells cl ps (os ++ [o]) = ((runP cells cl ps os).1 ++ [resD cells cl (runP cells cl ps os).2 o], nxtP cells cl (runP cells cl ps os).2 o) := by simp [runP]
theorem nxt_ok {cells : Nat} {cl : List Nat} {ps : List Pg} (ok : StOk cells cl ps) (o : Or) : StOk cells cl (nxtP cells cl ps o) := by
  unfold nxtP
  split
  · split
    · exact ok
    · rename_i x e; exact lentPs_ok ok e
  · split
    · exact ok
    · rename_i x e; exact backPs_ok ok e
theorem lo_res (n cells : Nat) (cl : List Nat) (ps : List Pg) (o : Or) : (resD cells cl ps o).lo n = true := by
  unfold resD
  split
  · split <;> rfl
  · rfl
theorem los_app (n : Nat) : ∀ (a b : List D), los n (a ++ b) = (los n a && los n b)
  | [], b => by simp [los]
  | x :: a, b => by simp [los, los_app n a b, Bool.and_assoc]
theorem runP_len (cells : Nat) (cl : List Nat) (ps : List Pg) (os : List Or) : (runP cells cl ps os).1.length = os.length ∧ ∀ n, los n (runP cells cl ps os).1 = true := by
  suffices h : ∀ (os : List Or) (a : List D × List Pg), (∀ n, los n a.1 = true) → (os.foldl (fun a o => (a.1 ++ [resD cells cl a.2 o], nxtP cells cl a.2 o)) a).1.length = a.1.length + os.length ∧ ∀ n, los n (os.foldl (fun a o => (a.1 ++ [resD cells cl a.2 o], nxtP cells cl a.2 o)) a).1 = true from by
    have := h os ([], ps) (fun n => rfl)
    simpa [runP] using this
  intro os
  induction os with
  | nil => intro a ha; exact ⟨rfl, ha⟩
  | cons o os ih =>
    intro a ha
    obtain ⟨h1, h2⟩ := ih (a.1 ++ [resD cells cl a.2 o], nxtP cells cl a.2 o) (fun n => by
      have h3 := ha n
      have h4 := lo_res n cells cl a.2 o
      simp [los_app, los, h3, h4])
    refine ⟨?_, h2⟩
    rw [List.foldl_cons, h1]
    simp
    omega
theorem lendD_eq (cells : Nat) (cl : List Nat) (ps : List Pg) (n : Nat) : lendD cells cl ps (lendP cl ps n) = .tup [stD cells cl (nxtP cells cl ps (true, n)), resD cells cl ps (true, n)] := by
  unfold nxtP resD
  simp only [if_true]
  cases lendP cl ps n <;> rfl
theorem isn_st (cells : Nat) (cl : List Nat) (ps : List Pg) (S : Store) : cmpR .isn (.d (stD cells cl ps)) (.d .non) S = some true := rfl
theorem is_st (cells : Nat) (cl : List Nat) (ps : List Pg) (S : Store) : cmpR .is (.d (stD cells cl ps)) (.d .non) S = some false := rfl
theorem s_lb : ¬ ("back" : PySem.Str) = ("lend" : PySem.Str) := by decide +kernel
theorem run_ok (k : Nat) {cells many : Nat} {cl : List Nat} (ok : StOk cells cl (List.replicate many (0, []))) (h1 : 1 ≤ many) (h2 : many ≤ 6) {os : List Or} (ha : ∀ o ∈ os, o.2 < 1000) (hl : os.length ≤ 100) (S : Store) :
    callF T (k + 3) ("run_pages" : PySem.Str) [.int (cells : Nat), .int (many : Nat), .tup (cl.map natD), .tup (os.map orD)] S = .ok (.d (.tup [.tup (runP cells cl (List.replicate many (0, [])) os).1, stD cells cl (runP cells cl (List.replicate many (0, [])) os).2])) S := by
  rw [call_eq (T := T) (p := 4) (n := 9) (b := b_run_pages) rfl rfl]
  refine fin_val ?_ (by simp [D.lo, los, lo_st, (runP_len _ _ _ _).2])
  have np := fun S => newPages_ok (k + 1) cells many cl h1 (by omega) S
  simp [b_run_pages, np]
  refine wp_then ?_
  refine wp_map (fun done ρ S' => ∃ x6 x7 x8, StOk cells cl (runP cells cl (List.replicate many (0, [])) done).2 ∧ ρ = [some (.int (cells : Nat)), some (.int (many : Nat)), some (.tup (cl.map natD)), some (.tup (os.map orD)), some (stD cells cl (runP cells cl (List.replicate many (0, [])) done).2), some (.ref S.length), x6, x7, x8] ∧
    S' = S ++ [.lst (runP cells cl (List.replicate many (0, [])) done).1]) ⟨_, _, _, ok, rfl, rfl⟩ (fun _ _ _ _ => trivial) (fun done o rest ρ S1 e hI => ?_) (fun ρ S1 hI => ?_)
  · obtain ⟨x6, x7, x8, okd, rfl, rfl⟩ := hI
    have hdl : done.length + 1 ≤ os.length := by rw [e]; simp
    have rl := (runP_len cells cl (List.replicate many (0, [])) done).1
    have ho := ha o (by rw [e]; simp)
    rw [runP_snoc]
    have okn := nxt_ok okd o
    generalize runP cells cl (List.replicate many (0, [])) done = rp at *
    have z1 : rp.1.length < 16777216 := by omega
    obtain ⟨b, n⟩ := o
    cases b with
    | true =>
      have le := fun S => lend_ok k okd n S
      rw [lendD_eq] at le
      simp [orD, le, bindT, sl_pos, z1]
      exact okn
    | false =>
      have bk := fun S => back_ok k okd (ad := n) ho S
      cases hs : slotP cells rp.2 n with
      | none =>
        rw [hs] at bk
        have e1 : nxtP cells cl rp.2 (false, n) = rp.2 := by unfold nxtP; simp [hs]
        have e2 : resD cells cl rp.2 (false, n) = .bl false := by unfold resD; simp [hs]
        simp [orD, bk, backD, s_lb, sl_pos, z1, e1, e2]
        exact okd
      | some x =>
        rw [hs] at bk
        have e1 : nxtP cells cl rp.2 (false, n) = backPs rp.2 x := by unfold nxtP; simp [hs]
        have e2 : resD cells cl rp.2 (false, n) = .bl true := by unfold resD; simp [hs]
        rw [e1] at okn
        simp [-CH.cmp_is_n, orD, bk, backD, s_lb, sl_pos, z1, e1, e2, isn_st, is_st]
        exact okn
  · obtain ⟨x6, x7, x8, okd, rfl, rfl⟩ := hI
    simp
/-! which addresses are lent -/
theorem lent_iff {cells : Nat} {cl : List Nat} {ps : List Pg} (ok : StOk cells cl ps) (ad : Nat) : ad ∈ (lentL cells ps).map (·.1) ↔ (slotP cells ps ad).isSome = true := by
  have hc := ok.ceb
  constructor
  · intro h
    obtain ⟨y, hy, e⟩ := List.mem_map.mp h
    obtain ⟨x, hx, hy⟩ := List.mem_flatMap.mp hy
    obtain ⟨p, i⟩ := x
    have hp : ps[i]? = some p := List.mk_mem_zipIdx_iff_getElem?.mp hx
    rw [lentOf_range] at hy
    obtain ⟨s, hs, e2⟩ := List.mem_map.mp hy
    obtain ⟨h1, h2⟩ := List.mem_filter.mp hs
    have h1 := List.mem_range.mp h1
    rw [← e2] at e
    have e : i * cells + s * p.1 = ad := e
    rcases ok.pg p (List.mem_of_getElem? hp) with q | ⟨q, q2, _⟩
    · have h1 : s < p.2.length := h1
      rw [q] at h1; cases h1
    · have hp1 := (ok.clb _ q).1
      have h1 : s < p.2.length := h1
      have lt : s * p.1 < cells := by
        have a : (s + 1) * p.1 ≤ cells / p.1 * p.1 := Nat.mul_le_mul_right _ (by omega)
        have b := Nat.div_mul_le_self cells p.1
        rw [Nat.succ_mul] at a
        omega
      have d1 : ad / cells = i := by
        rw [← e, Nat.add_comm, Nat.add_mul_div_right _ _ (by omega), Nat.div_eq_of_lt lt, Nat.zero_add]
      have m1 : ad % cells = s * p.1 := by
        rw [← e, Nat.add_comm, Nat.add_mul_mod_self_right, Nat.mod_eq_of_lt lt]
      have d2 : s * p.1 / p.1 = s := Nat.mul_div_cancel _ (by omega)
      unfold slotP
      rw [d1, hp]
      dsimp only
      rw [if_neg (by omega), m1, d2, if_pos ⟨Nat.mul_mod_left _ _, by
        have h2 : p.2.getD s false = true := h2
        rw [List.getD_eq_getElem?_getD] at h2
        rw [List.getElem?_eq_getElem h1] at h2 ⊢
        exact congrArg some h2⟩]
      rfl
  · intro h
    obtain ⟨x, hx⟩ := Option.isSome_iff_exists.mp h
    obtain ⟨p, hp, h0, h1, e, hm⟩ := slot_some hx
    have hs := (List.getElem?_eq_some_iff.mp h1).1
    refine List.mem_map.mpr ⟨(ad, p.1), List.mem_flatMap.mpr ⟨(p, x.1), List.mk_mem_zipIdx_iff_getElem?.mpr hp, ?_⟩, rfl⟩
    rw [lentOf_range]
    refine List.mem_map.mpr ⟨x.2, List.mem_filter.mpr ⟨List.mem_range.mpr hs, ?_⟩, ?_⟩
    · show p.2.getD x.2 false = true
      rw [List.getD_eq_getElem?_getD, h1]; rfl
    · rw [e]
      show (ad / cells * cells + ad % cells / p.1 * p.1, p.1) = (ad, p.1)
      have a := Nat.div_add_mod ad cells
      have b := Nat.div_add_mod (ad % cells) p.1
      rw [hm] at b
      rw [Nat.mul_comm] at a b
      congr 1
      omega
end K58
namespace K58
open PySem PySem.Spec PyProof.Rows L2 CH
theorem tr_map {α : Type} {n : Nat} {f : α → D} {xs : List α} (hl : xs.length ≤ 1000000) (h : ∀ x ∈ xs, Tree n (f x)) : Tree (n + 1) (.tup (xs.map f)) := .tup (by simpa using hl) fun x hx => by
  obtain ⟨y, hy, rfl⟩ := List.mem_map.mp hx
  exact h y hy
theorem tr_pg {cells : Nat} {cl : List Nat} {ps : List Pg} (ok : StOk cells cl ps) {p : Pg} (hp : p ∈ ps) : Tree 2 (pgD p) := .tup (by simp) fun x hx => by
  have := pg_len ok hp
  simp at hx
  rcases hx with rfl | rfl
  · exact .int _
  · exact tr_map (by omega) fun b _ => .bl b
theorem tr_st {cells : Nat} {cl : List Nat} {ps : List Pg} (ok : StOk cells cl ps) : Tree 4 (stD cells cl ps) := .tup (by simp) fun x hx => by
  have h1 := ok.len
  have h2 := ok.cls
  simp at hx
  rcases hx with rfl | rfl | rfl | rfl
  · exact .str _
  · exact .int _
  · exact tr_map (n := 2) (by omega) fun c _ => .int _
  · exact tr_map (by omega) fun p hp => tr_pg ok hp
theorem tr_lent {cells : Nat} {cl : List Nat} {ps : List Pg} (ok : StOk cells cl ps) : Tree 2 (.tup ((lentL cells ps).map prD)) := tr_map (by have := lent_len ok; omega) fun x _ => .tup (by simp) fun y hy => by
  simp at hy
  rcases hy with rfl | rfl <;> exact .int _
theorem tr_res (n cells : Nat) (cl : List Nat) (ps : List Pg) (o : Or) : Tree n (resD cells cl ps o) := by
  unfold resD
  split
  · split
    · exact .non
    · exact .int _
  · exact .bl _
theorem tr_run (cells : Nat) (cl : List Nat) (ps : List Pg) (os : List Or) : ∀ d ∈ (runP cells cl ps os).1, Tree 3 d := by
  suffices h : ∀ (os : List Or) (a : List D × List Pg), (∀ d ∈ a.1, Tree 3 d) → ∀ d ∈ (os.foldl (fun a o => (a.1 ++ [resD cells cl a.2 o], nxtP cells cl a.2 o)) a).1, Tree 3 d from h os ([], ps) (by simp)
  intro os
  induction os with
  | nil => intro a ha; exact ha
  | cons o os ih =>
    intro a ha
    refine ih _ fun d hd => ?_
    rcases List.mem_append.mp hd with q | q
    · exact ha d q
    · rw [List.mem_singleton.mp q]; exact tr_res _ _ _ _ _
theorem ss_oi (S : Store) (is : List Int) (h : is.length < 64) : ssetR (.o (.lst (is.map D.int))) S = .ok (.o (.lst ((srt (seti is)).map D.int))) S := by
  have e2 : seqv (.o (.lst (is.map D.int))) S = some (is.map D.int) := rfl
  unfold ssetR
  simp only [e2, Option.bind_some, asI_map]
  rw [if_pos ⟨by omega, Nat.lt_of_le_of_lt (seti_len is) h⟩]
theorem classes_lc (cells : Nat) (h0 : 0 < cells) {is : List Int} {E : Store} {ρ : CH.Env} (hρ1 : ρ[1]? = some (some (.ref 1))) (hρ2 : ρ[2]? = some (some (.int (cells : Nat)))) (m : Nat) (n1 : Nat) :
    ∃ (ks : List Nat) (n' : Nat), ks.length = m ∧ (∀ z ∈ ks, 1 ≤ z ∧ z ≤ cells) ∧
      compL .no (.var 9 .nil) (wipeD ρ [9]) (tst (callF T 30) .nil) (lcB (callF T 30) (.bin .add (.con (.int 1)) (.call ("_law_draw" : PySem.Str) (.cons (.var 1) (.cons (.var 2) .nil))))) (rngD 0 (m : Int)) (bx is n1 E) [] = .ok (ks.map natD) (bx is n' E) := by
  obtain ⟨ys, S', e1, ks, rfl, hl, hz, n', rfl⟩ := comp_rng (cf := callF T 30) (i := 9) (e := .bin .add (.con (.int 1)) (.call ("_law_draw" : PySem.Str) (.cons (.var 1) (.cons (.var 2) .nil)))) (ρ := wipeD ρ [9]) (lo := 0) (hi := (m : Int)) (S := bx is n1 E) m
    (fun k acc S => ∃ ks : List Nat, acc = ks.map natD ∧ ks.length = k ∧ (∀ z ∈ ks, 1 ≤ z ∧ z ≤ cells) ∧ ∃ n, S = bx is n E) (by omega) ⟨[], rfl, rfl, by simp, _, rfl⟩ (by
      rintro j _ _ hj ⟨ks, rfl, hl, hz, n2, rfl⟩
      obtain ⟨q, hq, hq2⟩ := draw_nat (is := is) (n := n2) (m := cells) h0
      have p0 : (0 : Int) < (cells : Int) := by omega
      have g1 : (wipeD ρ [9])[1]? = some (some (.ref 1)) := by simp [wipeD, hρ1]
      have g2 : (wipeD ρ [9])[2]? = some (some (.int (cells : Nat))) := by simp [wipeD, hρ2]
      refine ⟨natD (1 + q), bx is (n2 + 1) E, ?_, ks ++ [1 + q], by simp, by simp [hl], ?_, _, rfl⟩
      · simp [g1, g2, draw_bx tok, p0, h0, hq, natD]
      · intro z hz2
        rcases List.mem_append.mp hz2 with q2 | q2
        · exact hz z q2
        · rw [List.mem_singleton.mp q2]; omega)
  exact ⟨ks, n', hl, hz, e1⟩
def LI (ns is : List Int) (cells many : Nat) (cl : List Nat) (ps0 : List Pg) (i : Nat) (ρ : CH.Env) (S' : Store) : Prop := ∃ (ps : List Pg) (os : List Or) (n : Nat) (G : Store) (x9 x10 x11 x12 x13 x14 x15 x16 x17 x18 x19 x20 : Option D), StOk cells cl ps ∧ (runP cells cl ps0 os).2 = ps ∧ os.length = i ∧ (∀ o ∈ os, o.2 < 1000) ∧
      ρ = [some (.lst (ns.map D.int)), some (.ref 1), some (.int (cells : Nat)), some (.int (many : Nat)), some (.tup (cl.map natD)), some (stD cells cl ps), some (.ref 2), some (.ref 3), some (.ref 4), x9, x10, x11, x12, x13, x14, x15, x16, x17, x18, x19, x20] ∧
      S' = bx is n (.lst (ps.map pgD) :: .lst (os.map orD) :: .lst (runP cells cl ps0 os).1 :: G)
/-- one more order -/
theorem LI.next {ns is : List Int} {cells many : Nat} {cl : List Nat} {ps0 ps : List Pg} {i : Nat} {os : List Or} (ok : StOk cells cl ps) (hps : (runP cells cl ps0 os).2 = ps) (hol : os.length = i) (hos : ∀ o ∈ os, o.2 < 1000) (o : Or) (ho : o.2 < 1000) (n : Nat) (G : Store) (x9 x10 x11 x12 x13 x14 x15 x16 x17 x18 x19 x20 : Option D) :
    LI ns is cells many cl ps0 (i + 1) [some (.lst (ns.map D.int)), some (.ref 1), some (.int (cells : Nat)), some (.int (many : Nat)), some (.tup (cl.map natD)), some (stD cells cl (nxtP cells cl ps o)), some (.ref 2), some (.ref 3), some (.ref 4), x9, x10, x11, x12, x13, x14, x15, x16, x17, x18, x19, x20]
      (bx is n (.lst ((nxtP cells cl ps o).map pgD) :: .lst (os.map orD ++ [orD o]) :: .lst ((runP cells cl ps0 os).1 ++ [resD cells cl ps o]) :: G)) := by
  refine ⟨nxtP cells cl ps o, os ++ [o], n, G, x9, x10, x11, x12, x13, x14, x15, x16, x17, x18, x19, x20, nxt_ok ok o, by rw [runP_snoc, hps], by rw [List.length_append]; simp [hol], fun y hy => ?_, rfl, ?_⟩
  · rcases List.mem_append.mp hy with q | q
    · exact hos y q
    · rw [List.mem_singleton.mp q]; exact ho
  · rw [runP_snoc, hps, List.map_append]; rfl
theorem plain (ns : List Int) (h : ns.length ≤ 63) (hb : ∀ z ∈ ns, Builtin.Int.intBits z ≤ 1048576) : ∃ S', callF T (30 + 1) d_law.nm [.lst (ns.map D.int)] [] = .ok (.d (.bl true)) S' := by
  obtain ⟨is, h1, h2, h3⟩ := box_ok tok 27 ns
  rw [bx_mk] at h3
  have h3 : matB (callF T 30 ("_law_box" : PySem.Str) [.lst (ns.map D.int), .int 0, .int 63] []) = .ok (.ref 1) (bx is 0 []) := h3
  obtain ⟨j1, hj1, hj1b⟩ := draw_nat (is := is) (n := 0) (m := 21) (by decide)
  have hj1 : dv is 0 21 = (j1 : Int) := hj1
  obtain ⟨j2, hj2, hj2b⟩ := draw_nat (is := is) (n := 1) (m := 6) (by decide)
  have hj2 : dv is 1 6 = (j2 : Int) := hj2
  obtain ⟨j3, hj3, hj3b⟩ := draw_nat (is := is) (n := 2) (m := 3) (by decide)
  have hj3 : dv is 2 3 = (j3 : Int) := hj3
  obtain ⟨cells, hcells⟩ : ∃ c : Nat, c = 4 + j1 := ⟨_, rfl⟩
  obtain ⟨many, hmany⟩ : ∃ c : Nat, c = 1 + j2 := ⟨_, rfl⟩
  have e1 : (4 : Int) + (j1 : Int) = ((cells : Nat) : Int) := by omega
  have e2 : (1 : Int) + (j2 : Int) = ((many : Nat) : Int) := by omega
  have e3 : (1 : Int) + (j3 : Int) = ((1 + j3 : Nat) : Int) := by omega
  obtain ⟨ks, n1, k1, k2, k3⟩ := classes_lc cells (by omega) (is := is) (E := []) (ρ := [some (.lst (ns.map D.int)), some (.ref 1), some (.int (cells : Nat)), some (.int (many : Nat)), none, none, none, none, none, none, none, none, none, none, none, none, none, none, none, none, none]) rfl rfl (1 + j3) 3
  obtain ⟨cl, hcl⟩ : ∃ c : List Nat, c = (srt (seti (ks.map fun k : Nat => (k : Int)))).map Int.toNat := ⟨_, rfl⟩
  have cln : cl.map natD = (srt (seti (ks.map fun k : Nat => (k : Int)))).map D.int := by
    rw [hcl, List.map_map]
    refine List.map_congr_left fun z hz => ?_
    have hz := (seti_mem _ _).mp ((List.mergeSort_perm _ _).mem_iff.mp hz)
    obtain ⟨k, _, rfl⟩ := List.mem_map.mp hz
    rfl
  have clm : ∀ c ∈ cl, 1 ≤ c ∧ c ≤ cells := fun c hc => by
    rw [hcl] at hc
    obtain ⟨z, hz, rfl⟩ := List.mem_map.mp hc
    have hz := (seti_mem _ _).mp ((List.mergeSort_perm _ _).mem_iff.mp hz)
    obtain ⟨k, hk, rfl⟩ := List.mem_map.mp hz
    exact k2 k hk
  have cll : cl.length ≤ 3 := by
    rw [hcl, List.length_map, show (srt (seti (ks.map fun k : Nat => (k : Int)))).length = _ from (List.mergeSort_perm _ _).length_eq]
    refine Nat.le_trans (seti_len _) ?_
    rw [List.length_map]; omega
  have ss := fun S => ss_oi S (ks.map fun k : Nat => (k : Int)) (by rw [List.length_map]; omega)
  rw [← cln, List.map_map] at ss
  have ss : ∀ S, ssetR (.o (.lst (ks.map natD))) S = .ok (.o (.lst (cl.map natD))) S := ss
  have ok0 : StOk cells cl (List.replicate many (0, [])) := ⟨clm, by omega, by simp; omega, cll, fun p hp => .inl (List.eq_of_mem_replicate hp)⟩
  have np := fun S => newPages_ok 29 cells many cl (by omega) (by omega) S
  have mu := fun S => mul_o (S := S) (xs := [D.tup [.int 0, .tup []]]) (k := many) (by omega) (by simp)
  rw [flat_rep] at mu
  have er : List.replicate many (D.tup [.int 0, .tup []]) = (List.replicate many ((0, []) : Pg)).map pgD := by rw [List.map_replicate]; rfl
  rw [er] at mu
  generalize hps0 : List.replicate many ((0, []) : Pg) = ps0 at *
  have r3 : rngOk 0 ((1 + j3 : Nat) : Int) := rngOk_of (by omega) (by omega) (by omega) (by omega)
  have rc0 : (0 : Int) < (cells : Int) := by omega
  refine ⟨[], ?_⟩
  rw [show d_law.nm = ("law" : PySem.Str) from rfl, call_eq (T := T) (p := 1) (n := 21) (b := b_law) rfl rfl]
  refine fin_val ?_ rfl
  rw [← e3] at k3 r3
  simp [wipeD] at k3
  simp [-Int.natCast_add, b_law, h3, draw_bx tok, hj1, hj2, hj3, e1, e2, lcC, r3, wipeD, k3, ss, np, mu]
  obtain ⟨j4, hj4, hj4b⟩ := draw_nat (is := is) (n := n1) (m := 21) (by decide)
  have hj4 : dv is n1 21 = (j4 : Int) := hj4
  have r4 : rngOk 0 (j4 : Int) := rngOk_of (by omega) (by omega) (by omega) (by omega)
  simp [draw_bx tok, hj4, r4]
  refine wp_then ?_
  refine wp_rng j4 (LI ns is cells many cl ps0) (by omega)
    ⟨ps0, [], _, [], none, none, none, none, none, none, none, none, none, none, none, none, ok0, rfl, rfl, by simp, rfl, rfl⟩ (fun i ρ S1 hi hI => ?_) (fun ρ S1 hI => ?_)
  · obtain ⟨ps, os, n, G, x9, x10, x11, x12, x13, x14, x15, x16, x17, x18, x19, x20, ok, hps, hol, hos, rfl, rfl⟩ := hI
    have zi : i < 21 := by omega
    have rl := (runP_len cells cl ps0 os).1
    have z1 : os.length < 16777216 := by omega
    have z2 : (runP cells cl ps0 os).1.length < 16777216 := by omega
    have rc1 : 0 < cells := by omega
    simp [draw_bx tok]
    refine wp_thenI (LI ns is cells many cl ps0 (i + 1)) ?_ ?_
    · by_cases q : 0 < dv is n 3
      · obtain ⟨w0, hw0, hw0b⟩ := draw_nat (is := is) (n := n + 1) (m := cells) (by omega)
        have ew : (1 : Int) + (w0 : Int) = ((1 + w0 : Nat) : Int) := by omega
        have la := fun n G => lawLend_ok 29 ok (r := 2) (n := 1 + w0) (S := bx is n (.lst (ps.map pgD) :: .lst (os.map orD) :: .lst (runP cells cl ps0 os).1 :: G)) rfl
        have le := fun S => lend_ok 28 ok (1 + w0) S
        rw [lendD_eq] at le
        have okn := nxt_ok ok (true, 1 + w0)
        have sr := runP_snoc cells cl ps0 os (true, 1 + w0)
        rw [hps] at sr
        have sa := fun S => same_ok tok (tr_res 0 cells cl ps (true, 1 + w0)) 29 S
        cases hlp : lendP cl ps (1 + w0) with
        | none =>
          rw [hlp] at la
          have r1 : resD cells cl ps (true, 1 + w0) = .non := by unfold resD; simp [hlp]
          rw [r1] at sa le sr
          simp [-Int.natCast_add, q, draw_bx tok, rc0, rc1, hw0, ew, la, o3D, le, sa, sl_pos, z1, z2]
          have e1 : nxtP cells cl ps (true, 1 + w0) = ps := by unfold nxtP; simp [hlp]
          have nx := LI.next (ns := ns) (is := is) (many := many) (i := i) ok hps hol hos (true, 1 + w0) (by show 1 + w0 < 1000; omega)
          rw [e1, r1] at nx
          rw [e1]
          exact nx _ _ _ _ _ _ _ _ _ _ _ _ _ _
        | some x =>
          rw [hlp] at la
          obtain ⟨k, s, c⟩ := x
          obtain ⟨hc, ho, hs⟩ := lend_some hlp
          have hs : s = slotIn ps k := hs
          have hc : c ∈ cl := hc
          have ho : openP ps c = some k := ho
          obtain ⟨p, hp, _⟩ := open_at ho
          obtain ⟨w1, w2, w3, w4, w5⟩ := row_ok ok hc ho
          rw [← hs] at w4 w5
          have hk : k < ps.length := (List.getElem?_eq_some_iff.mp hp).1
          have ep : atI (ps.map pgD) (k : Int) = some (pgD p) := by rw [CH.atI_nat, List.getElem?_map, hp]; rfl
          have eg : ps.getD k (0, []) = p := by rw [List.getD_eq_getElem?_getD, hp]; rfl
          have hr : rowOf cells ps k c = if p.1 = 0 then List.replicate (cells / c) false else p.2 := by unfold rowOf; rw [eg]
          have ix1 : ixN (rowOf cells ps k c).length (s : Int) = some s := ixN_nat (by rw [w1]; exact w5)
          have ix2 : ixN ps.length (k : Int) = some k := ixN_nat hk
          obtain ⟨c1, c2⟩ := ok.clb c hc
          have dle : cells / c ≤ 24 := Nat.le_trans (Nat.div_le_self _ _) (by omega)
          have fd := fun S => fdiv_n cells c (by omega) (by omega) (by omega) S
          have mo := fun S => mul_o (S := S) (xs := [D.bl false]) (k := cells / c) (by omega) (by simp)
          rw [flat_rep] at mo
          have m1 := fun S => mul_n k cells (by omega) S
          have m2 := fun S => mul_n s c (by omega) S
          have a3 := fun S => add_n (k * cells) (s * c) S
          have r1 : resD cells cl ps (true, 1 + w0) = .int ((k * cells + s * c : Nat) : Int) := by unfold resD; simp only [hlp]; rfl
          rw [r1] at sa le sr
          have e1 : nxtP cells cl ps (true, 1 + w0) = ps.set k (c, (rowOf cells ps k c).set s true) := by unfold nxtP; simp only [hlp]; rfl
          have nx := LI.next (ns := ns) (is := is) (many := many) (i := i) ok hps hol hos (true, 1 + w0) (by show 1 + w0 < 1000; omega)
          rw [e1, r1] at nx
          rw [e1] at le
          have em : (ps.set k (c, (rowOf cells ps k c).set s true)).map pgD = (ps.map pgD).set k (.tup [.int (c : Nat), .tup (((rowOf cells ps k c).map D.bl).set s (.bl true))]) := by
            rw [List.map_set]
            congr 2
            show D.tup [_, .tup _] = _
            rw [List.map_set]
          rw [em] at nx
          have ea : ((k * cells : Nat) : Int) + ((s * c : Nat) : Int) = ((k * cells + s * c : Nat) : Int) := by rw [Int.natCast_add]
          by_cases q0 : p.1 = 0
          · rw [if_pos q0] at hr
            have er : List.replicate (cells / c) (D.bl false) = (rowOf cells ps k c).map D.bl := by rw [hr, List.map_replicate]
            rw [er] at mo
            generalize rowOf cells ps k c = row at *
            simp [-Int.natCast_add, -Int.natCast_mul, -Int.natCast_ediv, -List.map_set, -CH.bin_fdiv, -CH.bin_mul, q, draw_bx tok, rc0, rc1, hw0, ew, la, o3D, natD, bindT, ep, pgD, q0, fd, mo, ix1, ix2, m1, m2, ea, le, sa, sl_pos, z1, z2]
            exact nx _ _ _ _ _ _ _ _ _ _ _ _ _ _
          · rw [if_neg q0] at hr
            have q0' : ¬ ((p.1 : Nat) : Int) = 0 := by omega
            rw [hr] at ix1 nx le
            simp [-Int.natCast_add, -Int.natCast_mul, -Int.natCast_ediv, -List.map_set, -CH.bin_fdiv, -CH.bin_mul, q, draw_bx tok, rc0, rc1, hw0, ew, la, o3D, natD, bindT, ep, pgD, q0, q0', ix1, ix2, m1, m2, ea, le, sa, sl_pos, z1, z2]
            exact nx _ _ _ _ _ _ _ _ _ _ _ _ _ _
      · obtain ⟨a0, ha0, ha0b⟩ := draw_nat (is := is) (n := n + 1) (m := cells * many + 3) (by omega)
        have hcm : cells * many ≤ 24 * 6 := Nat.mul_le_mul (by omega) (by omega)
        have mm := fun S => mul_n cells many (by omega) S
        have ec : ((cells * many : Nat) : Int) + 3 = ((cells * many + 3 : Nat) : Int) := by omega
        have p3 : (0 : Int) < ((cells * many + 3 : Nat) : Int) := by omega
        have p3' : 0 < cells * many + 3 := by omega
        have ll := fun n G => lawLent_ok 29 ok (r := 2) (S := bx is n (.lst (ps.map pgD) :: .lst (os.map orD) :: .lst (runP cells cl ps0 os).1 :: G)) rfl
        have lln := lent_len ok
        simp [-Int.natCast_add, -Int.natCast_mul, -CH.bin_mul, q, draw_bx tok, mm, ec, p3, p3', ha0, ll]
        refine wp_thenI (fun ρ S' => ∃ ad n', ad < 1000 ∧ ρ = [some (.lst (ns.map D.int)), some (.ref 1), some (.int (cells : Nat)), some (.int (many : Nat)), some (.tup (cl.map natD)), some (stD cells cl ps), some (.ref 2), some (.ref 3), some (.ref 4), some (.int (i : Nat)), x10, x11, x12, x13, some (.int ((ad : Nat) : Int)), some (.ref (G.length + 1 + 1 + 1 + 2)), x16, x17, x18, x19, x20] ∧
          S' = bx is n' (.lst (ps.map pgD) :: .lst (os.map orD) :: .lst (runP cells cl ps0 os).1 :: (G ++ [.lst ((lentL cells ps).map prD)]))) ?_ ?_
        · by_cases hz : (lentL cells ps).length = 0
          · have hz' : lentL cells ps = [] := List.eq_nil_of_length_eq_zero hz
            simp [hz']
            exact ⟨a0, by omega, rfl, _, rfl⟩
          · have hz1 : 0 < (lentL cells ps).length := by omega
            have hz2 : (0 : Int) < ((lentL cells ps).length : Int) := by omega
            have hz3 : ¬ lentL cells ps = [] := fun e => by rw [e] at hz1; simp at hz1
            by_cases q2 : 0 < dv is (n + 1 + 1) 3
            · obtain ⟨t, ht⟩ := nat_of (Int.emod_nonneg (dv is (n + 1 + 1 + 1) 1000) (by omega : ((lentL cells ps).length : Int) ≠ 0))
              have ht2 : t < (lentL cells ps).length := by have := Int.emod_lt_of_pos (dv is (n + 1 + 1 + 1) 1000) hz2; omega
              have et : atI ((lentL cells ps).map prD) (t : Int) = some (prD (lentL cells ps)[t]) := by rw [CH.atI_nat, List.getElem?_map, List.getElem?_eq_getElem ht2]; rfl
              have hin : (lentL cells ps)[t].1 ∈ (lentL cells ps).map (·.1) := List.mem_map.mpr ⟨_, List.getElem_mem ht2, rfl⟩
              obtain ⟨x, hx⟩ := Option.isSome_iff_exists.mp ((lent_iff ok _).mp hin)
              obtain ⟨p, hp, _, _, ex, _⟩ := slot_some hx
              have hk := (List.getElem?_eq_some_iff.mp hp).1
              have ek : x.1 = (lentL cells ps)[t].1 / cells := by rw [ex]
              have hlt : (lentL cells ps)[t].1 < 1000 := by
                have a := Nat.div_add_mod (lentL cells ps)[t].1 cells
                have b := Nat.mod_lt (lentL cells ps)[t].1 (show 0 < cells by omega)
                have c : cells * ((lentL cells ps)[t].1 / cells) ≤ 24 * 6 := Nat.mul_le_mul (by omega) (by rw [← ek]; have := ok.len; omega)
                omega
              simp [hz, hz1, hz2, hz3, q2, draw_bx tok, ht, et, prD]
              exact ⟨_, hlt, rfl, _, rfl⟩
            · simp [hz, hz1, hz2, hz3, q2, draw_bx tok]
              exact ⟨a0, by omega, rfl, _, rfl⟩
        · rintro _ _ ⟨ad, n', had, rfl, rfl⟩
          have bk := fun S => back_ok 28 ok had S
          have nb : ∀ (b : Bool) S, cmpR .ne (.d (.bl b)) (.d (.bl b)) S = some false := fun b S => cne_of (cmp_eq_b S b)
          have li := lent_iff ok ad
          have lc : ∀ x11 x12 x13 x16 x17 x18 x19 x20 S, S[G.length + 1 + 1 + 1 + 2]? = some (.lst ((lentL cells ps).map prD)) → lcC (callF T 30) [20] (.idx (.var 20) (.con (.int 0))) (.var 20 .nil) (.ex (.var 15)) .nil
              [some (.lst (ns.map D.int)), some (.ref 1), some (.int (cells : Nat)), some (.int (many : Nat)), some (.tup (cl.map natD)), some (stD cells cl ps), some (.ref 2), some (.ref 3), some (.ref 4), some (.int (i : Nat)), x10, x11, x12, x13, some (.int ((ad : Nat) : Int)), some (.ref (G.length + 1 + 1 + 1 + 2)), x16, x17, x18, x19, x20] S =
              .ok (.o (.lst (((lentL cells ps).map fun x => (x.1 : Int)).map D.int))) S := fun x11 x12 x13 x16 x17 x18 x19 x20 S hS => by
            rw [lc_map (g := .at (G.length + 1 + 1 + 1 + 2) (.lst ((lentL cells ps).map prD))) (lentL cells ps) prD (fun x => .int (x.1 : Nat)) (by simp [hS]) hS (fun x hx => ⟨_, rfl, by simp, by simp [wipeD, prD]⟩), List.map_map]; rfl
          have mi : ((ad : Nat) : Int) ∈ ((lentL cells ps).map fun x => (x.1 : Int)) ↔ (slotP cells ps ad).isSome = true := by
            rw [← li, List.mem_map, List.mem_map]
            exact ⟨fun ⟨x, h1, h2⟩ => ⟨x, h1, by omega⟩, fun ⟨x, h1, h2⟩ => ⟨x, h1, by omega⟩⟩
          have lc0 := fun x11 x12 x13 x16 x17 x18 x19 x20 => lc x11 x12 x13 x16 x17 x18 x19 x20 (bx is n' (.lst (ps.map pgD) :: .lst (os.map orD) :: .lst (runP cells cl ps0 os).1 :: (G ++ [.lst ((lentL cells ps).map prD)]))) (by simp)
          have nx := LI.next (ns := ns) (is := is) (many := many) (i := i) ok hps hol hos (false, ad) had
          cases hs : slotP cells ps ad with
          | none =>
            rw [hs] at bk mi
            have mi : ¬ ((ad : Nat) : Int) ∈ ((lentL cells ps).map fun x => (x.1 : Int)) := fun h => by simpa using mi.mp h
            have me := fun S => mem_oi (S := S) ((ad : Nat) : Int) ((lentL cells ps).map fun x => (x.1 : Int))
            rw [decide_eq_false mi] at me
            have e1 : nxtP cells cl ps (false, ad) = ps := by unfold nxtP; simp [hs]
            have e2 : resD cells cl ps (false, ad) = .bl false := by unfold resD; simp [hs]
            rw [e1, e2] at nx
            simp [-List.mem_map, -List.map_map, lc0, me, bk, backD, nb, sl_pos, z1, z2]
            exact nx _ _ _ _ _ _ _ _ _ _ _ _ _ _
          | some x =>
            rw [hs] at bk mi
            have mi : ((ad : Nat) : Int) ∈ ((lentL cells ps).map fun x => (x.1 : Int)) := mi.mpr rfl
            have me := fun S => mem_oi (S := S) ((ad : Nat) : Int) ((lentL cells ps).map fun x => (x.1 : Int))
            rw [decide_eq_true mi] at me
            obtain ⟨p, hp, h0, hb1, ex, hm⟩ := slot_some hs
            obtain ⟨k, s⟩ := x
            have ek : k = ad / cells := (Prod.mk.inj ex).1
            have es : s = ad % cells / p.1 := (Prod.mk.inj ex).2
            have hp : ps[k]? = some p := hp
            have hb1 : p.2[s]? = some true := hb1
            have hk : k < ps.length := (List.getElem?_eq_some_iff.mp hp).1
            have hs2 : s < p.2.length := (List.getElem?_eq_some_iff.mp hb1).1
            have ep : atI (ps.map pgD) (k : Int) = some (pgD p) := by rw [CH.atI_nat, List.getElem?_map, hp]; rfl
            have eg : ps.getD k (0, []) = p := by rw [List.getD_eq_getElem?_getD, hp]; rfl
            have hown : p.1 ≤ 24 := by
              rcases ok.pg p (List.mem_of_getElem? hp) with e | ⟨e, _⟩
              · rw [e] at h0; exact absurd rfl h0
              · have := (ok.clb _ e).2; omega
            have ix1 : ixN p.2.length (s : Int) = some s := ixN_nat hs2
            have ix2 : ixN ps.length (k : Int) = some k := ixN_nat hk
            have hdm := Nat.div_add_mod ad cells
            have hle : ad / cells * cells ≤ ad := Nat.div_mul_le_self _ _
            have er : ad - k * cells = ad % cells := by rw [ek]; rw [Nat.mul_comm] at hdm; omega
            have f1 : ∀ S, binR .fdiv (.d (.int (ad : Nat))) (.d (.int (cells : Nat))) S = .ok (.d (.int (k : Nat))) S := fun S => by rw [fdiv_n ad cells (by omega) (by omega) (by omega), ek]
            have m1 := fun S => mul_n k cells (by omega) S
            have s1 : ∀ S, binR .sub (.d (.int (ad : Nat))) (.d (.int ((k * cells : Nat) : Int))) S = .ok (.d (.int ((ad % cells : Nat) : Int))) S := fun S => by rw [sub_n ad (k * cells) (by rw [ek]; exact hle), er]
            have hmod := Nat.mod_lt ad (show 0 < cells by omega)
            have f2 : ∀ S, binR .fdiv (.d (.int ((ad % cells : Nat) : Int))) (.d (.int (p.1 : Nat))) S = .ok (.d (.int (s : Nat))) S := fun S => by rw [fdiv_n (ad % cells) p.1 (by omega) (by omega) (by omega), es]
            have e2 : resD cells cl ps (false, ad) = .bl true := by unfold resD; simp [hs]
            have e1 : nxtP cells cl ps (false, ad) = backPs ps (k, s) := by unfold nxtP; simp [hs]
            rw [e1, e2] at nx
            have bk : ∀ S, callF T 30 ("back_slot" : PySem.Str) [stD cells cl ps, .int (ad : Nat)] S = .ok (.d (stD cells cl (backPs ps (k, s)))) S := bk
            have nm : ∀ S r, S[r]? = some (.lst ((p.2.map D.bl).set s (.bl false))) → cmpR .nmem (.d (.bl true)) (.d (.ref r)) S = some (!decide (true ∈ p.2.set s false)) := fun S r hS => nmem_rb (bs := p.2.set s false) (by rw [hS, List.map_set]) true
            have em : (backPs ps (k, s)).map pgD = if true ∈ p.2.set s false then (ps.map pgD).set k (.tup [.int (p.1 : Nat), .tup ((p.2.map D.bl).set s (.bl false))]) else (ps.map pgD).set k (.tup [.int 0, .tup []]) := by
              show (ps.set k (leftP ps (k, s))).map pgD = _
              unfold leftP
              rw [eg, List.map_set]
              split
              · congr 2
                show D.tup [_, .tup _] = _
                rw [List.map_set]
              · rfl
            rw [em] at nx
            simp [-Int.natCast_mul, -Int.natCast_add, -Int.natCast_ediv, -Int.natCast_emod, -List.mem_map, -List.map_map, -List.map_set, -CH.cmp_is_n, -CH.bin_fdiv, -CH.bin_mul, -CH.bin_sub, lc0, me, bk, nb, isn_st, sl_pos, z1, z2, f1, m1, s1, f2, ep, pgD, ix1, ix2]
            rw [nm _ _ (by simp [-List.map_set])]
            have ix3 : ∀ y : D, ixN ((ps.map pgD).set k y).length (k : Int) = some k := fun y => by rw [List.length_set, List.length_map]; exact ix2
            by_cases g : true ∈ p.2.set s false
            · rw [if_pos g] at nx
              simp [-List.map_set, g, sl_pos, z1, z2]
              exact nx _ _ _ _ _ _ _ _ _ _ _ _ _ _
            · rw [if_neg g] at nx
              simp [-List.map_set, g, ix2, ix3, sl_pos, z1, z2]
              exact nx _ _ _ _ _ _ _ _ _ _ _ _ _ _
    · rintro _ _ ⟨ps, os, n, G, x9, x10, x11, x12, x13, x14, x15, x16, x17, x18, x19, x20, ok, hps, hol, hos, rfl, rfl⟩
      have s1 := fun S => same_ok tok (tr_st ok) 25 S
      have s2 := fun S => same_ok tok (tr_lent ok) 27 S
      have ls := fun S => lentSlots_ok 29 ok S
      have ll := fun n G => lawLent_ok 29 ok (r := 2) (S := bx is n (.lst (ps.map pgD) :: .lst (os.map orD) :: .lst (runP cells cl ps0 os).1 :: G)) rfl
      have st : ∀ S, callF T 30 ("_law_same" : PySem.Str) [stD cells cl ps, .tup [.str ("pages" : PySem.Str), .int (cells : Nat), .tup (cl.map natD), .tup (ps.map pgD)]] S = .ok (.d (.bl true)) S := s1
      simp [st, ls, ll, s2]
      exact ⟨ps, os, n, G, x9, x10, x11, x12, x13, x14, x15, x16, x17, x18, x19, x20, ok, hps, hol, hos, rfl, rfl⟩
  · obtain ⟨ps, os, n, G, x9, x10, x11, x12, x13, x14, x15, x16, x17, x18, x19, x20, ok, hps, hol, hos, rfl, rfl⟩ := hI
    have ru := fun S => run_ok 27 (many := many) (by rw [hps0]; exact ok0) (by omega) (by omega) hos (by omega) S
    rw [hps0, hps] at ru
    have sa := fun S => same_ok tok (n := 5) (v := .tup [.tup (runP cells cl ps0 os).1, stD cells cl ps]) (.tup (by simp) fun x hx => by
      simp at hx
      rcases hx with rfl | rfl
      · exact .tup (by rw [(runP_len _ _ _ _).1]; omega) (tr_run _ _ _ _)
      · exact tr_st ok) 24 S
    simp [ru, sa]
end K58
open PySem PySem.W PySem.Calls PyProof.Rows
theorem PySem.Challenge.cw_courthouse_k58_pages_of_one_size_holds : PySem.Challenge.rw_courthouse_k58_pages_of_one_size.Holds := by
  w_on; o_law
  refine HandSHeadRun.head_any (r := OpenLaw.row PySem.Challenge.rw_courthouse_k58_pages_of_one_size) (q := view (OpenLaw.row PySem.Challenge.rw_courthouse_k58_pages_of_one_size).prog [19]) (H := K58.hk) (ob := K58.ob) (M := 1500) (loose := K58.lsNm) (d := HandSHeadRun.topDef (OpenLaw.row PySem.Challenge.rw_courthouse_k58_pages_of_one_size).prog 19) (kwd := []) K58.ob_eq
    (by kernel_rfl) (fun s => by kernel_rfl) K58.run (by kernel_rfl) (by kernel_rfl) (by kernel_rfl) (by rfl) (by first | assumption | decide +kernel) (by decide +kernel) ⟨rfl, rfl, rfl, rfl, rfl, by decide +kernel⟩ ?hw ?hc
  case hw => w_witness2
  case hc =>
    refine LamX.walk_ofTsE (l := PySem.Challenge.rw_courthouse_k58_pages_of_one_size) (n := 63) (k := 5 * 30 + 5) (x := "script") (CX := fun w => L2.CX (PySem.Challenge.rw_courthouse_k58_pages_of_one_size).prog w) rfl (by decide) (by kernel_rfl) ⟨rfl, by decide, by decide⟩ ?F ?E
    case E => exact fun w H s e s' ⟨_, _, _, _, _, _, _, _, _, _, _, _, z⟩ => z.elim
    intro w mg fa h Y G hmg0
    obtain ⟨K, KX, c⟩ := Y
    have hmg : mg ("law" : PySem.Str) = some (.ref fa) := by
      have e : (HandSHeadRun.topDef (OpenLaw.row PySem.Challenge.rw_courthouse_k58_pages_of_one_size).prog 19).name = ("law" : PySem.Str) := by kernel_rfl
      rw [← e]
      exact hmg0
    exact ⟨K, KX, CH.law_at K58.ok_all K58.nd (lw := K58.d_law) (by simp [K58.ds]) rfl KX G c hmg K58.plain⟩

